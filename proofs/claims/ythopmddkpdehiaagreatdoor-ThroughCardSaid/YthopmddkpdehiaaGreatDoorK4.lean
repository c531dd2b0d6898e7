/-
  What the proof stands on, part 4: the logic of walks, the walks through the functions, the plain laws. Conditions: as each theorem says. (Merged and shortened by a program.)
-/
import Derived.RangeFuncRecord
import Derived.OrdersIn
import Derived.TacticsIn
import Derived.Scope
import Derived.ChangeKeysEq
import Derived.Lib.OthersKept
import Derived.Lib.IndexMore
import Derived.Lib.IndexLaws
import Derived.Lib.IndexBytes
import Derived.Test.YthopmddkpdehiaaGreatDoorK1
import Derived.Test.YthopmddkpdehiaaGreatDoorK2
import Derived.Test.YthopmddkpdehiaaGreatDoorK3
set_option linter.unusedVariables false
set_option linter.unusedSimpArgs false
section
namespace Go.SL.R
def Eff(P:Program)(o:Oper)(a:Act)(w:World)(Q:Post)(next:Value→World→Prop):Prop:=
 (∃u w',(execOp a.eval o).run P w=.ok (.value u) w'∧next u w')∨(∃w',(execOp a.eval o).run P w=.ok .skip w'∧next undef w')∨
 (∃ f args w1, (execOp a.eval o).run P w = .ok (.enter f args) w1 ∧ Calls P f args w1 fun e w' => match e with
  | .returned u=>next u w'
  | .panicked ch=>∀a',a'.defers=a.defers→Q (.panic ch) a' w'
  | .outgrown=>LetsOut Q)∨
 (∃ l f tmps assign body w1, (execOp a.eval o).run P w = .ok (.round l f tmps assign body) w1 ∧ RoundIn Fence.wide 0 P l f tmps assign body w1 fun e w' => match e with
  | .returned u=>next u w'
  | .panicked ch=>∀a',a'.defers=a.defers→Q (.panic ch) a' w'
  | .outgrown=>LetsOut Q)
theorem Eff.mono{P:Program}{o:Oper}{a:Act}{w:World}{Q:Post}{n n':Value→World→Prop}(h:Eff P o a w Q n)(k:∀u w',n u w'→n' u w'):Eff P o a w Q n':=by
 rcases h with ⟨u,w',h,hn⟩|⟨w',h,hn⟩|⟨f,args,w1,h,hc⟩|⟨l,f,t,x,y,w1,h,hc⟩
 ·exact .inl ⟨u,w',h,k _ _ hn⟩
 ·exact .inr (.inl ⟨w',h,k _ _ hn⟩)
 ·exact .inr (.inr (.inl ⟨f,args,w1,h,hc.mono fun e w' q=>by cases e <;> first|exact k _ _ q|exact q⟩))
 ·exact .inr (.inr (.inr ⟨l,f,t,x,y,w1,h,hc.mono fun e w' q=>by cases e <;> first|exact k _ _ q|exact q⟩))
theorem Eff.congr{P:Program}{o:Oper}{a a':Act}{w:World}{Q:Post}{n:Value→World→Prop}(h:Eff P o a w Q n)(he:execOp a'.eval o=execOp a.eval o)(hd:a'.defers=a.defers):Eff P o a' w Q n:=by
 unfold Eff at*;rw[he,hd];exact h
theorem aHD(ρ:Operand→Value)(o:Oper):o.semAt Fence.wide.round ρ=execOp ρ o:=rfl
theorem Eff.wp{P:Program}{o:Oper}{a:Act}{w:World}{Q:Post}{n:Value→World→Prop}{K:Act→World→Prop}(h:Eff P o a w Q n)(k:∀u w',n u w'→K (a.put o.dst u) w'):o.wpIn Fence.wide 0 P a w K Q:=by
 refine⟨fun _ _=>trivial,?_⟩
 rw[aHD];have hd:Fence.wide.depth.isSome=true→1≤0:=fun h=>by cases h
 rcases h with ⟨u,w',h,hn⟩|⟨w',h,hn⟩|⟨f,args,w1,h,hc⟩|⟨l,f,t,x,y,w1,h,hc⟩
 ·rw[h];exact k _ _ hn
 ·rw[h];exact k _ _ hn
 ·rw[h];refine⟨hd,callsIn_wide.2 (hc.mono fun e w' q=>?_)⟩
  cases e with
  |returned u=>exact k _ _ q
  |panicked ch=>exact q _ rfl
  |outgrown=>exact q
 ·rw[h];refine⟨hd,hc.mono fun e w' q=>?_⟩
  cases e with
  |returned u=>exact k _ _ q
  |panicked ch=>exact q _ rfl
  |outgrown=>exact q
def DX(E:Env)(ops:Array Oper)(eff stg:List Nat)(Q:Post):List Nat→List Asn→Hl→List Asn→Act→Prop
 | [],S,K,M,a=>∀w,In E.w0 E.F K (S++M) w→Q .normal a w
 |i::r,S,K,M,a=>
  match ops[i]? with
  |none=>False
  |some o=>
   if Region.wanted o (yielded ops a.tmps)then
    if stg.contains i then
     ∀w,In E.w0 E.F K (S++M) w→Eff E.P o a w Q fun u w'=>∃K' S' M',K.le K'∧In E.w0 E.F K' (S'++M') w'∧DX E ops eff stg Q r S' K' M' (a.put o.dst u)
    else if eff.contains i then
     ∀w,In E.w0 E.F K (S++M) w→Eff E.P o a w Q fun u w'=>∃K' M',K.le K'∧In E.w0 E.F K' (S++M') w'∧DX E ops eff stg Q r S K' M' (a.put o.dst u)
    else ∃v,(∀K' M' w,K.le K'→In E.w0 E.F K' (S++M') w→(execOp a.eval o).run E.P w=.ok (.value v) w)∧DX E ops eff stg Q r S K M (a.put o.dst v)
   else DX E ops eff stg Q r S K M (a.put o.dst undef)
def pG(o:Oper):Bool:=match o.op with| .select _ _=>false|_=>true
theorem n8{o:Oper}(h:pG o=true):∀cs b,o.op≠.select cs b:=by
 intro cs b e;simp[pG,e]at h
theorem rH(a:Act)(x:Option Tmp)(v:Value):(a.put x v).defers=a.defers:=by cases x <;> rfl
theorem aDT{E:Env}{ops:Array Oper}{eff stg:List Nat}{S:List Asn}{Q:Post}{x i:Nat}{r:List Nat}{K:Hl}{M:List Asn}{a:Act}{ox oi:Oper}
  (hx:ops[x]?=some ox) (hi:ops[i]?=some oi) (hap:ox.apart ops oi=true) (hsx:pG ox=true) (hsi:pG oi=true) (hne:eff.contains x=false) (hnx:stg.contains x=false) (hni:stg.contains i=false)
  (h:DX E ops eff stg Q (x::i::r) S K M a):DX E ops eff stg Q (i::x::r) S K M a:=by
 obtain⟨h1,h2,h3⟩:=Oper.apart_spec hap;have sx:=n8 hsx;have si:=n8 hsi;have goX:∀(v u:Value),((a.put ox.dst v).put oi.dst u)=((a.put oi.dst u).put ox.dst v):=fun v u=>Act.put_comm a v u h2
 have wx:∀(u:Value),Region.wanted ox (yielded ops (a.put oi.dst u).tmps)=Region.wanted ox (yielded ops a.tmps):=fun u=>wanted_put ox a oi.dst u h3
 have wi:∀(u:Value),Region.wanted oi (yielded ops (a.put ox.dst u).tmps)=Region.wanted oi (yielded ops a.tmps):=fun u=>wanted_put oi a ox.dst u h1
 have ex:∀(u:Value),execOp (a.put oi.dst u).eval ox=execOp a.eval ox:=fun u=>execOp_put ox sx a oi.dst u h3
 have ei:∀(u:Value),execOp (a.put ox.dst u).eval oi=execOp a.eval oi:=fun u=>execOp_put oi si a ox.dst u h1
 simp only[DX,hx,hi,hne,hnx,hni,Bool.false_eq_true,if_false]at h ⊢
 by_cases cx:Region.wanted ox (yielded ops a.tmps)=true
 ·simp only[cx,if_true]at h;obtain⟨v,hv,h⟩:=h;rw[wi v]at h;have back:∀(u:Value) (K':Hl) (M':List Asn),K.le K'→DX E ops eff stg Q r S K' M' ((a.put ox.dst v).put oi.dst u)→
    (if Region.wanted ox (yielded ops (a.put oi.dst u).tmps) = true then
     ∃v,(∀K'' M'' w,K'.le K''→In E.w0 E.F K'' (S++M'') w→(execOp (a.put oi.dst u).eval ox).run E.P w=.ok (.value v) w)∧DX E ops eff stg Q r S K' M' ((a.put oi.dst u).put ox.dst v)
     else DX E ops eff stg Q r S K' M' ((a.put oi.dst u).put ox.dst undef)):=by
   intro u K' M' le hr;rw[wx u,if_pos cx];refine⟨v,fun K'' M'' w le' j=>?_,?_⟩
   ·rw[ex u];exact hv K'' M'' w (Hl.le_trans le le') j
   ·rw[←goX];exact hr
  by_cases ci:Region.wanted oi (yielded ops a.tmps)=true
  ·simp only[ci,if_true]at h ⊢
   by_cases ce:eff.contains i=true
   ·simp only[ce,if_true]at h ⊢;intro w j;refine((h w j).congr (ei v).symm (rH _ _ _).symm).mono fun u w' ⟨K',M',le,j',hr⟩=>⟨K',M',le,j',back u K' M' le hr⟩
   ·simp only[ce,Bool.false_eq_true,if_false]at h ⊢;obtain⟨u,hu,hr⟩:=h;refine⟨u,fun K' M' w le j=>?_,back u K M (Hl.le_refl _) hr⟩
    have:=hu K' M' w le j
    rwa [ei v]at this
  ·simp only[ci,if_false,Bool.false_eq_true]at h ⊢;exact back undef K M (Hl.le_refl _) h
 ·simp only[cx,if_false,Bool.false_eq_true]at h;rw[wi undef]at h;have back:∀(u:Value) (K':Hl) (M':List Asn),K.le K'→DX E ops eff stg Q r S K' M' ((a.put ox.dst undef).put oi.dst u)→
    (if Region.wanted ox (yielded ops (a.put oi.dst u).tmps) = true then
     ∃v,(∀K'' M'' w,K'.le K''→In E.w0 E.F K'' (S++M'') w→(execOp (a.put oi.dst u).eval ox).run E.P w=.ok (.value v) w)∧DX E ops eff stg Q r S K' M' ((a.put oi.dst u).put ox.dst v)
     else DX E ops eff stg Q r S K' M' ((a.put oi.dst u).put ox.dst undef)):=by
   intro u K' M' le hr;rw[wx u,if_neg cx,←goX];exact hr
  by_cases ci:Region.wanted oi (yielded ops a.tmps)=true
  ·simp only[ci,if_true]at h ⊢
   by_cases ce:eff.contains i=true
   ·simp only[ce,if_true]at h ⊢;intro w j;refine((h w j).congr (ei undef).symm (rH _ _ _).symm).mono fun u w' ⟨K',M',le,j',hr⟩=>⟨K',M',le,j',back u K' M' le hr⟩
   ·simp only[ce,Bool.false_eq_true,if_false]at h ⊢;obtain⟨u,hu,hr⟩:=h;refine⟨u,fun K' M' w le j=>?_,back u K M (Hl.le_refl _) hr⟩
    have:=hu K' M' w le j
    rwa [ei undef]at this
  ·simp only[ci,if_false,Bool.false_eq_true]at h ⊢;exact back undef K M (Hl.le_refl _) h
def rQ(ops:Array Oper)(eff stg:List Nat)(x i:Nat):Bool:=
 match ops[x]?,ops[i]? with
 |some ox,some oi=>!stg.contains x&&!stg.contains i&&!eff.contains x&&ox.apart ops oi&&pG ox&&pG oi
 |_,_=>false
theorem pY{E:Env}{ops:Array Oper}{eff stg:List Nat}{S:List Asn}{Q:Post}{x:Nat}{r r':List Nat}(k:∀S K M a,DX E ops eff stg Q r S K M a→DX E ops eff stg Q r' S K M a){K:Hl}{M:List Asn}{a:Act}
  (h:DX E ops eff stg Q (x::r) S K M a):DX E ops eff stg Q (x::r') S K M a:=by
 unfold DX at h ⊢;cases hx:ops[x]? with
 |none=>simp[hx]at h
 |some o=>
  simp only[hx]at h ⊢;split
  ·rename_i c;rw[if_pos c]at h;split
   ·rename_i c0;rw[if_pos c0]at h;exact fun w j=>(h w j).mono fun u w' ⟨K',S',M',le,j',hr⟩=>⟨K',S',M',le,j',k _ _ _ _ hr⟩
   ·rename_i c0;rw[if_neg c0]at h;split
    ·rename_i c';rw[if_pos c']at h;exact fun w j=>(h w j).mono fun u w' ⟨K',M',le,j',hr⟩=>⟨K',M',le,j',k _ _ _ _ hr⟩
    ·rename_i c';rw[if_neg c']at h;obtain⟨v,hv,hr⟩:=h;exact⟨v,hv,k _ _ _ _ hr⟩
  ·rename_i c;rw[if_neg c]at h;exact k _ _ _ _ h
theorem qZ{E:Env}{ops:Array Oper}{eff stg:List Nat}{Q:Post}{i:Nat}{r2:List Nat}:∀(r1:List Nat) {S:List Asn} {K:Hl} {M:List Asn} {a:Act},
  (∀x∈r1,rQ ops eff stg x i=true)→DX E ops eff stg Q (r1++i::r2) S K M a→DX E ops eff stg Q (i::(r1++r2)) S K M a
 | [],_,_,_,_,_,h=>h
 |x::r1,S,K,M,a,hs,h=>by
  have h1:DX E ops eff stg Q (x::i::(r1++r2)) S K M a:=pY (fun _ _ _ _=>qZ r1 fun y hy=>hs y (List.mem_cons_of_mem _ hy)) h;have hb:=hs x (List.mem_cons_self ..);unfold rQ at hb;cases hx:ops[x]? with
  |none=>simp[hx]at hb
  |some ox=>
   cases hi:ops[i]? with
   |none=>simp[hx,hi]at hb
   |some oi=>
    simp only[hx,hi,Bool.and_eq_true,Bool.not_eq_true']at hb;exact aDT hx hi hb.1.1.2 hb.1.2 hb.2 hb.1.1.1.2 hb.1.1.1.1.1 hb.1.1.1.1.2 h1
def upto(anc:List Nat):List Edge→Nat
 | []=>0
 |e::es=>if Region.binds .any e then (2 ^ e.on|||anc.getD e.on 0)|||upto anc es else upto anc es
def o7(anc:List Nat):List Oper→Nat→Bool
 | [],_=>true
 |o::os,i=>(o.after.toList.all fun e=>!Region.binds .any e||Nat.blt e.on i)&&((anc.getD i 0|||upto anc o.after.toList)==upto anc o.after.toList)&&o7 anc os (i+1)
def pwB(ops:Array Oper)(eff stg anc:List Nat):List Nat→Bool
 | []=>true
 |x::r=>(r.all fun i=>(anc.getD i 0).testBit x||rQ ops eff stg x i)&&!r.contains x&&pwB ops eff stg anc r
def z8(l:List Oper)(eff stg anc ord:List Nat):Bool:=
 o7 anc l 0&&pwB l.toArray eff stg anc ord&&(List.range l.length).all ord.contains&&ord.all (Nat.blt · l.length)&&Nat.beq ord.length l.length
theorem oI{anc:List Nat}{x:Nat}:∀ {es:List Edge},(upto anc es).testBit x=true→∃e∈es,Region.binds .any e=true∧(x=e.on∨(anc.getD e.on 0).testBit x=true)
 | [],h=>by simp[upto]at h
 |e::es,h=>by
  unfold upto at h;split at h
  ·rename_i hb;rw[Nat.testBit_or,Nat.testBit_or]at h;simp only[Bool.or_eq_true,Nat.testBit_two_pow,decide_eq_true_eq]at h;rcases h with (h|h)|h
   ·exact⟨e,List.mem_cons_self ..,hb,.inl h.symm⟩
   ·exact⟨e,List.mem_cons_self ..,hb,.inr h⟩
   ·obtain⟨e',he,h'⟩:=oI h;exact⟨e',List.mem_cons_of_mem _ he,h'⟩
  ·obtain⟨e',he,h'⟩:=oI h;exact⟨e',List.mem_cons_of_mem _ he,h'⟩
theorem nV{anc:List Nat}:∀ {os:List Oper} {j:Nat},o7 anc os j=true→∀ {i:Nat} {o:Oper},os[i]?=some o→
  (∀e∈o.after.toList,Region.binds .any e=true→e.on < j+i)∧∀x,(anc.getD (j+i) 0).testBit x=true→(upto anc o.after.toList).testBit x=true
 | [],_,_,_,_,h=>by simp at h
 |o::os,j,h,i,o',ho=>by
  simp only[o7,Bool.and_eq_true,List.all_eq_true,Bool.or_eq_true,Bool.not_eq_true',beq_iff_eq]at h;obtain⟨⟨h1,h2⟩,h3⟩:=h;cases i with
  |zero=>
   simp at ho;subst ho
   refine⟨fun e he hb=>?_,fun x hx=>?_⟩
   ·rcases h1 e he with q|q
    ·rw[hb]at q;cases q
    ·simp[Nat.blt]at q;omega
   ·rw[←h2,Nat.testBit_or];simp only[Nat.add_zero]at hx;rw[hx];rfl
  |succ i=>
   have:=nV (j:=j+1) h3 (i:=i) (o:=o') (by simpa using ho);have e:j+(i+1)=j+1+i:=by omega
   rw[e];exact this
def Down(ops:Array Oper)(listed:Array Bool):Prop:=
 ∀(i:Nat) (o:Oper),listed.getD i true=true→ops[i]?=some o→∀e∈o.after.toList,Region.binds .any e=true→listed.getD e.on false=true
theorem mB{ops:Array Oper}{listed:Array Bool}{i:Nat}:i∈Region.ready .any ops listed↔
  i < ops.size∧listed.getD i true=false∧∃o,ops[i]?=some o∧∀e∈o.after.toList,Region.binds .any e=true→listed.getD e.on false=true:=by
 unfold Region.ready;simp only[List.mem_filter,List.mem_range,Bool.and_eq_true,Bool.not_eq_true']
 constructor
 ·rintro⟨h1,h2,h3⟩;refine⟨h1,h2,?_⟩
  cases ho:ops[i]? with
  |none=>simp[ho]at h3
  |some o=>
   refine⟨o,rfl,fun e he hb=>?_⟩
   simp only[ho,Option.map_some,Option.getD_some,Array.all_eq_true_iff_forall_mem]at h3;have:=h3 e (by simpa using he)
   simpa[hb]using this
 ·rintro⟨h1,h2,o,ho,h3⟩;refine⟨h1,h2,?_⟩
  simp only[ho,Option.map_some,Option.getD_some,Array.all_eq_true_iff_forall_mem];intro e he
  by_cases hb:Region.binds .any e=true
  ·simp[hb,h3 e (by simpa using he) hb]
  ·simp[hb]
theorem tH{l:List Oper}{anc:List Nat}(hA:o7 anc l 0=true){listed:Array Bool}(hsz:listed.size=l.length)(hd:Down l.toArray listed){i:Nat}{o:Oper}(ho:l[i]?=some o)
  (hr:∀e∈o.after.toList,Region.binds .any e=true→listed.getD e.on false=true) {x:Nat} (hx:(anc.getD i 0).testBit x=true):listed.getD x false=true:=by
 have key:∀(n i:Nat) (o:Oper),i=n→l[i]?=some o→(∀e∈o.after.toList,Region.binds .any e=true→listed.getD e.on false=true)→(anc.getD i 0).testBit x=true→listed.getD x false=true:=by
  intro n;induction n using Nat.strongRecOn with
  |_ n ih=>
   rintro i o rfl ho hr hx;obtain⟨h1,h2⟩:=nV hA ho;simp only[Nat.zero_add]at h1 h2;obtain⟨e,he,hb,hxe⟩:=oI (h2 x hx);rcases hxe with rfl|hxe
   ·exact hr e he hb
   ·have hlt:=h1 e he hb;have hil:i < l.length:=by
     rcases Nat.lt_or_ge i l.length with h|h
     ·exact h
     ·simp[List.getElem?_eq_none h]at ho
    have hel:l[e.on]?=some l[e.on]:=by simp[List.getElem?_eq_getElem (Nat.lt_trans hlt hil)]
    have hle:=hr e he hb;refine ih e.on hlt e.on l[e.on] rfl hel ?_ hxe
    refine hd e.on l[e.on] ?_ (by simp[Array.getElem?_eq_getElem,Nat.lt_trans hlt hil])
    rw[Array.getD_eq_getD_getElem?]at hle ⊢;have:e.on < listed.size:=by rw[hsz];exact Nat.lt_trans hlt hil
    simpa[Array.getElem?_eq_getElem this]using hle
 exact key i i o rfl ho hr hx
theorem pH{ops:Array Oper}{eff stg anc:List Nat}:∀ {r:List Nat},pwB ops eff stg anc r=true→r.Nodup∧∀(r1:List Nat) (i:Nat) (r2:List Nat),r=r1++i::r2→∀x∈r1,(anc.getD i 0).testBit x=true∨rQ ops eff stg x i=true
 | [],_=>⟨List.nodup_nil,fun r1 i r2 e=>by simp at e⟩
 |y::r,h=>by
  simp only[pwB,Bool.and_eq_true,List.all_eq_true,Bool.or_eq_true,Bool.not_eq_true']at h;obtain⟨⟨h1,h2⟩,h3⟩:=h;obtain⟨n,q⟩:=pH h3;refine⟨List.nodup_cons.2 ⟨by simpa using h2,n⟩,?_⟩
  intro r1 i r2 e x hx;cases r1 with
  |nil=>simp at hx
  |cons z r1=>
   simp only[List.cons_append,List.cons.injEq]at e;obtain⟨rfl,rfl⟩:=e;rcases List.mem_cons.1 hx with rfl|hx
   ·exact h1 i (by simp)
   ·exact q r1 i r2 rfl x hx
theorem n9{ops:Array Oper}{eff stg anc:List Nat}(p:Nat→Bool):∀ {r:List Nat},pwB ops eff stg anc r=true→pwB ops eff stg anc (r.filter p)=true
 | [],_=>rfl
 |y::r,h=>by
  simp only[pwB,Bool.and_eq_true,List.all_eq_true,Bool.or_eq_true,Bool.not_eq_true']at h;obtain⟨⟨h1,h2⟩,h3⟩:=h;have ih:=n9 p h3;simp only[List.filter_cons];split
  ·simp only[pwB,Bool.and_eq_true,List.all_eq_true,Bool.or_eq_true,Bool.not_eq_true',ih,and_true];refine⟨fun i hi=>h1 i (List.mem_filter.1 hi).1,?_⟩
   simp at h2 ⊢;exact fun h=>absurd h h2
  ·exact ih
theorem aBN{E:Env}{l:List Oper}{eff stg anc ord:List Nat}{Q:Post}(hA:o7 anc l 0=true)(hP:pwB l.toArray eff stg anc ord=true)(hcov:∀i,i < l.length→i∈ord)(hin:∀i∈ord,i < l.length):
  ∀(fuel:Nat) (listed:Array Bool) (r:List Nat) (S:List Asn) (K:Hl) (M:List Asn) (a:Act) (w:World),listed.size=l.length→r=ord.filter (fun i=>!listed.getD i true)→fuel=r.length→Down l.toArray listed→
   DX E l.toArray eff stg Q r S K M a→In E.w0 E.F K (S++M) w→wpAnyIn Fence.wide 0 E.P .any l.toArray Q fuel listed a w:=by
 intro fuel;induction fuel with
 |zero=>
  intro listed r S K M a w hsz hr hf hd h j;have hr0:r=[]:=List.length_eq_zero_iff.1 hf.symm;subst hr0;have hall:∀i,i < l.length→listed.getD i true=true:=by
   intro i hi;cases hb:listed.getD i true with
   |true=>rfl
   |false=>
    have:i∈ord.filter (fun i=>!listed.getD i true):=List.mem_filter.2 ⟨hcov i hi,by rw[hb];rfl⟩;rw[←hr]at this;simp at this
  refine⟨?_,h w j⟩
  refine List.eq_nil_iff_forall_not_mem.2 fun i hi=>?_
  obtain⟨h1,h2,_⟩:=mB.1 hi;rw[hall i (by simpa using h1)]at h2;cases h2
 |succ fuel ih=>
  intro listed r S K M a w hsz hr hf hd h j;have hne:r≠[]:=by rintro rfl;simp at hf
  refine⟨fun h0=>?_,fun i hi=>?_⟩
  ·
   exfalso
   have key:∀(n i:Nat),i=n→i < l.length→listed.getD i true=false→False:=by
    intro n;induction n using Nat.strongRecOn with
    |_ n ihn=>
     rintro i rfl hil hb;have hi:i∈Region.ready .any l.toArray listed:=by
      refine mB.2 ⟨by simpa using hil,hb,l[i],by simp[List.getElem?_eq_getElem hil],fun e he hbd=>?_⟩
      have hlt:=(nV hA (i:=i) (o:=l[i]) (by simp[List.getElem?_eq_getElem hil])).1 e he hbd;simp only[Nat.zero_add]at hlt;have hel:e.on < listed.size:=by rw[hsz];exact Nat.lt_trans hlt hil
      cases hc:listed.getD e.on true with
      |false=>exact absurd hc (fun hc=>ihn e.on hlt e.on rfl (Nat.lt_trans hlt hil) hc)
      |true=>
       rw[Array.getD_eq_getD_getElem?]at hc ⊢
       simpa[Array.getElem?_eq_getElem hel]using hc
     rw[h0]at hi;simp at hi
   obtain⟨i,hi⟩:=List.exists_mem_of_ne_nil r hne;rw[hr]at hi;obtain⟨h1,h2⟩:=List.mem_filter.1 hi;exact key i i rfl (hin i h1) (by simpa using h2)
  ·obtain⟨h1,h2,o,ho,h3⟩:=mB.1 hi;have hil:i < l.length:=by simpa using h1
   have hol:l[i]?=some o:=by simpa using ho
   have hmem:i∈r:=by rw[hr];exact List.mem_filter.2 ⟨hcov i hil,by rw[h2];rfl⟩
   obtain⟨r1,r2,hsplit⟩:=List.append_of_mem hmem;have hPr:pwB l.toArray eff stg anc r=true:=by rw[hr];exact n9 _ hP
   obtain⟨hnd,hq⟩:=pH hPr;have hsw:∀x∈r1,rQ l.toArray eff stg x i=true:=by
    intro x hx;rcases hq r1 i r2 hsplit x hx with hb|hb
    ·exfalso
     have hxl:=tH hA hsz hd hol h3 hb;have hxr:x∈r:=by rw[hsplit];simp[hx]
     rw[hr]at hxr;obtain⟨hxo,hxn⟩:=List.mem_filter.1 hxr;have hxs:x < listed.size:=by rw[hsz];exact hin x hxo
     rw[Array.getD_eq_getD_getElem?]at hxl;simp[Array.getElem?_eq_getElem hxs]at hxl hxn;rw[hxl]at hxn;cases hxn
    ·exact hb
   rw[hsplit]at h;have hfront:=qZ r1 hsw h;have his:i < listed.size:=by rw[hsz];exact hil
   have hr':r1++r2=ord.filter (fun k=>!(listed.setIfInBounds i true).getD k true):=by
    have hset:∀k,(listed.setIfInBounds i true).getD k true=(if k=i then true else listed.getD k true):=by
     intro k;rw[Array.getD_eq_getD_getElem?,Array.getD_eq_getD_getElem?,Array.getElem?_setIfInBounds]
     by_cases hk:i=k
     ·subst hk;simp[his]
     ·simp[hk,Ne.symm hk]
    have e1:ord.filter (fun k=>!(listed.setIfInBounds i true).getD k true)=r.filter (fun k=>k !=i):=by
     rw[hr,List.filter_filter];refine List.filter_congr fun k _=>?_
     rw[hset k]
     by_cases hk:k=i
     ·subst hk;simp
     ·simp[hk]
    rw[e1,hsplit,List.filter_append,List.filter_cons];rw[hsplit]at hnd;have hn:=List.nodup_append.1 hnd;have hn2:=List.nodup_cons.1 hn.2.1;simp only[bne_self_eq_false,Bool.false_eq_true,if_false];rw[List.filter_eq_self.2,List.filter_eq_self.2]
    ·intro k hk;simp only[bne_iff_ne];rintro rfl;exact hn2.1 hk
    ·intro k hk;simp only[bne_iff_ne];rintro rfl;exact hn.2.2 k hk k (List.mem_cons_self ..) rfl
   have hd':Down l.toArray (listed.setIfInBounds i true):=by
    intro k ok hk hok e he hb;have up:listed.getD e.on false=true→(listed.setIfInBounds i true).getD e.on false=true:=by
     intro q;rw[Array.getD_eq_getD_getElem?]at q ⊢;rw[Array.getElem?_setIfInBounds]
     by_cases hk:i=e.on
     ·subst hk;simp[his]
     ·simpa[hk]using q
    by_cases hki:k=i
    ·subst hki;rw[ho]at hok;cases hok
     exact up (h3 e he hb)
    ·refine up (hd k ok ?_ hok e he hb)
     rw[Array.getD_eq_getD_getElem?]at hk ⊢;rw[Array.getElem?_setIfInBounds,if_neg (Ne.symm hki)]at hk;exact hk
   have hlen:fuel=(r1++r2).length:=by
    have:=congrArg List.length hsplit;simp at this hf ⊢;omega
   have step:∀S' K' M' a' w',DX E l.toArray eff stg Q (r1++r2) S' K' M' a'→In E.w0 E.F K' (S'++M') w'→wpAnyIn Fence.wide 0 E.P .any l.toArray Q fuel (listed.setIfInBounds i true) a' w':=
    fun S' K' M' a' w' hdx j'=>ih _ (r1++r2) S' K' M' a' w' (by simp[hsz]) hr' hlen hd' hdx j'
   unfold wpOpIn;simp only[ho];unfold DX at hfront;simp only[ho]at hfront
   by_cases hw:Region.wanted o (yielded l.toArray a.tmps)=true
   ·simp only[hw,if_true]at hfront ⊢
    by_cases hg:stg.contains i=true
    ·simp only[hg,if_true]at hfront;exact((hfront w j).wp fun u w' ⟨K',S',M',le,j',hr⟩=>step S' K' M' _ w' hr j')
    simp only[hg,if_false,Bool.false_eq_true]at hfront
    by_cases he:eff.contains i=true
    ·simp only[he,if_true]at hfront;exact((hfront w j).wp fun u w' ⟨K',M',le,j',hr⟩=>step S K' M' _ w' hr j')
    ·simp only[he,if_false,Bool.false_eq_true]at hfront;obtain⟨v,hv,hr⟩:=hfront;refine⟨fun _ _=>trivial,?_⟩
     rw[aHD,hv K M w (Hl.le_refl _) j];exact step S K M _ w hr j
   ·simp only[hw,if_false,Bool.false_eq_true]at hfront ⊢;exact⟨fun _ _=>trivial,step S K M _ w hfront j⟩
theorem tM{E:Env}{l:List Oper}{eff stg anc ord:List Nat}{S M:List Asn}{Q:Post}{id:Nat}{K:Hl}{a:Act}{w:World}(hm:E.P.follows .mixedOrders=true)(hok:z8 l eff stg anc ord=true)
  (h:DX E l.toArray eff stg Q ord S K M a) (j:In E.w0 E.F K (S++M) w):(Code.region id l.toArray true).wp E.P Q a w:=by
 simp only[z8,Bool.and_eq_true,List.all_eq_true]at hok;obtain⟨⟨⟨⟨hA,hP⟩,hcov⟩,hin⟩,hle⟩:=hok;refine wpIn_wide.1 (wpIn_region_any (n:=0) hm ?_)
 have hfil:ord.filter (fun i=>!(Array.replicate l.toArray.size false).getD i true)=ord:=by
  refine List.filter_eq_self.2 fun i hi=>?_
  have:i < l.length:=by have:=hin i hi;simp[Nat.blt]at this;omega
  rw[Array.getD_eq_getD_getElem?];simp[this]
 have hlen:ord.length=l.toArray.size:=by simpa using Nat.eq_of_beq_eq_true hle
 refine aBN (E:=E) (eff:=eff) (stg:=stg) (anc:=anc) (ord:=ord) hA hP (fun i hi=>by have:=hcov i (List.mem_range.2 hi);simpa using this) (fun i hi=>by have:=hin i hi;simp[Nat.blt]at this;omega) l.toArray.size _ ord S K M a _ (by simp) hfil.symm hlen.symm ?_ h (j.drew _)
 intro k ok hk hok;rw[Array.getD_eq_getD_getElem?]at hk;have:k < l.toArray.size:=by
  rcases Nat.lt_or_ge k l.toArray.size with h|h
  ·exact h
  ·rw[Array.getElem?_eq_none h]at hok;cases hok
 simp at this;simp[this]at hk
theorem aO{E:Env}{x:Exit}{fr:Fr}{K:Hl}{As L M:List Asn}{Q:Post}(hL:Tks As L M)(h:D E x fr K As Q):D E x fr K L Q:=fun a w f i=>h a w f (i.imp hL.sat).left
theorem aAT{E:Env}{c:Code}{fr:Fr}{K:Hl}{As L M:List Asn}{Q:Post}(hL:Tks As L M)(h:T E c fr K As Q):T E c fr K L Q:=fun a w f i=>h a w f (i.imp hL.sat).left
def DL(E:Env)(ops:Array Oper)(eff stg:List Nat)(S:List Asn)(r:List Nat)(fr:Fr)(K:Hl)(M:List Asn)(Q:Post):Prop:=
 ∀a,FrOk E.n E.ds fr a→DX E ops eff stg Q r S K M a
inductive GOk (ops:Array Oper) (fr:Fr) (o:Oper):Bool→Prop where
 |none:o.guard=.none→GOk ops fr o true
 |on {g dg:Nat} {c:Bool}:o.guard=some (g,c)→(ops[g]?).bind (·.dst)=some dg→fr.get dg=some (.bool c)→GOk ops fr o true
 |off {g dg:Nat} {c:Bool}:o.guard=some (g,c)→(ops[g]?).bind (·.dst)=some dg→fr.get dg=some (.bool (!c))→GOk ops fr o false
 |offu {g dg:Nat} {c:Bool}:o.guard=some (g,c)→(ops[g]?).bind (·.dst)=some dg→fr.get dg=some undef→GOk ops fr o false
theorem GOk.wanted{ops:Array Oper}{fr:Fr}{o:Oper}{b:Bool}(h:GOk ops fr o b){n:Nat}{ds:List Deferred}{a:Act}(f:FrOk n ds fr a):Region.wanted o (yielded ops a.tmps)=b:=by
 cases h with
 |none h=>simp[Region.wanted,h]
 |on h1 h2 h3=>simp[Region.wanted,h1,yielded,h2,f.get _ _ h3]
 |off h1 h2 h3=>simp[Region.wanted,h1,yielded,h2,f.get _ _ h3]
 |offu h1 h2 h3=>simp[Region.wanted,h1,yielded,h2,f.get _ _ h3,undef]
section
variable{E:Env}{ops:Array Oper}{eff stg:List Nat}{S:List Asn}{r:List Nat}{fr:Fr}{K:Hl}{M L:List Asn}{Q:Post}{i:Nat}{o:Oper}
theorem t_draw{l:List Oper}{anc ord:List Nat}{id:Nat}(eff stg:List Nat)(hm:E.P.follows .mixedOrders=true)(hok:z8 l eff stg anc ord=true)(hL:Tks S L M)
  (h:DL E l.toArray eff stg S ord fr K M Q):T E (.region id l.toArray true) fr K L Q:=
 fun a w f j=>tM hm hok (h a f) (j.imp hL.sat)
theorem dl_nil(h:D E .normal fr K (S++M) Q):DL E ops eff stg S [] fr K M Q:=fun a f w j=>h a w f j
theorem dl_ev{d:Nat}{v:Value}(ho:ops[i]?=some o)(hd:o.dst=some d)(hg:GOk ops fr o true)(hg0:stg.contains i=false)(he:eff.contains i=false)(hv:Ev E fr K S o v)(hn:Nat.blt d E.n=true)
  (h:DL E ops eff stg S r ((d,v)::fr) K M Q):DL E ops eff stg S (i::r) fr K M Q:=by
 intro a f;unfold DX;simp only[ho,hg.wanted f,if_true,hg0,he,Bool.false_eq_true,if_false];refine⟨v,fun K' M' w le j=>hv a w f (j.left.weaken le),?_⟩
 rw[hd];exact h _ (f.put hn v)
theorem dl_off{d:Nat}(ho:ops[i]?=some o)(hd:o.dst=some d)(hg:GOk ops fr o false)(hn:Nat.blt d E.n=true)(h:DL E ops eff stg S r ((d,undef)::fr) K M Q):DL E ops eff stg S (i::r) fr K M Q:=by
 intro a f;unfold DX;simp only[ho,hg.wanted f,Bool.false_eq_true,if_false];rw[hd];exact h _ (f.put hn undef)
theorem dl_s{d:Nat}{N:Value→Hl→List Asn→Prop}(ho:ops[i]?=some o)(hd:o.dst=some d)(hg:GOk ops fr o true)(hg0:stg.contains i=false)(he:eff.contains i=true)(hv:EfS E fr K (S++M) o N)(hn:Nat.blt d E.n=true)
  (h:∀v K' L',N v K' L'→K.le K'→∃M',(∀x,Sat L' x→Sat (S++M') x)∧DL E ops eff stg S r ((d,v)::fr) K' M' Q):DL E ops eff stg S (i::r) fr K M Q:=by
 intro a f;unfold DX;simp only[ho,hg.wanted f,if_true,hg0,he,Bool.false_eq_true,if_false];intro w j;obtain⟨u,w',K',L',hr,hN,le,j'⟩:=hv a w f j;obtain⟨M',hM,hD⟩:=h u K' L' hN le;rcases hr with hr|⟨hr,rfl⟩
 ·exact .inl ⟨u,w',hr,K',M',le,j'.imp hM,by rw[hd];exact hD _ (f.put hn u)⟩
 ·exact .inr (.inl ⟨w',hr,K',M',le,j'.imp hM,by rw[hd];exact hD _ (f.put hn undef)⟩)
theorem aPV{N:Value→Hl→List Asn→Prop}(ho:ops[i]?=some o)(hd:o.dst=none)(hg:GOk ops fr o true)(hg0:stg.contains i=false)(he:eff.contains i=true)(hv:EfS E fr K (S++M) o N)
  (h:∀v K' L',N v K' L'→K.le K'→∃M',(∀x,Sat L' x→Sat (S++M') x)∧DL E ops eff stg S r fr K' M' Q):DL E ops eff stg S (i::r) fr K M Q:=by
 intro a f;unfold DX;simp only[ho,hg.wanted f,if_true,hg0,he,Bool.false_eq_true,if_false];intro w j;obtain⟨u,w',K',L',hr,hN,le,j'⟩:=hv a w f j;obtain⟨M',hM,hD⟩:=h u K' L' hN le;rcases hr with hr|⟨hr,rfl⟩
 ·exact .inl ⟨u,w',hr,K',M',le,j'.imp hM,by rw[hd];exact hD _ f⟩
 ·exact .inr (.inl ⟨w',hr,K',M',le,j'.imp hM,by rw[hd];exact hD _ f⟩)
theorem dl_callv{d:Nat}{ty:TypeId}{pos:String}{aft:Array Edge}{g:Option (Nat×Bool)}{fv:Operand}{xs:List Operand}{ats:Array TypeId}{f:FuncId}{caps:Array Value}{vs:List Value}{v:Value}
  (ho:ops[i]?=some ⟨some d,.call ⟨.value fv,xs.toArray,ats⟩,ty,pos,aft,g⟩) (hg:GOk ops fr ⟨some d,.call ⟨.value fv,xs.toArray,ats⟩,ty,pos,aft,g⟩ true) (hg0:stg.contains i=false) (he:eff.contains i=true)
  (hf:fr.ev fv=some (.func (.func f) #[] caps)) (hx:fr.evs xs=some vs) (hs:Sp E.P f (vs++caps.toList) K [] (Val v K)) (hn:Nat.blt d E.n=true)
  (h:DL E ops eff stg S r ((d,v)::fr) K M Q):DL E ops eff stg S (i::r) fr K M Q:=by
 intro a fo;unfold DX;simp only[ho,hg.wanted fo,if_true,hg0,he,Bool.false_eq_true,if_false];intro w j;obtain⟨F',i1,back⟩:=In.hide (L:=[]) (N:=S++M) j;refine .inr (.inr (.inl ⟨f,_,w,mR hf hx hs fo w,(hs.2 F' w i1).mono fun e w' ⟨K',L',⟨q1,q2,q3⟩,le,j'⟩=>?_⟩))
 subst q1;subst q2;subst q3
 exact⟨_,M,Hl.le_refl _,back j',h _ (fo.put hn v)⟩
theorem pA{d:Nat}{ty:TypeId}{pos:String}{aft:Array Edge}{g:Option (Nat×Bool)}{fv:Operand}{xs:List Operand}{ats:Array TypeId}{f:FuncId}{caps:Array Value}{vs:List Value}{L1 L2:List Asn}{R:Ending→Hl→List Asn→Prop}
  (ho:ops[i]?=some ⟨some d,.call ⟨.value fv,xs.toArray,ats⟩,ty,pos,aft,g⟩) (hg:GOk ops fr ⟨some d,.call ⟨.value fv,xs.toArray,ats⟩,ty,pos,aft,g⟩ true) (hg0:stg.contains i=false) (he:eff.contains i=true)
  (hf:fr.ev fv=some (.func (.func f) #[] caps)) (hx:fr.evs xs=some vs) (hs:Sp E.P f (vs++caps.toList) K L1 R) (hL:Tks L1 (S++M) L2) (hn:Nat.blt d E.n=true)
  (hout:∀K' L',¬R .outgrown K' L')
  (hpan:∀ch K' L',R (.panicked ch) K' L'→K.le K'→∀a w,a.defers=E.ds→In E.w0 E.F K' (L'++L2) w→Q (.panic ch) a w)
  (h:∀v K' L',R (.returned v) K' L'→K.le K'→∃M',(∀x,Sat (L'++L2) x→Sat (S++M') x)∧DL E ops eff stg S r ((d,v)::fr) K' M' Q):DL E ops eff stg S (i::r) fr K M Q:=by
 intro a fo;unfold DX;simp only[ho,hg.wanted fo,if_true,hg0,he,Bool.false_eq_true,if_false];intro w j;obtain⟨F',i1,back⟩:=(j.imp hL.sat).hide;refine .inr (.inr (.inl ⟨f,_,w,mR hf hx hs fo w,(hs.2 F' w i1).mono fun e w' ⟨K',L',q,le,j'⟩=>?_⟩))
 cases e with
 |returned v=>
  obtain⟨M',hM,hD⟩:=h v K' L' q le;exact⟨K',M',le,(back j').imp hM,hD _ (fo.put hn v)⟩
 |panicked ch=>exact fun a' ha'=>hpan ch K' L' q le a' w' (ha'.trans fo.defers) (back j')
 |outgrown=>exact absurd q (hout _ _)
theorem aDS{d:Nat}{ty:TypeId}{pos:String}{aft:Array Edge}{g:Option (Nat×Bool)}{fv:Operand}{xs:List Operand}{ats:Array TypeId}{f:FuncId}{caps:Array Value}{vs:List Value}{L1 L2:List Asn}{N:Value→Hl→List Asn→Prop}
  (ho:ops[i]?=some ⟨some d,.call ⟨.value fv,xs.toArray,ats⟩,ty,pos,aft,g⟩) (hg:GOk ops fr ⟨some d,.call ⟨.value fv,xs.toArray,ats⟩,ty,pos,aft,g⟩ true) (hg0:stg.contains i=false) (he:eff.contains i=true)
  (hf:fr.ev fv=some (.func (.func f) #[] caps)) (hx:fr.evs xs=some vs) (hs:Sp E.P f (vs++caps.toList) K L1 (Ret N)) (hL:Tks L1 (S++M) L2) (hn:Nat.blt d E.n=true)
  (h:∀v K' L',N v K' L'→K.le K'→∃M',(∀x,Sat (L'++L2) x→Sat (S++M') x)∧DL E ops eff stg S r ((d,v)::fr) K' M' Q):DL E ops eff stg S (i::r) fr K M Q:=
 pA ho hg hg0 he hf hx hs hL hn (fun K' L' ⟨u,e,n⟩=>by cases e) (fun ch K' L' ⟨u,e,n⟩=>by cases e) (fun v K' L' ⟨u,e,n⟩ le=>by cases e;exact h v K' L' n le)
theorem dl_g{d:Nat}{N:Value→Hl→List Asn→Prop}(ho:ops[i]?=some o)(hd:o.dst=some d)(hg:GOk ops fr o true)(he:stg.contains i=true)(hv:EfS E fr K (S++M) o N)(hn:Nat.blt d E.n=true)
  (h:∀v K' L',N v K' L'→K.le K'→DL E ops eff stg L' r ((d,v)::fr) K' [] Q):DL E ops eff stg S (i::r) fr K M Q:=by
 intro a f;unfold DX;simp only[ho,hg.wanted f,if_true,he];intro w j;obtain⟨u,w',K',L',hr,hN,le,j'⟩:=hv a w f j;have hD:=h u K' L' hN le;rcases hr with hr|⟨hr,rfl⟩
 ·exact .inl ⟨u,w',hr,K',L',[],le,by simpa using j',by rw[hd];exact hD _ (f.put hn u)⟩
 ·exact .inr (.inl ⟨w',hr,K',L',[],le,by simpa using j',by rw[hd];exact hD _ (f.put hn undef)⟩)
theorem kH{N:Value→Hl→List Asn→Prop}(ho:ops[i]?=some o)(hd:o.dst=none)(hg:GOk ops fr o true)(he:stg.contains i=true)(hv:EfS E fr K (S++M) o N)
  (h:∀v K' L',N v K' L'→K.le K'→DL E ops eff stg L' r fr K' [] Q):DL E ops eff stg S (i::r) fr K M Q:=by
 intro a f;unfold DX;simp only[ho,hg.wanted f,if_true,he];intro w j;obtain⟨u,w',K',L',hr,hN,le,j'⟩:=hv a w f j;have hD:=h u K' L' hN le;rcases hr with hr|⟨hr,rfl⟩
 ·exact .inl ⟨u,w',hr,K',L',[],le,by simpa using j',by rw[hd];exact hD _ f⟩
 ·exact .inr (.inl ⟨w',hr,K',L',[],le,by simpa using j',by rw[hd];exact hD _ f⟩)
theorem fJ{d:Nat}{ty:TypeId}{pos:String}{aft:Array Edge}{g:Option (Nat×Bool)}{fv:Operand}{xs:List Operand}{ats:Array TypeId}{f:FuncId}{caps:Array Value}{vs:List Value}{L1 L2:List Asn}{R:Ending→Hl→List Asn→Prop}
  (ho:ops[i]?=some ⟨some d,.call ⟨.value fv,xs.toArray,ats⟩,ty,pos,aft,g⟩) (hg:GOk ops fr ⟨some d,.call ⟨.value fv,xs.toArray,ats⟩,ty,pos,aft,g⟩ true) (he:stg.contains i=true)
  (hf:fr.ev fv=some (.func (.func f) #[] caps)) (hx:fr.evs xs=some vs) (hs:Sp E.P f (vs++caps.toList) K L1 R) (hL:Tks L1 (S++M) L2) (hn:Nat.blt d E.n=true)
  (hout:∀K' L',¬R .outgrown K' L')
  (hpan:∀ch K' L',R (.panicked ch) K' L'→K.le K'→∀a w,a.defers=E.ds→In E.w0 E.F K' (L'++L2) w→Q (.panic ch) a w)
  (h:∀v K' L',R (.returned v) K' L'→K.le K'→DL E ops eff stg (L'++L2) r ((d,v)::fr) K' [] Q):DL E ops eff stg S (i::r) fr K M Q:=by
 intro a fo;unfold DX;simp only[ho,hg.wanted fo,if_true,he];intro w j;obtain⟨F',i1,back⟩:=(j.imp hL.sat).hide;refine .inr (.inr (.inl ⟨f,_,w,mR hf hx hs fo w,(hs.2 F' w i1).mono fun e w' ⟨K',L',q,le,j'⟩=>?_⟩))
 cases e with
 |returned v=>exact⟨K',L'++L2,[],le,by simpa using back j',h v K' L' q le _ (fo.put hn v)⟩
 |panicked ch=>exact fun a' ha'=>hpan ch K' L' q le a' w' (ha'.trans fo.defers) (back j')
 |outgrown=>exact absurd q (hout _ _)
theorem gK{d:Nat}{ty:TypeId}{pos:String}{aft:Array Edge}{g:Option (Nat×Bool)}{fv:Operand}{xs:List Operand}{ats:Array TypeId}{f:FuncId}{caps:Array Value}{vs:List Value}{L1 L2:List Asn}{N:Value→Hl→List Asn→Prop}
  (ho:ops[i]?=some ⟨some d,.call ⟨.value fv,xs.toArray,ats⟩,ty,pos,aft,g⟩) (hg:GOk ops fr ⟨some d,.call ⟨.value fv,xs.toArray,ats⟩,ty,pos,aft,g⟩ true) (he:stg.contains i=true)
  (hf:fr.ev fv=some (.func (.func f) #[] caps)) (hx:fr.evs xs=some vs) (hs:Sp E.P f (vs++caps.toList) K L1 (Ret N)) (hL:Tks L1 (S++M) L2) (hn:Nat.blt d E.n=true)
  (h:∀v K' L',N v K' L'→K.le K'→DL E ops eff stg (L'++L2) r ((d,v)::fr) K' [] Q):DL E ops eff stg S (i::r) fr K M Q:=
 fJ ho hg he hf hx hs hL hn (fun K' L' ⟨u,e,n⟩=>by cases e) (fun ch K' L' ⟨u,e,n⟩=>by cases e) (fun v K' L' ⟨u,e,n⟩ le=>by cases e;exact h v K' L' n le)
theorem cS:∀(L:List Asn),Tks L L []
 | []=>.nil
 |_::L=>.cons .here (cS L)
theorem zA(d:Nat){b:Bool}(e:fr.get d=some (.bool b))(ht:b=true→DL E ops eff stg S r ((d,.bool true)::fr) K M Q)(hf:b=false→DL E ops eff stg S r ((d,.bool false)::fr) K M Q):DL E ops eff stg S r fr K M Q:=by
 intro a f;have key : ∀ c, b = c → FrOk E.n E.ds ((d, .bool c) :: fr) a := fun c hc => ⟨f.defers, f.size, fun k v h => by
  simp only[Fr.get]at h
  by_cases hk:d=k
  ·subst hk;simp at h;subst h;rw[←hc];exact f.get _ _ e
  ·rw[beqF hk]at h;exact f.get _ _ h⟩
 cases b
 ·exact hf rfl a (key _ rfl)
 ·exact ht rfl a (key _ rfl)
theorem dl_splitp(d:Nat){p:Prop}[Decidable p](e:fr.get d=some (.bool (decide p)))(ht:p→DL E ops eff stg S r ((d,.bool true)::fr) K M Q)(hf:¬p→DL E ops eff stg S r ((d,.bool false)::fr) K M Q):DL E ops eff stg S r fr K M Q:=
 zA d e (fun h=>ht (of_decide_eq_true h)) (fun h=>hf (of_decide_eq_false h))
end
def Yl(P:Program)(l:Nat)(vs:List Value)(K:Hl)(L:List Asn)(R:Bool→Hl→List Asn→Prop):Prop:=
 ∀F w,In w F K L w→∃fn tmps assign body,(Instr.yield l vs.toArray).run P w=.ok (.round l fn tmps assign body) w∧
  RoundIn Fence.wide 0 P l fn tmps assign body w fun e w'=>∃b K' L',e=.returned (.bool b)∧R b K' L'∧K.le K'∧In w F K' L' w'
theorem dl_round{E:Env}{ops:Array Oper}{eff stg:List Nat}{S:List Asn}{r:List Nat}{fr:Fr}{K:Hl}{M:List Asn}{Q:Post}{i:Nat}{d:Nat}{ty:TypeId}{pos:String}{aft:Array Edge}{g:Option (Nat×Bool)}{fv:Operand}{xs:List Operand}{ats:Array TypeId}{l:Nat}{vs:List Value}{L1 L2:List Asn}{R:Bool→Hl→List Asn→Prop}
  (ho:ops[i]?=some ⟨some d,.call ⟨.value fv,xs.toArray,ats⟩,ty,pos,aft,g⟩) (hg:GOk ops fr ⟨some d,.call ⟨.value fv,xs.toArray,ats⟩,ty,pos,aft,g⟩ true) (he:stg.contains i=true)
  (hf:fr.ev fv=some (.func (.yield l) #[] #[])) (hx:fr.evs xs=some vs) (hs:Yl E.P l vs K L1 R) (hL:Tks L1 (S++M) L2) (hn:Nat.blt d E.n=true)
  (h:∀b K' L',R b K' L'→K.le K'→DL E ops eff stg (L'++L2) r ((d,.bool b)::fr) K' [] Q):DL E ops eff stg S (i::r) fr K M Q:=by
 intro a fo;unfold DX;simp only[ho,hg.wanted fo,if_true,he];intro w j;obtain⟨F',i1,back⟩:=(j.imp hL.sat).hide;obtain⟨fn,tm,x,y,hy,hr⟩:=hs F' w i1;refine .inr (.inr (.inr ⟨l,fn,tm,x,y,w,?_,hr.mono fun e w' ⟨b,K',L',q1,q,le,j'⟩=>?_⟩))
 ·have e1:Array.map a.eval xs.toArray=vs.toArray:=by simp[fo.evs hx]
  simp only[execOp,resolve,e1,fo.ev hf,Deferred.ofValue,bind,pure,Sem.bind,invoke,Array.empty_append];exact hy
 ·subst q1;exact⟨K',L'++L2,[],le,by simpa using back j',h b K' L' q le _ (fo.put hn _)⟩
end Go.SL.R
end
section
namespace Go.SL
open R (Yl)
abbrev mrk(D:Nat):Deferred:={target:=.collected D,args:= #[]}
abbrev dblk(D:Nat):Asn:=pt D (.deferred (some []))
def aVB(P:Program)(fn:Func)(w0:World)(F K0:Hl)(R:Ending→Hl→List Asn→Prop):Post:=
 bodyPostM Fence.wide 0 P fn fun e w'=>∃K' L',R e K' L'∧K0.le K'∧In w0 F K' L' w'
theorem aHK{P:Program}{f:FuncId}{fn:Func}{c:Code}{args:List Value}{n:Nat}{K:Hl}{L:List Asn}{R:Ending→Hl→List Asn→Prop}
  (hf:P.funcs[f]?=some fn) (hb:fn.body=some c) (hn:fn.ntmps=n) (hl:Nat.ble args.length n=true) (hname:(fn.name=="runtime.NumGoroutine")=false)
  (h:∀(F:Hl) (w:World),T ⟨P,n,[],w,F⟩ c (Fr.init 0 args n) K L (aVB P fn w F K R)):Sp P f args K L R:=by
 refine⟨⟨fn,hf,hname,by simp[hb]⟩,fun F w i=>callsIn_wide.1 (callsIn_of_wp_marks (n:=0) hf hb trivial (wpIn_wide.2 (h F w _ _ ⟨rfl,?_,?_⟩ i)))⟩
 ·have:args.length≤n:=Nat.le_of_ble_eq_true hl;simp[hn];omega
 ·intro k v e;obtain⟨_,h2⟩:=vA e;have hk:k < args.length:=by
   rcases Nat.lt_or_ge k args.length with h|h
   ·exact h
   ·simp[List.getElem?_eq_none h]at h2
  show (args.toArray++Array.replicate _ _)[k]?=some v
  rw[Array.getElem?_append_left (by simpa using hk)]
  simpa using h2
theorem aKV{P:Program}{fn:Func}{tmps:Array Value}{R:Ending→World→Prop}{u:FrameMode}(hu:u≠.run){w0:World}{F K:Hl}{L:List Asn}(fin:∀w',In w0 F K L w'→LeavesIn Fence.wide 0 P fn tmps R [] u w'):
  ∀(ds:List Nat) (w:World),In w0 F K (ds.map dblk++L) w→LeavesInM Fence.wide 0 P fn tmps R (ds.map mrk) u w
 | [],w,i=>fin w i
 |d::ds,w,i=>by
  have hp:=i.piece;refine⟨hu,.inl ⟨d,_,rfl,run_takeDeferred hp,aKV hu fin ds _ ?_⟩⟩
  have hlt:d < w.heap.size:=(Array.getElem?_eq_some_iff.1 hp).1;exact(i.write (o':=.deferred none) (H:=w.heap.setIfInBounds d (.deferred none)) (by simp) (by simp[hlt]) (fun x hx=>by rw[Array.getElem?_setIfInBounds_ne (Ne.symm hx)])).drop
section
variable{P:Program}{fn:Func}{n:Nat}{w0:World}{F K0 K:Hl}{fr:Fr}{L:List Asn}{R:Ending→Hl→List Asn→Prop}
theorem aDO{t:Nat}{v:Value}{L0:List Asn}(ds:List Nat)(hr:fn.results= #[.tmp t])(ht:fr.get t=some v)(hL:∀h,Sat L0 h→Sat (ds.map dblk++L) h)(le:K0.le K)(h:R (.returned v) K L):
  D ⟨P,n,ds.map mrk,w0,F⟩ .ret fr K L0 (aVB P fn w0 F K0 R):=fun a w f i=>by
 show LeavesInM Fence.wide 0 P fn a.tmps _ a.defers .returning w
 rw[f.defers];refine aKV (by simp) (fun w' j=>?_) ds w (i.imp hL)
 exact⟨v,by rw[results_tmp hr];simp[f.get _ _ ht],K,L,h,le,j⟩
end
section
variable{E:Env}{fr:Fr}{K:Hl}{L L1 L2:List Asn}{Q:Post}
abbrev Env.mark(E:Env)(D:Nat):Env:=⟨E.P,E.n,mrk D::E.ds,E.w0,E.F⟩
theorem aK9{g:Operand}{ps:Array Tmp}{assign body:Code}{f:FuncId}{caps:Array Value}{RR:Loop→Nat→Nat→Ending→Hl→List Asn→Prop}(hg:fr.ev g=some (.func (.func f) #[] caps))(hL:Tks L1 L L2)
  (hs : ∀ (r : Loop) (l d : Nat), r.state = .ready → r.pending = none → r.params = ps → r.assign = assign → r.body = body → r.tmps.size = E.n → (∀ k v, fr.get k = some v → r.tmps[k]? = some v) →
   Sp E.P f (.func (.yield l) #[] #[]::caps.toList) K (pt l (.loop r)::dblk d::L1) (RR r l d))
  (hend : ∀ r l d e K' L', RR r l d e K' L' → K.le K' → ∃ v r' M, e = .returned v ∧ (∀ h, Sat L' h → Sat (pt l (.loop r') :: M) h) ∧ r'.state ≠ .busy ∧
   match r'.pending with
   |none=>D (E.mark d) .normal fr K' (M++L2) Q
   |some c=>T (E.mark d) c fr K' (M++L2) Q):
  T E (.rangeFunc g ps assign body) fr K L Q:=by
 intro a w fo i;refine(wpIn_wide (n:=0)).1 (wpIn_rangeFunc fun fn _=>?_)
 let r:Loop:={state:=.ready,pending:=none,fn,tmps:=a.tmps,params:=ps,assign,body,defers:=w.heap.size}
 have i3:=(i.alloc (.deferred (some []))).alloc (.loop r);have hsz:({w with heap:=w.heap.push (.deferred (some []))}:World).heap.size=w.heap.size+1:=by simp
 rw[hsz]at i3;obtain⟨F',i1,back⟩:=(i3.imp (M:=(pt (w.heap.size+1) (.loop r)::dblk w.heap.size::L1)++L2) (fun h=>dU fun h=>dU fun h k=>hL.sat h k)).hide;have hs':=hs r (w.heap.size+1) w.heap.size rfl rfl rfl rfl rfl fo.size fo.get;obtain⟨⟨fd,g1,g2,g3⟩,hcall⟩:=hs';have ev:∀x:Value,a.eval (.const x)=x:=fun _=>rfl
 refine⟨w.heap.size+1,[mrk w.heap.size],_,{target:=.fn (.func f) caps,args:= #[.func (.yield (w.heap.size+1)) #[] #[]]},(w.alloc (.deferred (some []))).alloc (.loop r),f,(.func (.yield (w.heap.size+1)) #[] #[]::caps.toList).toArray,(w.alloc (.deferred (some []))).alloc (.loop r),run_enterLoop_outer fn a.tmps ps assign body,?_,fun _ _=>trivial,?_,fun h=>Bool.noConfusion h,callsIn_wide.2 ((hcall F' _ i1).mono fun e w' ⟨K',L',q,le,j⟩=>?_)⟩
 ·simp only[resolve,rangeCall,fo.ev hg,Deferred.ofValue,bind,pure,Sem.bind,List.map_toArray,List.map_cons,List.map_nil,ev,Array.empty_append]
  rfl
 ·have e2: #[Value.func (.yield (w.heap.size+1)) #[] #[]]++caps=(.func (.yield (w.heap.size+1)) #[] #[]::caps.toList).toArray:=by simp
  simp only[invoke];rw[e2];exact wB g1 g2 g3 _
 ·obtain⟨v,r',M,rfl,hM,hst,hgo⟩:=hend _ _ _ _ _ _ q le;have j2:In E.w0 E.F K' (pt (w.heap.size+1) (.loop r')::(M++L2)) w':=(back j).imp fun h k=>by
   obtain⟨x,y,hx,hy,hd,rfl⟩:=eX.1 k;exact eX (L:=pt (w.heap.size+1) (.loop r')::M).2 ⟨x,y,hM _ hx,hy,hd,rfl⟩
  have hp:=j2.piece;have hlt:w.heap.size+1 < w'.heap.size:=(Array.getElem?_eq_some_iff.1 hp).1;have j3:In E.w0 E.F K' (M++L2) (w'.putObj (w.heap.size+1) (.loop {r' with state:=.exhausted})):=
   (j2.write (o':=.loop {r' with state:=.exhausted}) (H:=w'.heap.setIfInBounds (w.heap.size+1) (.loop {r' with state:=.exhausted})) (by simp) (by simp[hlt]) (fun x hx=>by rw[Array.getElem?_setIfInBounds_ne (Ne.symm hx)])).drop
  have fo':FrOk E.n (mrk w.heap.size::E.ds) fr {a with defers:=[mrk w.heap.size]++a.defers}:=⟨by simp[fo.defers],fo.size,fo.get⟩;refine⟨r'.pending,_,run_endLoop hp hst,?_⟩
  generalize w'.putObj (w.heap.size+1) (.loop {r' with state:=.exhausted})=W at j3 ⊢
  cases hpe:r'.pending with
  |none=>rw[hpe]at hgo;exact hgo _ _ fo' j3
  |some c=>rw[hpe]at hgo;exact wpIn_wide.2 (hgo _ _ fo' j3)
end
def TR(E:Env)(l:Nat)(c:Code)(fr:Fr)(K:Hl)(L:List Asn)(Q:Post):Prop:=
 ∀a w,FrOk E.n E.ds fr a→In E.w0 E.F K L w→c.wpIn (Fence.wide.inRound l) 0 E.P Q a w
def OR(E:Env)(l:Nat)(ops:Array Oper)(os:List Oper)(fr:Fr)(K:Hl)(L:List Asn)(Q:Post):Prop:=
 ∀a w,FrOk E.n E.ds fr a→In E.w0 E.F K L w→wpListIn (Fence.wide.inRound l) 0 E.P ops Q os a w
section
variable{E:Env}{fr:Fr}{K:Hl}{L:List Asn}{Q:Post}{c x y:Code}{ops:Array Oper}{rest:List Oper}{l:Nat}
theorem aUX(h:D E .normal fr K L Q):TR E l .skip fr K L Q:=fun a w f i=>wpIn_skip (h a w f i)
theorem aUW{id:Nat}(h:D E (.exit id) fr K L Q):TR E l (.exit id) fr K L Q:=fun a w f i=>wpIn_exit (h a w f i)
theorem aHW{id:Nat}(h:TR E l c fr K L (Exit.inBlock id Q)):TR E l (.block id c) fr K L Q:=fun a w f i=>wpIn_block (h a w f i)
theorem aC6{id:Nat}{os:List Oper}(h:OR E l os.toArray os fr K L Q):TR E l (.region id os.toArray false) fr K L Q:=fun a w f i=>wpIn_region_lit (h a w f i)
theorem aQ4(h:D E .normal fr K L Q):OR E l ops [] fr K L Q:=fun a w f i=>wpListIn_nil (h a w f i)
def aKZ:Op→Bool| .defer _=>false|_=>true
theorem tX{o:Oper}(h:aKZ o.op=true):∀c,o.op≠.defer c:=fun c e=>by rw[e]at h;cases h
theorem aQ3{d:Nat}{op:Op}{ty:TypeId}{pos:String}{aft:Array Edge}{v:Value}(hv:Ev E fr K L ⟨some d,op,ty,pos,aft,none⟩ v)(hd:Nat.blt d E.n=true)(ho:aKZ op=true)
  (h:OR E l ops rest ((d,v)::fr) K L Q):OR E l ops (⟨some d,op,ty,pos,aft,none⟩::rest) fr K L Q:=by
 intro a w f i;refine wpListIn_plain rfl fun k hk=>⟨fun _ _=>trivial,?_⟩
 rw[Oper.semAt_eq _ _ _ (tX ho),hv a w f i];exact hk _ _ (h _ _ (f.put hd v) i)
theorem or_s{d:Nat}{op:Op}{ty:TypeId}{pos:String}{aft:Array Edge}{N:Value→Hl→List Asn→Prop}(hv:EfS E fr K L ⟨some d,op,ty,pos,aft,none⟩ N)(hd:Nat.blt d E.n=true)(ho:aKZ op=true)
  (h:∀v K' L',N v K' L'→K.le K'→OR E l ops rest ((d,v)::fr) K' L' Q):OR E l ops (⟨some d,op,ty,pos,aft,none⟩::rest) fr K L Q:=by
 intro a w f i;refine wpListIn_plain rfl fun k hk=>⟨fun _ _=>trivial,?_⟩
 rw[Oper.semAt_eq _ _ _ (tX ho)];obtain⟨u,w',K',L',hr,hN,le,j⟩:=hv a w f i;rcases hr with hr|⟨hr,rfl⟩
 ·rw[hr];exact hk _ _ (h _ _ _ hN le _ _ (f.put hd u) j)
 ·rw[hr];exact hk _ _ (h _ _ _ hN le _ _ (f.put hd _) j)
theorem aYJ{op:Op}{ty:TypeId}{pos:String}{aft:Array Edge}{N:Value→Hl→List Asn→Prop}(hv:EfS E fr K L ⟨none,op,ty,pos,aft,none⟩ N)(ho:aKZ op=true)
  (h:∀v K' L',N v K' L'→K.le K'→OR E l ops rest fr K' L' Q):OR E l ops (⟨none,op,ty,pos,aft,none⟩::rest) fr K L Q:=by
 intro a w f i;refine wpListIn_plain rfl fun k hk=>⟨fun _ _=>trivial,?_⟩
 rw[Oper.semAt_eq _ _ _ (tX ho)];obtain⟨u,w',K',L',hr,hN,le,j⟩:=hv a w f i;rcases hr with hr|⟨hr,rfl⟩
 ·rw[hr];exact hk _ _ (h _ _ _ hN le _ _ f j)
 ·rw[hr];exact hk _ _ (h _ _ _ hN le _ _ f j)
end
abbrev _root_.Go.Loop.bz(r:Loop):Loop:={r with state:=.busy}
abbrev _root_.Go.Loop.on(r:Loop):Loop:={r with state:=.ready,pending:=none}
abbrev _root_.Go.Loop.off(r:Loop)(c:Code):Loop:={r with state:=.done,pending:=some c}
def aXV(P:Program)(l:Nat)(r:Loop)(w0:World)(F K0:Hl)(R:Bool→Hl→List Asn→Prop):Post
 | .normal,_,w=>∃K' M,In w0 F K' (pt l (.loop r.bz)::M) w∧K0.le K'∧R true K' (pt l (.loop r.on)::M)
 | .exit id,_,w=>∃K' M,In w0 F K' (pt l (.loop r.bz)::M) w∧K0.le K'∧R false K' (pt l (.loop (r.off (.exit id)))::M)
 |_,_,_=>False
theorem aV7{P:Program}{l p n:Nat}{r:Loop}{v:Value}{fr0 fr1:Fr}{K:Hl}{L:List Asn}{R:Bool→Hl→List Asn→Prop}(hr:r.state=.ready)(hp:r.params= #[p])(hpn:Nat.blt p n=true)(hsz:r.tmps.size=n)
  (hfr:∀k v,fr0.get k=some v→r.tmps[k]?=some v)
  (hA:∀(F:Hl) (w:World) (Q:Post),D ⟨P,n,[],w,F⟩ .normal fr1 K (pt l (.loop r)::L) Q→TR ⟨P,n,[],w,F⟩ l r.assign ((p,v)::fr0) K (pt l (.loop r)::L) Q)
  (hB:∀(F:Hl) (w:World),TR ⟨P,n,[],w,F⟩ l r.body fr1 K (pt l (.loop r.bz)::L) (aXV P l r w F K R)):Yl P l [v] K (pt l (.loop r)::L) R:=by
 intro F w i;have hc:=i.piece;refine⟨r.fn,_,r.assign,r.body,run_yield hc (by simp[hp]),roundIn_of_wpIn trivial ?_⟩
 have f0:FrOk n [] ((p,v)::fr0) {tmps:=r.tmps.setIfInBounds p v,defers:=[]}:=FrOk.put (a:={tmps:=r.tmps,defers:=[]}) ⟨rfl,hsz,hfr⟩ hpn v;have e0:(r.params.zip [v].toArray).foldl (fun tmps (t,a)=>tmps.setIfInBounds t a) r.tmps=r.tmps.setIfInBounds p v:=by simp[hp]
 rw[e0];refine hA F w _ (fun a₁ w₁ f₁ j=>?_) _ _ f0 i
 have hc1:=j.piece;refine⟨_,run_beginRound hc1 hr,?_⟩
 have hlt:l < w₁.heap.size:=(Array.getElem?_eq_some_iff.1 hc1).1;have j2:In w F K (pt l (.loop r.bz)::L) (w₁.putObj l (.loop r.bz)):=
  j.write (o':=.loop r.bz) (H:=w₁.heap.setIfInBounds l (.loop r.bz)) (by simp) (by simp[hlt]) (fun x hx=>by rw[Array.getElem?_setIfInBounds_ne (Ne.symm hx)])
 refine wpIn_mono (hB F w _ _ f₁ j2) fun e a w' q=>?_
 have fin:∀(jump:Option Code) (K':Hl) (M:List Asn) (r':Loop),In w F K' (pt l (.loop r.bz)::M) w'→K.le K'→r'={r.bz with state:=if jump.isNone then .ready else .done,pending:=jump}→R jump.isNone K' (pt l (.loop r')::M)→
   ∃v w'',(Instr.endRound l jump).run P w'=.ok v w''∧∃b K' L',Ending.returned v=.returned (.bool b)∧R b K' L'∧K.le K'∧In w F K' L' w'':=by
  intro jump K' M r' j le er hR;have hc2:=j.piece;have hlt2:l < w'.heap.size:=(Array.getElem?_eq_some_iff.1 hc2).1;refine⟨_,_,run_endRound jump hc2,jump.isNone,K',_,rfl,hR,le,?_⟩
  subst er;exact j.write (H:=w'.heap.setIfInBounds l _) (by simp) (by simp[hlt2]) (fun x hx=>by rw[Array.getElem?_setIfInBounds_ne (Ne.symm hx)])
 cases e with
 |normal=>obtain⟨K',M,j,le,hR⟩:=q;exact fin none K' M _ j le rfl hR
 |exit id=>obtain⟨K',M,j,le,hR⟩:=q;exact fin (some (.exit id)) K' M _ j le rfl hR
 |goto t=>exact q.elim
 |ret=>exact q.elim
 |panic ch=>exact q.elim
 |outgrown=>exact q.elim
theorem aS5{P:Program}{l:Nat}{vs:List Value}{K:Hl}{L L':List Asn}{R:Bool→Hl→List Asn→Prop}(k:∀h,Sat L h→Sat L' h)(h:Yl P l vs K L' R):Yl P l vs K L R:=
 fun F w i=>h F w (i.imp k)
theorem aLQ{P:Program}{l:Nat}{vs:List Value}{K:Hl}{L:List Asn}{R R':Bool→Hl→List Asn→Prop}(h:Yl P l vs K L R)(k:∀b K' L',R b K' L'→∃L'',(∀h,Sat L' h→Sat L'' h)∧R' b K' L''):Yl P l vs K L R':=by
 intro F w i;obtain⟨fn,t,x,y,e,hr⟩:=h F w i;refine⟨fn,t,x,y,e,hr.mono fun en w' ⟨b,K',L',e1,r,le,j⟩=>?_⟩
 obtain⟨L'',hs,r'⟩:=k _ _ _ r;exact⟨b,K',L'',e1,r',le,j.imp hs⟩
theorem aYH{r:Loop}(h1:r.state=.ready)(h2:r.pending=none):r.on=r:=by cases r;simp_all
theorem aHA{A B:List Asn}{h:Hl}(k:Sat (A++B) h):Sat (B++A) h:=by
 obtain⟨a,b,ha,hb,hd,rfl⟩:=eX.1 k;exact eX.2 ⟨b,a,hb,ha,hd.symm,Hl.join_comm hd⟩
section
variable{E:Env}{fr:Fr}{K:Hl}{L:List Asn}{Q:Post}{c:Code}
theorem aEY(h:T E c fr K L (Exit.noGoto Q)):T E (.scope c) fr K L Q:=fun a w f i=>wp_scope_straight (h a w f i)
theorem mS(h:D E .ret fr K L Q):D E .ret fr K L (Exit.noGoto Q):=h
theorem aUP{ι:Type}(I:ι→Prop)(ds':ι→List Deferred)(fr':ι→Fr)(K':ι→Hl)(L':ι→List Asn)(μ:ι→Nat)(i0:ι)(h0:I i0)(hd:ds' i0=E.ds)(k:Kp fr (fr' i0))(hK:K' i0=K)(hL:∀h,Sat L h→Sat (L' i0) h)
  (round:∀i,I i→T ⟨E.P,E.n,ds' i,E.w0,E.F⟩ c (fr' i) (K' i) (L' i) (Exit.then (fun a w=>∃j,I j∧μ j < μ i∧FrOk E.n (ds' j) (fr' j) a∧In E.w0 E.F (K' j) (L' j) w) Q)):T E (.loop c) fr K L Q:=by
 intro a w f i b kk cs;have key:∀n j,μ j=n→I j→∀a w,FrOk E.n (ds' j) (fr' j) a→In E.w0 E.F (K' j) (L' j) w→
   ∃e a' w',Q e a' w'∧Arrives E.P (lone (b.at a (.code c::.inLoop c::kk)) cs w) b kk cs e a' w':=by
  intro n;induction n using Nat.strongRecOn with
  |_ n ih=>
   intro j hj hIj a w f i;obtain⟨e,a₁,w₁,hq,harr⟩:=round j hIj a w f i b (.inLoop c::kk) cs;cases e with
   |normal=>
    obtain⟨j',hI',hlt,f',i'⟩:=hq;obtain⟨e₂,a₂,w₂,hq₂,harr₂⟩:=ih _ (hj▸hlt) j' rfl hI' _ _ f' i';exact⟨e₂,a₂,w₂,hq₂,.of_steps (Steps.trans harr (.one step_inLoop)) harr₂⟩
   |exit id=>exact⟨_,a₁,w₁,hq,.pass (x:=.inLoop c) rfl (fun _ _=>.inl (by simp)) harr⟩
   |goto l=>exact⟨_,a₁,w₁,hq,.pass (x:=.inLoop c) rfl (fun _ _=>.inl (by simp)) harr⟩
   |ret=>exact⟨_,a₁,w₁,hq,.pass (x:=.inLoop c) rfl (fun _ _=>.inl (by simp)) harr⟩
   |panic ch=>exact⟨_,a₁,w₁,hq,.pass (x:=.inLoop c) rfl (fun _ _=>.inl (by simp)) harr⟩
   |outgrown=>exact⟨_,a₁,w₁,hq,.pass (x:=.inLoop c) rfl (fun _ _=>.inl (by simp)) harr⟩
 have f0:FrOk E.n (ds' i0) (fr' i0) a:=by rw[hd];exact f.keep k
 obtain⟨e,a',w',hq,harr⟩:=key _ i0 rfl h0 a w f0 (by rw[hK];exact i.imp hL);exact⟨e,a',w',hq,.of_steps (.one step_loop) harr⟩
theorem aPP{ι:Type}{P:Program}{n:Nat}{ds:List Deferred}{w0:World}{F:Hl}{I:ι→Prop}{ds':ι→List Deferred}{fr':ι→Fr}{K':ι→Hl}{L':ι→List Asn}{μ:ι→Nat}{m:Nat}(j:ι)(hj:I j)(hlt:μ j < m)(hd:ds' j=ds)(k:Kp fr (fr' j))(hK:K' j=K)(hL:∀h,Sat L h→Sat (L' j) h):
  D ⟨P,n,ds,w0,F⟩ .normal fr K L (Exit.then (fun a w=>∃j,I j∧μ j < m∧FrOk n (ds' j) (fr' j) a∧In w0 F (K' j) (L' j) w) Q):=
 fun a w f i=>⟨j,hj,hlt,by rw[hd];exact f.keep k,by rw[hK];exact i.imp hL⟩
end
end Go.SL
end
section
namespace Go.Proofs
open Go Go.SL Go.Syn Go.Mach
open R (Yl)
def hdEl:El (List UInt8×List UInt8):={e:=25,sz:=2,enc:=fun a=>[str a.1,str a.2],len:=fun _=>rfl,one:=fun _ u h=>by simp at h;rcases h with rfl|rfl <;> rfl}
theorem qI:∀(As:List Asn) (B:Asn),Tks As (B::As) [B]
 | [],_=>.nil
 |_::As,B=>.cons (.there .here) (qI As B)
theorem sW:∀(As M:List Asn),Tks As (As++M) M
 | [],_=>.nil
 |_::As,M=>.cons .here (sW As M)
def gM(m:Msg)(name:aM)(i:Nat):List aM:=((m.hs.take i).filter fun h=>decide (dH h.1=name)).map (·.2)
theorem aD4(m:Msg)(name:aM){i:Nat}(h:m.hs.length≤i):gM m name i=fW m name:=by unfold gM fW;rw[List.take_of_length_le h]
theorem kI{m:Msg}{name:aM}{i:Nat}{x:aM×aM}(hx:m.hs[i]?=some x):gM m name (i+1)=if dH x.1=name then gM m name i++[x.2]else gM m name i:=by
 have hi:i < m.hs.length:=by
  rcases Nat.lt_or_ge i m.hs.length with h'|h'
  ·exact h'
  ·simp[List.getElem?_eq_none h']at hx
 have hc:m.hs[i]=x:=by simpa[List.getElem?_eq_getElem hi]using hx
 unfold gM;rw[List.take_succ_eq_append_getElem hi,hc,List.filter_append]
 by_cases h:dH x.1=name
 ·simp[h]
 ·simp[h]
theorem aD5(m:Msg)(name:aM)(i:Nat):gM m name i<+:fW m name:=by
 unfold gM fW;refine List.IsPrefix.map _ (List.IsPrefix.filter _ (List.take_prefix _ _))
structure FI where
 i:Nat
 K:Hl
 L:List Asn
theorem uW(l bx by_ b mb:Nat)(m:Msg)(hv pv:Value)(nm:Bool)(s:MS)(name:aM)(K0:Hl)(L0:List Asn)(J Jx:List aM→Hl→List Asn→Prop)
  (hbx:K0 bx=some (aU [ptr b] 172)) (hy:K0 by_=some (aU [str name] 9)) (hh:Ksl hdEl K0 hv m.hs) (hln:m.hs.length≤1000000) (hs:∀h∈m.hs,h.1.length≤1000000)
  (hJ0:J [] K0 (mch b mb m hv pv nm s::L0))
  (hY:∀pre x K' L',K0.le K'→J pre K' L'→(pre++[x])<+:fW m name→Yl Tryz.prog l [str x] K' L' fun t K'' L''=>(t=true∧J (pre++[x]) K'' L'')∨(t=false∧Jx (pre++[x]) K'' L'')):
  Sp Tryz.prog 307 [.func (.yield l) #[] #[],ptr bx,ptr by_] K0 (mch b mb m hv pv nm s::L0)
   (Ret fun v K' L'=>v=.tuple #[]∧K0.le K'∧(J (fW m name) K' L'∨∃pre,pre<+:fW m name∧Jx pre K' L')):=by
 refine aZ Tryz.func307 rfl Tryz.ntmps307 rfl rfl fun F w=>?_
 refine qQ fun av sv f c=>?_
 refine aH (aB ?_);refine aA (aJ aZA rfl aL rfl) rfl ?_;refine uEw ?_;refine uHo ?_;refine uDw ?_;refine aA (cB (k:=hdEl) rfl Tryz.underlying26 rfl aL) rfl ?_;refine uAa ?_;refine aG (aE ?_);refine bE ?_;refine kJ (dR (m:=m) (hv:=hv) (pv:=pv) (nm:=nm) (s:=s)) ?_;refine eR (fun(q:FI)=>q.i≤m.hs.length∧K0.le q.K∧J (gM m name q.i) q.K q.L) (fun q=>[(0,.func (.yield l) #[] #[]),(2,ptr by_),(11,hv),(12,i64 m.hs.length),(13,i64 q.i)]) (fun q=>q.K) (fun q=>q.L) (fun q=>m.hs.length - q.i) ⟨0,K0,mch b mb m hv pv nm s::L0⟩ ⟨Nat.zero_le _,Hl.le_refl _,hJ0⟩ (.cons 0 rfl (.cons 2 rfl (.cons 11 rfl (.cons 12 rfl (.cons 13 rfl .nil))))) rfl (fun _ h=>h) ?_;intro ⟨i,K1,L1⟩ ⟨hi0,hle,hJ⟩;dsimp only at hi0 hle hJ ⊢;have hh1:=hh.mono hle;have hy1:=hle _ _ hy;refine aH (aB ?_);refine uBn ?_;refine aG (aE ?_);refine aH ?_;refine bK 14 rfl (fun h14=>?_) (fun h14=>?_)
 ·
  have hilt:i < m.hs.length:=by omega
  obtain⟨x,hx⟩:∃x,m.hs[i]?=some x:=⟨m.hs[i]'hilt,List.getElem?_eq_getElem hilt⟩;refine aW ?_;refine aE (aH ?_);refine bE (aH ?_);refine aB ?_;refine aA (b0 (k:=hdEl) pO rfl aL rfl rfl (by first|assumption|omega)) rfl ?_;refine aA (eE (n:=0) (k:=hdEl) aJN rfl aL bU) rfl ?_;refine ol_s (cN tz25) rfl ?_;rintro _ K _ ⟨b5,rfl,rfl,rfl⟩ -;refine bP (cJ aJN rfl rfl rfl aX (by first|(simp[Value.oneCell'];done)|exact fun c hc=>El.one _ _ c hc) (.cons (.cons .nil)) (by intro j hj;simp)) ?_;rintro _ K _ ⟨rfl,rfl⟩ -;refine aG (aE ?_);refine aH ?_;refine R.t_draw (anc:=[0,1,3,0,15,31,63,63,191,511,1023,2047]) (ord:=[0,1,3,2,4,5,6,7,8,9,10,11]) [2,9] [9] mixed (by decide+kernel) (.cons .here .nil) ?_;refine R.dl_ev rfl rfl (.none rfl) rfl rfl (aD (o':=0) aHS rfl rfl) rfl ?_;refine R.dl_ev rfl rfl (.none rfl) rfl rfl (aJ ts9 rfl aL rfl) rfl ?_;refine R.dl_ev rfl rfl (.none rfl) rfl rfl (aJ ts9 rfl aL rfl) rfl ?_;refine R.dl_callv rfl (.none rfl) rfl rfl rfl rfl (fO _ _ (by have:=hs x (List.mem_of_getElem? hx);omega)) rfl ?_;refine R.dl_ev rfl rfl (.none rfl) rfl rfl (jR rfl rfl) rfl ?_;refine R.dl_ev rfl rfl (.none rfl) rfl rfl (aC rfl) rfl ?_;refine R.dl_splitp 22 rfl (fun g22=>?_) (fun g22=>?_)
  ·
   refine R.dl_ev rfl rfl (.on rfl rfl rfl) rfl rfl (aC rfl) rfl ?_;refine R.dl_ev rfl rfl (.on rfl rfl rfl) rfl rfl (aD (o':=1) aHT rfl rfl) rfl ?_;refine R.dl_ev rfl rfl (.on rfl rfl rfl) rfl rfl (aJ ts9 rfl aL rfl) rfl ?_;have hpre:gM m name i++[x.2]<+:fW m name:=(by have:=aD5 m name (i+1);rwa [kI hx,if_pos g22]at this);refine R.dl_round rfl (.on rfl rfl rfl) rfl rfl rfl (hY (gM m name i) x.2 _ _ hle hJ hpre) (qI _ _) rfl ?_;rintro t K2 M2 hR le2;refine R.dl_ev rfl rfl (.on rfl rfl rfl) rfl rfl (by first|exact dP rfl|exact dO rfl) rfl ?_;refine R.dl_ev rfl rfl (.none rfl) rfl rfl (bL rfl rfl) rfl ?_;refine R.dl_nil ?_;refine aE ?_;refine eJ 28 rfl (fun h28=>?_) (fun h28=>?_)
   ·
    refine uCi ?_;refine a7 ?_;refine bS ?_;refine aO (by rw[List.append_nil];exact sW M2 _) ?_;refine tK rfl (by first|exact Hl.le_trans hle le2|exact hle) ?_;refine⟨_,rfl,rfl,Hl.le_trans hle le2,.inr ⟨_,hpre,?_⟩⟩
    rcases hR with ⟨h,_⟩|⟨_,h⟩
    ·exfalso;subst h;simp at h28
    ·exact h
   ·
    refine aW ?_;refine aN (aE ?_);refine uDj ?_
    first
     |(refine aO (by rw[List.append_nil];exact sW M2 _) ?_;exact cQ ⟨i+1,K2,M2⟩ ⟨by (show i+1≤m.hs.length);omega,Hl.le_trans hle le2,by (show J (gM m name (i+1)) K2 M2);rw[kI hx,if_pos g22];rcases hR with ⟨_,h⟩|⟨h,_⟩;exact h;(exfalso;subst h;simp at h28)⟩ (by (show m.hs.length - (i+1) < m.hs.length - i);omega) (.cons 0 rfl (.cons 2 rfl (.cons 11 rfl (.cons 12 rfl (.cons 13 rfl .nil))))) rfl (fun _ h=>h))
     |(refine aO (qI L1 _) ?_;exact cQ ⟨i+1,_,L1⟩ ⟨by (show i+1≤m.hs.length);omega,hle,by (show J (gM m name (i+1)) _ L1);rw[kI hx,if_neg g22];exact hJ⟩ (by (show m.hs.length - (i+1) < m.hs.length - i);omega) (.cons 0 rfl (.cons 2 rfl (.cons 11 rfl (.cons 12 rfl (.cons 13 rfl .nil))))) rfl (fun _ h=>h))
  ·
   refine R.dl_off rfl rfl (.off rfl rfl rfl) rfl ?_;refine R.dl_off rfl rfl (.off rfl rfl rfl) rfl ?_;refine R.dl_off rfl rfl (.off rfl rfl rfl) rfl ?_;refine R.dl_off rfl rfl (.off rfl rfl rfl) rfl ?_;refine R.dl_off rfl rfl (.off rfl rfl rfl) rfl ?_;refine R.dl_ev rfl rfl (.none rfl) rfl rfl (bD rfl rfl) rfl ?_;refine R.dl_nil ?_;refine aE ?_;refine uBf ?_;refine aN (aE ?_);refine uDj ?_
   first
    |(refine aO (by rw[List.append_nil];exact sW M2 _) ?_;exact cQ ⟨i+1,K2,M2⟩ ⟨by (show i+1≤m.hs.length);omega,Hl.le_trans hle le2,by (show J (gM m name (i+1)) K2 M2);rw[kI hx,if_pos g22];rcases hR with ⟨_,h⟩|⟨h,_⟩;exact h;(exfalso;subst h;simp at h28)⟩ (by (show m.hs.length - (i+1) < m.hs.length - i);omega) (.cons 0 rfl (.cons 2 rfl (.cons 11 rfl (.cons 12 rfl (.cons 13 rfl .nil))))) rfl (fun _ h=>h))
    |(refine aO (qI L1 _) ?_;exact cQ ⟨i+1,_,L1⟩ ⟨by (show i+1≤m.hs.length);omega,hle,by (show J (gM m name (i+1)) _ L1);rw[kI hx,if_neg g22];exact hJ⟩ (by (show m.hs.length - (i+1) < m.hs.length - i);omega) (.cons 0 rfl (.cons 2 rfl (.cons 11 rfl (.cons 12 rfl (.cons 13 rfl .nil))))) rfl (fun _ h=>h))
 ·
  refine uAp ?_;refine dD rfl (by first|exact Hl.le_trans hle le2|exact hle) ?_;refine⟨_,rfl,rfl,hle,.inl ?_⟩
  have:=aD4 m name (i:=i) aI;rw[←this];exact hJ
end Go.Proofs
end
section
namespace Go.Proofs
open Go Go.SL Go.Syn Go.Mach
open R (Yl)
theorem xJ(b:Nat)(name:List UInt8)(K:Hl):Sp Tryz.prog 254 [ptr b,str name] K []
  (Ret fun v K' L'=>∃bx by_,v=.func (.func 307) #[] #[ptr bx,ptr by_]∧K' bx=some (aU [ptr b] 172)∧K' by_=some (aU [str name] 9)∧L'=[]):=by
 refine aZ Tryz.func254 rfl Tryz.ntmps254 rfl rfl fun F w=>?_
 refine aH (aB ?_);refine uBk ?_;rintro _ K _ ⟨b2,rfl,rfl,rfl⟩ -;refine uBk ?_;rintro _ K _ ⟨b3,rfl,rfl,rfl⟩ -;refine uAb ?_;refine aG (aE ?_);refine aH (aB ?_);refine uGi ?_;refine uAb ?_;refine aG (aE ?_);refine bI ?_;refine gI fun K1 le1 hK1=>?_
 refine gI fun K2 le2 hK2=>?_
 refine bF rfl rfl (Hl.le_trans le1 le2) ?_;exact⟨_,rfl,b2,b3,rfl,hK2,le2 _ _ hK1,rfl⟩
theorem aHB{α:Type}{z:Bool}{k:El α}{v:Value}{xs:List α}{L:List Asn}{h:Hl}(hs:Sat (sl z k v xs::L) h):∃a n c,v=.slice a n c:=by
 obtain⟨a,l,ha,_⟩:=hs;rcases ha with ⟨rfl,_⟩|⟨b,cap,junk,fz,rfl,_⟩ <;> exact⟨_,_,_,rfl⟩
theorem tP(m:Msg)(name:aM):(fW m name).length≤m.hs.length:=by
 unfold fW;rw[List.length_map];exact List.length_filter_le _ _
theorem aLS(bx by_ b mb:Nat)(m:Msg)(hv pv:Value)(nm:Bool)(s:MS)(name:aM)(sv:Value)(xs:List aM)(K0:Hl)
  (hbx:K0 bx=some (aU [ptr b] 172)) (hy:K0 by_=some (aU [str name] 9)) (hh:Ksl hdEl K0 hv m.hs) (hln:m.hs.length≤1000000) (hs:∀h∈m.hs,h.1.length≤1000000) (hxs:xs.length≤4000000000000):
  Sp Tryz.prog 304 [sv,.func (.func 307) #[] #[ptr bx,ptr by_]] K0 [sl false (bT 9) sv xs,mch b mb m hv pv nm s]
   (Ret fun v K' L'=>L'=[sl false (bT 9) v (xs++fW m name),mch b mb m hv pv nm s]):=by
 refine aHK Tryz.func304 rfl Tryz.ntmps304 rfl rfl fun F w=>?_
 refine aAS (fun h hs=>aHB hs) ?_;rintro⟨sa,sn,sc,rfl⟩;refine aH (aB ?_);refine uBk ?_;rintro _ K _ ⟨b2,rfl,rfl,rfl⟩ -;refine uAb ?_;refine aG (aE ?_);refine aH (aH ?_);refine uAf ?_;refine aG (aE ?_);refine bE ?_;refine aK9 (RR:=fun r l d e K1 L1=>e=.returned (.tuple #[])∧r.state=.ready∧r.pending=none∧∃v,v.oneCell'=true∧L1=[mch b mb m hv pv nm s,pt l (.loop r),dblk d,pt b2 (aU [v] 39),sl false (bT 9) v (xs++fW m name)]) rfl (cS _) (fun r l d hr0 hr1 hr2 hr3 hr4 hsz hfr=>?_) (fun r l d e K1 L1 hR le=>?_)
 ·refine wP (M:=mch b mb m hv pv nm s::[pt l (.loop r),dblk d,pt b2 (aU [.slice sa sn sc] 39),sl false (bT 9) (.slice sa sn sc) xs]) (Tks.sat (N:=[]) (.cons (.there (.there (.there (.there .here)))) (.cons .here (.cons .here (.cons .here (.cons .here .nil)))))) ?_;refine(uW l bx by_ b mb m hv pv nm s name _ _ (fun pre K1 L1=>∃v,v.oneCell'=true∧L1=[mch b mb m hv pv nm s,pt l (.loop r),dblk d,pt b2 (aU [v] 39),sl false (bT 9) v (xs++pre)]) (fun _ _ _=>False) hbx hy hh hln hs ⟨.slice sa sn sc,rfl,by rw[List.append_nil]⟩ ?_).mono ?_
  ·rintro pre x K1 _ le1 ⟨v,hv1,rfl⟩ hpre;have hlen:(pre++[x]).length≤1000000:=Nat.le_trans hpre.length_le (Nat.le_trans (tP m name) hln);simp only[List.length_append,List.length_singleton]at hlen;refine aS5 (Tks.sat (N:=[]) (.cons (.there .here) (.cons .here (.cons .here (.cons .here (.cons .here .nil)))))) ?_;refine aLQ (aV7 (n:=13) (fr1:=(5,str x)::(7,str x)::(6,.func (.func 307) #[] #[ptr bx,ptr by_])::(4,.slice none 0 0)::(2,ptr b2)::Fr.init 0 [.slice sa sn sc,.func (.func 307) #[] #[ptr bx,ptr by_]] 13) (R:=fun t K2 L2=>t=true∧∃v,v.oneCell'=true∧L2=[pt l (.loop r.on),mch b mb m hv pv nm s,dblk d,pt b2 (aU [v] 39),sl false (bT 9) v (xs++(pre++[x]))]) hr0 hr2 rfl hsz hfr (fun F w Q hQ=>?_) (fun F w=>?_)) ?_
   ·rw[hr3];exact aC6 (aQ3 (aF rfl) rfl rfl (aQ4 hQ))
   ·rw[hr4];refine aHW ?_;refine aC6 ?_
    refine aQ3 (aJ ts39 rfl (.own (.there (.there (.there .here)))) rfl) rfl rfl ?_;refine aQ3 (aC rfl) rfl rfl ?_;refine or_s (bN (z0:=[(str [])]) cX tz9 rfl rfl rfl rfl (.cons rfl rfl rfl (.cons .nil) .nil)) rfl rfl ?_;rintro _ K _ ⟨b10,rfl,rfl,rfl⟩ -;refine or_s (dM (k:=bT 9) (ys:=[x]) iC rfl rfl (.there (.there (.there (.there (.there .here))))) (fun w j=>dB Tryz.underlying39 (SeesSl.at (.blk (.own .here) rfl rfl) j)) (by simp;omega) (by simp;omega)) rfl rfl ?_;rintro v11 K _ ⟨rfl,rfl,ho11⟩ -;refine aYJ (bH ts39 rfl rfl ho11 (.there (.there (.there (.there (.there .here))))) .zero rfl) rfl ?_;rintro _ K _ ⟨rfl,rfl⟩ -;refine aQ4 ?_;refine aN ?_;intro a w fo i;exact⟨_,[mch b mb m hv pv nm s,dblk d,pt b2 (aU [v11] 39),sl false (bT 9) v11 (xs++(pre++[x]))],(i.imp (Tks.sat (.cons (.there (.there .here)) (.cons (.there (.there .here)) (.cons (.there (.there .here)) (.cons (.there (.there .here)) (.cons .here .nil))))))).left.imp (fun h k=>by rw[←List.append_assoc];exact k),Hl.le_refl _,rfl,v11,ho11,rfl⟩
   ·rintro t K2 _ ⟨rfl,v2,hv2,rfl⟩;rw[aYH hr0 hr1];exact⟨_,Tks.sat (N:=[]) (.cons (.there .here) (.cons .here (.cons .here (.cons .here (.cons .here .nil))))),.inl ⟨rfl,v2,hv2,rfl⟩⟩
  ·rintro e K1 L1 ⟨v,rfl,rfl,le,h|⟨_,_,h⟩⟩
   ·obtain⟨v,hv1,rfl⟩:=h;exact⟨rfl,hr0,hr1,v,hv1,rfl⟩
   ·exact h.elim
 obtain⟨rfl,hr0,hr1,v,hv1,rfl⟩:=hR;refine⟨_,r,[mch b mb m hv pv nm s,dblk d,pt b2 (aU [v] 39),sl false (bT 9) v (xs++fW m name)],rfl,Tks.sat (N:=[]) (.cons (.there .here) (.cons .here (.cons .here (.cons .here (.cons .here .nil))))),by rw[hr0];simp,?_⟩
 rw[hr1]
 show D ⟨Tryz.prog,13,[mrk d],w,F⟩ _ _ _ _ _
 refine aN (aE ?_);refine aH (aB ?_);refine uCo ?_;refine uAb ?_;refine aG (aE ?_);refine bI ?_;refine aO (.cons (.there .here) (.cons (.there (.there .here)) (.cons .here .nil))) ?_;exact aDO [d] (L:=[sl false (bT 9) v (xs++fW m name),mch b mb m hv pv nm s]) rfl rfl (fun _ h=>h) le ⟨_,rfl,rfl⟩
end Go.Proofs
end
section
namespace Go.Proofs
open Go Go.SL Go.Syn Go.Mach
theorem sC(b mb:Nat)(m:Msg)(hv pv:Value)(nm:Bool)(s:MS)(lv:Value)(l:List (List UInt8))(K:Hl)(hg:Glob K)(hpv:Ksl (bT 9) K pv s.parts)(hlv:Ksl (bT 9) K lv l)(hl:l.length≤1000000)(hs:∀x∈l,x.length≤100000)(hsm:o1 s.vars s.parts):
  Sp Tryz.prog 250 [ptr b,lv] K [mch b mb m hv pv nm s] (Ret fun v K' L'=>K'=K∧L'=[sl false (bT 9) v (l.map (dF nm s.vars s.parts)),mch b mb m hv pv nm s]):=by
 refine aJJ ⟨_,Tryz.func250,rfl,rfl⟩ fun av sv f c=>?_
 refine wP (show Tks [_,_] _ _ from .cons .here (.cons (.there (.there .here)) .nil)).sat (aEV (vI _ (aO2 b mb _ _ _ _ _ _ pv sv s.pc nm s.vars f c s.parts lv l K hg hpv hlv hl hs hsm)) ?_)
 rintro e K' L' ⟨N,⟨v,rfl,rfl,rfl⟩,rfl⟩;exact⟨[_,mch b mb m hv pv nm s],[],fun h hh=>dU (fun h hh=>dR (s:=s) h hh) ((show Tks [_,_,_,_,_] _ []from .cons .here (.cons .here (.cons (.there .here) (.cons (.there .here) (.cons .here .nil))))).sat h hh),_,rfl,rfl,rfl⟩
theorem jF{α β:Type}(g:α→List β){l:List α}{i:Nat}{x:α}(h:l[i]?=some x):(l.take (i+1)).flatMap g=(l.take i).flatMap g++g x:=by
 have hi:i < l.length:=by
  rcases Nat.lt_or_ge i l.length with h'|h'
  ·exact h'
  ·simp[List.getElem?_eq_none h']at h
 have hc:l[i]=x:=by simpa[List.getElem?_eq_getElem hi]using h
 rw[List.take_succ_eq_append_getElem hi,hc];simp
theorem q7{α β:Type}{g:α→List β}{n:Nat}(h:∀x,(g x).length≤n):∀l:List α,(l.flatMap g).length≤l.length*n
 | []=>by simp
 |x::l=>by simp only[List.flatMap_cons,List.length_append,List.length_cons,Nat.succ_mul];have:=q7 h l;have:=h x;omega
theorem aKK(m:Msg)(n:aM):(oK m n).length≤1:=by unfold oK;split;simp;split <;> simp
theorem aU8{ex:aM→aM}{m:Msg}{o:Ins}(h:o.op=8):gF ex m o=o.a.map ex:=by unfold gF;rw[if_pos h]
theorem aU6{ex:aM→aM}{m:Msg}{o:Ins}(h:o.op=6):gF ex m o=(o.a.map ex).flatMap fun n=>fW m (dH n):=by unfold gF;rw[if_neg aI,if_pos h]
theorem aU7{ex:aM→aM}{m:Msg}{o:Ins}(h:o.op=7):gF ex m o=o.a.flatMap (oK m):=by unfold gF;rw[if_neg aI,if_neg aI,if_pos h]
theorem aFB{ex:aM→aM}{m:Msg}{o:Ins}(h8:¬o.op=8)(h6:¬o.op=6)(h7:¬o.op=7):gF ex m o=[]:=by unfold gF;rw[if_neg h8,if_neg h6,if_neg h7]
theorem aDV{m:Msg}{n:aM}(h:dH n=[102,114,111,109]):oK m n=[m.from_]:=by unfold oK;rw[if_pos h]
theorem aDX{m:Msg}{n:aM}(h0:¬dH n=[102,114,111,109])(h:dH n=[116,111]):oK m n=[m.to_]:=by unfold oK;rw[if_neg h0,if_pos h]
theorem aDW{m:Msg}{n:aM}(h0:¬dH n=[102,114,111,109])(h:¬dH n=[116,111]):oK m n=[]:=by unfold oK;rw[if_neg h0,if_neg h]
structure MV where
 v:Value
 K:Hl
structure MW where
 i:Nat
 v:Value
 K:Hl
theorem aH3(b mb:Nat)(m:Msg)(hv pv:Value)(nm:Bool)(s:MS)(o:Ins)(av bv:Value)(K0:Hl)(hg:Glob K0)(hpv:Ksl (bT 9) K0 pv s.parts)(ha:Ksl (bT 9) K0 av o.a)(hb:Ksl (bT 9) K0 bv o.b)(hh:Ksl hdEl K0 hv m.hs)(hln:m.hs.length≤1000000)(hhs:∀h∈m.hs,h.1.length≤1000000)(hl:o.a.length≤1000000)(hs:∀x∈o.a,x.length≤100000)(hsm:o1 s.vars s.parts):
  Sp Tryz.prog 251 [ptr b,l4 o av bv] K0 [mch b mb m hv pv nm s] (Ret fun v K' L'=>L'=[sl false (bT 9) v (gF (dF nm s.vars s.parts) m o),mch b mb m hv pv nm s]):=by
 obtain⟨sa,sn,sc,rfl⟩:=ha.isSlice;obtain⟨ta,tn,tc,rfl⟩:=hb.isSlice;refine aZ Tryz.func251 rfl Tryz.ntmps251 rfl rfl fun F w=>?_
 refine aH (aB ?_);refine uBk ?_;rintro _ K _ ⟨b3,rfl,rfl,rfl⟩ -;refine uAb ?_;refine aG (aE ?_);refine aH (aB ?_);refine uAb ?_;refine aG (aE ?_);refine gS (fun(q:MV)=>K.le q.K) (fun q=>[(5,q.v)]) (fun q=>q.K) (fun q=>[sl false (bT 9) q.v (gF (dF nm s.vars s.parts) m o),mch b mb m hv pv nm s]) ?_ ?_
 ·
  refine aH (aB ?_);refine aA (aD (o':=0) jX rfl rfl) rfl ?_;refine uAn ?_;refine aG (aE ?_);refine bE (aH ?_);refine aB ?_;refine uCe ?_;refine aG (aE ?_);refine bK 12 rfl (fun h12=>?_) (fun h12=>?_)
  ·
   refine aH (aB ?_);refine uAa ?_;refine uFe ?_;refine uCo ?_;refine bC rfl rfl (sC b mb m hv pv nm s _ o.a _ hg hpv ha hl hs hsm) (.cons (.there .here) .nil) rfl ?_;rintro _ K _ ⟨rfl,rfl⟩ -;refine uAb ?_;refine aG (aE ?_);refine uCi ?_;refine uCu ?_;refine bF rfl rfl (by first|exact hle|exact Hl.le_refl _) ?_;rw[←aU8 (ex:=dF nm s.vars s.parts) (m:=m) h12];exact⟨_,rfl,rfl⟩
  ·
   refine aH (aB ?_);refine uCe ?_;refine aG (aE ?_);refine bK 18 rfl (fun h18=>?_) (fun h18=>?_)
   ·
    refine aH (aB ?_);refine uAa ?_;refine uFe ?_;refine uCo ?_;refine bC rfl rfl (sC b mb m hv pv nm s _ o.a _ hg hpv ha hl hs hsm) (.cons (.there .here) .nil) rfl ?_;rintro nv K _ ⟨rfl,rfl⟩ -;have hnl:∀x∈o.a.map (dF nm s.vars s.parts),x.length≤100000:=(by intro x hx;obtain⟨y,hy,rfl⟩:=List.mem_map.1 hx;exact iX (hs y hy));have hnn:(o.a.map (dF nm s.vars s.parts)).length≤1000000:=(by simpa using hl)
    generalize hnames:o.a.map (dF nm s.vars s.parts)=names at*
    refine uCh ?_;refine uAa ?_;refine aG (aE ?_);refine bE ?_;refine aAT (.cons .here (.cons .here .nil)) ?_;refine eR (fun(q:MW)=>q.i≤names.length∧K.le q.K) (fun q=>[(0,ptr b),(5,q.v),(23,nv),(24,i64 names.length),(25,i64 q.i)]) (fun q=>q.K) (fun q=>[sl false (bT 9) q.v ((names.take q.i).flatMap fun n=>fW m (dH n)),sl false (bT 9) nv names,mch b mb m hv pv nm s]) (fun q=>names.length - q.i) ⟨0,.slice none 0 0,K⟩ ⟨Nat.zero_le _,Hl.le_refl _⟩ (.cons 0 rfl (.cons 5 rfl (.cons 23 rfl (.cons 24 rfl (.cons 25 rfl .nil))))) rfl (dX (bT 9)) ?_;intro ⟨i,v,K1⟩ ⟨hi0,hle⟩;dsimp only at hi0 hle ⊢;have hh1:=hh.mono hle;have hfl:((names.take i).flatMap fun n=>fW m (dH n)).length≤1000000*1000000:=Nat.le_trans (q7 (n:=1000000) (fun x=>Nat.le_trans (tP m _) hln) _) (Nat.mul_le_mul_right _ (by rw[List.length_take];omega));refine aH (aB ?_);refine uBn ?_;refine aG (aE ?_);refine aH ?_;refine bK 26 rfl (fun h26=>?_) (fun h26=>?_)
    ·
     have hilt:i < names.length:=by omega
     obtain⟨x,hx⟩:∃x,names[i]?=some x:=⟨names[i]'hilt,List.getElem?_eq_getElem hilt⟩;refine aW ?_;refine aE (aH ?_);refine bE (aH ?_);refine aB ?_;refine aA (b0 (k:=(bT 9)) cX rfl aL rfl rfl (by first|assumption|omega)) rfl ?_;refine uCm ?_;refine uAb ?_;refine aG (aE ?_);refine uAf ?_;refine uAx ?_;refine cA rfl rfl (fO _ _ (by have:=hnl x (List.mem_of_getElem? hx);omega)) rfl ?_;refine bC rfl rfl (xJ b (dH x) _) .nil rfl ?_;rintro _ K2 _ ⟨bx,bY,rfl,hbx,hbY,rfl⟩ le2;refine bC rfl rfl (aLS bx bY b mb m hv pv nm s (dH x) _ _ _ hbx hbY (hh1.mono le2) hln hhs aI) (.cons .here (.cons (.there .here) .nil)) rfl ?_;rintro v34 K3 _ rfl le3;refine uAb ?_;refine aG (aN ?_);refine aE (aB ?_);refine uAo ?_;refine aO (.cons .here (.cons (.there .here) (.cons .here .nil))) ?_;refine cQ ⟨i+1,_,_⟩ ⟨by (show i+1≤names.length);omega,Hl.le_trans hle (Hl.le_trans le2 le3)⟩ (by (show names.length - (i+1) < names.length - i);omega) (.cons 0 rfl (.cons 5 rfl (.cons 23 rfl (.cons 24 rfl (.cons 25 rfl .nil))))) rfl ?_;dsimp only;rw[jF _ hx];exact fun _ h=>h
    ·
     have hfin:((names.take i).flatMap fun n=>fW m (dH n))=gF (dF nm s.vars s.parts) m o:=(by rw[List.take_of_length_le aI,aU6 h18,hnames]);refine uAp ?_;refine aN ?_
     first
      |(refine aO (.cons .here (.cons (.there .here) .nil)) ?_;exact bZ ⟨v,K1⟩ hle (.cons 5 rfl .nil) rfl (by rw[←hfin];exact fun _ h=>h))
      |(refine aO (.cons (.there (.there (.there (.there .here)))) (.cons .here (.cons .here (.cons .here (.cons .here .nil))))) ?_;exact bZ ⟨v,K⟩ (Hl.le_refl _) (.cons 5 rfl .nil) rfl (by rw[←hfin];exact fun h hh=>dU (fun h hh=>dR (s:=s) h hh) hh))
      |(refine aO (.cons (.there .here) .nil) ?_;exact bZ ⟨.slice none 0 0,K⟩ (Hl.le_refl _) (.cons 5 rfl .nil) rfl (by rw[aFB h12 h18 h36];exact dX (bT 9)))
   ·
    refine aH (aB ?_);refine uCe ?_;refine aG (aE ?_);refine bK 36 rfl (fun h36=>?_) (fun h36=>?_)
    ·
     refine aH (aB ?_);refine uFe ?_;refine uCo ?_;refine uCh ?_;refine uAa ?_;refine aG (aE ?_);refine bE ?_;refine eR (fun(q:Nat×Value)=>q.1≤o.a.length) (fun q=>[(0,ptr b),(5,q.2),(39,.slice sa sn sc),(40,i64 o.a.length),(41,i64 q.1)]) (fun _=>K) (fun q=>[mch b mb m hv pv nm s,sl false (bT 9) q.2 ((o.a.take q.1).flatMap (oK m)),pt b3 (aU [i64 o.op,i64 o.n,i64 o.tag,.bool o.oct,.slice sa sn sc,.slice ta tn tc,i64 o.at_] 41)]) (fun q=>o.a.length - q.1) ⟨0,.slice none 0 0⟩ (Nat.zero_le _) (.cons 0 rfl (.cons 5 rfl (.cons 39 rfl (.cons 40 rfl (.cons 41 rfl .nil))))) rfl (fun h hh=>eH (dX (bT 9) h (eH hh))) ?_;intro ⟨i,v⟩ hi0;dsimp only at hi0 ⊢;refine qQ fun av sv f c=>?_
     have hfl:((o.a.take i).flatMap (oK m)).length≤1000000*1:=Nat.le_trans (q7 (n:=1) (aKK m) _) (Nat.mul_le_mul_right _ (by rw[List.length_take];omega));refine aH (aB ?_);refine uBn ?_;refine aG (aE ?_);refine aH ?_;refine bK 42 rfl (fun h42=>?_) (fun h42=>?_)
     ·
      have hilt:i < o.a.length:=by omega
      obtain⟨x,hx⟩:∃x,o.a[i]?=some x:=⟨o.a[i]'hilt,List.getElem?_eq_getElem hilt⟩;refine aW ?_;refine aE (aH ?_);refine bE (aH ?_);refine aB ?_;refine aA (b0 (k:=(bT 9)) cX rfl aL rfl rfl (by first|assumption|omega)) rfl ?_;refine uCm ?_;refine uAb ?_;refine aG (aE ?_);refine aH (aB ?_);refine uAa ?_;refine cA rfl rfl (fO _ _ (by have:=hs x (List.mem_of_getElem? hx);omega)) rfl ?_;refine aG (aE ?_);refine bE (aH ?_);refine aB ?_;refine uIl ?_;refine uAb ?_;refine aG (aE ?_);refine bK 47 rfl (fun h47=>?_) (fun h47=>?_)
      ·
       refine uAf ?_;refine uBz ?_;refine uHo ?_;refine aA (aD (o':=0) aHU rfl rfl) rfl ?_;refine uBl ?_;refine ol_s (bN (z0:=[(str [])]) cX tz9 rfl rfl rfl rfl (.cons rfl rfl rfl (.cons .nil) .nil)) rfl ?_;rintro _ K _ ⟨b56,rfl,rfl,rfl⟩ -;refine ol_s (dM (k:=(bT 9)) (ys:=[m.from_]) iC rfl rfl (.there (.there (.there (.there (.there .here))))) (fun w j=>dB Tryz.underlying39 (SeesSl.at (k:=bT 9) (.blk (.own .here) rfl rfl) j)) (by simp only[List.length_singleton];omega) (by simp only[List.length_singleton];omega)) rfl ?_;rintro v57 K _ ⟨rfl,rfl,ho57⟩ -;refine uAb ?_;refine aG (aN ?_);refine aN (aE ?_);refine uDj ?_
       first
        |(refine aO (.cons (.there (.there .here)) (.cons (.there (.there .here)) (.cons (.there (.there .here)) (.cons (.there (.there .here)) (.cons .here (.cons (.there .here) .nil)))))) ?_;refine dN (dR (s:=s)) ?_;exact cQ ⟨i+1,v57⟩ (by (show i+1≤o.a.length);omega) (by (show o.a.length - (i+1) < o.a.length - i);omega) (.cons 0 rfl (.cons 5 rfl (.cons 39 rfl (.cons 40 rfl (.cons 41 rfl .nil))))) rfl (by dsimp only;rw[jF _ hx,aDV h47];exact fun _ h=>h))
        |(refine aO (.cons (.there (.there .here)) (.cons (.there (.there .here)) (.cons (.there (.there .here)) (.cons (.there (.there .here)) (.cons .here (.cons (.there .here) .nil)))))) ?_;refine dN (dR (s:=s)) ?_;exact cQ ⟨i+1,v68⟩ (by (show i+1≤o.a.length);omega) (by (show o.a.length - (i+1) < o.a.length - i);omega) (.cons 0 rfl (.cons 5 rfl (.cons 39 rfl (.cons 40 rfl (.cons 41 rfl .nil))))) rfl (by dsimp only;rw[jF _ hx,aDX h47 h58];exact fun _ h=>h))
        |(refine dN (dR (s:=s)) ?_;exact cQ ⟨i+1,v⟩ (by (show i+1≤o.a.length);omega) (by (show o.a.length - (i+1) < o.a.length - i);omega) (.cons 0 rfl (.cons 5 rfl (.cons 39 rfl (.cons 40 rfl (.cons 41 rfl .nil))))) rfl (by dsimp only;rw[jF _ hx,aDW h47 h58,List.append_nil];exact fun _ h=>h))
      ·
       refine aH (aB ?_);refine uIl ?_;refine uAb ?_;refine aG (aE ?_);refine bK 58 rfl (fun h58=>?_) (fun h58=>?_)
       ·
        refine uAf ?_;refine uBz ?_;refine uHo ?_;refine aA (aD (o':=1) aHV rfl rfl) rfl ?_;refine uBl ?_;refine ol_s (bN (z0:=[(str [])]) cX tz9 rfl rfl rfl rfl (.cons rfl rfl rfl (.cons .nil) .nil)) rfl ?_;rintro _ K _ ⟨b67,rfl,rfl,rfl⟩ -;refine ol_s (dM (k:=(bT 9)) (ys:=[m.to_]) iC rfl rfl (.there (.there (.there (.there (.there .here))))) (fun w j=>dB Tryz.underlying39 (SeesSl.at (k:=bT 9) (.blk (.own .here) rfl rfl) j)) (by simp only[List.length_singleton];omega) (by simp only[List.length_singleton];omega)) rfl ?_;rintro v68 K _ ⟨rfl,rfl,ho68⟩ -;refine uAb ?_;refine aG (aN ?_);refine aN (aE ?_);refine uDj ?_
        first
         |(refine aO (.cons (.there (.there .here)) (.cons (.there (.there .here)) (.cons (.there (.there .here)) (.cons (.there (.there .here)) (.cons .here (.cons (.there .here) .nil)))))) ?_;refine dN (dR (s:=s)) ?_;exact cQ ⟨i+1,v57⟩ (by (show i+1≤o.a.length);omega) (by (show o.a.length - (i+1) < o.a.length - i);omega) (.cons 0 rfl (.cons 5 rfl (.cons 39 rfl (.cons 40 rfl (.cons 41 rfl .nil))))) rfl (by dsimp only;rw[jF _ hx,aDV h47];exact fun _ h=>h))
         |(refine aO (.cons (.there (.there .here)) (.cons (.there (.there .here)) (.cons (.there (.there .here)) (.cons (.there (.there .here)) (.cons .here (.cons (.there .here) .nil)))))) ?_;refine dN (dR (s:=s)) ?_;exact cQ ⟨i+1,v68⟩ (by (show i+1≤o.a.length);omega) (by (show o.a.length - (i+1) < o.a.length - i);omega) (.cons 0 rfl (.cons 5 rfl (.cons 39 rfl (.cons 40 rfl (.cons 41 rfl .nil))))) rfl (by dsimp only;rw[jF _ hx,aDX h47 h58];exact fun _ h=>h))
         |(refine dN (dR (s:=s)) ?_;exact cQ ⟨i+1,v⟩ (by (show i+1≤o.a.length);omega) (by (show o.a.length - (i+1) < o.a.length - i);omega) (.cons 0 rfl (.cons 5 rfl (.cons 39 rfl (.cons 40 rfl (.cons 41 rfl .nil))))) rfl (by dsimp only;rw[jF _ hx,aDW h47 h58,List.append_nil];exact fun _ h=>h))
       ·
        refine aW ?_;refine aN (aN ?_);refine aE (aB ?_);refine uAo ?_
        first
         |(refine aO (.cons (.there (.there .here)) (.cons (.there (.there .here)) (.cons (.there (.there .here)) (.cons (.there (.there .here)) (.cons .here (.cons (.there .here) .nil)))))) ?_;refine dN (dR (s:=s)) ?_;exact cQ ⟨i+1,v57⟩ (by (show i+1≤o.a.length);omega) (by (show o.a.length - (i+1) < o.a.length - i);omega) (.cons 0 rfl (.cons 5 rfl (.cons 39 rfl (.cons 40 rfl (.cons 41 rfl .nil))))) rfl (by dsimp only;rw[jF _ hx,aDV h47];exact fun _ h=>h))
         |(refine aO (.cons (.there (.there .here)) (.cons (.there (.there .here)) (.cons (.there (.there .here)) (.cons (.there (.there .here)) (.cons .here (.cons (.there .here) .nil)))))) ?_;refine dN (dR (s:=s)) ?_;exact cQ ⟨i+1,v68⟩ (by (show i+1≤o.a.length);omega) (by (show o.a.length - (i+1) < o.a.length - i);omega) (.cons 0 rfl (.cons 5 rfl (.cons 39 rfl (.cons 40 rfl (.cons 41 rfl .nil))))) rfl (by dsimp only;rw[jF _ hx,aDX h47 h58];exact fun _ h=>h))
         |(refine dN (dR (s:=s)) ?_;exact cQ ⟨i+1,v⟩ (by (show i+1≤o.a.length);omega) (by (show o.a.length - (i+1) < o.a.length - i);omega) (.cons 0 rfl (.cons 5 rfl (.cons 39 rfl (.cons 40 rfl (.cons 41 rfl .nil))))) rfl (by dsimp only;rw[jF _ hx,aDW h47 h58,List.append_nil];exact fun _ h=>h))
     ·
      have hfin:((o.a.take i).flatMap (oK m))=gF (dF nm s.vars s.parts) m o:=(by rw[List.take_of_length_le aI,aU7 h36]);refine uAp ?_;refine aN ?_
      first
       |(refine aO (.cons .here (.cons (.there .here) .nil)) ?_;exact bZ ⟨v,K1⟩ hle (.cons 5 rfl .nil) rfl (by rw[←hfin];exact fun _ h=>h))
       |(refine aO (.cons (.there (.there (.there (.there .here)))) (.cons .here (.cons .here (.cons .here (.cons .here .nil))))) ?_;exact bZ ⟨v,K⟩ (Hl.le_refl _) (.cons 5 rfl .nil) rfl (by rw[←hfin];exact fun h hh=>dU (fun h hh=>dR (s:=s) h hh) hh))
       |(refine aO (.cons (.there .here) .nil) ?_;exact bZ ⟨.slice none 0 0,K⟩ (Hl.le_refl _) (.cons 5 rfl .nil) rfl (by rw[aFB h12 h18 h36];exact dX (bT 9)))
    ·
     refine uGr ?_
     first
      |(refine aO (.cons .here (.cons (.there .here) .nil)) ?_;exact bZ ⟨v,K1⟩ hle (.cons 5 rfl .nil) rfl (by rw[←hfin];exact fun _ h=>h))
      |(refine aO (.cons (.there (.there (.there (.there .here)))) (.cons .here (.cons .here (.cons .here (.cons .here .nil))))) ?_;exact bZ ⟨v,K⟩ (Hl.le_refl _) (.cons 5 rfl .nil) rfl (by rw[←hfin];exact fun h hh=>dU (fun h hh=>dR (s:=s) h hh) hh))
      |(refine aO (.cons (.there .here) .nil) ?_;exact bZ ⟨.slice none 0 0,K⟩ (Hl.le_refl _) (.cons 5 rfl .nil) rfl (by rw[aFB h12 h18 h36];exact dX (bT 9)))
 ·
  intro ⟨v,K1⟩ hle;dsimp only at hle ⊢;refine aH (aB ?_);refine uEj ?_;refine aG (aE ?_);refine bI ?_;refine bF rfl rfl (by first|exact hle|exact Hl.le_refl _) ?_;exact⟨_,rfl,rfl⟩
end Go.Proofs
end
section
namespace Go.Proofs
open Go Go.SL Go.Syn Go.Mach
open R (Yl)
theorem aPL{E:Env}{x:Exit}{fr:Fr}{K:Hl}{L:List Asn}{A:Asn}{Q:Post}(h:D E x fr K L Q):D E x fr K (A::L) Q:=fun a w f i=>h a w f i.drop
structure XI where
 i:Nat
 ds:List Nat
 K:Hl
theorem aMF{m:Msg}{l:List aM}{x:aM}(hx:x∈l)(h:fW m (dH x)=[]):oL m l=false:=by
 unfold oL;rw[List.all_eq_false];exact⟨x,hx,by simp[h]⟩
theorem aIQ{m:Msg}{l:List aM}(h:∀x∈l,fW m (dH x)≠[]):oL m l=true:=by
 unfold oL;rw[List.all_eq_true];exact fun x hx=>by simpa using h x hx
theorem take_all_succ{α:Type}{p:α→Prop}{l:List α}{i:Nat}{x:α}(h:∀y∈l.take i,p y)(hx:l[i]?=some x)(hp:p x):∀y∈l.take (i+1),p y:=by
 have hi:i < l.length:=by
  rcases Nat.lt_or_ge i l.length with h'|h'
  ·exact h'
  ·simp[List.getElem?_eq_none h']at hx
 have hc:l[i]=x:=by simpa[List.getElem?_eq_getElem hi]using hx
 rw[List.take_succ_eq_append_getElem hi,hc];intro y hy;rcases List.mem_append.1 hy with h1|h1
 ·exact h y h1
 ·rw[List.mem_singleton.1 h1];exact hp
theorem aD3(b mb:Nat)(m:Msg)(hv pv:Value)(nm:Bool)(s:MS)(lv:Value)(l:List aM)(K0:Hl)(hg:Glob K0)(hpv:Ksl (bT 9) K0 pv s.parts)(hlv:Ksl (bT 9) K0 lv l)(hh:Ksl hdEl K0 hv m.hs)(hln:m.hs.length≤1000000)(hhs:∀h∈m.hs,h.1.length≤1000000)(hl:l.length≤1000000)(hs:∀x∈l,x.length≤100000)(hsm:o1 s.vars s.parts):
  Sp Tryz.prog 151 [ptr b,lv] K0 [mch b mb m hv pv nm s] (Ret fun v K' L'=>v=.bool (oL m (l.map (dF nm s.vars s.parts)))∧L'=[mch b mb m hv pv nm s]):=by
 have hnl:∀x∈l.map (dF nm s.vars s.parts),x.length≤100000:=(by intro x hx;obtain⟨y,hy,rfl⟩:=List.mem_map.1 hx;exact iX (hs y hy));have hnn:(l.map (dF nm s.vars s.parts)).length≤1000000:=by simpa using hl
 have hall:=sC b mb m hv pv nm s lv l K0 hg hpv hlv hl hs hsm
 generalize l.map (dF nm s.vars s.parts)=names at*
 refine aHK Tryz.func151 rfl Tryz.ntmps151 rfl rfl fun F w=>?_
 refine aH (aB ?_);refine uAb ?_;refine aG (aE ?_);refine aEY ?_;refine aH ?_;refine aUO ?_;refine aE (aH ?_);refine aH (aB ?_);refine uAx ?_;refine bC rfl rfl hall (.cons .here .nil) rfl ?_;rintro nv K _ ⟨rfl,rfl⟩ -;refine uCh ?_;refine uAa ?_;refine aG (aE ?_);refine bE ?_;refine aUP (fun(q:XI)=>q.i≤names.length∧K.le q.K∧∀y∈names.take q.i,fW m (dH y)≠[]) (fun q=>q.ds.map mrk) (fun q=>[(0,ptr b),(9,nv),(10,i64 names.length),(11,i64 q.i)]) (fun q=>q.K) (fun q=>sl false (bT 9) nv names::mch b mb m hv pv nm s::q.ds.map dblk) (fun q=>names.length - q.i) ⟨0,[],K⟩ ⟨Nat.zero_le _,Hl.le_refl _,by simp⟩ rfl (.cons 0 rfl (.cons 9 rfl (.cons 10 rfl (.cons 11 rfl .nil)))) rfl (fun _ h=>h) ?_;intro ⟨i,ds,K1⟩ ⟨hi0,hle,hall⟩;dsimp only at hi0 hle hall ⊢;have hh1:=hh.mono hle;refine aH (aB ?_);refine uBn ?_;refine aG (aE ?_);refine aH ?_;refine bK 12 rfl (fun h12=>?_) (fun h12=>?_)
 ·
  have hilt:i < names.length:=by omega
  obtain⟨x,hx⟩:∃x,names[i]?=some x:=⟨names[i]'hilt,List.getElem?_eq_getElem hilt⟩;refine aW ?_;refine aE (aH ?_);refine bE (aH ?_);refine aB ?_;refine aA (b0 (k:=(bT 9)) cX rfl aL rfl rfl (by first|assumption|omega)) rfl ?_;refine uCm ?_;refine uAb ?_;refine aG (aE ?_);refine aH (aH ?_);refine uCf ?_;refine cA rfl rfl (fO _ _ (by have:=hnl x (List.mem_of_getElem? hx);omega)) rfl ?_;refine bC rfl rfl (xJ b (dH x) _) .nil rfl ?_;rintro _ K2 _ ⟨bx,bY,rfl,hbx,hbY,rfl⟩ le2;refine aG (aE ?_);refine bE ?_;refine aK9 (RR:=fun r l d e K4 L4=>e=.returned (.tuple #[])∧((fW m (dH x)=[]∧r.state=.ready∧r.pending=none∧L4=mch b mb m hv pv nm s::pt l (.loop r)::dblk d::sl false (bT 9) nv names::ds.map dblk)∨(fW m (dH x)≠[]∧L4=pt l (.loop (r.off (.exit 1)))::mch b mb m hv pv nm s::dblk d::sl false (bT 9) nv names::ds.map dblk))) rfl (cS _) (fun r l d hr0 hr1 hr2 hr3 hr4 hsz hfr=>?_) (fun r l d e K3 L3 hR le3=>?_)
  ·refine wP (M:=mch b mb m hv pv nm s::pt l (.loop r)::dblk d::sl false (bT 9) nv names::ds.map dblk) (Tks.sat (As:=[_,_,_,_]) (.cons (.there (.there (.there .here))) (.cons .here (.cons .here (.cons .here .nil))))) ?_;refine(uW l bx bY b mb m hv pv nm s (dH x) _ _ (fun pre K4 L4=>pre=[]∧L4=mch b mb m hv pv nm s::pt l (.loop r)::dblk d::sl false (bT 9) nv names::ds.map dblk) (fun pre K4 L4=>pre≠[]∧L4=pt l (.loop (r.off (.exit 1)))::mch b mb m hv pv nm s::dblk d::sl false (bT 9) nv names::ds.map dblk) hbx hbY (hh1.mono le2) hln hhs ⟨rfl,rfl⟩ ?_).mono ?_
   ·rintro pre x1 K4 _ le4 ⟨rfl,rfl⟩ hpre;refine aS5 (Tks.sat (As:=[_,_]) (.cons (.there .here) (.cons .here .nil))) ?_;refine aLQ (aV7 (n:=21) (fr1:=[]) (R:=fun t K5 L5=>t=false∧L5=pt l (.loop (r.off (.exit 1)))::mch b mb m hv pv nm s::dblk d::sl false (bT 9) nv names::ds.map dblk) hr0 hr2 rfl hsz hfr (fun F w Q hQ=>?_) (fun F w=>?_)) ?_
    ·rw[hr3];exact fun a w f i=>aUX hQ a w (f.keep .nil) i
    ·rw[hr4];refine aHW ?_;refine aUW ?_;refine gG rfl ?_
     intro a w fo i;exact⟨_,_,i,Hl.le_refl _,rfl,rfl⟩
    ·rintro t K5 _ ⟨rfl,rfl⟩;exact⟨_,fun _ h=>h,.inr ⟨rfl,by simp,rfl⟩⟩
   ·rintro e K4 L4 ⟨v,rfl,rfl,le,h|⟨pre,h1,h2,h3⟩⟩
    ·exact⟨rfl,.inl ⟨h.1,hr0,hr1,h.2⟩⟩
    ·exact⟨rfl,.inr ⟨fun e=>h2 (by rw[e]at h1;exact List.prefix_nil.1 h1),h3⟩⟩
  obtain⟨rfl,hR⟩:=hR;rcases hR with ⟨hne,hr0,hr1,rfl⟩|⟨hne,rfl⟩
  ·
   refine⟨_,r,mch b mb m hv pv nm s::dblk d::sl false (bT 9) nv names::ds.map dblk,rfl,fun h=>eH,by rw[hr0];simp,?_⟩
   rw[hr1,List.append_nil]
   show D ⟨Tryz.prog,21,mrk d::ds.map mrk,w,F⟩ _ _ _ _ _
   refine aN (aE ?_);refine aH (aB ?_);refine uAb ?_;refine aG (aE ?_);refine uEk ?_;refine mS ?_;refine dN (Tks.sat (As:=[_,_]) (.cons (.there (.there .here)) (.cons .here .nil))) ?_;refine aPL ?_;exact aDO (d::ds) (L:=[mch b mb m hv pv nm s]) rfl rfl (fun _ h=>aHA (A:=[_]) h) (Hl.le_trans hle (Hl.le_trans le2 le3)) ⟨_,rfl,by rw[aMF (List.mem_of_getElem? hx) hne],rfl⟩
  ·
   refine⟨_,r.off (.exit 1),mch b mb m hv pv nm s::dblk d::sl false (bT 9) nv names::ds.map dblk,rfl,fun h k=>k,by simp,?_⟩
   rw[List.append_nil]
   show T ⟨Tryz.prog,21,mrk d::ds.map mrk,w,F⟩ (.exit 1) _ _ _ _
   refine cR ?_;refine gG rfl ?_;refine aS ?_;refine bG ?_;refine aE (aB ?_);refine uAo ?_;exact aPP ⟨i+1,d::ds,_⟩ ⟨by (show i+1≤names.length);omega,Hl.le_trans hle (Hl.le_trans le2 le3),take_all_succ hall hx hne⟩ (by (show names.length - (i+1) < names.length - i);omega) rfl (.cons 0 rfl (.cons 9 rfl (.cons 10 rfl (.cons 11 rfl .nil)))) rfl (Tks.sat (As:=[_,_]) (.cons (.there (.there .here)) (.cons .here .nil)))
 ·
  refine uAp ?_;refine aE (aH ?_);refine uFr ?_;refine aG (aE ?_);refine bI ?_;refine mS ?_;refine aPL ?_;exact aDO ds (L:=[mch b mb m hv pv nm s]) rfl rfl (fun _ h=>aHA (A:=[_]) h) hle ⟨_,rfl,by rw[aIQ (by rw[List.take_of_length_le aI]at hall;exact hall)],rfl⟩
theorem aP1(b mb:Nat)(m:Msg)(hv pv:Value)(nm:Bool)(s:MS)(o:Ins)(av bv:Value)(n:Int)(K0:Hl)(hg:Glob K0)(hpv:Ksl (bT 9) K0 pv s.parts)(ha:Ksl (bT 9) K0 av o.a)(hb:Ksl (bT 9) K0 bv o.b)(hh:Ksl hdEl K0 hv m.hs)(hln:m.hs.length≤1000000)(hhs:∀h∈m.hs,h.1.length≤1000000)(hl:o.a.length≤1000000)(hs:∀x∈o.a,x.length≤100000)(hsm:o1 s.vars s.parts):
  Sp Tryz.prog 150 [ptr b,l4 o av bv,i64 n] K0 [mch b mb m hv pv nm s] (MI b mb m hv nm (push s (oL m (o.a.map (dF nm s.vars s.parts))))):=by
 obtain⟨sa,sn,sc,rfl⟩:=ha.isSlice;obtain⟨ta,tn,tc,rfl⟩:=hb.isSlice;refine aZ Tryz.func150 rfl Tryz.ntmps150 rfl rfl fun F w=>?_
 refine aH (aB ?_);refine uBk ?_;rintro _ K _ ⟨b4,rfl,rfl,rfl⟩ -;refine aG (aE ?_);refine uCf ?_;refine uFe ?_;refine uCo ?_;refine bC rfl rfl (aD3 b mb m hv pv nm s _ o.a _ hg hpv ha hh hln hhs hl hs hsm) (.cons (.there .here) .nil) rfl ?_;rintro _ K2 _ ⟨rfl,rfl⟩ le2;have hpv2:=hpv.mono le2;refine aY rfl rfl (kQ b mb m hv pv nm s (oL m (o.a.map (dF nm s.vars s.parts))) _) (.cons .here .nil) rfl (fun _ _=>a8 _ _) ?_ ?_
 ·
  rintro _ _ _ hTr le1;obtain⟨e,p,hq,fb,h,rfl⟩:=bA hTr;cases h
  refine uAg ?_;refine bJ (Hl.le_trans le2 le1) ?_;unfold MI;rw[hq];exact⟨fb,rfl,rfl⟩
 rintro _ K _ hTr -;obtain⟨q,hq,rfl,rfl,rfl⟩:=bB hTr;clear hTr;have hqp:=eQ hq;refine uIg ?_;refine dD rfl le2 ?_;unfold MI;rw[hq];exact⟨_,rfl,rfl,pv,by rw[hqp];exact hpv2,rfl⟩
end Go.Proofs
end
section
namespace Go.SL
open Go.MapKept
abbrev keyA(i j:Nat):Value:=.agg #[i64 i,i64 j]
abbrev EntA:=(Nat×Nat)×Nat
def entA(p:EntA):MapEntry:={key:=keyA p.1.1 p.1.2,val:=i64 1,born:=p.2}
abbrev mapA(es:List EntA)(c:Nat):Obj:=.map (es.map entA).toArray c
structure KeyA (P:Program) (kt:TypeId):Prop where
 arr:∃e,P.underlying kt=some (.array 2 e)∧P.underlying e=some (.int .i64)∧P.plainKey e=true∧P.cellsOf e=1∧∃i,P.info? e=some i
section
variable{P:Program}{w:World}{kt:TypeId}
theorem eqA(h:KeyA P kt)(a b c d:Nat):(Op.equal kt (keyA a b) (keyA c d)).run P w=.ok (decide ((a,b)=(c,d))) w:=by
 obtain⟨e,h1,h2,h3,h4,i,h5⟩:=h.arr
 show (Op.equalIn (9999+1) kt _ _).run P w=_
 rw[run_equalIn_array w 9999 _ _ h1 h5,h4];have p:∀(x y:Nat) (o:Nat) (v:Value),(#[i64 x,i64 y]:Array Value)[o]?=some v→(part e #[i64 x,i64 y] o).run P w=.ok v w:=fun x y o v h=>run_part_plain w h3 h
 have q:∀(x y:Nat),(Op.equalIn 9999 e (i64 x) (i64 y)).run P w=.ok ((x:Int)==y) w:=fun x y=>run_equalIn_int w 9998 e .i64 .i64 x y h2
 show (Op.eqItems 9999 e 1 _ _ [0,1]).run P w=_
 unfold Op.eqItems;rw[aT (p a b 0 (i64 a) rfl),aT (p c d 0 (i64 c) rfl),aT (q a c)]
 by_cases h:a=c
 ·subst h;rw[if_neg (by simp)];unfold Op.eqItems;rw[aT (p a b 1 (i64 b) rfl),aT (p a d 1 (i64 d) rfl),aT (q b d)]
  by_cases h2:b=d
  ·subst h2;simp[Op.eqItems,pure,Sem.run]
  ·rw[if_pos (by simp;omega)];simp[h2,pure,Sem.run]
 ·rw[if_pos (by simp;omega)];simp[h,pure,Sem.run]
theorem aPE(h:KeyA P kt)(b:Bool)(i j:Nat):(Instr.checkKey b 10000 kt (keyA i j)).run P w=.ok () w:=by
 obtain⟨e,h1,h2,h3,h4,inf,h5⟩:=h.arr;have p:∀(o:Nat) (v:Value),(#[i64 i,i64 j]:Array Value)[o]?=some v→(part e #[i64 i,i64 j] o).run P w=.ok v w:=fun o v h=>run_part_plain w h3 h
 have c:∀(n:Nat),(Instr.checkKey b 9999 e (i64 n)).run P w=.ok () w:=fun n=>run_checkKey h2 (d:=.int .i64) (k:=i64 n) (by trivial) b 9998
 have s:(sizeOf e).run P w=.ok 1 w:=by rw[run_sizeOf w h5,h4]
 show (Instr.checkKey b (9999+1) kt _).run P w=_
 unfold Instr.checkKey;rw[aT (run_underlying h1 w)];simp only[Std.Legacy.Range.forIn_eq_forIn_range',Std.Legacy.Range.size];simp[List.range'_succ,Sem.run_bind,s,Result.andThen,p 0 (i64 i) rfl,p 1 (i64 j) rfl,c]
def qW(k:Nat×Nat):List EntA→Nat→Option (Nat×Value)
 | [],_=>none
 |e::es,i=>if k=e.1 then some (i,i64 1)else qW k es (i+1)
theorem askA(h:KeyA P kt)(k:Nat×Nat):∀(es:List EntA) (i:Nat),(Instr.findAsking kt (keyA k.1 k.2) (es.map entA) i).run P w=.ok (qW k es i) w:=by
 intro es;induction es with
 |nil=>intro i;rfl
 |cons e es ih=>
  intro i
  show (Instr.findAsking kt (keyA k.1 k.2) (entA e::es.map entA) i).run P w=_
  unfold Instr.findAsking qW;rw[show (entA e).key=keyA e.1.1 e.1.2 from rfl,aT (eqA h k.1 k.2 e.1.1 e.1.2)]
  by_cases hk:k=e.1
  ·rw[if_pos (decide_eq_true (show (k.1,k.2)=(e.1.1,e.1.2)from hk)),if_pos hk];rfl
  ·rw[if_neg (fun h=>hk (of_decide_eq_true h)),if_neg hk];exact ih _
theorem aVE(h:KeyA P kt)(k:Nat×Nat)(es:List EntA):(Instr.findKey kt (keyA k.1 k.2) (es.map entA)).run P w=.ok (qW k es 0) w:=by
 obtain⟨e,h1,_⟩:=h.arr;unfold Instr.findKey;rw[aT (run_underlying h1 w)];cases es with
 |nil=>rfl
 |cons x xs=>exact askA h k (x::xs) 0
theorem aBP(k:Nat×Nat):∀(es:List EntA) (i:Nat),(qW k es i).isSome=decide (k∈es.map (·.1)):=by
 intro es;induction es with
 |nil=>intro i;simp[qW]
 |cons e es ih=>
  intro i;unfold qW
  by_cases hk:k=e.1
  ·simp[hk]
  ·rw[if_neg hk,ih];simp[hk]
end
section
variable{E:Env}{fr:Fr}{K:Hl}{L L':List Asn}{Q:Post}{dst:Option Tmp}{ty:TypeId}{pos:String}{aft:Array Edge}{g:Option (Nat×Bool)}{x y m:Operand}{t kt et b c i j:Nat}{v z:Value}{es:List EntA}
theorem aIM(hm:E.P.underlying t=some (.map kt et))(hk:KeyA E.P kt)(hz:fS E.P et=some z)(hx:fr.ev x=some (.map (some b)))(hy:fr.ev y=some (keyA i j))(hs:Sees K L b (mapA es c)):
  Ev E fr K L ⟨dst,.lookup t x y true,ty,pos,aft,g⟩ (.tuple #[if (i,j)∈es.map (·.1)then i64 1 else z,.bool (decide ((i,j)∈es.map (·.1)))]):=fun a w f q=>by
 simp only[execOp,f.ev hx,f.ev hy];refine d9 ?_;have hb:=hs.at q;have h1:(Instr.checkKey (es.map entA).toArray.isEmpty 10000 kt (keyA i j)).run E.P w=.ok () w:=aPE hk _ i j;have h2:(Instr.findKey kt (keyA i j) (es.map entA)).run E.P w=_:=aVE (w:=w) hk (i,j) es;have h3:(zeroValue et).run E.P w=.ok z w:=by
  unfold fS at hz;cases hi:E.P.info? et with
  |none=>simp[hi]at hz
  |some inf=>simp[hi]at hz;simp only[zeroValue,typeInfo,program,bind,Sem.bind,pure,Sem.run,hi,hz]
 have h4:=aBP (i,j) es 0;have h5:∀(es:List EntA) (o:Nat) (p:Nat×Value),qW (i,j) es o=some p→p.2=i64 1:=by
  intro es;induction es with
  |nil=>intro o p h;cases h
  |cons e es ih=>
   intro o p h;unfold qW at h;split at h
   ·cases h;rfl
   ·exact ih _ _ h
 unfold Instr.lookup;rw[aT (run_underlying hm w)];simp only[]
 show ((getObj b)>>=fun _=>_).run E.P w=_
 rw[aT (MapKept.run_getObj_map hb)];simp only[];rw[aT (vG _ _),aT h1]
 show ((Instr.findKey kt (keyA i j) (es.map entA))>>=fun _=>_).run E.P w=_
 rw[aT h2];cases hf:qW (i,j) es 0 with
 |some p=>
  rw[hf]at h4;have hm:(i,j)∈es.map (·.1):=by simpa using h4.symm
  rw[if_pos hm,decide_eq_true hm,←h5 es 0 p hf];rfl
 |none=>
  rw[hf]at h4;have hm:¬(i,j)∈es.map (·.1):=by simpa using h4.symm
  rw[if_neg hm,decide_eq_false hm]
  show ((zeroValue et)>>=fun _=>_).run E.P w=_
  rw[aT h3];rfl
theorem aW6(hm:E.P.underlying t=some (.map kt et))(hk:KeyA E.P kt)(hx:fr.ev m=some (.map (some b)))(hy:fr.ev x=some (keyA i j))(hv:fr.ev y=some (i64 1))(hn:(i,j)∉es.map (·.1))
  (hF:Fnd (pt b (mapA es c)) (pt b (mapA (es++[((i,j),c)]) (c+1))) L L'):EfS E fr K L ⟨dst,.mapUpdate t m x y,ty,pos,aft,g⟩ (fun _ K' L''=>K'=K∧L''=L'):=by
 intro a w f q;have hb:=q.mem hF;have h1:(Instr.checkKey false 10000 kt (keyA i j)).run E.P w=.ok () w:=aPE hk _ i j;have h2:(Instr.findKey kt (keyA i j) (es.map entA)).run E.P w=_:=aVE (w:=w) hk (i,j) es;have hf:qW (i,j) es 0=none:=by
  have:=aBP (i,j) es 0;rw[decide_eq_false hn]at this
  simpa using this
 have hr:(execOp a.eval ⟨dst,.mapUpdate t m x y,ty,pos,aft,g⟩).run E.P w=.ok .skip {w with heap:=w.heap.setIfInBounds b (mapA (es++[((i,j),c)]) (c+1))}:=by
  simp only[execOp,f.ev hx,f.ev hy,f.ev hv];have:(Instr.mapUpdate t (.map (some b)) (keyA i j) (i64 1)).run E.P w=.ok () {w with heap:=w.heap.setIfInBounds b (mapA (es++[((i,j),c)]) (c+1))}:=by
   unfold Instr.mapUpdate;rw[aT (run_underlying hm w)];simp only[]
   show ((getObj b)>>=fun _=>_).run E.P w=_
   rw[aT (MapKept.run_getObj_map hb)];simp only[];rw[aT h1]
   show ((Instr.findKey kt (keyA i j) (es.map entA))>>=fun _=>_).run E.P w=_
   rw[aT h2,hf]
   show (setObj b _).run E.P w=_
   rw[MapKept.run_setObj_map _ hb];have e1:(es.map entA).toArray.push {key:=keyA i j,val:=i64 1,born:=c}=((es++[((i,j),c)]).map entA).toArray:=by simp[entA]
   rw[e1]
  rw[aT this];rfl
 have hs:=MapKept.heap_set (o':=mapA (es++[((i,j),c)]) (c+1)) hb;exact⟨_,_,_,_,.inr ⟨hr,rfl⟩,⟨rfl,rfl⟩,Hl.le_refl _,q.writeAt hF (by simp) hs.1 hs.2⟩
end
theorem aME{E:Env}{fr:Fr}{K:Hl}{L:List Asn}{dst:Option Tmp}{ty:TypeId}{pos:String}{aft:Array Edge}{g:Option (Nat×Bool)}{x y:Operand}{t:TypeId}{a b:Int}(hk:KeyA E.P t)(hz:fS E.P t=some (.agg #[i64 0,i64 0]))(hx:fr.ev x=some (i64 a))(hy:fr.ev y=some (i64 b)):
  Ev E fr K L ⟨dst,.build t #[(0,x),(1,y)],ty,pos,aft,g⟩ (.agg #[i64 a,i64 b]):=fun ac w f j=>by
 obtain⟨e,h1,h2,h3,h4,inf,h5⟩:=hk.arr;have hz3:(zeroValue t).run E.P w=.ok (.agg #[i64 0,i64 0]) w:=by
  unfold fS at hz;cases hi:E.P.info? t with
  |none=>simp[hi]at hz
  |some inf=>simp[hi]at hz;simp only[zeroValue,typeInfo,program,bind,Sem.bind,pure,Sem.run,hi,hz]
 have s:(sizeOf e).run E.P w=.ok 1 w:=by rw[run_sizeOf w h5,h4]
 simp only[execOp];refine d9 ?_;have em:Array.map (fun(p:Nat×Operand)=>(p.1,ac.eval p.2)) #[(0,x),(1,y)]= #[(0,i64 a),(1,i64 b)]:=by simp[f.ev hx,f.ev hy]
 show (Instr.build t (Array.map (fun(p:Nat×Operand)=>(p.1,ac.eval p.2)) #[(0,x),(1,y)])).run E.P w=_
 rw[em];unfold Instr.build;rw[aT hz3,aT (run_underlying h1 w)];simp only[];rw[aT s]
 rfl
theorem aTI{E:Env}{fr:Fr}{K:Hl}{L L':List Asn}{o:Oper}{N:Value→Hl→List Asn→Prop}(k:∀h,Sat L h→Sat L' h)(h:EfS E fr K L' o N):EfS E fr K L o N:=fun a w f i=>h a w f (i.imp k)
section
variable{E:Env}{c x y:Code}{fr:Fr}{K:Hl}{L:List Asn}{Q:Post}{α1 α2 α3 α4 α5:Type}
def Mid5(E:Env)(I:α1→α2→α3→α4→α5→Prop)(fr:α1→α2→α3→α4→α5→Fr)(K:α1→α2→α3→α4→α5→Hl)(L:α1→α2→α3→α4→α5→List Asn):Act→World→Prop:=fun a w=>∃i1 i2 i3 i4 i5,I i1 i2 i3 i4 i5∧FrOk E.n E.ds (fr i1 i2 i3 i4 i5) a∧In E.w0 E.F (K i1 i2 i3 i4 i5) (L i1 i2 i3 i4 i5) w
theorem aUQ(I:α1→α2→α3→α4→α5→Prop)(fr':α1→α2→α3→α4→α5→Fr)(K':α1→α2→α3→α4→α5→Hl)(L':α1→α2→α3→α4→α5→List Asn)(h1:T E x fr K L (Exit.then (Mid5 E I fr' K' L') Q))(h2:∀i1 i2 i3 i4 i5,I i1 i2 i3 i4 i5→T E y (fr' i1 i2 i3 i4 i5) (K' i1 i2 i3 i4 i5) (L' i1 i2 i3 i4 i5) Q):
  T E (.seq x y) fr K L Q:=by
 intro a w f i;refine wp_seq (Code.wp_mono (fun e a w q=>?_) (h1 a w f i))
 cases e <;> first|exact q|(obtain⟨i1,i2,i3,i4,i5,hj,fj,ij⟩:=q;exact h2 i1 i2 i3 i4 i5 hj _ _ fj ij)
theorem bV{I:α1→α2→α3→α4→α5→Prop}{fr':α1→α2→α3→α4→α5→Fr}{K':α1→α2→α3→α4→α5→Hl}{L':α1→α2→α3→α4→α5→List Asn}(i1:α1)(i2:α2)(i3:α3)(i4:α4)(i5:α5)(hi:I i1 i2 i3 i4 i5)(k:Kp fr (fr' i1 i2 i3 i4 i5))(hK:K' i1 i2 i3 i4 i5=K)(hL:∀h,Sat L h→Sat (L' i1 i2 i3 i4 i5) h):
  D E .normal fr K L (Exit.then (Mid5 E I fr' K' L') Q):=fun a w f q=>⟨i1,i2,i3,i4,i5,hi,f.keep k,by rw[hK];exact q.imp hL⟩
end
end Go.SL
end
section
namespace Go.Mach
open Go.Syn
theorem uZ{α:Type}{f g:Nat→Option α}(h:∀e,f e=g e):∀n e,kA f n e=kA g n e:=by
 intro n;induction n with
 |zero=>intro e;rfl
 |succ n ih=>intro e;simp only[kA,h,ih]
theorem aML(w v k:aM):∀(f f' i j:Nat),k.length+1 - j≤f→k.length+1 - j≤f'→j≤k.length+1→g9 w v k f i j=g9 w v k f' i j∨k.length < j:=by
 intro f;induction f with
 |zero=>intro f' i j h1 h2 h3;right;omega
 |succ f ih=>
  intro f' i j h1 h2 h3;rcases Nat.lt_or_ge k.length j with hj|hj
  ·exact .inr hj
  cases f' with
  |zero=>right;omega
  |succ f'=>
   left
   have e1:∀i',j+1≤k.length→g9 w v k f i' (j+1)=g9 w v k f' i' (j+1):=fun i' hh=>by
    rcases ih f' i' (j+1) aI aI aI with h|h
    ·exact h
    ·omega
   have e2:∀i',j+2≤k.length→g9 w v k f i' (j+2)=g9 w v k f' i' (j+2):=fun i' hh=>by
    rcases ih f' i' (j+2) aI aI aI with h|h
    ·exact h
    ·omega
   unfold g9;cases hk:k[j]? with
   |none=>rfl
   |some c=>
    have hjl:j < k.length:=by
     rcases Nat.lt_or_ge j k.length with h'|h'
     ·exact h'
     ·simp[List.getElem?_eq_none h']at hk
    simp only[];split
    ·exact uZ (fun e=>by rw[e1 e aI]) _ _
    ·cases v[i]? with
     |none=>rfl
     |some x=>
      simp only[];split
      ·rw[e1 _ aI]
      ·split
       ·rename_i d hd;split
        ·split at hd
         ·have:j+1 < k.length:=by
           rcases Nat.lt_or_ge (j+1) k.length with h'|h'
           ·exact h'
           ·simp[List.getElem?_eq_none h']at hd
          rw[e2 _ aI]
         ·cases hd
        ·rfl
       ·split
        ·rw[e1 _ aI]
        ·rfl
def gl(w v k:aM)(i j:Nat):Option (List aM):=g9 w v k (k.length+1 - j) i j
variable{w v k:aM}{i j:Nat}{c d x:UInt8}
theorem nY(h:j=k.length):gl w v k i j=if i=v.length then some []else none:=by
 unfold gl;subst h
 rw[show k.length+1 - k.length=0+1 from by omega];unfold g9;rw[List.getElem?_eq_none (Nat.le_refl _)]
theorem u7(h:j < k.length):gl w v k i j=g9 w v k ((k.length - (j+1)+1)+1) i j:=by
 unfold gl;congr 1;omega
theorem aTO(hc:k[j]?=some c)(h:j < k.length)(h42:c.toNat=42):gl w v k i j=kA (fun e=>(gl w v k e (j+1)).map fun ps=>((w.take e).drop i)::ps) (v.length+1 - i) i:=by
 rw[u7 h];unfold g9;simp only[hc];rw[if_pos h42]
 refine uZ (fun e=>?_) _ _
 unfold gl;congr 2;omega
theorem lK(hc:k[j]?=some c)(h:j < k.length)(h42:¬c.toNat=42)(hi:v.length≤i):gl w v k i j=none:=by
 rw[u7 h];unfold g9;simp only[hc];rw[if_neg h42,List.getElem?_eq_none hi]
theorem gl_q(hc:k[j]?=some c)(h:j < k.length)(hx:v[i]?=some x)(h63:c.toNat=63):gl w v k i j=(gl w v k (i+1) (j+1)).map fun ps=>((w.take (i+1)).drop i)::ps:=by
 rw[u7 h];unfold g9;simp only[hc,hx];rw[if_neg aI,if_pos h63]
 unfold gl;congr 2;omega
theorem gX(hc:k[j]?=some c)(h:j+1 < k.length)(hx:v[i]?=some x)(h92:c.toNat=92)(hd:k[j+1]?=some d):gl w v k i j=if x=d then gl w v k (i+1) (j+2)else none:=by
 rw[u7 aI];unfold g9;simp only[hc,hx];rw[if_neg aI,if_neg aI,if_pos h92,hd]
 simp only[];split
 ·unfold gl;rcases aML w v k (k.length - (j+1)+1) (k.length+1 - (j+2)) (i+1) (j+2) aI aI aI with h'|h'
  ·exact h'
  ·omega
 ·rfl
theorem gY(hc:k[j]?=some c)(h:j < k.length)(hx:v[i]?=some x)(h42:¬c.toNat=42)(h63:¬c.toNat=63)(h92:¬(c.toNat=92∧j+1 < k.length)):gl w v k i j=if x=c then gl w v k (i+1) (j+1)else none:=by
 rw[u7 h];unfold g9;simp only[hc,hx];rw[if_neg h42,if_neg h63]
 have e:(if c.toNat=92 then k[j+1]? else none)=none:=by
  split
  ·exact List.getElem?_eq_none aI
  ·rfl
 rw[e];simp only[];split
 ·unfold gl;congr 1;omega
 ·rfl
end Go.Mach
end
section
namespace Go.Proofs
open Go Go.SL Go.Syn Go.Mach
theorem aEF:KeyA Tryz.prog 428:=⟨⟨3,Tryz.underlying428,Tryz.underlying3,by kernel_rfl,by kernel_rfl,info_of_underlying Tryz.underlying3⟩⟩
def yP(w v k:List UInt8)(es:List EntA):Prop:=∀e∈es,gl w v k e.1.1 e.1.2=none
abbrev GlR(w v k:List UInt8)(i j:Nat)(bp md:Nat)(ps:List (List UInt8))(es:List EntA)(K:Hl):Ending→Hl→List Asn→Prop:=Ret fun r K' L'=>K'=K∧r=.bool (gl w v k i j).isSome∧∃pv es' c',yP w v k es'∧(∀e∈es',e∈es∨j≤e.1.2)∧L'=[pt bp (aU [pv] 39),sl false (bT 9) pv (ps++(gl w v k i j).getD []),pt md (mapA es' c')]
structure GlK (w v k:List UInt8) (bd md bp bk bv bw bm:Nat) (K:Hl):Prop where
 hd:K bd=some (aU [.map (some md)] 427)
 hk:K bk=some (aU [str k] 9)
 hv:K bv=some (aU [str v] 9)
 hw:K bw=some (aU [str w] 9)
 hm:K bm=some (aU [.func (.func 306) #[] #[ptr bd,ptr bp,ptr bk,ptr bv,ptr bw,ptr bm]] 169)
theorem aPR{w v k:List UInt8}{es:List EntA}{i j:Nat}(h:yP w v k es)(hm:(i,j)∈es.map (fun x=>x.1)):gl w v k i j=none:=by
 obtain⟨e,he,e2⟩:=List.mem_map.1 hm;have:=h e he;rw[e2]at this;exact this
theorem aMI{α:Type}{f:Nat→Option α}{n e:Nat}(he:e≤n)(h:f e=none):kA f (n+1 - e) e=kA f (n+1 - (e+1)) (e+1):=by
 rw[show n+1 - e=(n+1 - (e+1))+1 from by omega];simp only[kA,h]
theorem aIV{α:Type}{f:Nat→Option α}{n e:Nat}{x:α}(he:e≤n)(h:f e=some x):kA f (n+1 - e) e=some x:=by
 rw[show n+1 - e=(n+1 - (e+1))+1 from by omega];simp only[kA,h]
theorem uN(j:Nat):((j:Int)+1)=((j+1:Nat):Int):=by omega
theorem aXZ(j:Nat):((j:Int)+2)=((j+2:Nat):Int):=by omega
theorem aRR{α:Type}{A B:Asn}{z:Bool}{k:El α}{v:Value}{xs:List α}{L:List Asn}{n:Nat}{h:Hl}(hs:Sat (A::B::sl z k v xs::L) h):(slTo v n).oneCell'=true:=by
 obtain⟨_,l,_,hl,_,_⟩:=hs;obtain⟨_,l2,_,hl2,_,_⟩:=hl;obtain⟨x,_,hx,_,_,_⟩:=hl2;rcases hx with ⟨rfl,_⟩|⟨b,cap,junk,fz,rfl,_⟩ <;> rfl
theorem aIX(w0 v k:List UInt8)(bd md bp bk bv bw bm:Nat)(hlw:w0.length=v.length)(hv:v.length≤1000000)(hk:k.length≤1000000):∀(n i j:Nat) (ps:List (List UInt8)) (es:List EntA) (c:Nat) (pv:Value) (K:Hl),k.length+1 - j≤n→GlK w0 v k bd md bp bk bv bw bm K→i≤v.length→j≤k.length→ps.length≤j→yP w0 v k es→
    Sp Tryz.prog 306 [i64 i,i64 j,ptr bd,ptr bp,ptr bk,ptr bv,ptr bw,ptr bm] K [pt bp (aU [pv] 39),sl false (bT 9) pv ps,pt md (mapA es c)] (GlR w0 v k i j bp md ps es K):=by
  intro n;induction n with
  |zero=>intro i j ps es c pv K h1 h2 h3 h4;omega
  |succ n ih=>
    intro i j ps es c pv K hn hK hi hj hps hes;obtain⟨kd,kk,kv,kw,km⟩:=hK;refine aZ Tryz.func306 rfl Tryz.ntmps306 rfl rfl fun F w=>?_
    refine aH (aB ?_);refine uAb ?_;refine aG (aE ?_);refine aH (aB ?_);refine uAx ?_;refine aA (aME aEF aZJ rfl rfl) rfl ?_;refine ol_s (cN aZT) rfl ?_;rintro _ K _ ⟨b11,rfl,rfl,rfl⟩ -;refine bP (cJ aE2 rfl rfl rfl aX (by first|(simp[Value.oneCell'];done)|exact fun c hc=>El.one _ _ c hc) (.cons (.cons .nil)) (by intro j hj;simp)) ?_;rintro _ K _ ⟨rfl,rfl⟩ -;refine aG (aE ?_);refine aH (aH ?_);refine aB ?_;refine aA (aJ aSM rfl aL rfl) rfl ?_;refine aA (bX aE2 rfl aL rfl rfl) rfl ?_;refine aA (aIM Tryz.underlying427 aEF tv3 rfl rfl (by first|exact .own .here|exact .own (.there .here)|exact .own (.there (.there .here))|exact .own (.there (.there (.there .here)))|exact .own (.there (.there (.there (.there .here)))))) rfl ?_;refine uBy ?_;refine aG (aE ?_);refine aH (aB ?_);refine uAa ?_;refine aG (aE ?_);refine bK 26 rfl (fun h26=>?_) (fun h26=>?_)
    ·
      refine aH (aB ?_);refine uAb ?_;refine aG (aE ?_);refine uCk ?_;refine aO (.cons (.there .here) (.cons (.there .here) (.cons (.there .here) .nil))) ?_;refine bF rfl rfl (Hl.le_refl _) ?_;have hgn:=aPR hes h26;exact⟨_,rfl,rfl,by rw[hgn];rfl,pv,es,c,hes,fun e h=>.inl h,by rw[hgn];simp⟩
    ·
      refine aW ?_;refine aE (aH ?_);refine aB ?_;refine uCo ?_;refine uCh ?_;refine uAb ?_;refine aG (aE ?_);refine aH (aB ?_);refine uAb ?_;refine aG (aE ?_);refine aUQ (fun(r:Option (List (List UInt8))) (pv2:Value) (cur:List (List UInt8)) (es2:List EntA) (c2:Nat)=>gl w0 v k i j=r∧(∀qs,r=some qs→cur=ps++qs)∧(r=none→cur.take ps.length=ps∧ps.length≤cur.length)∧yP w0 v k es2∧(∀e∈es2,e∈es∨j+1≤e.1.2)) (fun r _ _ _ _=>[(2,ptr bd),(3,ptr bp),(11,ptr b11),(14,i64 ps.length),(15,.bool r.isSome)]) (fun _ _ _ _ _=>K) (fun r pv2 cur es2 c2=>[pt b11 (aU [i64 i,i64 j] 428),pt bp (aU [pv2] 39),sl false (bT 9) pv2 cur,pt md (mapA es2 c2)]) ?_ ?_
      ·
        refine bE (aH ?_);refine uAf ?_;refine uBl ?_;refine uBs ?_;refine uCe ?_;refine aG (aE ?_);refine bK 44 rfl (fun h44=>?_) (fun h44=>?_)
        ·
          refine uAf ?_;refine uBl ?_;refine uBs ?_;refine uCe ?_;refine aG (aN ?_)
          first
            |(exact bV r2 pv2 cur es2 c2 ⟨(by cases r2 with|none=>(first|(rw[hln rfl,show v.length+1 - e=0 from by omega];rfl)|(simp at h66))|some q=>exact(hls q rfl).1),fun qs h=>(hls qs h).2,hlt,hld,hlw⟩ (.cons 2 rfl (.cons 3 rfl (.cons 11 rfl (.cons 14 rfl (.cons 15 rfl .nil))))) rfl bO)
            |(exact bV none pv ps es c ⟨lK hc hjl aI aI,(fun qs h=>by cases h),(fun _=>⟨List.take_length,Nat.le_refl _⟩),hes,(fun q hq=>.inl hq)⟩ (.cons 2 rfl (.cons 3 rfl (.cons 11 rfl (.cons 14 rfl (.cons 15 rfl .nil))))) rfl bO)
            | (have hge := gl_q (w := w0) hc hjl hx aI
               refine uBg ?_;rcases hq:gl w0 v k (i+1) (j+1)with _|qs
               · (rw[hq]at hge;exact bV none pv3 (ps++[((w0.take (i+1)).drop i)]++[]) es3 c3 ⟨hge,(fun qs h=>by cases h),(fun _=>⟨by simp,by simp⟩),hde3,(fun q hq2=>(hnew3 q hq2).elim (fun h=>.inl h) (fun h=>.inr h))⟩ (.cons 2 rfl (.cons 3 rfl (.cons 11 rfl (.cons 14 rfl (.cons 15 rfl .nil))))) rfl bO)
               · (rw[hq]at hge;exact bV (some (((w0.take (i+1)).drop i)::qs)) pv3 (ps++[((w0.take (i+1)).drop i)]++qs) es3 c3 ⟨hge,(fun qs2 h=>by cases h;simp),(fun h=>by cases h),hde3,(fun q hq2=>(hnew3 q hq2).elim (fun h=>.inl h) (fun h=>.inr h))⟩ (.cons 2 rfl (.cons 3 rfl (.cons 11 rfl (.cons 14 rfl (.cons 15 rfl .nil))))) rfl bO))
            | (have hxd : x = d := UInt8.toNat_inj.1 aI
               have hge:=gX (w:=w0) hc aI hx aI hd;rw[if_pos hxd]at hge;refine uAs ?_;rcases hq:gl w0 v k (i+1) (j+2)with _|qs
               · (rw[hq]at hge;exact bV none pv3 (ps++[]) es3 c3 ⟨hge,(fun qs h=>by cases h),(fun _=>⟨by simp,by simp⟩),hde3,(fun q hq2=>(hnew3 q hq2).elim (fun h=>.inl h) (fun h=>.inr aI))⟩ (.cons 2 rfl (.cons 3 rfl (.cons 11 rfl (.cons 14 rfl (.cons 15 rfl .nil))))) rfl bO)
               · (rw[hq]at hge;exact bV (some qs) pv3 (ps++qs) es3 c3 ⟨hge,(fun qs2 h=>by cases h;simp),(fun h=>by cases h),hde3,(fun q hq2=>(hnew3 q hq2).elim (fun h=>.inl h) (fun h=>.inr aI))⟩ (.cons 2 rfl (.cons 3 rfl (.cons 11 rfl (.cons 14 rfl (.cons 15 rfl .nil))))) rfl bO))
            | (have hxd : ¬ x = d := (fun h => by subst h; omega)
               have hge:=gX (w:=w0) hc aI hx aI hd;rw[if_neg hxd]at hge;exact bV none pv ps es c ⟨hge,(fun qs h=>by cases h),(fun _=>⟨List.take_length,Nat.le_refl _⟩),hes,(fun q hq=>.inl hq)⟩ (.cons 2 rfl (.cons 3 rfl (.cons 11 rfl (.cons 14 rfl (.cons 15 rfl .nil))))) rfl bO)
            | (have hxd : x = c1 := UInt8.toNat_inj.1 aI
               have hge:=gY (w:=w0) hc hjl hx aI aI aI;rw[if_pos hxd]at hge;refine uAs ?_;rcases hq:gl w0 v k (i+1) (j+1)with _|qs
               · (rw[hq]at hge;exact bV none pv3 (ps++[]) es3 c3 ⟨hge,(fun qs h=>by cases h),(fun _=>⟨by simp,by simp⟩),hde3,(fun q hq2=>(hnew3 q hq2).elim (fun h=>.inl h) (fun h=>.inr h))⟩ (.cons 2 rfl (.cons 3 rfl (.cons 11 rfl (.cons 14 rfl (.cons 15 rfl .nil))))) rfl bO)
               · (rw[hq]at hge;exact bV (some qs) pv3 (ps++qs) es3 c3 ⟨hge,(fun qs2 h=>by cases h;simp),(fun h=>by cases h),hde3,(fun q hq2=>(hnew3 q hq2).elim (fun h=>.inl h) (fun h=>.inr h))⟩ (.cons 2 rfl (.cons 3 rfl (.cons 11 rfl (.cons 14 rfl (.cons 15 rfl .nil))))) rfl bO))
            | (have hxd : ¬ x = c1 := (fun h => by subst h; omega)
               have hge:=gY (w:=w0) hc hjl hx aI aI aI;rw[if_neg hxd]at hge;exact bV none pv ps es c ⟨hge,(fun qs h=>by cases h),(fun _=>⟨List.take_length,Nat.le_refl _⟩),hes,(fun q hq=>.inl hq)⟩ (.cons 2 rfl (.cons 3 rfl (.cons 11 rfl (.cons 14 rfl (.cons 15 rfl .nil))))) rfl bO)
            | (have hge := nY (w := w0) (v := v) (k := k) (i := i) (j := j) aI
               by_cases hiv:i=v.length
               · (rw[if_pos hiv]at hge;rw[show decide ((i:Int)=(v.length:Int))=true from decide_eq_true aI];exact bV (some []) pv ps es c ⟨hge,(fun qs h=>by cases h;simp),(fun h=>by cases h),hes,(fun q hq=>.inl hq)⟩ (.cons 2 rfl (.cons 3 rfl (.cons 11 rfl (.cons 14 rfl (.cons 15 rfl .nil))))) rfl bO)
               · (rw[if_neg hiv]at hge;rw[show decide ((i:Int)=(v.length:Int))=false from decide_eq_false aI];exact bV none pv ps es c ⟨hge,(fun qs h=>by cases h),(fun _=>⟨List.take_length,Nat.le_refl _⟩),hes,(fun q hq=>.inl hq)⟩ (.cons 2 rfl (.cons 3 rfl (.cons 11 rfl (.cons 14 rfl (.cons 15 rfl .nil))))) rfl bO))
        ·
          have hjl:j < k.length:=by omega
          obtain⟨c1,hc⟩:∃c1,k[j]?=some c1:=⟨k[j]'hjl,List.getElem?_eq_getElem hjl⟩;refine aH (aB ?_);refine uBl ?_;refine uAa ?_;refine uFw ?_;refine uCe ?_;refine aG (aE ?_);refine bK 53 rfl (fun h53=>?_) (fun h53=>?_)
          ·
            refine aH (aB ?_);refine uEj ?_;refine aG (aE ?_);refine bE ?_;refine aEX (fun(e:Nat) (r2:Option (List (List UInt8))) (pv2:Value) (cur:List (List UInt8)) (es2:List EntA) (c2:Nat) (_:Unit)=>(i≤e∧e≤v.length+1)∧(r2=none→gl w0 v k i j=kA (fun e=>(gl w0 v k e (j+1)).map fun qs=>((w0.take e).drop i)::qs) (v.length+1 - e) e)∧(∀qs,r2=some qs→gl w0 v k i j=some qs∧cur=ps++qs)∧(r2=none→cur.take ps.length=ps∧ps.length≤cur.length)∧yP w0 v k es2∧(∀e∈es2,e∈es∨j+1≤e.1.2)) (fun e r2 _ _ _ _ _=>[(0,i64 i),(1,i64 j),(2,ptr bd),(3,ptr bp),(4,ptr bk),(5,ptr bv),(6,ptr bw),(7,ptr bm),(11,ptr b11),(14,i64 ps.length),(15,.bool r2.isSome),(16,i64 e)]) (fun _ _ _ _ _ _ _=>K) (fun _ _ pv2 cur es2 c2 _=>[pt b11 (aU [i64 i,i64 j] 428),pt bp (aU [pv2] 39),sl false (bT 9) pv2 cur,pt md (mapA es2 c2)]) (fun e _ _ _ _ _ _=>v.length+1 - e) i none pv ps es c () ⟨⟨Nat.le_refl _,by omega⟩,fun _=>aTO hc hjl aI,(fun qs h=>by cases h),(fun _=>⟨List.take_length,Nat.le_refl _⟩),hes,(fun q hq=>.inl hq)⟩ (.cons 0 rfl (.cons 1 rfl (.cons 2 rfl (.cons 3 rfl (.cons 4 rfl (.cons 5 rfl (.cons 6 rfl (.cons 7 rfl (.cons 11 rfl (.cons 14 rfl (.cons 15 rfl (.cons 16 rfl .nil)))))))))))) rfl (fun _ h=>h) ?_;intro e r2 pv2 cur es2 c2 _ ⟨hle,hln,hls,hlt,hld,hlw⟩;refine aH (aH ?_);refine uAf ?_;refine uBl ?_;refine uBs ?_;refine uEs ?_;refine uAa ?_;refine cG 63 rfl (fun g63=>?_) (fun g63=>?_)
            ·
              refine uAi ?_;refine aA (by first|exact dP rfl|exact dO rfl) rfl ?_;refine uAy ?_;refine aG (aE ?_);refine eJ 66 rfl (fun h66=>?_) (fun h66=>?_)
              ·
                obtain rfl:r2=none:=(by cases r2 with|none=>rfl|some q=>simp at h66);obtain⟨hct,hcl⟩:=hlt rfl;refine aW ?_;refine aE (aH ?_);refine bE (aH ?_);refine t_draw (anc:=[0,0,3,0,0,0,56,120,255,511]) (ord:=[0,1,2,3,4,5,6,7,8,9]) [7,8,9] [8,9] mixed (by decide+kernel) (.cons (.there .here) (.cons (.there .here) .nil)) ?_;refine dl_ev rfl rfl (.none rfl) rfl rfl (aJ ts39 rfl aL rfl) rfl ?_;refine uAj ?_;refine dl_ev rfl rfl (.none rfl) rfl rfl (tO (k:=bT 9) (m:=ps.length) cX rfl (.there .here) (.there .here) rfl rfl hcl) rfl ?_;refine uBa ?_;refine uGg ?_;refine dl_ev rfl rfl (.none rfl) rfl rfl (lJ (m:=i) (n:=e) Tryz.underlying9 rfl rfl rfl rfl rfl aI aI) rfl ?_;refine dl_s rfl rfl (.none rfl) rfl rfl (bN (z0:=[(str [])]) cX tz9 rfl rfl rfl rfl (.cons rfl rfl rfl (.cons .nil) .nil)) rfl ?_;rintro _ K _ ⟨b76,rfl,rfl,rfl⟩ -;refine⟨_,(show Tks _ _ _ from (.cons (.there .here) (.cons (.there .here) .nil))).sat,?_⟩
                refine dl_g rfl rfl (.none rfl) rfl (aTI (fun h hh=>fA (yI (m:=ps.length) hcl) h ((show Tks [_] _ _ from .cons (.there .here) .nil).sat h hh)) (dM (k:=(bT 9)) (ys:=[((w0.take e).drop i)]) iC rfl rfl .here (fun w j=>dB Tryz.underlying39 (SeesSl.at (.blk (.own (.there (.there .here))) rfl rfl) j)) (by rw[hct];first|(simp;omega)|omega) (by rw[hct];first|(simp;omega)|omega))) rfl ?_;rintro v77 K _ ⟨rfl,rfl,ho77⟩ -;refine kH rfl rfl (.none rfl) rfl (bH ts39 rfl rfl cD aX .zero rfl) ?_;rintro _ K _ ⟨rfl,rfl⟩ -;refine uDf ?_;rw[hct];refine aB ?_;refine aA (aJ aAZ rfl aL rfl) rfl ?_;refine uAx ?_;refine uCj ?_;rw[uN j];refine bC rfl rfl (ih e (j+1) (ps++[((w0.take e).drop i)]) es2 c2 _ _ aI ⟨kd,kk,kv,kw,km⟩ aI aI (by rw[List.length_append];simp only[List.length_singleton];omega) hld) (.cons (.there .here) (.cons .here (.cons (.there (.there .here)) .nil))) rfl ?_;rintro _ K _ ⟨rfl,rfl,pv3,es3,c3,hde3,hnew3,rfl⟩ -;refine uAb ?_;refine aG (aN ?_);refine aE (aB ?_);refine uAa ?_;refine uCj ?_;refine uAb ?_;refine aG ?_;refine uBg ?_;rcases hq:gl w0 v k e (j+1)with _|qs
                · (refine i8 (e+1) none pv3 (ps++[((w0.take e).drop i)]++[]) es3 c3 () ⟨⟨by omega,by omega⟩,(fun _=>by rw[hln rfl,aMI aI (by rw[hq];rfl)]),(fun qs h=>by cases h),(fun _=>⟨by simp,by simp⟩),hde3,(fun q hq2=>(hnew3 q hq2).elim (fun h=>hlw q h) (fun h=>.inr h))⟩ aI (.cons 0 rfl (.cons 1 rfl (.cons 2 rfl (.cons 3 rfl (.cons 4 rfl (.cons 5 rfl (.cons 6 rfl (.cons 7 rfl (.cons 11 rfl (.cons 14 rfl (.cons 15 rfl (.cons 16 rfl .nil)))))))))))) rfl bO)
                · (refine i8 (e+1) (some (((w0.take e).drop i)::qs)) pv3 (ps++[((w0.take e).drop i)]++qs) es3 c3 () ⟨⟨by omega,by omega⟩,(fun h=>by cases h),(fun qs2 h=>by cases h;exact⟨by rw[hln rfl,aIV aI (by rw[hq];rfl)],by simp⟩),(fun h=>by cases h),hde3,(fun q hq2=>(hnew3 q hq2).elim (fun h=>hlw q h) (fun h=>.inr h))⟩ aI (.cons 0 rfl (.cons 1 rfl (.cons 2 rfl (.cons 3 rfl (.cons 4 rfl (.cons 5 rfl (.cons 6 rfl (.cons 7 rfl (.cons 11 rfl (.cons 14 rfl (.cons 15 rfl (.cons 16 rfl .nil)))))))))))) rfl bO)
              ·
                refine uAp ?_;refine aN ?_
                first
                  |(exact bV r2 pv2 cur es2 c2 ⟨(by cases r2 with|none=>(first|(rw[hln rfl,show v.length+1 - e=0 from by omega];rfl)|(simp at h66))|some q=>exact(hls q rfl).1),fun qs h=>(hls qs h).2,hlt,hld,hlw⟩ (.cons 2 rfl (.cons 3 rfl (.cons 11 rfl (.cons 14 rfl (.cons 15 rfl .nil))))) rfl bO)
                  |(exact bV none pv ps es c ⟨lK hc hjl aI aI,(fun qs h=>by cases h),(fun _=>⟨List.take_length,Nat.le_refl _⟩),hes,(fun q hq=>.inl hq)⟩ (.cons 2 rfl (.cons 3 rfl (.cons 11 rfl (.cons 14 rfl (.cons 15 rfl .nil))))) rfl bO)
                  | (have hge := gl_q (w := w0) hc hjl hx aI
                     refine uBg ?_;rcases hq:gl w0 v k (i+1) (j+1)with _|qs
                     · (rw[hq]at hge;exact bV none pv3 (ps++[((w0.take (i+1)).drop i)]++[]) es3 c3 ⟨hge,(fun qs h=>by cases h),(fun _=>⟨by simp,by simp⟩),hde3,(fun q hq2=>(hnew3 q hq2).elim (fun h=>.inl h) (fun h=>.inr h))⟩ (.cons 2 rfl (.cons 3 rfl (.cons 11 rfl (.cons 14 rfl (.cons 15 rfl .nil))))) rfl bO)
                     · (rw[hq]at hge;exact bV (some (((w0.take (i+1)).drop i)::qs)) pv3 (ps++[((w0.take (i+1)).drop i)]++qs) es3 c3 ⟨hge,(fun qs2 h=>by cases h;simp),(fun h=>by cases h),hde3,(fun q hq2=>(hnew3 q hq2).elim (fun h=>.inl h) (fun h=>.inr h))⟩ (.cons 2 rfl (.cons 3 rfl (.cons 11 rfl (.cons 14 rfl (.cons 15 rfl .nil))))) rfl bO))
                  | (have hxd : x = d := UInt8.toNat_inj.1 aI
                     have hge:=gX (w:=w0) hc aI hx aI hd;rw[if_pos hxd]at hge;refine uAs ?_;rcases hq:gl w0 v k (i+1) (j+2)with _|qs
                     · (rw[hq]at hge;exact bV none pv3 (ps++[]) es3 c3 ⟨hge,(fun qs h=>by cases h),(fun _=>⟨by simp,by simp⟩),hde3,(fun q hq2=>(hnew3 q hq2).elim (fun h=>.inl h) (fun h=>.inr aI))⟩ (.cons 2 rfl (.cons 3 rfl (.cons 11 rfl (.cons 14 rfl (.cons 15 rfl .nil))))) rfl bO)
                     · (rw[hq]at hge;exact bV (some qs) pv3 (ps++qs) es3 c3 ⟨hge,(fun qs2 h=>by cases h;simp),(fun h=>by cases h),hde3,(fun q hq2=>(hnew3 q hq2).elim (fun h=>.inl h) (fun h=>.inr aI))⟩ (.cons 2 rfl (.cons 3 rfl (.cons 11 rfl (.cons 14 rfl (.cons 15 rfl .nil))))) rfl bO))
                  | (have hxd : ¬ x = d := (fun h => by subst h; omega)
                     have hge:=gX (w:=w0) hc aI hx aI hd;rw[if_neg hxd]at hge;exact bV none pv ps es c ⟨hge,(fun qs h=>by cases h),(fun _=>⟨List.take_length,Nat.le_refl _⟩),hes,(fun q hq=>.inl hq)⟩ (.cons 2 rfl (.cons 3 rfl (.cons 11 rfl (.cons 14 rfl (.cons 15 rfl .nil))))) rfl bO)
                  | (have hxd : x = c1 := UInt8.toNat_inj.1 aI
                     have hge:=gY (w:=w0) hc hjl hx aI aI aI;rw[if_pos hxd]at hge;refine uAs ?_;rcases hq:gl w0 v k (i+1) (j+1)with _|qs
                     · (rw[hq]at hge;exact bV none pv3 (ps++[]) es3 c3 ⟨hge,(fun qs h=>by cases h),(fun _=>⟨by simp,by simp⟩),hde3,(fun q hq2=>(hnew3 q hq2).elim (fun h=>.inl h) (fun h=>.inr h))⟩ (.cons 2 rfl (.cons 3 rfl (.cons 11 rfl (.cons 14 rfl (.cons 15 rfl .nil))))) rfl bO)
                     · (rw[hq]at hge;exact bV (some qs) pv3 (ps++qs) es3 c3 ⟨hge,(fun qs2 h=>by cases h;simp),(fun h=>by cases h),hde3,(fun q hq2=>(hnew3 q hq2).elim (fun h=>.inl h) (fun h=>.inr h))⟩ (.cons 2 rfl (.cons 3 rfl (.cons 11 rfl (.cons 14 rfl (.cons 15 rfl .nil))))) rfl bO))
                  | (have hxd : ¬ x = c1 := (fun h => by subst h; omega)
                     have hge:=gY (w:=w0) hc hjl hx aI aI aI;rw[if_neg hxd]at hge;exact bV none pv ps es c ⟨hge,(fun qs h=>by cases h),(fun _=>⟨List.take_length,Nat.le_refl _⟩),hes,(fun q hq=>.inl hq)⟩ (.cons 2 rfl (.cons 3 rfl (.cons 11 rfl (.cons 14 rfl (.cons 15 rfl .nil))))) rfl bO)
                  | (have hge := nY (w := w0) (v := v) (k := k) (i := i) (j := j) aI
                     by_cases hiv:i=v.length
                     · (rw[if_pos hiv]at hge;rw[show decide ((i:Int)=(v.length:Int))=true from decide_eq_true aI];exact bV (some []) pv ps es c ⟨hge,(fun qs h=>by cases h;simp),(fun h=>by cases h),hes,(fun q hq=>.inl hq)⟩ (.cons 2 rfl (.cons 3 rfl (.cons 11 rfl (.cons 14 rfl (.cons 15 rfl .nil))))) rfl bO)
                     · (rw[if_neg hiv]at hge;rw[show decide ((i:Int)=(v.length:Int))=false from decide_eq_false aI];exact bV none pv ps es c ⟨hge,(fun qs h=>by cases h),(fun _=>⟨List.take_length,Nat.le_refl _⟩),hes,(fun q hq=>.inl hq)⟩ (.cons 2 rfl (.cons 3 rfl (.cons 11 rfl (.cons 14 rfl (.cons 15 rfl .nil))))) rfl bO))
            ·
              refine uGo ?_;refine aG (aE ?_);refine uHq ?_;refine uAp ?_;refine aN ?_
              first
                |(exact bV r2 pv2 cur es2 c2 ⟨(by cases r2 with|none=>(first|(rw[hln rfl,show v.length+1 - e=0 from by omega];rfl)|(simp at h66))|some q=>exact(hls q rfl).1),fun qs h=>(hls qs h).2,hlt,hld,hlw⟩ (.cons 2 rfl (.cons 3 rfl (.cons 11 rfl (.cons 14 rfl (.cons 15 rfl .nil))))) rfl bO)
                |(exact bV none pv ps es c ⟨lK hc hjl aI aI,(fun qs h=>by cases h),(fun _=>⟨List.take_length,Nat.le_refl _⟩),hes,(fun q hq=>.inl hq)⟩ (.cons 2 rfl (.cons 3 rfl (.cons 11 rfl (.cons 14 rfl (.cons 15 rfl .nil))))) rfl bO)
                | (have hge := gl_q (w := w0) hc hjl hx aI
                   refine uBg ?_;rcases hq:gl w0 v k (i+1) (j+1)with _|qs
                   · (rw[hq]at hge;exact bV none pv3 (ps++[((w0.take (i+1)).drop i)]++[]) es3 c3 ⟨hge,(fun qs h=>by cases h),(fun _=>⟨by simp,by simp⟩),hde3,(fun q hq2=>(hnew3 q hq2).elim (fun h=>.inl h) (fun h=>.inr h))⟩ (.cons 2 rfl (.cons 3 rfl (.cons 11 rfl (.cons 14 rfl (.cons 15 rfl .nil))))) rfl bO)
                   · (rw[hq]at hge;exact bV (some (((w0.take (i+1)).drop i)::qs)) pv3 (ps++[((w0.take (i+1)).drop i)]++qs) es3 c3 ⟨hge,(fun qs2 h=>by cases h;simp),(fun h=>by cases h),hde3,(fun q hq2=>(hnew3 q hq2).elim (fun h=>.inl h) (fun h=>.inr h))⟩ (.cons 2 rfl (.cons 3 rfl (.cons 11 rfl (.cons 14 rfl (.cons 15 rfl .nil))))) rfl bO))
                | (have hxd : x = d := UInt8.toNat_inj.1 aI
                   have hge:=gX (w:=w0) hc aI hx aI hd;rw[if_pos hxd]at hge;refine uAs ?_;rcases hq:gl w0 v k (i+1) (j+2)with _|qs
                   · (rw[hq]at hge;exact bV none pv3 (ps++[]) es3 c3 ⟨hge,(fun qs h=>by cases h),(fun _=>⟨by simp,by simp⟩),hde3,(fun q hq2=>(hnew3 q hq2).elim (fun h=>.inl h) (fun h=>.inr aI))⟩ (.cons 2 rfl (.cons 3 rfl (.cons 11 rfl (.cons 14 rfl (.cons 15 rfl .nil))))) rfl bO)
                   · (rw[hq]at hge;exact bV (some qs) pv3 (ps++qs) es3 c3 ⟨hge,(fun qs2 h=>by cases h;simp),(fun h=>by cases h),hde3,(fun q hq2=>(hnew3 q hq2).elim (fun h=>.inl h) (fun h=>.inr aI))⟩ (.cons 2 rfl (.cons 3 rfl (.cons 11 rfl (.cons 14 rfl (.cons 15 rfl .nil))))) rfl bO))
                | (have hxd : ¬ x = d := (fun h => by subst h; omega)
                   have hge:=gX (w:=w0) hc aI hx aI hd;rw[if_neg hxd]at hge;exact bV none pv ps es c ⟨hge,(fun qs h=>by cases h),(fun _=>⟨List.take_length,Nat.le_refl _⟩),hes,(fun q hq=>.inl hq)⟩ (.cons 2 rfl (.cons 3 rfl (.cons 11 rfl (.cons 14 rfl (.cons 15 rfl .nil))))) rfl bO)
                | (have hxd : x = c1 := UInt8.toNat_inj.1 aI
                   have hge:=gY (w:=w0) hc hjl hx aI aI aI;rw[if_pos hxd]at hge;refine uAs ?_;rcases hq:gl w0 v k (i+1) (j+1)with _|qs
                   · (rw[hq]at hge;exact bV none pv3 (ps++[]) es3 c3 ⟨hge,(fun qs h=>by cases h),(fun _=>⟨by simp,by simp⟩),hde3,(fun q hq2=>(hnew3 q hq2).elim (fun h=>.inl h) (fun h=>.inr h))⟩ (.cons 2 rfl (.cons 3 rfl (.cons 11 rfl (.cons 14 rfl (.cons 15 rfl .nil))))) rfl bO)
                   · (rw[hq]at hge;exact bV (some qs) pv3 (ps++qs) es3 c3 ⟨hge,(fun qs2 h=>by cases h;simp),(fun h=>by cases h),hde3,(fun q hq2=>(hnew3 q hq2).elim (fun h=>.inl h) (fun h=>.inr h))⟩ (.cons 2 rfl (.cons 3 rfl (.cons 11 rfl (.cons 14 rfl (.cons 15 rfl .nil))))) rfl bO))
                | (have hxd : ¬ x = c1 := (fun h => by subst h; omega)
                   have hge:=gY (w:=w0) hc hjl hx aI aI aI;rw[if_neg hxd]at hge;exact bV none pv ps es c ⟨hge,(fun qs h=>by cases h),(fun _=>⟨List.take_length,Nat.le_refl _⟩),hes,(fun q hq=>.inl hq)⟩ (.cons 2 rfl (.cons 3 rfl (.cons 11 rfl (.cons 14 rfl (.cons 15 rfl .nil))))) rfl bO)
                | (have hge := nY (w := w0) (v := v) (k := k) (i := i) (j := j) aI
                   by_cases hiv:i=v.length
                   · (rw[if_pos hiv]at hge;rw[show decide ((i:Int)=(v.length:Int))=true from decide_eq_true aI];exact bV (some []) pv ps es c ⟨hge,(fun qs h=>by cases h;simp),(fun h=>by cases h),hes,(fun q hq=>.inl hq)⟩ (.cons 2 rfl (.cons 3 rfl (.cons 11 rfl (.cons 14 rfl (.cons 15 rfl .nil))))) rfl bO)
                   · (rw[if_neg hiv]at hge;rw[show decide ((i:Int)=(v.length:Int))=false from decide_eq_false aI];exact bV none pv ps es c ⟨hge,(fun qs h=>by cases h),(fun _=>⟨List.take_length,Nat.le_refl _⟩),hes,(fun q hq=>.inl hq)⟩ (.cons 2 rfl (.cons 3 rfl (.cons 11 rfl (.cons 14 rfl (.cons 15 rfl .nil))))) rfl bO))
          ·
            refine aH (aB ?_);refine uAa ?_;refine uBl ?_;refine uBs ?_;refine uCe ?_;refine aG (aE ?_);refine bK 83 rfl (fun h83=>?_) (fun h83=>?_)
            ·
              refine uGr ?_
              first
                |(exact bV r2 pv2 cur es2 c2 ⟨(by cases r2 with|none=>(first|(rw[hln rfl,show v.length+1 - e=0 from by omega];rfl)|(simp at h66))|some q=>exact(hls q rfl).1),fun qs h=>(hls qs h).2,hlt,hld,hlw⟩ (.cons 2 rfl (.cons 3 rfl (.cons 11 rfl (.cons 14 rfl (.cons 15 rfl .nil))))) rfl bO)
                |(exact bV none pv ps es c ⟨lK hc hjl aI aI,(fun qs h=>by cases h),(fun _=>⟨List.take_length,Nat.le_refl _⟩),hes,(fun q hq=>.inl hq)⟩ (.cons 2 rfl (.cons 3 rfl (.cons 11 rfl (.cons 14 rfl (.cons 15 rfl .nil))))) rfl bO)
                | (have hge := gl_q (w := w0) hc hjl hx aI
                   refine uBg ?_;rcases hq:gl w0 v k (i+1) (j+1)with _|qs
                   · (rw[hq]at hge;exact bV none pv3 (ps++[((w0.take (i+1)).drop i)]++[]) es3 c3 ⟨hge,(fun qs h=>by cases h),(fun _=>⟨by simp,by simp⟩),hde3,(fun q hq2=>(hnew3 q hq2).elim (fun h=>.inl h) (fun h=>.inr h))⟩ (.cons 2 rfl (.cons 3 rfl (.cons 11 rfl (.cons 14 rfl (.cons 15 rfl .nil))))) rfl bO)
                   · (rw[hq]at hge;exact bV (some (((w0.take (i+1)).drop i)::qs)) pv3 (ps++[((w0.take (i+1)).drop i)]++qs) es3 c3 ⟨hge,(fun qs2 h=>by cases h;simp),(fun h=>by cases h),hde3,(fun q hq2=>(hnew3 q hq2).elim (fun h=>.inl h) (fun h=>.inr h))⟩ (.cons 2 rfl (.cons 3 rfl (.cons 11 rfl (.cons 14 rfl (.cons 15 rfl .nil))))) rfl bO))
                | (have hxd : x = d := UInt8.toNat_inj.1 aI
                   have hge:=gX (w:=w0) hc aI hx aI hd;rw[if_pos hxd]at hge;refine uAs ?_;rcases hq:gl w0 v k (i+1) (j+2)with _|qs
                   · (rw[hq]at hge;exact bV none pv3 (ps++[]) es3 c3 ⟨hge,(fun qs h=>by cases h),(fun _=>⟨by simp,by simp⟩),hde3,(fun q hq2=>(hnew3 q hq2).elim (fun h=>.inl h) (fun h=>.inr aI))⟩ (.cons 2 rfl (.cons 3 rfl (.cons 11 rfl (.cons 14 rfl (.cons 15 rfl .nil))))) rfl bO)
                   · (rw[hq]at hge;exact bV (some qs) pv3 (ps++qs) es3 c3 ⟨hge,(fun qs2 h=>by cases h;simp),(fun h=>by cases h),hde3,(fun q hq2=>(hnew3 q hq2).elim (fun h=>.inl h) (fun h=>.inr aI))⟩ (.cons 2 rfl (.cons 3 rfl (.cons 11 rfl (.cons 14 rfl (.cons 15 rfl .nil))))) rfl bO))
                | (have hxd : ¬ x = d := (fun h => by subst h; omega)
                   have hge:=gX (w:=w0) hc aI hx aI hd;rw[if_neg hxd]at hge;exact bV none pv ps es c ⟨hge,(fun qs h=>by cases h),(fun _=>⟨List.take_length,Nat.le_refl _⟩),hes,(fun q hq=>.inl hq)⟩ (.cons 2 rfl (.cons 3 rfl (.cons 11 rfl (.cons 14 rfl (.cons 15 rfl .nil))))) rfl bO)
                | (have hxd : x = c1 := UInt8.toNat_inj.1 aI
                   have hge:=gY (w:=w0) hc hjl hx aI aI aI;rw[if_pos hxd]at hge;refine uAs ?_;rcases hq:gl w0 v k (i+1) (j+1)with _|qs
                   · (rw[hq]at hge;exact bV none pv3 (ps++[]) es3 c3 ⟨hge,(fun qs h=>by cases h),(fun _=>⟨by simp,by simp⟩),hde3,(fun q hq2=>(hnew3 q hq2).elim (fun h=>.inl h) (fun h=>.inr h))⟩ (.cons 2 rfl (.cons 3 rfl (.cons 11 rfl (.cons 14 rfl (.cons 15 rfl .nil))))) rfl bO)
                   · (rw[hq]at hge;exact bV (some qs) pv3 (ps++qs) es3 c3 ⟨hge,(fun qs2 h=>by cases h;simp),(fun h=>by cases h),hde3,(fun q hq2=>(hnew3 q hq2).elim (fun h=>.inl h) (fun h=>.inr h))⟩ (.cons 2 rfl (.cons 3 rfl (.cons 11 rfl (.cons 14 rfl (.cons 15 rfl .nil))))) rfl bO))
                | (have hxd : ¬ x = c1 := (fun h => by subst h; omega)
                   have hge:=gY (w:=w0) hc hjl hx aI aI aI;rw[if_neg hxd]at hge;exact bV none pv ps es c ⟨hge,(fun qs h=>by cases h),(fun _=>⟨List.take_length,Nat.le_refl _⟩),hes,(fun q hq=>.inl hq)⟩ (.cons 2 rfl (.cons 3 rfl (.cons 11 rfl (.cons 14 rfl (.cons 15 rfl .nil))))) rfl bO)
                | (have hge := nY (w := w0) (v := v) (k := k) (i := i) (j := j) aI
                   by_cases hiv:i=v.length
                   · (rw[if_pos hiv]at hge;rw[show decide ((i:Int)=(v.length:Int))=true from decide_eq_true aI];exact bV (some []) pv ps es c ⟨hge,(fun qs h=>by cases h;simp),(fun h=>by cases h),hes,(fun q hq=>.inl hq)⟩ (.cons 2 rfl (.cons 3 rfl (.cons 11 rfl (.cons 14 rfl (.cons 15 rfl .nil))))) rfl bO)
                   · (rw[if_neg hiv]at hge;rw[show decide ((i:Int)=(v.length:Int))=false from decide_eq_false aI];exact bV none pv ps es c ⟨hge,(fun qs h=>by cases h),(fun _=>⟨List.take_length,Nat.le_refl _⟩),hes,(fun q hq=>.inl hq)⟩ (.cons 2 rfl (.cons 3 rfl (.cons 11 rfl (.cons 14 rfl (.cons 15 rfl .nil))))) rfl bO))
            ·
              obtain⟨x,hx⟩:∃x,v[i]?=some x:=⟨v[i]'(by omega),List.getElem?_eq_getElem aI⟩;refine aH (aB ?_);refine uBl ?_;refine uAa ?_;refine uFw ?_;refine uCe ?_;refine aG (aE ?_);refine bK 88 rfl (fun h88=>?_) (fun h88=>?_)
              ·
                refine aH ?_;refine t_draw (anc:=[0,0,0,0,8,30,62,127,255]) (ord:=[0,1,2,3,4,5,6,7,8]) [6,7,8] [7,8] mixed (by decide+kernel) (.cons (.there .here) .nil) ?_;refine dl_ev rfl rfl (.none rfl) rfl rfl (aJ ts39 rfl aL rfl) rfl ?_;refine uBa ?_;refine uGg ?_;refine uCp ?_;refine dl_ev rfl rfl (.none rfl) rfl rfl (lJ (m:=i) (n:=i+1) Tryz.underlying9 rfl rfl rfl rfl rfl aI aI) rfl ?_;refine dl_s rfl rfl (.none rfl) rfl rfl (bN (z0:=[(str [])]) cX tz9 rfl rfl rfl rfl (.cons rfl rfl rfl (.cons .nil) .nil)) rfl ?_;rintro _ K _ ⟨b99,rfl,rfl,rfl⟩ -;refine⟨_,(show Tks _ _ _ from (.cons (.there .here) .nil)).sat,?_⟩
                refine dl_g rfl rfl (.none rfl) rfl (dM (k:=(bT 9)) (ys:=[((w0.take (i+1)).drop i)]) iC rfl rfl (.there (.there (.there .here))) (fun w j=>dB Tryz.underlying39 (SeesSl.at (.blk (.own (.there .here)) rfl rfl) j)) (by first|(simp;omega)|omega) (by first|(simp;omega)|omega)) rfl ?_;rintro v100 K _ ⟨rfl,rfl,ho100⟩ -;refine kH rfl rfl (.none rfl) rfl (bH ts39 rfl rfl cD aX .zero rfl) ?_;rintro _ K _ ⟨rfl,rfl⟩ -;refine dl_nil ?_;refine aE (aB ?_);refine aA (aJ aAZ rfl aL rfl) rfl ?_;refine uAa ?_;refine uCj ?_;refine uAa ?_;refine uCj ?_;rw[uN j,uN i];refine bC rfl rfl (ih (i+1) (j+1) (ps++[((w0.take (i+1)).drop i)]) es c _ _ aI ⟨kd,kk,kv,kw,km⟩ aI aI (by rw[List.length_append];simp only[List.length_singleton];omega) hes) (.cons (.there .here) (.cons .here (.cons (.there (.there .here)) .nil))) rfl ?_;rintro _ K _ ⟨rfl,rfl,pv3,es3,c3,hde3,hnew3,rfl⟩ -;refine uAb ?_;refine aG (aN ?_)
                first
                  |(exact bV r2 pv2 cur es2 c2 ⟨(by cases r2 with|none=>(first|(rw[hln rfl,show v.length+1 - e=0 from by omega];rfl)|(simp at h66))|some q=>exact(hls q rfl).1),fun qs h=>(hls qs h).2,hlt,hld,hlw⟩ (.cons 2 rfl (.cons 3 rfl (.cons 11 rfl (.cons 14 rfl (.cons 15 rfl .nil))))) rfl bO)
                  |(exact bV none pv ps es c ⟨lK hc hjl aI aI,(fun qs h=>by cases h),(fun _=>⟨List.take_length,Nat.le_refl _⟩),hes,(fun q hq=>.inl hq)⟩ (.cons 2 rfl (.cons 3 rfl (.cons 11 rfl (.cons 14 rfl (.cons 15 rfl .nil))))) rfl bO)
                  | (have hge := gl_q (w := w0) hc hjl hx aI
                     refine uBg ?_;rcases hq:gl w0 v k (i+1) (j+1)with _|qs
                     · (rw[hq]at hge;exact bV none pv3 (ps++[((w0.take (i+1)).drop i)]++[]) es3 c3 ⟨hge,(fun qs h=>by cases h),(fun _=>⟨by simp,by simp⟩),hde3,(fun q hq2=>(hnew3 q hq2).elim (fun h=>.inl h) (fun h=>.inr h))⟩ (.cons 2 rfl (.cons 3 rfl (.cons 11 rfl (.cons 14 rfl (.cons 15 rfl .nil))))) rfl bO)
                     · (rw[hq]at hge;exact bV (some (((w0.take (i+1)).drop i)::qs)) pv3 (ps++[((w0.take (i+1)).drop i)]++qs) es3 c3 ⟨hge,(fun qs2 h=>by cases h;simp),(fun h=>by cases h),hde3,(fun q hq2=>(hnew3 q hq2).elim (fun h=>.inl h) (fun h=>.inr h))⟩ (.cons 2 rfl (.cons 3 rfl (.cons 11 rfl (.cons 14 rfl (.cons 15 rfl .nil))))) rfl bO))
                  | (have hxd : x = d := UInt8.toNat_inj.1 aI
                     have hge:=gX (w:=w0) hc aI hx aI hd;rw[if_pos hxd]at hge;refine uAs ?_;rcases hq:gl w0 v k (i+1) (j+2)with _|qs
                     · (rw[hq]at hge;exact bV none pv3 (ps++[]) es3 c3 ⟨hge,(fun qs h=>by cases h),(fun _=>⟨by simp,by simp⟩),hde3,(fun q hq2=>(hnew3 q hq2).elim (fun h=>.inl h) (fun h=>.inr aI))⟩ (.cons 2 rfl (.cons 3 rfl (.cons 11 rfl (.cons 14 rfl (.cons 15 rfl .nil))))) rfl bO)
                     · (rw[hq]at hge;exact bV (some qs) pv3 (ps++qs) es3 c3 ⟨hge,(fun qs2 h=>by cases h;simp),(fun h=>by cases h),hde3,(fun q hq2=>(hnew3 q hq2).elim (fun h=>.inl h) (fun h=>.inr aI))⟩ (.cons 2 rfl (.cons 3 rfl (.cons 11 rfl (.cons 14 rfl (.cons 15 rfl .nil))))) rfl bO))
                  | (have hxd : ¬ x = d := (fun h => by subst h; omega)
                     have hge:=gX (w:=w0) hc aI hx aI hd;rw[if_neg hxd]at hge;exact bV none pv ps es c ⟨hge,(fun qs h=>by cases h),(fun _=>⟨List.take_length,Nat.le_refl _⟩),hes,(fun q hq=>.inl hq)⟩ (.cons 2 rfl (.cons 3 rfl (.cons 11 rfl (.cons 14 rfl (.cons 15 rfl .nil))))) rfl bO)
                  | (have hxd : x = c1 := UInt8.toNat_inj.1 aI
                     have hge:=gY (w:=w0) hc hjl hx aI aI aI;rw[if_pos hxd]at hge;refine uAs ?_;rcases hq:gl w0 v k (i+1) (j+1)with _|qs
                     · (rw[hq]at hge;exact bV none pv3 (ps++[]) es3 c3 ⟨hge,(fun qs h=>by cases h),(fun _=>⟨by simp,by simp⟩),hde3,(fun q hq2=>(hnew3 q hq2).elim (fun h=>.inl h) (fun h=>.inr h))⟩ (.cons 2 rfl (.cons 3 rfl (.cons 11 rfl (.cons 14 rfl (.cons 15 rfl .nil))))) rfl bO)
                     · (rw[hq]at hge;exact bV (some qs) pv3 (ps++qs) es3 c3 ⟨hge,(fun qs2 h=>by cases h;simp),(fun h=>by cases h),hde3,(fun q hq2=>(hnew3 q hq2).elim (fun h=>.inl h) (fun h=>.inr h))⟩ (.cons 2 rfl (.cons 3 rfl (.cons 11 rfl (.cons 14 rfl (.cons 15 rfl .nil))))) rfl bO))
                  | (have hxd : ¬ x = c1 := (fun h => by subst h; omega)
                     have hge:=gY (w:=w0) hc hjl hx aI aI aI;rw[if_neg hxd]at hge;exact bV none pv ps es c ⟨hge,(fun qs h=>by cases h),(fun _=>⟨List.take_length,Nat.le_refl _⟩),hes,(fun q hq=>.inl hq)⟩ (.cons 2 rfl (.cons 3 rfl (.cons 11 rfl (.cons 14 rfl (.cons 15 rfl .nil))))) rfl bO)
                  | (have hge := nY (w := w0) (v := v) (k := k) (i := i) (j := j) aI
                     by_cases hiv:i=v.length
                     · (rw[if_pos hiv]at hge;rw[show decide ((i:Int)=(v.length:Int))=true from decide_eq_true aI];exact bV (some []) pv ps es c ⟨hge,(fun qs h=>by cases h;simp),(fun h=>by cases h),hes,(fun q hq=>.inl hq)⟩ (.cons 2 rfl (.cons 3 rfl (.cons 11 rfl (.cons 14 rfl (.cons 15 rfl .nil))))) rfl bO)
                     · (rw[if_neg hiv]at hge;rw[show decide ((i:Int)=(v.length:Int))=false from decide_eq_false aI];exact bV none pv ps es c ⟨hge,(fun qs h=>by cases h),(fun _=>⟨List.take_length,Nat.le_refl _⟩),hes,(fun q hq=>.inl hq)⟩ (.cons 2 rfl (.cons 3 rfl (.cons 11 rfl (.cons 14 rfl (.cons 15 rfl .nil))))) rfl bO))
              ·
                refine aH (aB ?_);refine uBl ?_;refine uAa ?_;refine uFw ?_;refine uHf ?_;refine cG 112 rfl (fun g112=>?_) (fun g112=>?_)
                ·
                  refine uAi ?_;refine uCj ?_;refine uAz ?_;refine uBl ?_;refine uAz ?_;refine uBs ?_;refine uAz ?_;refine uBn ?_;refine uDv ?_;refine aG (aE ?_);refine bK 107 rfl (fun h107=>?_) (fun h107=>?_)
                  ·
                    obtain⟨d,hd⟩:∃d,k[j+1]?=some d:=⟨k[j+1]'(by omega),List.getElem?_eq_getElem aI⟩;refine t_draw (anc:=[0,0,3,0,0,16,56,127,255,511,511,1535,511,4607,16383,32767,65535]) (ord:=[0,1,2,3,4,5,6,7,8,9,10,11,12,13,14,15,16]) [14] [14] mixed (by decide+kernel) (cS _) ?_;refine uDl ?_;refine uBa ?_;refine uAj ?_;refine uCp ?_;refine dl_ev rfl rfl (.none rfl) rfl rfl (dJ Tryz.underlying9 rfl (j:=j+1) rfl (uN j) hd) rfl ?_;refine uEx ?_;refine dl_splitp 127 rfl (fun g127=>?_) (fun g127=>?_)
                    ·
                      refine uCa ?_;rw[aXZ j,uN i];refine gK rfl (.on rfl rfl rfl) rfl rfl rfl (ih (i+1) (j+2) ps es c _ _ aI ⟨kd,kk,kv,kw,km⟩ aI aI aI hes) (.cons (.there .here) (.cons (.there .here) (.cons (.there .here) .nil))) rfl ?_;rintro _ K _ ⟨rfl,rfl,pv3,es3,c3,hde3,hnew3,rfl⟩ -;refine uDq ?_;refine uGn ?_;refine aN ?_
                      first
                        |(exact bV r2 pv2 cur es2 c2 ⟨(by cases r2 with|none=>(first|(rw[hln rfl,show v.length+1 - e=0 from by omega];rfl)|(simp at h66))|some q=>exact(hls q rfl).1),fun qs h=>(hls qs h).2,hlt,hld,hlw⟩ (.cons 2 rfl (.cons 3 rfl (.cons 11 rfl (.cons 14 rfl (.cons 15 rfl .nil))))) rfl bO)
                        |(exact bV none pv ps es c ⟨lK hc hjl aI aI,(fun qs h=>by cases h),(fun _=>⟨List.take_length,Nat.le_refl _⟩),hes,(fun q hq=>.inl hq)⟩ (.cons 2 rfl (.cons 3 rfl (.cons 11 rfl (.cons 14 rfl (.cons 15 rfl .nil))))) rfl bO)
                        | (have hge := gl_q (w := w0) hc hjl hx aI
                           refine uBg ?_;rcases hq:gl w0 v k (i+1) (j+1)with _|qs
                           · (rw[hq]at hge;exact bV none pv3 (ps++[((w0.take (i+1)).drop i)]++[]) es3 c3 ⟨hge,(fun qs h=>by cases h),(fun _=>⟨by simp,by simp⟩),hde3,(fun q hq2=>(hnew3 q hq2).elim (fun h=>.inl h) (fun h=>.inr h))⟩ (.cons 2 rfl (.cons 3 rfl (.cons 11 rfl (.cons 14 rfl (.cons 15 rfl .nil))))) rfl bO)
                           · (rw[hq]at hge;exact bV (some (((w0.take (i+1)).drop i)::qs)) pv3 (ps++[((w0.take (i+1)).drop i)]++qs) es3 c3 ⟨hge,(fun qs2 h=>by cases h;simp),(fun h=>by cases h),hde3,(fun q hq2=>(hnew3 q hq2).elim (fun h=>.inl h) (fun h=>.inr h))⟩ (.cons 2 rfl (.cons 3 rfl (.cons 11 rfl (.cons 14 rfl (.cons 15 rfl .nil))))) rfl bO))
                        | (have hxd : x = d := UInt8.toNat_inj.1 aI
                           have hge:=gX (w:=w0) hc aI hx aI hd;rw[if_pos hxd]at hge;refine uAs ?_;rcases hq:gl w0 v k (i+1) (j+2)with _|qs
                           · (rw[hq]at hge;exact bV none pv3 (ps++[]) es3 c3 ⟨hge,(fun qs h=>by cases h),(fun _=>⟨by simp,by simp⟩),hde3,(fun q hq2=>(hnew3 q hq2).elim (fun h=>.inl h) (fun h=>.inr aI))⟩ (.cons 2 rfl (.cons 3 rfl (.cons 11 rfl (.cons 14 rfl (.cons 15 rfl .nil))))) rfl bO)
                           · (rw[hq]at hge;exact bV (some qs) pv3 (ps++qs) es3 c3 ⟨hge,(fun qs2 h=>by cases h;simp),(fun h=>by cases h),hde3,(fun q hq2=>(hnew3 q hq2).elim (fun h=>.inl h) (fun h=>.inr aI))⟩ (.cons 2 rfl (.cons 3 rfl (.cons 11 rfl (.cons 14 rfl (.cons 15 rfl .nil))))) rfl bO))
                        | (have hxd : ¬ x = d := (fun h => by subst h; omega)
                           have hge:=gX (w:=w0) hc aI hx aI hd;rw[if_neg hxd]at hge;exact bV none pv ps es c ⟨hge,(fun qs h=>by cases h),(fun _=>⟨List.take_length,Nat.le_refl _⟩),hes,(fun q hq=>.inl hq)⟩ (.cons 2 rfl (.cons 3 rfl (.cons 11 rfl (.cons 14 rfl (.cons 15 rfl .nil))))) rfl bO)
                        | (have hxd : x = c1 := UInt8.toNat_inj.1 aI
                           have hge:=gY (w:=w0) hc hjl hx aI aI aI;rw[if_pos hxd]at hge;refine uAs ?_;rcases hq:gl w0 v k (i+1) (j+1)with _|qs
                           · (rw[hq]at hge;exact bV none pv3 (ps++[]) es3 c3 ⟨hge,(fun qs h=>by cases h),(fun _=>⟨by simp,by simp⟩),hde3,(fun q hq2=>(hnew3 q hq2).elim (fun h=>.inl h) (fun h=>.inr h))⟩ (.cons 2 rfl (.cons 3 rfl (.cons 11 rfl (.cons 14 rfl (.cons 15 rfl .nil))))) rfl bO)
                           · (rw[hq]at hge;exact bV (some qs) pv3 (ps++qs) es3 c3 ⟨hge,(fun qs2 h=>by cases h;simp),(fun h=>by cases h),hde3,(fun q hq2=>(hnew3 q hq2).elim (fun h=>.inl h) (fun h=>.inr h))⟩ (.cons 2 rfl (.cons 3 rfl (.cons 11 rfl (.cons 14 rfl (.cons 15 rfl .nil))))) rfl bO))
                        | (have hxd : ¬ x = c1 := (fun h => by subst h; omega)
                           have hge:=gY (w:=w0) hc hjl hx aI aI aI;rw[if_neg hxd]at hge;exact bV none pv ps es c ⟨hge,(fun qs h=>by cases h),(fun _=>⟨List.take_length,Nat.le_refl _⟩),hes,(fun q hq=>.inl hq)⟩ (.cons 2 rfl (.cons 3 rfl (.cons 11 rfl (.cons 14 rfl (.cons 15 rfl .nil))))) rfl bO)
                        | (have hge := nY (w := w0) (v := v) (k := k) (i := i) (j := j) aI
                           by_cases hiv:i=v.length
                           · (rw[if_pos hiv]at hge;rw[show decide ((i:Int)=(v.length:Int))=true from decide_eq_true aI];exact bV (some []) pv ps es c ⟨hge,(fun qs h=>by cases h;simp),(fun h=>by cases h),hes,(fun q hq=>.inl hq)⟩ (.cons 2 rfl (.cons 3 rfl (.cons 11 rfl (.cons 14 rfl (.cons 15 rfl .nil))))) rfl bO)
                           · (rw[if_neg hiv]at hge;rw[show decide ((i:Int)=(v.length:Int))=false from decide_eq_false aI];exact bV none pv ps es c ⟨hge,(fun qs h=>by cases h),(fun _=>⟨List.take_length,Nat.le_refl _⟩),hes,(fun q hq=>.inl hq)⟩ (.cons 2 rfl (.cons 3 rfl (.cons 11 rfl (.cons 14 rfl (.cons 15 rfl .nil))))) rfl bO))
                    ·
                      refine dl_off rfl rfl (.off rfl rfl rfl) rfl ?_;refine dl_off rfl rfl (.off rfl rfl rfl) rfl ?_;refine dl_off rfl rfl (.off rfl rfl rfl) rfl ?_;refine dl_off rfl rfl (.off rfl rfl rfl) rfl ?_;refine dl_off rfl rfl (.off rfl rfl rfl) rfl ?_;refine dl_off rfl rfl (.off rfl rfl rfl) rfl ?_;refine uCb ?_;refine uGn ?_;refine aN ?_
                      first
                        |(exact bV r2 pv2 cur es2 c2 ⟨(by cases r2 with|none=>(first|(rw[hln rfl,show v.length+1 - e=0 from by omega];rfl)|(simp at h66))|some q=>exact(hls q rfl).1),fun qs h=>(hls qs h).2,hlt,hld,hlw⟩ (.cons 2 rfl (.cons 3 rfl (.cons 11 rfl (.cons 14 rfl (.cons 15 rfl .nil))))) rfl bO)
                        |(exact bV none pv ps es c ⟨lK hc hjl aI aI,(fun qs h=>by cases h),(fun _=>⟨List.take_length,Nat.le_refl _⟩),hes,(fun q hq=>.inl hq)⟩ (.cons 2 rfl (.cons 3 rfl (.cons 11 rfl (.cons 14 rfl (.cons 15 rfl .nil))))) rfl bO)
                        | (have hge := gl_q (w := w0) hc hjl hx aI
                           refine uBg ?_;rcases hq:gl w0 v k (i+1) (j+1)with _|qs
                           · (rw[hq]at hge;exact bV none pv3 (ps++[((w0.take (i+1)).drop i)]++[]) es3 c3 ⟨hge,(fun qs h=>by cases h),(fun _=>⟨by simp,by simp⟩),hde3,(fun q hq2=>(hnew3 q hq2).elim (fun h=>.inl h) (fun h=>.inr h))⟩ (.cons 2 rfl (.cons 3 rfl (.cons 11 rfl (.cons 14 rfl (.cons 15 rfl .nil))))) rfl bO)
                           · (rw[hq]at hge;exact bV (some (((w0.take (i+1)).drop i)::qs)) pv3 (ps++[((w0.take (i+1)).drop i)]++qs) es3 c3 ⟨hge,(fun qs2 h=>by cases h;simp),(fun h=>by cases h),hde3,(fun q hq2=>(hnew3 q hq2).elim (fun h=>.inl h) (fun h=>.inr h))⟩ (.cons 2 rfl (.cons 3 rfl (.cons 11 rfl (.cons 14 rfl (.cons 15 rfl .nil))))) rfl bO))
                        | (have hxd : x = d := UInt8.toNat_inj.1 aI
                           have hge:=gX (w:=w0) hc aI hx aI hd;rw[if_pos hxd]at hge;refine uAs ?_;rcases hq:gl w0 v k (i+1) (j+2)with _|qs
                           · (rw[hq]at hge;exact bV none pv3 (ps++[]) es3 c3 ⟨hge,(fun qs h=>by cases h),(fun _=>⟨by simp,by simp⟩),hde3,(fun q hq2=>(hnew3 q hq2).elim (fun h=>.inl h) (fun h=>.inr aI))⟩ (.cons 2 rfl (.cons 3 rfl (.cons 11 rfl (.cons 14 rfl (.cons 15 rfl .nil))))) rfl bO)
                           · (rw[hq]at hge;exact bV (some qs) pv3 (ps++qs) es3 c3 ⟨hge,(fun qs2 h=>by cases h;simp),(fun h=>by cases h),hde3,(fun q hq2=>(hnew3 q hq2).elim (fun h=>.inl h) (fun h=>.inr aI))⟩ (.cons 2 rfl (.cons 3 rfl (.cons 11 rfl (.cons 14 rfl (.cons 15 rfl .nil))))) rfl bO))
                        | (have hxd : ¬ x = d := (fun h => by subst h; omega)
                           have hge:=gX (w:=w0) hc aI hx aI hd;rw[if_neg hxd]at hge;exact bV none pv ps es c ⟨hge,(fun qs h=>by cases h),(fun _=>⟨List.take_length,Nat.le_refl _⟩),hes,(fun q hq=>.inl hq)⟩ (.cons 2 rfl (.cons 3 rfl (.cons 11 rfl (.cons 14 rfl (.cons 15 rfl .nil))))) rfl bO)
                        | (have hxd : x = c1 := UInt8.toNat_inj.1 aI
                           have hge:=gY (w:=w0) hc hjl hx aI aI aI;rw[if_pos hxd]at hge;refine uAs ?_;rcases hq:gl w0 v k (i+1) (j+1)with _|qs
                           · (rw[hq]at hge;exact bV none pv3 (ps++[]) es3 c3 ⟨hge,(fun qs h=>by cases h),(fun _=>⟨by simp,by simp⟩),hde3,(fun q hq2=>(hnew3 q hq2).elim (fun h=>.inl h) (fun h=>.inr h))⟩ (.cons 2 rfl (.cons 3 rfl (.cons 11 rfl (.cons 14 rfl (.cons 15 rfl .nil))))) rfl bO)
                           · (rw[hq]at hge;exact bV (some qs) pv3 (ps++qs) es3 c3 ⟨hge,(fun qs2 h=>by cases h;simp),(fun h=>by cases h),hde3,(fun q hq2=>(hnew3 q hq2).elim (fun h=>.inl h) (fun h=>.inr h))⟩ (.cons 2 rfl (.cons 3 rfl (.cons 11 rfl (.cons 14 rfl (.cons 15 rfl .nil))))) rfl bO))
                        | (have hxd : ¬ x = c1 := (fun h => by subst h; omega)
                           have hge:=gY (w:=w0) hc hjl hx aI aI aI;rw[if_neg hxd]at hge;exact bV none pv ps es c ⟨hge,(fun qs h=>by cases h),(fun _=>⟨List.take_length,Nat.le_refl _⟩),hes,(fun q hq=>.inl hq)⟩ (.cons 2 rfl (.cons 3 rfl (.cons 11 rfl (.cons 14 rfl (.cons 15 rfl .nil))))) rfl bO)
                        | (have hge := nY (w := w0) (v := v) (k := k) (i := i) (j := j) aI
                           by_cases hiv:i=v.length
                           · (rw[if_pos hiv]at hge;rw[show decide ((i:Int)=(v.length:Int))=true from decide_eq_true aI];exact bV (some []) pv ps es c ⟨hge,(fun qs h=>by cases h;simp),(fun h=>by cases h),hes,(fun q hq=>.inl hq)⟩ (.cons 2 rfl (.cons 3 rfl (.cons 11 rfl (.cons 14 rfl (.cons 15 rfl .nil))))) rfl bO)
                           · (rw[if_neg hiv]at hge;rw[show decide ((i:Int)=(v.length:Int))=false from decide_eq_false aI];exact bV none pv ps es c ⟨hge,(fun qs h=>by cases h),(fun _=>⟨List.take_length,Nat.le_refl _⟩),hes,(fun q hq=>.inl hq)⟩ (.cons 2 rfl (.cons 3 rfl (.cons 11 rfl (.cons 14 rfl (.cons 15 rfl .nil))))) rfl bO))
                  ·
                    refine t_draw (anc:=[0,0,3,0,0,24,63,127,255,255,767,255,2303,8191,16383,32767]) (ord:=[0,1,2,3,4,5,6,7,8,9,10,11,12,13,14,15]) [13] [13] mixed (by decide+kernel) (cS _) ?_;refine uDl ?_;refine uDl ?_;refine uEx ?_;refine dl_splitp 36 rfl (fun g36=>?_) (fun g36=>?_)
                    ·
                      refine uCa ?_;rw[uN j,uN i];refine gK rfl (.on rfl rfl rfl) rfl rfl rfl (ih (i+1) (j+1) ps es c _ _ aI ⟨kd,kk,kv,kw,km⟩ aI aI aI hes) (.cons (.there .here) (.cons (.there .here) (.cons (.there .here) .nil))) rfl ?_;rintro _ K _ ⟨rfl,rfl,pv3,es3,c3,hde3,hnew3,rfl⟩ -;refine uDq ?_;refine uGn ?_;refine aN ?_
                      first
                        |(exact bV r2 pv2 cur es2 c2 ⟨(by cases r2 with|none=>(first|(rw[hln rfl,show v.length+1 - e=0 from by omega];rfl)|(simp at h66))|some q=>exact(hls q rfl).1),fun qs h=>(hls qs h).2,hlt,hld,hlw⟩ (.cons 2 rfl (.cons 3 rfl (.cons 11 rfl (.cons 14 rfl (.cons 15 rfl .nil))))) rfl bO)
                        |(exact bV none pv ps es c ⟨lK hc hjl aI aI,(fun qs h=>by cases h),(fun _=>⟨List.take_length,Nat.le_refl _⟩),hes,(fun q hq=>.inl hq)⟩ (.cons 2 rfl (.cons 3 rfl (.cons 11 rfl (.cons 14 rfl (.cons 15 rfl .nil))))) rfl bO)
                        | (have hge := gl_q (w := w0) hc hjl hx aI
                           refine uBg ?_;rcases hq:gl w0 v k (i+1) (j+1)with _|qs
                           · (rw[hq]at hge;exact bV none pv3 (ps++[((w0.take (i+1)).drop i)]++[]) es3 c3 ⟨hge,(fun qs h=>by cases h),(fun _=>⟨by simp,by simp⟩),hde3,(fun q hq2=>(hnew3 q hq2).elim (fun h=>.inl h) (fun h=>.inr h))⟩ (.cons 2 rfl (.cons 3 rfl (.cons 11 rfl (.cons 14 rfl (.cons 15 rfl .nil))))) rfl bO)
                           · (rw[hq]at hge;exact bV (some (((w0.take (i+1)).drop i)::qs)) pv3 (ps++[((w0.take (i+1)).drop i)]++qs) es3 c3 ⟨hge,(fun qs2 h=>by cases h;simp),(fun h=>by cases h),hde3,(fun q hq2=>(hnew3 q hq2).elim (fun h=>.inl h) (fun h=>.inr h))⟩ (.cons 2 rfl (.cons 3 rfl (.cons 11 rfl (.cons 14 rfl (.cons 15 rfl .nil))))) rfl bO))
                        | (have hxd : x = d := UInt8.toNat_inj.1 aI
                           have hge:=gX (w:=w0) hc aI hx aI hd;rw[if_pos hxd]at hge;refine uAs ?_;rcases hq:gl w0 v k (i+1) (j+2)with _|qs
                           · (rw[hq]at hge;exact bV none pv3 (ps++[]) es3 c3 ⟨hge,(fun qs h=>by cases h),(fun _=>⟨by simp,by simp⟩),hde3,(fun q hq2=>(hnew3 q hq2).elim (fun h=>.inl h) (fun h=>.inr aI))⟩ (.cons 2 rfl (.cons 3 rfl (.cons 11 rfl (.cons 14 rfl (.cons 15 rfl .nil))))) rfl bO)
                           · (rw[hq]at hge;exact bV (some qs) pv3 (ps++qs) es3 c3 ⟨hge,(fun qs2 h=>by cases h;simp),(fun h=>by cases h),hde3,(fun q hq2=>(hnew3 q hq2).elim (fun h=>.inl h) (fun h=>.inr aI))⟩ (.cons 2 rfl (.cons 3 rfl (.cons 11 rfl (.cons 14 rfl (.cons 15 rfl .nil))))) rfl bO))
                        | (have hxd : ¬ x = d := (fun h => by subst h; omega)
                           have hge:=gX (w:=w0) hc aI hx aI hd;rw[if_neg hxd]at hge;exact bV none pv ps es c ⟨hge,(fun qs h=>by cases h),(fun _=>⟨List.take_length,Nat.le_refl _⟩),hes,(fun q hq=>.inl hq)⟩ (.cons 2 rfl (.cons 3 rfl (.cons 11 rfl (.cons 14 rfl (.cons 15 rfl .nil))))) rfl bO)
                        | (have hxd : x = c1 := UInt8.toNat_inj.1 aI
                           have hge:=gY (w:=w0) hc hjl hx aI aI aI;rw[if_pos hxd]at hge;refine uAs ?_;rcases hq:gl w0 v k (i+1) (j+1)with _|qs
                           · (rw[hq]at hge;exact bV none pv3 (ps++[]) es3 c3 ⟨hge,(fun qs h=>by cases h),(fun _=>⟨by simp,by simp⟩),hde3,(fun q hq2=>(hnew3 q hq2).elim (fun h=>.inl h) (fun h=>.inr h))⟩ (.cons 2 rfl (.cons 3 rfl (.cons 11 rfl (.cons 14 rfl (.cons 15 rfl .nil))))) rfl bO)
                           · (rw[hq]at hge;exact bV (some qs) pv3 (ps++qs) es3 c3 ⟨hge,(fun qs2 h=>by cases h;simp),(fun h=>by cases h),hde3,(fun q hq2=>(hnew3 q hq2).elim (fun h=>.inl h) (fun h=>.inr h))⟩ (.cons 2 rfl (.cons 3 rfl (.cons 11 rfl (.cons 14 rfl (.cons 15 rfl .nil))))) rfl bO))
                        | (have hxd : ¬ x = c1 := (fun h => by subst h; omega)
                           have hge:=gY (w:=w0) hc hjl hx aI aI aI;rw[if_neg hxd]at hge;exact bV none pv ps es c ⟨hge,(fun qs h=>by cases h),(fun _=>⟨List.take_length,Nat.le_refl _⟩),hes,(fun q hq=>.inl hq)⟩ (.cons 2 rfl (.cons 3 rfl (.cons 11 rfl (.cons 14 rfl (.cons 15 rfl .nil))))) rfl bO)
                        | (have hge := nY (w := w0) (v := v) (k := k) (i := i) (j := j) aI
                           by_cases hiv:i=v.length
                           · (rw[if_pos hiv]at hge;rw[show decide ((i:Int)=(v.length:Int))=true from decide_eq_true aI];exact bV (some []) pv ps es c ⟨hge,(fun qs h=>by cases h;simp),(fun h=>by cases h),hes,(fun q hq=>.inl hq)⟩ (.cons 2 rfl (.cons 3 rfl (.cons 11 rfl (.cons 14 rfl (.cons 15 rfl .nil))))) rfl bO)
                           · (rw[if_neg hiv]at hge;rw[show decide ((i:Int)=(v.length:Int))=false from decide_eq_false aI];exact bV none pv ps es c ⟨hge,(fun qs h=>by cases h),(fun _=>⟨List.take_length,Nat.le_refl _⟩),hes,(fun q hq=>.inl hq)⟩ (.cons 2 rfl (.cons 3 rfl (.cons 11 rfl (.cons 14 rfl (.cons 15 rfl .nil))))) rfl bO))
                    ·
                      refine dl_off rfl rfl (.off rfl rfl rfl) rfl ?_;refine dl_off rfl rfl (.off rfl rfl rfl) rfl ?_;refine dl_off rfl rfl (.off rfl rfl rfl) rfl ?_;refine dl_off rfl rfl (.off rfl rfl rfl) rfl ?_;refine dl_off rfl rfl (.off rfl rfl rfl) rfl ?_;refine dl_off rfl rfl (.off rfl rfl rfl) rfl ?_;refine uCb ?_;refine uGn ?_;refine aN ?_
                      first
                        |(exact bV r2 pv2 cur es2 c2 ⟨(by cases r2 with|none=>(first|(rw[hln rfl,show v.length+1 - e=0 from by omega];rfl)|(simp at h66))|some q=>exact(hls q rfl).1),fun qs h=>(hls qs h).2,hlt,hld,hlw⟩ (.cons 2 rfl (.cons 3 rfl (.cons 11 rfl (.cons 14 rfl (.cons 15 rfl .nil))))) rfl bO)
                        |(exact bV none pv ps es c ⟨lK hc hjl aI aI,(fun qs h=>by cases h),(fun _=>⟨List.take_length,Nat.le_refl _⟩),hes,(fun q hq=>.inl hq)⟩ (.cons 2 rfl (.cons 3 rfl (.cons 11 rfl (.cons 14 rfl (.cons 15 rfl .nil))))) rfl bO)
                        | (have hge := gl_q (w := w0) hc hjl hx aI
                           refine uBg ?_;rcases hq:gl w0 v k (i+1) (j+1)with _|qs
                           · (rw[hq]at hge;exact bV none pv3 (ps++[((w0.take (i+1)).drop i)]++[]) es3 c3 ⟨hge,(fun qs h=>by cases h),(fun _=>⟨by simp,by simp⟩),hde3,(fun q hq2=>(hnew3 q hq2).elim (fun h=>.inl h) (fun h=>.inr h))⟩ (.cons 2 rfl (.cons 3 rfl (.cons 11 rfl (.cons 14 rfl (.cons 15 rfl .nil))))) rfl bO)
                           · (rw[hq]at hge;exact bV (some (((w0.take (i+1)).drop i)::qs)) pv3 (ps++[((w0.take (i+1)).drop i)]++qs) es3 c3 ⟨hge,(fun qs2 h=>by cases h;simp),(fun h=>by cases h),hde3,(fun q hq2=>(hnew3 q hq2).elim (fun h=>.inl h) (fun h=>.inr h))⟩ (.cons 2 rfl (.cons 3 rfl (.cons 11 rfl (.cons 14 rfl (.cons 15 rfl .nil))))) rfl bO))
                        | (have hxd : x = d := UInt8.toNat_inj.1 aI
                           have hge:=gX (w:=w0) hc aI hx aI hd;rw[if_pos hxd]at hge;refine uAs ?_;rcases hq:gl w0 v k (i+1) (j+2)with _|qs
                           · (rw[hq]at hge;exact bV none pv3 (ps++[]) es3 c3 ⟨hge,(fun qs h=>by cases h),(fun _=>⟨by simp,by simp⟩),hde3,(fun q hq2=>(hnew3 q hq2).elim (fun h=>.inl h) (fun h=>.inr aI))⟩ (.cons 2 rfl (.cons 3 rfl (.cons 11 rfl (.cons 14 rfl (.cons 15 rfl .nil))))) rfl bO)
                           · (rw[hq]at hge;exact bV (some qs) pv3 (ps++qs) es3 c3 ⟨hge,(fun qs2 h=>by cases h;simp),(fun h=>by cases h),hde3,(fun q hq2=>(hnew3 q hq2).elim (fun h=>.inl h) (fun h=>.inr aI))⟩ (.cons 2 rfl (.cons 3 rfl (.cons 11 rfl (.cons 14 rfl (.cons 15 rfl .nil))))) rfl bO))
                        | (have hxd : ¬ x = d := (fun h => by subst h; omega)
                           have hge:=gX (w:=w0) hc aI hx aI hd;rw[if_neg hxd]at hge;exact bV none pv ps es c ⟨hge,(fun qs h=>by cases h),(fun _=>⟨List.take_length,Nat.le_refl _⟩),hes,(fun q hq=>.inl hq)⟩ (.cons 2 rfl (.cons 3 rfl (.cons 11 rfl (.cons 14 rfl (.cons 15 rfl .nil))))) rfl bO)
                        | (have hxd : x = c1 := UInt8.toNat_inj.1 aI
                           have hge:=gY (w:=w0) hc hjl hx aI aI aI;rw[if_pos hxd]at hge;refine uAs ?_;rcases hq:gl w0 v k (i+1) (j+1)with _|qs
                           · (rw[hq]at hge;exact bV none pv3 (ps++[]) es3 c3 ⟨hge,(fun qs h=>by cases h),(fun _=>⟨by simp,by simp⟩),hde3,(fun q hq2=>(hnew3 q hq2).elim (fun h=>.inl h) (fun h=>.inr h))⟩ (.cons 2 rfl (.cons 3 rfl (.cons 11 rfl (.cons 14 rfl (.cons 15 rfl .nil))))) rfl bO)
                           · (rw[hq]at hge;exact bV (some qs) pv3 (ps++qs) es3 c3 ⟨hge,(fun qs2 h=>by cases h;simp),(fun h=>by cases h),hde3,(fun q hq2=>(hnew3 q hq2).elim (fun h=>.inl h) (fun h=>.inr h))⟩ (.cons 2 rfl (.cons 3 rfl (.cons 11 rfl (.cons 14 rfl (.cons 15 rfl .nil))))) rfl bO))
                        | (have hxd : ¬ x = c1 := (fun h => by subst h; omega)
                           have hge:=gY (w:=w0) hc hjl hx aI aI aI;rw[if_neg hxd]at hge;exact bV none pv ps es c ⟨hge,(fun qs h=>by cases h),(fun _=>⟨List.take_length,Nat.le_refl _⟩),hes,(fun q hq=>.inl hq)⟩ (.cons 2 rfl (.cons 3 rfl (.cons 11 rfl (.cons 14 rfl (.cons 15 rfl .nil))))) rfl bO)
                        | (have hge := nY (w := w0) (v := v) (k := k) (i := i) (j := j) aI
                           by_cases hiv:i=v.length
                           · (rw[if_pos hiv]at hge;rw[show decide ((i:Int)=(v.length:Int))=true from decide_eq_true aI];exact bV (some []) pv ps es c ⟨hge,(fun qs h=>by cases h;simp),(fun h=>by cases h),hes,(fun q hq=>.inl hq)⟩ (.cons 2 rfl (.cons 3 rfl (.cons 11 rfl (.cons 14 rfl (.cons 15 rfl .nil))))) rfl bO)
                           · (rw[if_neg hiv]at hge;rw[show decide ((i:Int)=(v.length:Int))=false from decide_eq_false aI];exact bV none pv ps es c ⟨hge,(fun qs h=>by cases h),(fun _=>⟨List.take_length,Nat.le_refl _⟩),hes,(fun q hq=>.inl hq)⟩ (.cons 2 rfl (.cons 3 rfl (.cons 11 rfl (.cons 14 rfl (.cons 15 rfl .nil))))) rfl bO))
                ·
                  refine uAc ?_;refine uGo ?_;refine uAb ?_;refine aG (aE ?_);refine uHq ?_;refine t_draw (anc:=[0,0,3,0,0,24,63,127,255,255,767,255,2303,8191,16383,32767]) (ord:=[0,1,2,3,4,5,6,7,8,9,10,11,12,13,14,15]) [13] [13] mixed (by decide+kernel) (cS _) ?_;refine uDl ?_;refine uDl ?_;refine uEx ?_;refine dl_splitp 36 rfl (fun g36=>?_) (fun g36=>?_)
                  ·
                    refine uCa ?_;rw[uN j,uN i];refine gK rfl (.on rfl rfl rfl) rfl rfl rfl (ih (i+1) (j+1) ps es c _ _ aI ⟨kd,kk,kv,kw,km⟩ aI aI aI hes) (.cons (.there .here) (.cons (.there .here) (.cons (.there .here) .nil))) rfl ?_;rintro _ K _ ⟨rfl,rfl,pv3,es3,c3,hde3,hnew3,rfl⟩ -;refine uDq ?_;refine uGn ?_;refine aN ?_
                    first
                      |(exact bV r2 pv2 cur es2 c2 ⟨(by cases r2 with|none=>(first|(rw[hln rfl,show v.length+1 - e=0 from by omega];rfl)|(simp at h66))|some q=>exact(hls q rfl).1),fun qs h=>(hls qs h).2,hlt,hld,hlw⟩ (.cons 2 rfl (.cons 3 rfl (.cons 11 rfl (.cons 14 rfl (.cons 15 rfl .nil))))) rfl bO)
                      |(exact bV none pv ps es c ⟨lK hc hjl aI aI,(fun qs h=>by cases h),(fun _=>⟨List.take_length,Nat.le_refl _⟩),hes,(fun q hq=>.inl hq)⟩ (.cons 2 rfl (.cons 3 rfl (.cons 11 rfl (.cons 14 rfl (.cons 15 rfl .nil))))) rfl bO)
                      | (have hge := gl_q (w := w0) hc hjl hx aI
                         refine uBg ?_;rcases hq:gl w0 v k (i+1) (j+1)with _|qs
                         · (rw[hq]at hge;exact bV none pv3 (ps++[((w0.take (i+1)).drop i)]++[]) es3 c3 ⟨hge,(fun qs h=>by cases h),(fun _=>⟨by simp,by simp⟩),hde3,(fun q hq2=>(hnew3 q hq2).elim (fun h=>.inl h) (fun h=>.inr h))⟩ (.cons 2 rfl (.cons 3 rfl (.cons 11 rfl (.cons 14 rfl (.cons 15 rfl .nil))))) rfl bO)
                         · (rw[hq]at hge;exact bV (some (((w0.take (i+1)).drop i)::qs)) pv3 (ps++[((w0.take (i+1)).drop i)]++qs) es3 c3 ⟨hge,(fun qs2 h=>by cases h;simp),(fun h=>by cases h),hde3,(fun q hq2=>(hnew3 q hq2).elim (fun h=>.inl h) (fun h=>.inr h))⟩ (.cons 2 rfl (.cons 3 rfl (.cons 11 rfl (.cons 14 rfl (.cons 15 rfl .nil))))) rfl bO))
                      | (have hxd : x = d := UInt8.toNat_inj.1 aI
                         have hge:=gX (w:=w0) hc aI hx aI hd;rw[if_pos hxd]at hge;refine uAs ?_;rcases hq:gl w0 v k (i+1) (j+2)with _|qs
                         · (rw[hq]at hge;exact bV none pv3 (ps++[]) es3 c3 ⟨hge,(fun qs h=>by cases h),(fun _=>⟨by simp,by simp⟩),hde3,(fun q hq2=>(hnew3 q hq2).elim (fun h=>.inl h) (fun h=>.inr aI))⟩ (.cons 2 rfl (.cons 3 rfl (.cons 11 rfl (.cons 14 rfl (.cons 15 rfl .nil))))) rfl bO)
                         · (rw[hq]at hge;exact bV (some qs) pv3 (ps++qs) es3 c3 ⟨hge,(fun qs2 h=>by cases h;simp),(fun h=>by cases h),hde3,(fun q hq2=>(hnew3 q hq2).elim (fun h=>.inl h) (fun h=>.inr aI))⟩ (.cons 2 rfl (.cons 3 rfl (.cons 11 rfl (.cons 14 rfl (.cons 15 rfl .nil))))) rfl bO))
                      | (have hxd : ¬ x = d := (fun h => by subst h; omega)
                         have hge:=gX (w:=w0) hc aI hx aI hd;rw[if_neg hxd]at hge;exact bV none pv ps es c ⟨hge,(fun qs h=>by cases h),(fun _=>⟨List.take_length,Nat.le_refl _⟩),hes,(fun q hq=>.inl hq)⟩ (.cons 2 rfl (.cons 3 rfl (.cons 11 rfl (.cons 14 rfl (.cons 15 rfl .nil))))) rfl bO)
                      | (have hxd : x = c1 := UInt8.toNat_inj.1 aI
                         have hge:=gY (w:=w0) hc hjl hx aI aI aI;rw[if_pos hxd]at hge;refine uAs ?_;rcases hq:gl w0 v k (i+1) (j+1)with _|qs
                         · (rw[hq]at hge;exact bV none pv3 (ps++[]) es3 c3 ⟨hge,(fun qs h=>by cases h),(fun _=>⟨by simp,by simp⟩),hde3,(fun q hq2=>(hnew3 q hq2).elim (fun h=>.inl h) (fun h=>.inr h))⟩ (.cons 2 rfl (.cons 3 rfl (.cons 11 rfl (.cons 14 rfl (.cons 15 rfl .nil))))) rfl bO)
                         · (rw[hq]at hge;exact bV (some qs) pv3 (ps++qs) es3 c3 ⟨hge,(fun qs2 h=>by cases h;simp),(fun h=>by cases h),hde3,(fun q hq2=>(hnew3 q hq2).elim (fun h=>.inl h) (fun h=>.inr h))⟩ (.cons 2 rfl (.cons 3 rfl (.cons 11 rfl (.cons 14 rfl (.cons 15 rfl .nil))))) rfl bO))
                      | (have hxd : ¬ x = c1 := (fun h => by subst h; omega)
                         have hge:=gY (w:=w0) hc hjl hx aI aI aI;rw[if_neg hxd]at hge;exact bV none pv ps es c ⟨hge,(fun qs h=>by cases h),(fun _=>⟨List.take_length,Nat.le_refl _⟩),hes,(fun q hq=>.inl hq)⟩ (.cons 2 rfl (.cons 3 rfl (.cons 11 rfl (.cons 14 rfl (.cons 15 rfl .nil))))) rfl bO)
                      | (have hge := nY (w := w0) (v := v) (k := k) (i := i) (j := j) aI
                         by_cases hiv:i=v.length
                         · (rw[if_pos hiv]at hge;rw[show decide ((i:Int)=(v.length:Int))=true from decide_eq_true aI];exact bV (some []) pv ps es c ⟨hge,(fun qs h=>by cases h;simp),(fun h=>by cases h),hes,(fun q hq=>.inl hq)⟩ (.cons 2 rfl (.cons 3 rfl (.cons 11 rfl (.cons 14 rfl (.cons 15 rfl .nil))))) rfl bO)
                         · (rw[if_neg hiv]at hge;rw[show decide ((i:Int)=(v.length:Int))=false from decide_eq_false aI];exact bV none pv ps es c ⟨hge,(fun qs h=>by cases h),(fun _=>⟨List.take_length,Nat.le_refl _⟩),hes,(fun q hq=>.inl hq)⟩ (.cons 2 rfl (.cons 3 rfl (.cons 11 rfl (.cons 14 rfl (.cons 15 rfl .nil))))) rfl bO))
                  ·
                    refine dl_off rfl rfl (.off rfl rfl rfl) rfl ?_;refine dl_off rfl rfl (.off rfl rfl rfl) rfl ?_;refine dl_off rfl rfl (.off rfl rfl rfl) rfl ?_;refine dl_off rfl rfl (.off rfl rfl rfl) rfl ?_;refine dl_off rfl rfl (.off rfl rfl rfl) rfl ?_;refine dl_off rfl rfl (.off rfl rfl rfl) rfl ?_;refine uCb ?_;refine uGn ?_;refine aN ?_
                    first
                      |(exact bV r2 pv2 cur es2 c2 ⟨(by cases r2 with|none=>(first|(rw[hln rfl,show v.length+1 - e=0 from by omega];rfl)|(simp at h66))|some q=>exact(hls q rfl).1),fun qs h=>(hls qs h).2,hlt,hld,hlw⟩ (.cons 2 rfl (.cons 3 rfl (.cons 11 rfl (.cons 14 rfl (.cons 15 rfl .nil))))) rfl bO)
                      |(exact bV none pv ps es c ⟨lK hc hjl aI aI,(fun qs h=>by cases h),(fun _=>⟨List.take_length,Nat.le_refl _⟩),hes,(fun q hq=>.inl hq)⟩ (.cons 2 rfl (.cons 3 rfl (.cons 11 rfl (.cons 14 rfl (.cons 15 rfl .nil))))) rfl bO)
                      | (have hge := gl_q (w := w0) hc hjl hx aI
                         refine uBg ?_;rcases hq:gl w0 v k (i+1) (j+1)with _|qs
                         · (rw[hq]at hge;exact bV none pv3 (ps++[((w0.take (i+1)).drop i)]++[]) es3 c3 ⟨hge,(fun qs h=>by cases h),(fun _=>⟨by simp,by simp⟩),hde3,(fun q hq2=>(hnew3 q hq2).elim (fun h=>.inl h) (fun h=>.inr h))⟩ (.cons 2 rfl (.cons 3 rfl (.cons 11 rfl (.cons 14 rfl (.cons 15 rfl .nil))))) rfl bO)
                         · (rw[hq]at hge;exact bV (some (((w0.take (i+1)).drop i)::qs)) pv3 (ps++[((w0.take (i+1)).drop i)]++qs) es3 c3 ⟨hge,(fun qs2 h=>by cases h;simp),(fun h=>by cases h),hde3,(fun q hq2=>(hnew3 q hq2).elim (fun h=>.inl h) (fun h=>.inr h))⟩ (.cons 2 rfl (.cons 3 rfl (.cons 11 rfl (.cons 14 rfl (.cons 15 rfl .nil))))) rfl bO))
                      | (have hxd : x = d := UInt8.toNat_inj.1 aI
                         have hge:=gX (w:=w0) hc aI hx aI hd;rw[if_pos hxd]at hge;refine uAs ?_;rcases hq:gl w0 v k (i+1) (j+2)with _|qs
                         · (rw[hq]at hge;exact bV none pv3 (ps++[]) es3 c3 ⟨hge,(fun qs h=>by cases h),(fun _=>⟨by simp,by simp⟩),hde3,(fun q hq2=>(hnew3 q hq2).elim (fun h=>.inl h) (fun h=>.inr aI))⟩ (.cons 2 rfl (.cons 3 rfl (.cons 11 rfl (.cons 14 rfl (.cons 15 rfl .nil))))) rfl bO)
                         · (rw[hq]at hge;exact bV (some qs) pv3 (ps++qs) es3 c3 ⟨hge,(fun qs2 h=>by cases h;simp),(fun h=>by cases h),hde3,(fun q hq2=>(hnew3 q hq2).elim (fun h=>.inl h) (fun h=>.inr aI))⟩ (.cons 2 rfl (.cons 3 rfl (.cons 11 rfl (.cons 14 rfl (.cons 15 rfl .nil))))) rfl bO))
                      | (have hxd : ¬ x = d := (fun h => by subst h; omega)
                         have hge:=gX (w:=w0) hc aI hx aI hd;rw[if_neg hxd]at hge;exact bV none pv ps es c ⟨hge,(fun qs h=>by cases h),(fun _=>⟨List.take_length,Nat.le_refl _⟩),hes,(fun q hq=>.inl hq)⟩ (.cons 2 rfl (.cons 3 rfl (.cons 11 rfl (.cons 14 rfl (.cons 15 rfl .nil))))) rfl bO)
                      | (have hxd : x = c1 := UInt8.toNat_inj.1 aI
                         have hge:=gY (w:=w0) hc hjl hx aI aI aI;rw[if_pos hxd]at hge;refine uAs ?_;rcases hq:gl w0 v k (i+1) (j+1)with _|qs
                         · (rw[hq]at hge;exact bV none pv3 (ps++[]) es3 c3 ⟨hge,(fun qs h=>by cases h),(fun _=>⟨by simp,by simp⟩),hde3,(fun q hq2=>(hnew3 q hq2).elim (fun h=>.inl h) (fun h=>.inr h))⟩ (.cons 2 rfl (.cons 3 rfl (.cons 11 rfl (.cons 14 rfl (.cons 15 rfl .nil))))) rfl bO)
                         · (rw[hq]at hge;exact bV (some qs) pv3 (ps++qs) es3 c3 ⟨hge,(fun qs2 h=>by cases h;simp),(fun h=>by cases h),hde3,(fun q hq2=>(hnew3 q hq2).elim (fun h=>.inl h) (fun h=>.inr h))⟩ (.cons 2 rfl (.cons 3 rfl (.cons 11 rfl (.cons 14 rfl (.cons 15 rfl .nil))))) rfl bO))
                      | (have hxd : ¬ x = c1 := (fun h => by subst h; omega)
                         have hge:=gY (w:=w0) hc hjl hx aI aI aI;rw[if_neg hxd]at hge;exact bV none pv ps es c ⟨hge,(fun qs h=>by cases h),(fun _=>⟨List.take_length,Nat.le_refl _⟩),hes,(fun q hq=>.inl hq)⟩ (.cons 2 rfl (.cons 3 rfl (.cons 11 rfl (.cons 14 rfl (.cons 15 rfl .nil))))) rfl bO)
                      | (have hge := nY (w := w0) (v := v) (k := k) (i := i) (j := j) aI
                         by_cases hiv:i=v.length
                         · (rw[if_pos hiv]at hge;rw[show decide ((i:Int)=(v.length:Int))=true from decide_eq_true aI];exact bV (some []) pv ps es c ⟨hge,(fun qs h=>by cases h;simp),(fun h=>by cases h),hes,(fun q hq=>.inl hq)⟩ (.cons 2 rfl (.cons 3 rfl (.cons 11 rfl (.cons 14 rfl (.cons 15 rfl .nil))))) rfl bO)
                         · (rw[if_neg hiv]at hge;rw[show decide ((i:Int)=(v.length:Int))=false from decide_eq_false aI];exact bV none pv ps es c ⟨hge,(fun qs h=>by cases h),(fun _=>⟨List.take_length,Nat.le_refl _⟩),hes,(fun q hq=>.inl hq)⟩ (.cons 2 rfl (.cons 3 rfl (.cons 11 rfl (.cons 14 rfl (.cons 15 rfl .nil))))) rfl bO))
      ·
        intro r pv2 cur es2 c2 ⟨hgr,hsm,hno,hde,hnw⟩;refine aH (aH ?_);refine uAf ?_;refine aA (by first|exact dP rfl|exact dO rfl) rfl ?_;refine aG (aE ?_);refine eJ 136 rfl (fun h136=>?_) (fun h136=>?_)
        ·
          obtain rfl:r=none:=(by cases r with|none=>rfl|some q=>simp at h136);obtain⟨hct,hcl⟩:=hno rfl;have hnm:(i,j)∉es2.map (fun x=>x.1):=(by intro hm;obtain⟨e,he,e2⟩:=List.mem_map.1 hm;rcases hnw e he with h|h;exact h26 (List.mem_map.2 ⟨e,h,e2⟩);(rw[e2]at h;simp at h;omega));refine aH ?_;refine aAS (fun h hs=>aRR (n:=ps.length) hs) fun hone=>?_
          refine aB ?_;refine uCo ?_;refine uAa ?_;refine aA (tO (k:=bT 9) (m:=ps.length) cX rfl (.there (.there .here)) (.there (.there .here)) rfl rfl hcl) rfl ?_;refine bP (bH ts39 rfl rfl cD aX .zero rfl) ?_;rintro _ K _ ⟨rfl,rfl⟩ -;refine aG (aE ?_);refine aB ?_;refine aA (aJ aSM rfl aL rfl) rfl ?_;refine aA (bX aE2 rfl aL rfl rfl) rfl ?_;refine bP (aW6 Tryz.underlying427 aEF rfl rfl rfl hnm (by first|exact .here|exact .there .here|exact .there (.there .here)|exact .there (.there (.there .here)))) ?_;rintro _ K _ ⟨rfl,rfl⟩ -;refine aG (aE ?_);refine aH (aB ?_);refine uEj ?_;refine aG (aE ?_);refine bI ?_
          first
            |(refine aO (.cons (.there (.there .here)) (.cons (.there .here) (.cons (.there .here) .nil))) ?_;refine dN (fA (yI (m:=ps.length) hcl)) ?_;rw[hct];refine aO (.cons (.there .here) (.cons .here (.cons .here .nil))) ?_)
            |(refine aO (.cons (.there .here) (.cons (.there .here) (.cons (.there .here) .nil))) ?_)
          refine bF rfl rfl (Hl.le_refl _) ?_
          first
            |exact⟨_,rfl,rfl,by simp[hgr],slTo pv2 ps.length,es2++[((i,j),c2)],c2+1,(fun e he=>by rcases List.mem_append.1 he with h|h;exact hde e h;(simp at h;subst h;exact hgr)),(fun e he=>by rcases List.mem_append.1 he with h|h;exact(hnw e h).imp_right (fun h=>by omega);(simp at h;subst h;exact .inr (Nat.le_refl _))),by simp[hgr]⟩
            |exact⟨_,rfl,rfl,by simp[hgr],pv2,es2,c2,hde,(fun e he=>(hnw e he).imp_right (fun h=>by omega)),by simp[hgr]⟩
        ·
          obtain⟨qs,rfl⟩:∃qs,r=some qs:=(by cases r with|none=>simp at h136|some q=>exact⟨q,rfl⟩);obtain rfl:=hsm qs rfl;refine aW ?_;refine aE (aH ?_);refine uFz ?_;refine aG (aE ?_);refine bI ?_
          first
            |(refine aO (.cons (.there (.there .here)) (.cons (.there .here) (.cons (.there .here) .nil))) ?_;refine dN (fA (yI (m:=ps.length) hcl)) ?_;rw[hct];refine aO (.cons (.there .here) (.cons .here (.cons .here .nil))) ?_)
            |(refine aO (.cons (.there .here) (.cons (.there .here) (.cons (.there .here) .nil))) ?_)
          refine bF rfl rfl (Hl.le_refl _) ?_
          first
            |exact⟨_,rfl,rfl,by simp[hgr],slTo pv2 ps.length,es2++[((i,j),c2)],c2+1,(fun e he=>by rcases List.mem_append.1 he with h|h;exact hde e h;(simp at h;subst h;exact hgr)),(fun e he=>by rcases List.mem_append.1 he with h|h;exact(hnw e h).imp_right (fun h=>by omega);(simp at h;subst h;exact .inr (Nat.le_refl _))),by simp[hgr]⟩
            |exact⟨_,rfl,rfl,by simp[hgr],pv2,es2,c2,hde,(fun e he=>(hnw e he).imp_right (fun h=>by omega)),by simp[hgr]⟩
end Go.Proofs
end
section
namespace Go.Proofs
open Go Go.SL Go.Syn Go.Mach
theorem sG(oct:Bool)(s:List UInt8):(eG oct s).length=s.length:=by unfold eG;split <;> simp[dH]
theorem aTP(w k:List UInt8)(oct:Bool):glob w k oct=gl w (eG oct w) (eG oct k) 0 0:=by
 unfold glob gl;rw[sG];rfl
theorem aMM(w0 k0:List UInt8)(oct:Bool)(K:Hl)(hw:w0.length≤1000000)(hk:k0.length≤1000000):
  Sp Tryz.prog 253 [str w0,str k0,.func (.func (zK oct)) #[] #[]] K [] (Ret fun v K' L'=>∃pv,v=.tuple #[pv,.bool (glob w0 k0 oct).isSome]∧L'=[sl false (bT 9) pv ((glob w0 k0 oct).getD [])]):=by
 refine aZ Tryz.func253 rfl Tryz.ntmps253 rfl rfl fun F w=>?_
 refine aH (aB ?_);refine uBk ?_;rintro _ K _ ⟨b3,rfl,rfl,rfl⟩ -;refine uAw ?_;refine aG (aE ?_);refine aH (aB ?_);refine uAa ?_;refine uBl ?_;refine cA rfl rfl (lZ oct w0 _ aI) rfl ?_;refine uAx ?_;refine cA rfl rfl (lZ oct k0 _ aI) rfl ?_;refine ol_s (cN tz9) rfl ?_;rintro _ K _ ⟨b8,rfl,rfl,rfl⟩ -;refine ol_s (cN tz9) rfl ?_;rintro _ K _ ⟨b9,rfl,rfl,rfl⟩ -;refine uGa ?_;rintro _ K _ ⟨rfl,rfl⟩ -;refine uGa ?_;rintro _ K _ ⟨rfl,rfl⟩ -;refine aG (aE ?_);refine aH (aB ?_);refine ol_s nQ rfl ?_;rintro _ K _ ⟨b20,rfl,rfl,rfl⟩ -;refine ol_s (cN aZS) rfl ?_;rintro _ K _ ⟨b10,rfl,rfl,rfl⟩ -;refine bP (bH aSM rfl rfl cD aX .zero rfl) ?_;rintro _ K _ ⟨rfl,rfl⟩ -;refine aG (aE ?_);refine aH (aB ?_);refine ol_s (cN tz39) rfl ?_;rintro _ K _ ⟨b11,rfl,rfl,rfl⟩ -;refine aG (aE ?_);refine aH (aB ?_);refine ol_s (cN aZK) rfl ?_;rintro _ K _ ⟨b12,rfl,rfl,rfl⟩ -;refine aG (aE ?_);refine aH (aB ?_);refine uGi ?_;refine bP (bH aAZ rfl rfl cD aX .zero rfl) ?_;rintro _ K _ ⟨rfl,rfl⟩ -;refine aG (aE ?_);refine aH ?_;refine jD fun K1 le1 h1=>?_
 refine tD (.cons (.there .here) .nil) ?_;refine jD fun K2 le2 h2=>?_
 refine tD (.cons (.there (.there .here)) .nil) ?_;refine jD fun K3 le3 h3=>?_
 refine tD (.cons (.there (.there .here)) .nil) ?_;refine jD fun K4 le4 h4=>?_
 refine tD (.cons (.there (.there .here)) .nil) ?_;refine jD fun K5 le5 h5=>?_
 have l45:=le5;have l35:=Hl.le_trans le4 l45;have l25:=Hl.le_trans le3 l35;have l15:=Hl.le_trans le2 l25;have h1:=l15 _ _ h1;have h2:=l25 _ _ h2;have h3:=l35 _ _ h3;have h4:=l45 _ _ h4;refine kJ (dX (bT 9)) ?_;refine uIr ?_;refine aB ?_;refine aA (aJ aAZ rfl (.known h1) rfl) rfl ?_;refine bC rfl rfl (aIX w0 (eG oct w0) (eG oct k0) b10 b20 b11 b9 b8 b3 b12 (sG oct w0).symm (by rw[sG];exact hw) (by rw[sG];exact hk) _ 0 0 [] [] 0 _ _ (Nat.le_refl _) ⟨h2,h3,h4,h5,h1⟩ (Nat.zero_le _) (Nat.zero_le _) (Nat.zero_le _) (fun e h=>by cases h)) (.cons .here (.cons .here (.cons .here .nil))) rfl ?_;rintro _ K _ ⟨rfl,rfl,pv,es,c,hde,hnew,rfl⟩ -;refine uAb ?_;refine aG (aE ?_);refine aH (aB ?_);refine uCo ?_;refine uAa ?_;refine uAw ?_;refine aG (aE ?_);refine bI ?_;refine uEy ?_;refine e7 rfl rfl rfl (Hl.le_trans le1 l15) ?_;rw[aTP];exact⟨_,rfl,pv,rfl,rfl⟩
end Go.Proofs
end
section
namespace Go.Proofs
open Go Go.SL Go.Syn Go.Mach
theorem aNS{α:Type}{k:El α}{b:Nat}{xs:List α}{n:Nat}{M:List Asn}(hn:n=xs.length):∀h,Sat (pt b (aU (k.cs xs) k.e)::M) h→Sat (sl false k (.slice (some ⟨b,0,none⟩) n n) xs::M) h:=by
 subst hn;rintro h ⟨a,l,ha,hl,hd,rfl⟩;refine⟨a,l,.inr ⟨b,xs.length,[],(0,0),rfl,(fun h=>by cases h),Nat.le_refl _,by simp,.inl (Nat.le_refl _),?_⟩,hl,hd,rfl⟩
 rw[List.append_nil];exact ha
def rA(o:Ins)(x:aM)(ks:List aM):Option (List aM):=o3 (fun k=>(gU o x k).map fun ps=>x::ps) ks
theorem jK{α:Type}{l:List α}{i:Nat}{x:α}(hx:l[i]?=some x):l.drop i=x::l.drop (i+1):=by
 have hi:i < l.length:=by
  rcases Nat.lt_or_ge i l.length with h'|h'
  ·exact h'
  ·simp[List.getElem?_eq_none h']at hx
 have hc:l[i]=x:=by simpa[List.getElem?_eq_getElem hi]using hx
 rw[List.drop_eq_getElem_cons hi,hc]
theorem aB6{o:Ins}{vs ks:List aM}{i:Nat}{x:aM}(hx:vs[i]?=some x):jB o (vs.drop i) ks=(match rA o x ks with|some z=>some z|none=>jB o (vs.drop (i+1)) ks):=by
 rw[jK hx];unfold jB rA;rw[o3]
 cases o3 (fun k=>(gU o x k).map fun ps=>x::ps) ks <;> rfl
theorem aMQ{o:Ins}{x y:aM}{ks ps:List aM}{j:Nat}(hy:ks[j]?=some y)(h:gU o x y=some ps):rA o x (ks.drop j)=some (x::ps):=by
 rw[jK hy];unfold rA;rw[o3,h];rfl
theorem aQK{o:Ins}{x y:aM}{ks:List aM}{j:Nat}(hy:ks[j]?=some y)(h:gU o x y=none):rA o x (ks.drop j)=rA o x (ks.drop (j+1)):=by
 rw[jK hy];unfold rA;rw[o3,h];rfl
theorem aMP{o:Ins}{x:aM}{ks:List aM}{j:Nat}(h:ks.length≤j):rA o x (ks.drop j)=none:=by rw[List.drop_of_length_le h];rfl
theorem aQQ{o:Ins}{vs ks:List aM}{j:Nat}(h:vs.length≤j):jB o (vs.drop j) ks=none:=by rw[List.drop_of_length_le h];rfl
theorem aZV{o:Ins}{x y:aM}(h:o.tag=1):gU o x y=if decide (eG o.oct x=eG o.oct y)=true then some []else none:=by unfold gU;rw[if_pos h];simp
theorem aXT{o:Ins}{x y:aM}(h:o.tag=2):gU o x y=if decide (0≤Lib.index (eG o.oct x) (eG o.oct y))=true then some []else none:=by unfold gU;rw[if_neg aI,if_pos h];simp
theorem aFC{o:Ins}{x y:aM}(h:o.tag=3):gU o x y=glob x y o.oct:=by unfold gU;rw[if_neg aI,if_neg aI]
theorem wF{nm:Bool}{m:Msg}{o:Ins}{s:MS}(h:¬(1≤o.tag∧o.tag≤3∧s.stack.length < 8)):matchI nm m o s=.error (12,s.pc):=by unfold matchI;rw[if_neg h];rfl
theorem aGJ{nm:Bool}{m:Msg}{o:Ins}{s:MS}(h:1≤o.tag∧o.tag≤3∧s.stack.length < 8)(hm:jB o (gF (dF nm s.vars s.parts) m o) (o.b.map (dF nm s.vars s.parts))=none):matchI nm m o s=push s false:=by unfold matchI;rw[if_pos h];simp only[hm]
theorem aGK{nm:Bool}{m:Msg}{o:Ins}{s:MS}{ps:List aM}(h:1≤o.tag∧o.tag≤3∧s.stack.length < 8)(hm:jB o (gF (dF nm s.vars s.parts) m o) (o.b.map (dF nm s.vars s.parts))=some ps):matchI nm m o s=push (if o.tag=3∧nm=true then {s with parts:=ps}else s) true:=by unfold matchI;rw[if_pos h];simp only[hm]
def MMI(nm:Bool)(o:Ins)(x y:aM)(s:MS)(pv:Value)(ok:Bool)(pv':Value)(s':MS):Prop:=
 (ok=true∧∃ps,gU o x y=some ps∧s'=(if o.tag=3∧nm=true then {s with parts:=x::ps}else s))∨(ok=false∧gU o x y=none∧s=s'∧pv=pv')
theorem zX{nm:Bool}{o:Ins}{x y:aM}{s:MS}{pv:Value}(h:o.tag=1):MMI nm o x y s pv (decide (eG o.oct x=eG o.oct y)) pv s:=by
 unfold MMI;rw[aZV h]
 by_cases hd:eG o.oct x=eG o.oct y
 ·exact .inl ⟨by simp[hd],[],by simp[hd],by rw[if_neg aI]⟩
 ·exact .inr ⟨by simp[hd],by simp[hd],rfl,rfl⟩
theorem vE{nm:Bool}{o:Ins}{x y:aM}{s:MS}{pv:Value}(h:o.tag=2):MMI nm o x y s pv (decide (0≤Lib.index (eG o.oct x) (eG o.oct y))) pv s:=by
 unfold MMI;rw[aXT h]
 by_cases hd:0≤Lib.index (eG o.oct x) (eG o.oct y)
 ·exact .inl ⟨by simp[hd],[],by simp[hd],by rw[if_neg aI]⟩
 ·exact .inr ⟨by simp[hd],by simp[hd],rfl,rfl⟩
theorem zY{nm:Bool}{o:Ins}{x y:aM}{s:MS}{pv:Value}(h:o.tag=3)(hg:(glob x y o.oct).isSome=false):MMI nm o x y s pv (glob x y o.oct).isSome pv s:=by
 unfold MMI;rw[aFC h];exact .inr ⟨hg,by simpa using hg,rfl,rfl⟩
theorem zZ{o:Ins}{x y:aM}{s:MS}{pv:Value}(h:o.tag=3):MMI false o x y s pv (glob x y o.oct).isSome pv s:=by
 unfold MMI;rw[aFC h];cases hg:glob x y o.oct with
 |none=>exact .inr ⟨rfl,rfl,rfl,rfl⟩
 |some ps=>exact .inl ⟨rfl,ps,rfl,by simp⟩
theorem vF{o:Ins}{x y:aM}{s:MS}{pv pv':Value}(h:o.tag=3)(hg:(glob x y o.oct).isSome=true):MMI true o x y s pv (glob x y o.oct).isSome pv' {s with parts:=x::(glob x y o.oct).getD []}:=by
 unfold MMI;rw[aFC h];cases hg':glob x y o.oct with
 |none=>rw[hg']at hg;cases hg
 |some ps=>exact .inl ⟨rfl,ps,rfl,by rw[if_pos ⟨h,rfl⟩];rfl⟩
theorem aMK(w v k:aM):∀f i j ps,g9 w v k f i j=some ps→ps.length≤f:=by
 intro f;induction f with
 |zero=>intro i j ps h;cases h
 |succ f ih=>
  intro i j ps h;unfold g9 at h;split at h
  ·split at h
   ·cases h;simp
   ·cases h
  ·split at h
   ·have key:∀n e,kA (fun e=>(g9 w v k f e (j+1)).map fun ps=>((w.take e).drop i)::ps) n e=some ps→ps.length≤f+1:=by
     intro n;induction n with
     |zero=>intro e h;cases h
     |succ n ihn=>
      intro e h;unfold kA at h;split at h
      ·rename_i x hx;cases h
       cases hy:g9 w v k f e (j+1)with
       |none=>rw[hy]at hx;cases hx
       |some q=>rw[hy]at hx;cases hx;have:=ih _ _ _ hy;simpa using this
      ·exact ihn _ h
    exact key _ _ h
   ·split at h
    ·cases h
    ·split at h
     ·cases hy:g9 w v k f (i+1) (j+1)with
      |none=>rw[hy]at h;cases h
      |some q=>rw[hy]at h;cases h;have:=ih _ _ _ hy;simpa using this
     ·split at h
      ·split at h
       ·have:=ih _ _ _ h;omega
       ·cases h
      ·split at h
       ·have:=ih _ _ _ h;omega
       ·cases h
theorem aQH(x y:aM)(oct:Bool):((glob x y oct).getD []).length≤y.length+1:=by
 cases h:glob x y oct with
 |none=>simp
 |some ps=>exact aMK _ _ _ _ _ _ _ h
structure MZ where
 i:Nat
 K:Hl
structure MM where
 ok:Bool
 K:Hl
 pv:Value
 s:MS
theorem aGL(b mb:Nat)(m:Msg)(hv pv:Value)(nm:Bool)(s:MS)(o:Ins)(av0 bv:Value)(n:Int)(K0:Hl)(hg:Glob K0)(hpv:Ksl (bT 9) K0 pv s.parts)(ha:Ksl (bT 9) K0 av0 o.a)(hb:Ksl (bT 9) K0 bv o.b)(hh:Ksl hdEl K0 hv m.hs)(hln:m.hs.length≤1000000)(hhs:∀h∈m.hs,h.1.length≤1000000)(hl:o.a.length≤1000000)(hs:∀x∈o.a,x.length≤100000)(hlb:o.b.length≤1000000)(hsb:∀x∈o.b,x.length≤100000)(hsm:o1 s.vars s.parts)
  (hvl:∀x∈gF (dF nm s.vars s.parts) m o,x.length≤1000000):
  Sp Tryz.prog 149 [ptr b,l4 o av0 bv,i64 n] K0 [mch b mb m hv pv nm s] (MI b mb m hv nm (matchI nm m o s)):=by
 have hkl:∀x∈o.b.map (dF nm s.vars s.parts),x.length≤100000:=(by intro x hx;obtain⟨y,hy,rfl⟩:=List.mem_map.1 hx;exact iX (hsb y hy));have hkn:(o.b.map (dF nm s.vars s.parts)).length≤1000000:=(by simpa using hlb);have hvn:(gF (dF nm s.vars s.parts) m o).length≤1000000*1000000:=by
  unfold gF;split
  ·simp;omega
  ·split
   ·exact Nat.le_trans (q7 (n:=1000000) (fun x=>Nat.le_trans (tP m _) hln) _) (Nat.mul_le_mul_right _ (by simpa using hl))
   ·split
    ·exact Nat.le_trans (q7 (n:=1) (aKK m) _) aI
    ·simp
 have hm0:∀r,jB o (gF (dF nm s.vars s.parts) m o) (o.b.map (dF nm s.vars s.parts))=r→jB o ((gF (dF nm s.vars s.parts) m o).drop 0) (o.b.map (dF nm s.vars s.parts))=r:=fun r h=>h
 have hall:=fun(K:Hl) (hg:Glob K) (hpv:Ksl (bT 9) K pv s.parts) (hb:Ksl (bT 9) K bv o.b)=>sC b mb m hv pv nm s bv o.b K hg hpv hb hlb hsb hsm
 have hval:=fun(K:Hl) (hg:Glob K) (hpv:Ksl (bT 9) K pv s.parts) (ha:Ksl (bT 9) K av0 o.a) (hb:Ksl (bT 9) K bv o.b) (hh:Ksl hdEl K hv m.hs)=>aH3 b mb m hv pv nm s o av0 bv K hg hpv ha hb hh hln hhs hl hs hsm
 have hnone:=aGJ (nm:=nm) (m:=m) (o:=o) (s:=s);have hsome:=fun ps=>aGK (nm:=nm) (m:=m) (o:=o) (s:=s) (ps:=ps)
 generalize hvse:gF (dF nm s.vars s.parts) m o=vs at*
 generalize hkse:o.b.map (dF nm s.vars s.parts)=ks at*
 clear hm0;obtain⟨sa,sn,sc,rfl⟩:=ha.isSlice;obtain⟨ta,tn,tc,rfl⟩:=hb.isSlice;refine aZ Tryz.func149 rfl Tryz.ntmps149 rfl rfl fun F w=>?_
 refine qQ fun av sv f c=>?_
 refine aH (aB ?_);refine uBk ?_;rintro _ K _ ⟨b4,rfl,rfl,rfl⟩ -;refine aG (aE ?_);refine aH (aB ?_);refine uAa ?_;refine uIn ?_;refine uEl ?_;refine uAa ?_;refine cG 18 rfl (fun g18=>?_) (fun g18=>?_)
 ·
  refine uAz ?_;refine uDh ?_;refine uDr ?_;refine uEs ?_;refine uFo ?_;refine cG 23 rfl (fun g23=>?_) (fun g23=>?_)
  ·
   refine uAi ?_;refine uEw ?_;refine uAz ?_;refine aA (aD (o':=9) jJ rfl rfl) rfl ?_;refine uAz ?_;refine aA (aJ tG rfl aL rfl) rfl ?_;refine uAz ?_;refine aA (cB rfl Tryz.underlying176 rfl aL) rfl ?_;refine uAz ?_;refine uBn ?_;refine uAy ?_;refine aY rfl rfl (n7 ((s.stack.length:Int) < 8) _ _ _ _ _ _ _ _ _ _ _ _ _) (.cons (.there .here) .nil) rfl (fun _ _=>a8 _ _) ?_ ?_
   ·
    rintro _ _ _ hTr le1;obtain⟨e,p,hu,fb,h,rfl⟩:=bA hTr;cases h
    refine uAr ?_;have hbl:¬((s.stack.length:Int) < 8):=(by intro h;rw[if_pos h]at hu;cases hu);rw[if_neg hbl]at hu;cases hu
    have hno:=wF (nm:=nm) (m:=m) (s:=s) (o:=o) aI;unfold MI;rw[hno];exact⟨fb,rfl,rfl⟩
   rintro _ K _ hTr -;obtain⟨u0,hu,rfl,rfl,rfl⟩:=bB hTr;clear hTr;have hbl:(s.stack.length:Int) < 8:=Classical.byContradiction (fun h=>by rw[if_neg h]at hu;cases hu);have hcc:1≤o.tag∧o.tag≤3∧s.stack.length < 8:=⟨by omega,by omega,by omega⟩;refine aQ2 (As:=[_,_,_,_]) (.cons .here (.cons (.there .here) (.cons (.there .here) (.cons (.there .here) .nil)))) ?_;refine lL (dR (m:=m) (hv:=hv) (pv:=pv) (nm:=nm) (s:=s)) ?_;refine aG (aE ?_);refine aH (aB ?_);refine aA (aD (o':=3) aSC rfl rfl) rfl ?_;refine uGc ?_;refine cA rfl rfl (aD6 o.oct _) rfl ?_;refine uAb ?_;refine aG (aE ?_);refine aH (aB ?_);refine uAa ?_;refine aA (aD (o':=5) aAX rfl rfl) rfl ?_;refine uCo ?_;refine bC rfl rfl (hall _ hg hpv hb) (.cons .here .nil) rfl ?_;rintro kv K _ ⟨rfl,rfl⟩ -;refine uAb ?_;refine aG (aE ?_);refine aH (aH ?_);refine uAf ?_;refine uIf ?_;refine bC rfl rfl (hval _ hg hpv ha hb hh) (.cons (.there .here) .nil) rfl ?_;rintro vv K1 _ rfl le1;refine uCh ?_;refine uAa ?_;refine aG (aE ?_);refine bE ?_;refine eR (fun(q:MZ)=>q.i≤vs.length∧K.le q.K∧jB o (vs.drop q.i) ks=jB o vs ks) (fun q=>[(0,ptr b),(4,ptr b4),(6,.func (.func (zK o.oct)) #[] #[]),(7,kv),(41,vv),(42,i64 vs.length),(43,i64 q.i)]) (fun q=>q.K) (fun _=>[sl false (bT 9) vv vs,mch b mb m hv pv nm s,sl false (bT 9) kv ks,pt b4 (aU [i64 o.op,i64 o.n,i64 o.tag,.bool o.oct,.slice sa sn sc,.slice ta tn tc,i64 o.at_] 41)]) (fun q=>vs.length - q.i) ⟨0,K1⟩ ⟨Nat.zero_le _,le1,by rw[List.drop_zero]⟩ (.cons 0 rfl (.cons 4 rfl (.cons 6 rfl (.cons 7 rfl (.cons 41 rfl (.cons 42 rfl (.cons 43 rfl .nil))))))) rfl (fun _ h=>h) ?_;intro ⟨i,K2⟩ ⟨hi0,hle2,hmall⟩;dsimp only at hi0 hle2 hmall ⊢;refine aH (aB ?_);refine uBn ?_;refine aG (aE ?_);refine aH ?_;refine bK 44 rfl (fun h44=>?_) (fun h44=>?_)
   ·
    have hilt:i < vs.length:=by omega
    obtain⟨x,hx⟩:∃x,vs[i]?=some x:=⟨vs[i]'hilt,List.getElem?_eq_getElem hilt⟩;have hxl:=hvl x (List.mem_of_getElem? hx);refine aW ?_;refine aE (aH ?_);refine bE (aH ?_);refine aB ?_;refine aA (b0 (k:=(bT 9)) cX rfl aL rfl rfl (by first|assumption|omega)) rfl ?_;refine uCm ?_;refine uAb ?_;refine aG (aE ?_);refine aH (aB ?_);refine uAa ?_;refine uCh ?_;refine uAa ?_;refine aG (aE ?_);refine bE ?_;refine eR (fun(q:MZ)=>q.i≤ks.length∧K.le q.K∧rA o x (ks.drop q.i)=rA o x ks) (fun q=>[(0,ptr b),(4,ptr b4),(6,.func (.func (zK o.oct)) #[] #[]),(7,kv),(9,str x),(41,vv),(42,i64 vs.length),(43,i64 i),(47,kv),(48,i64 ks.length),(49,i64 q.i)]) (fun q=>q.K) (fun _=>[sl false (bT 9) vv vs,mch b mb m hv pv nm s,sl false (bT 9) kv ks,pt b4 (aU [i64 o.op,i64 o.n,i64 o.tag,.bool o.oct,.slice sa sn sc,.slice ta tn tc,i64 o.at_] 41)]) (fun q=>ks.length - q.i) ⟨0,K2⟩ ⟨Nat.zero_le _,hle2,by rw[List.drop_zero]⟩ (.cons 0 rfl (.cons 4 rfl (.cons 6 rfl (.cons 7 rfl (.cons 9 rfl (.cons 41 rfl (.cons 42 rfl (.cons 43 rfl (.cons 47 rfl (.cons 48 rfl (.cons 49 rfl .nil))))))))))) rfl (fun _ h=>h) ?_;intro ⟨j,K3⟩ ⟨hj0,hle3,hin⟩;dsimp only at hj0 hle3 hin ⊢;refine aH (aB ?_);refine uBn ?_;refine aG (aE ?_);refine aH ?_;refine bK 50 rfl (fun h50=>?_) (fun h50=>?_)
    ·
     have hjlt:j < ks.length:=by omega
     obtain⟨y,hy⟩:∃y,ks[j]?=some y:=⟨ks[j]'hjlt,List.getElem?_eq_getElem hjlt⟩;have hyl:=hkl y (List.mem_of_getElem? hy);refine aW ?_;refine aE (aH ?_);refine bE (aH ?_);refine aB ?_;refine aA (b0 (k:=(bT 9)) cX rfl aL rfl rfl (by first|assumption|omega)) rfl ?_;refine uCm ?_;refine uAb ?_;refine aG (aE ?_);refine aH (aB ?_);refine uAb ?_;refine aG (aE ?_);refine gS (fun(q:MM)=>K.le q.K∧MMI nm o x y s pv q.ok q.pv q.s∧Ksl (bT 9) q.K q.pv q.s.parts) (fun q=>[(0,ptr b),(4,ptr b4),(6,.func (.func (zK o.oct)) #[] #[]),(7,kv),(9,str x),(12,.bool q.ok),(41,vv),(42,i64 vs.length),(43,i64 i),(47,kv),(48,i64 ks.length),(49,i64 j)]) (fun q=>q.K) (fun q=>[mch b mb m hv q.pv nm q.s,sl false (bT 9) vv vs,sl false (bT 9) kv ks,pt b4 (aU [i64 o.op,i64 o.n,i64 o.tag,.bool o.oct,.slice sa sn sc,.slice ta tn tc,i64 o.at_] 41)]) ?_ ?_
     ·
      refine aH (aB ?_);refine uIn ?_;refine aG (aE ?_);refine bE (aH ?_);refine aB ?_;refine uCe ?_;refine aG (aE ?_);refine bK 55 rfl (fun h55=>?_) (fun h55=>?_)
      ·
       refine uCf ?_;refine cA rfl rfl (lZ o.oct x _ aI) rfl ?_;refine uAx ?_;refine cA rfl rfl (lZ o.oct y _ aI) rfl ?_;refine uIl ?_;refine uAb ?_;refine aG (aN ?_)
       first
        |(refine aO (.cons (.there .here) (.cons .here (.cons .here (.cons .here .nil)))) ?_;exact bZ ⟨decide (eG o.oct x=eG o.oct y),K3,pv,s⟩ ⟨hle3,zX h55,hpv.mono hle3⟩ (.cons 0 rfl (.cons 4 rfl (.cons 6 rfl (.cons 7 rfl (.cons 9 rfl (.cons 12 rfl (.cons 41 rfl (.cons 42 rfl (.cons 43 rfl (.cons 47 rfl (.cons 48 rfl (.cons 49 rfl .nil)))))))))))) rfl (fun _ h=>h))
        |(refine aO (.cons (.there .here) (.cons .here (.cons .here (.cons .here .nil)))) ?_;exact bZ ⟨decide (0≤Lib.index (eG o.oct x) (eG o.oct y)),K3,pv,s⟩ ⟨hle3,vE h64,hpv.mono hle3⟩ (.cons 0 rfl (.cons 4 rfl (.cons 6 rfl (.cons 7 rfl (.cons 9 rfl (.cons 12 rfl (.cons 41 rfl (.cons 42 rfl (.cons 43 rfl (.cons 47 rfl (.cons 48 rfl (.cons 49 rfl .nil)))))))))))) rfl (fun _ h=>h))
        |(refine gB fun K5 le5 hK5=>?_;refine dN (dR (m:=m) (hv:=hv) (pv:=v90) (nm:=nm) (s:={s with parts:=x::(glob x y o.oct).getD []})) ?_;refine aO (.cons .here (.cons (.there .here) (.cons (.there .here) (.cons (.there .here) .nil)))) ?_;subst h85;exact bZ ⟨(glob x y o.oct).isSome,K5,v90,{s with parts:=x::(glob x y o.oct).getD []}⟩ ⟨Hl.le_trans (Hl.le_trans hle3 le4) le5,vF h70 g80,hK5⟩ (.cons 0 rfl (.cons 4 rfl (.cons 6 rfl (.cons 7 rfl (.cons 9 rfl (.cons 12 rfl (.cons 41 rfl (.cons 42 rfl (.cons 43 rfl (.cons 47 rfl (.cons 48 rfl (.cons 49 rfl .nil)))))))))))) rfl (fun _ h=>h))
        |(refine dN (dR (m:=m) (hv:=hv) (pv:=pv) (nm:=nm) (s:=s)) ?_;refine aO (.cons .here (.cons (.there .here) (.cons (.there .here) (.cons (.there .here) .nil)))) ?_;exact bZ ⟨(glob x y o.oct).isSome,K4,pv,s⟩ ⟨Hl.le_trans hle3 le4,by first|exact zY h70 g80|(subst h85;exact zZ h70),hpv.mono (Hl.le_trans hle3 le4)⟩ (.cons 0 rfl (.cons 4 rfl (.cons 6 rfl (.cons 7 rfl (.cons 9 rfl (.cons 12 rfl (.cons 41 rfl (.cons 42 rfl (.cons 43 rfl (.cons 47 rfl (.cons 48 rfl (.cons 49 rfl .nil)))))))))))) rfl (fun _ h=>h))
      ·
       refine aH (aB ?_);refine uCe ?_;refine aG (aE ?_);refine bK 64 rfl (fun h64=>?_) (fun h64=>?_)
       ·
        refine uAf ?_;refine uAx ?_;refine cA rfl rfl (zW x y o.oct _ (hg.mono hle3) aI aI) rfl ?_;refine uAb ?_;refine aG (aN ?_)
        first
         |(refine aO (.cons (.there .here) (.cons .here (.cons .here (.cons .here .nil)))) ?_;exact bZ ⟨decide (eG o.oct x=eG o.oct y),K3,pv,s⟩ ⟨hle3,zX h55,hpv.mono hle3⟩ (.cons 0 rfl (.cons 4 rfl (.cons 6 rfl (.cons 7 rfl (.cons 9 rfl (.cons 12 rfl (.cons 41 rfl (.cons 42 rfl (.cons 43 rfl (.cons 47 rfl (.cons 48 rfl (.cons 49 rfl .nil)))))))))))) rfl (fun _ h=>h))
         |(refine aO (.cons (.there .here) (.cons .here (.cons .here (.cons .here .nil)))) ?_;exact bZ ⟨decide (0≤Lib.index (eG o.oct x) (eG o.oct y)),K3,pv,s⟩ ⟨hle3,vE h64,hpv.mono hle3⟩ (.cons 0 rfl (.cons 4 rfl (.cons 6 rfl (.cons 7 rfl (.cons 9 rfl (.cons 12 rfl (.cons 41 rfl (.cons 42 rfl (.cons 43 rfl (.cons 47 rfl (.cons 48 rfl (.cons 49 rfl .nil)))))))))))) rfl (fun _ h=>h))
         |(refine gB fun K5 le5 hK5=>?_;refine dN (dR (m:=m) (hv:=hv) (pv:=v90) (nm:=nm) (s:={s with parts:=x::(glob x y o.oct).getD []})) ?_;refine aO (.cons .here (.cons (.there .here) (.cons (.there .here) (.cons (.there .here) .nil)))) ?_;subst h85;exact bZ ⟨(glob x y o.oct).isSome,K5,v90,{s with parts:=x::(glob x y o.oct).getD []}⟩ ⟨Hl.le_trans (Hl.le_trans hle3 le4) le5,vF h70 g80,hK5⟩ (.cons 0 rfl (.cons 4 rfl (.cons 6 rfl (.cons 7 rfl (.cons 9 rfl (.cons 12 rfl (.cons 41 rfl (.cons 42 rfl (.cons 43 rfl (.cons 47 rfl (.cons 48 rfl (.cons 49 rfl .nil)))))))))))) rfl (fun _ h=>h))
         |(refine dN (dR (m:=m) (hv:=hv) (pv:=pv) (nm:=nm) (s:=s)) ?_;refine aO (.cons .here (.cons (.there .here) (.cons (.there .here) (.cons (.there .here) .nil)))) ?_;exact bZ ⟨(glob x y o.oct).isSome,K4,pv,s⟩ ⟨Hl.le_trans hle3 le4,by first|exact zY h70 g80|(subst h85;exact zZ h70),hpv.mono (Hl.le_trans hle3 le4)⟩ (.cons 0 rfl (.cons 4 rfl (.cons 6 rfl (.cons 7 rfl (.cons 9 rfl (.cons 12 rfl (.cons 41 rfl (.cons 42 rfl (.cons 43 rfl (.cons 47 rfl (.cons 48 rfl (.cons 49 rfl .nil)))))))))))) rfl (fun _ h=>h))
       ·
        refine aH (aB ?_);refine uCe ?_;refine aG (aE ?_);refine bK 70 rfl (fun h70=>?_) (fun h70=>?_)
        ·
         refine aH (aB ?_);refine uAb ?_;refine aG (aE ?_);refine aH (aB ?_);refine uEg ?_;refine bC rfl rfl (aMM x y o.oct _ aI aI) .nil rfl ?_;rintro _ K4 _ ⟨gv,rfl,rfl⟩ le4;have hgl:=aQH x y o.oct;refine uBy ?_;refine aG (aE ?_);refine aH ?_;refine tD (.cons (.there (.there .here)) .nil) ?_;refine qQ fun av sv f c=>?_
         refine uCf ?_;refine mW 80 rfl (fun g80=>?_) (fun g80=>?_)
         ·
          refine uAi ?_;refine uEw ?_;refine uAz ?_;refine aA (aD (o':=6) aCX rfl rfl) rfl ?_;refine uAz ?_;refine uGc ?_;refine uAy ?_;refine aG (aE ?_);refine eJ 85 rfl (fun h85=>?_) (fun h85=>?_)
          ·
           refine uCf ?_;refine ol_s (bN (z0:=[(str [])]) cX tz9 rfl rfl rfl rfl (.cons rfl rfl rfl (.cons .nil) .nil)) rfl ?_;rintro _ K _ ⟨b88,rfl,rfl,rfl⟩ -;refine uAa ?_;refine lL (aNS (k:=bT 9) (xs:=[x]) rfl) ?_;refine ol_s (dM (k:=(bT 9)) (ys:=((glob x y o.oct).getD [])) iC rfl rfl .here (fun w j=>dB Tryz.underlying39 (SeesSl.at (k:=bT 9) (.own (.there (.there (.there (.there (.there .here)))))) j)) (by simp only[List.length_singleton];omega) (by simp only[List.length_singleton];omega)) rfl ?_;rintro v90 K _ ⟨rfl,rfl,ho90⟩ -;refine uEw ?_;refine aA (aD (o':=8) wW rfl rfl) rfl ?_;refine bP (bH ts39 rfl rfl cD aX (.succ (.succ (.succ (.succ (.succ (.succ (.succ (.succ .zero)))))))) rfl) ?_;rintro _ K _ ⟨rfl,rfl⟩ -;refine aG (aN ?_)
           first
            |(refine aO (.cons (.there .here) (.cons .here (.cons .here (.cons .here .nil)))) ?_;exact bZ ⟨decide (eG o.oct x=eG o.oct y),K3,pv,s⟩ ⟨hle3,zX h55,hpv.mono hle3⟩ (.cons 0 rfl (.cons 4 rfl (.cons 6 rfl (.cons 7 rfl (.cons 9 rfl (.cons 12 rfl (.cons 41 rfl (.cons 42 rfl (.cons 43 rfl (.cons 47 rfl (.cons 48 rfl (.cons 49 rfl .nil)))))))))))) rfl (fun _ h=>h))
            |(refine aO (.cons (.there .here) (.cons .here (.cons .here (.cons .here .nil)))) ?_;exact bZ ⟨decide (0≤Lib.index (eG o.oct x) (eG o.oct y)),K3,pv,s⟩ ⟨hle3,vE h64,hpv.mono hle3⟩ (.cons 0 rfl (.cons 4 rfl (.cons 6 rfl (.cons 7 rfl (.cons 9 rfl (.cons 12 rfl (.cons 41 rfl (.cons 42 rfl (.cons 43 rfl (.cons 47 rfl (.cons 48 rfl (.cons 49 rfl .nil)))))))))))) rfl (fun _ h=>h))
            |(refine gB fun K5 le5 hK5=>?_;refine dN (dR (m:=m) (hv:=hv) (pv:=v90) (nm:=nm) (s:={s with parts:=x::(glob x y o.oct).getD []})) ?_;refine aO (.cons .here (.cons (.there .here) (.cons (.there .here) (.cons (.there .here) .nil)))) ?_;subst h85;exact bZ ⟨(glob x y o.oct).isSome,K5,v90,{s with parts:=x::(glob x y o.oct).getD []}⟩ ⟨Hl.le_trans (Hl.le_trans hle3 le4) le5,vF h70 g80,hK5⟩ (.cons 0 rfl (.cons 4 rfl (.cons 6 rfl (.cons 7 rfl (.cons 9 rfl (.cons 12 rfl (.cons 41 rfl (.cons 42 rfl (.cons 43 rfl (.cons 47 rfl (.cons 48 rfl (.cons 49 rfl .nil)))))))))))) rfl (fun _ h=>h))
            |(refine dN (dR (m:=m) (hv:=hv) (pv:=pv) (nm:=nm) (s:=s)) ?_;refine aO (.cons .here (.cons (.there .here) (.cons (.there .here) (.cons (.there .here) .nil)))) ?_;exact bZ ⟨(glob x y o.oct).isSome,K4,pv,s⟩ ⟨Hl.le_trans hle3 le4,by first|exact zY h70 g80|(subst h85;exact zZ h70),hpv.mono (Hl.le_trans hle3 le4)⟩ (.cons 0 rfl (.cons 4 rfl (.cons 6 rfl (.cons 7 rfl (.cons 9 rfl (.cons 12 rfl (.cons 41 rfl (.cons 42 rfl (.cons 43 rfl (.cons 47 rfl (.cons 48 rfl (.cons 49 rfl .nil)))))))))))) rfl (fun _ h=>h))
          ·
           refine uGr ?_
           first
            |(refine aO (.cons (.there .here) (.cons .here (.cons .here (.cons .here .nil)))) ?_;exact bZ ⟨decide (eG o.oct x=eG o.oct y),K3,pv,s⟩ ⟨hle3,zX h55,hpv.mono hle3⟩ (.cons 0 rfl (.cons 4 rfl (.cons 6 rfl (.cons 7 rfl (.cons 9 rfl (.cons 12 rfl (.cons 41 rfl (.cons 42 rfl (.cons 43 rfl (.cons 47 rfl (.cons 48 rfl (.cons 49 rfl .nil)))))))))))) rfl (fun _ h=>h))
            |(refine aO (.cons (.there .here) (.cons .here (.cons .here (.cons .here .nil)))) ?_;exact bZ ⟨decide (0≤Lib.index (eG o.oct x) (eG o.oct y)),K3,pv,s⟩ ⟨hle3,vE h64,hpv.mono hle3⟩ (.cons 0 rfl (.cons 4 rfl (.cons 6 rfl (.cons 7 rfl (.cons 9 rfl (.cons 12 rfl (.cons 41 rfl (.cons 42 rfl (.cons 43 rfl (.cons 47 rfl (.cons 48 rfl (.cons 49 rfl .nil)))))))))))) rfl (fun _ h=>h))
            |(refine gB fun K5 le5 hK5=>?_;refine dN (dR (m:=m) (hv:=hv) (pv:=v90) (nm:=nm) (s:={s with parts:=x::(glob x y o.oct).getD []})) ?_;refine aO (.cons .here (.cons (.there .here) (.cons (.there .here) (.cons (.there .here) .nil)))) ?_;subst h85;exact bZ ⟨(glob x y o.oct).isSome,K5,v90,{s with parts:=x::(glob x y o.oct).getD []}⟩ ⟨Hl.le_trans (Hl.le_trans hle3 le4) le5,vF h70 g80,hK5⟩ (.cons 0 rfl (.cons 4 rfl (.cons 6 rfl (.cons 7 rfl (.cons 9 rfl (.cons 12 rfl (.cons 41 rfl (.cons 42 rfl (.cons 43 rfl (.cons 47 rfl (.cons 48 rfl (.cons 49 rfl .nil)))))))))))) rfl (fun _ h=>h))
            |(refine dN (dR (m:=m) (hv:=hv) (pv:=pv) (nm:=nm) (s:=s)) ?_;refine aO (.cons .here (.cons (.there .here) (.cons (.there .here) (.cons (.there .here) .nil)))) ?_;exact bZ ⟨(glob x y o.oct).isSome,K4,pv,s⟩ ⟨Hl.le_trans hle3 le4,by first|exact zY h70 g80|(subst h85;exact zZ h70),hpv.mono (Hl.le_trans hle3 le4)⟩ (.cons 0 rfl (.cons 4 rfl (.cons 6 rfl (.cons 7 rfl (.cons 9 rfl (.cons 12 rfl (.cons 41 rfl (.cons 42 rfl (.cons 43 rfl (.cons 47 rfl (.cons 48 rfl (.cons 49 rfl .nil)))))))))))) rfl (fun _ h=>h))
         ·
          refine uBu ?_;refine aG (aE ?_);refine uBf ?_;refine aN ?_
          first
           |(refine aO (.cons (.there .here) (.cons .here (.cons .here (.cons .here .nil)))) ?_;exact bZ ⟨decide (eG o.oct x=eG o.oct y),K3,pv,s⟩ ⟨hle3,zX h55,hpv.mono hle3⟩ (.cons 0 rfl (.cons 4 rfl (.cons 6 rfl (.cons 7 rfl (.cons 9 rfl (.cons 12 rfl (.cons 41 rfl (.cons 42 rfl (.cons 43 rfl (.cons 47 rfl (.cons 48 rfl (.cons 49 rfl .nil)))))))))))) rfl (fun _ h=>h))
           |(refine aO (.cons (.there .here) (.cons .here (.cons .here (.cons .here .nil)))) ?_;exact bZ ⟨decide (0≤Lib.index (eG o.oct x) (eG o.oct y)),K3,pv,s⟩ ⟨hle3,vE h64,hpv.mono hle3⟩ (.cons 0 rfl (.cons 4 rfl (.cons 6 rfl (.cons 7 rfl (.cons 9 rfl (.cons 12 rfl (.cons 41 rfl (.cons 42 rfl (.cons 43 rfl (.cons 47 rfl (.cons 48 rfl (.cons 49 rfl .nil)))))))))))) rfl (fun _ h=>h))
           |(refine gB fun K5 le5 hK5=>?_;refine dN (dR (m:=m) (hv:=hv) (pv:=v90) (nm:=nm) (s:={s with parts:=x::(glob x y o.oct).getD []})) ?_;refine aO (.cons .here (.cons (.there .here) (.cons (.there .here) (.cons (.there .here) .nil)))) ?_;subst h85;exact bZ ⟨(glob x y o.oct).isSome,K5,v90,{s with parts:=x::(glob x y o.oct).getD []}⟩ ⟨Hl.le_trans (Hl.le_trans hle3 le4) le5,vF h70 g80,hK5⟩ (.cons 0 rfl (.cons 4 rfl (.cons 6 rfl (.cons 7 rfl (.cons 9 rfl (.cons 12 rfl (.cons 41 rfl (.cons 42 rfl (.cons 43 rfl (.cons 47 rfl (.cons 48 rfl (.cons 49 rfl .nil)))))))))))) rfl (fun _ h=>h))
           |(refine dN (dR (m:=m) (hv:=hv) (pv:=pv) (nm:=nm) (s:=s)) ?_;refine aO (.cons .here (.cons (.there .here) (.cons (.there .here) (.cons (.there .here) .nil)))) ?_;exact bZ ⟨(glob x y o.oct).isSome,K4,pv,s⟩ ⟨Hl.le_trans hle3 le4,by first|exact zY h70 g80|(subst h85;exact zZ h70),hpv.mono (Hl.le_trans hle3 le4)⟩ (.cons 0 rfl (.cons 4 rfl (.cons 6 rfl (.cons 7 rfl (.cons 9 rfl (.cons 12 rfl (.cons 41 rfl (.cons 42 rfl (.cons 43 rfl (.cons 47 rfl (.cons 48 rfl (.cons 49 rfl .nil)))))))))))) rfl (fun _ h=>h))
        ·
         exact absurd (show o.tag=3 by omega) h70
     ·
      intro ⟨ok,K4,pv4,s4⟩ ⟨hle4,hmm,hks4⟩;dsimp only at hle4 hmm hks4 ⊢;refine aH (aB ?_);refine uAa ?_;refine aG (aE ?_);refine eJ 93 rfl (fun h93=>?_) (fun h93=>?_)
      ·
       obtain⟨ps,hvk,hs4⟩:∃ps,gU o x y=some ps∧s4=(if o.tag=3∧nm=true then {s with parts:=x::ps}else s):=(by rcases hmm with ⟨_,h⟩|⟨h,_⟩;exact h;(rw[h93]at h;cases h));have hres:matchI nm m o s=push s4 true:=(by rw[hs4];exact hsome (x::ps) hcc (by rw[←hmall,aB6 hx,←hin,aMQ hy hvk]));refine aH (aB ?_);refine uAa ?_;refine aY rfl rfl (kQ b mb m hv pv4 nm s4 true _) (.cons .here .nil) rfl (fun _ _=>a8 _ _) ?_ ?_
       ·
        rintro _ _ _ hTr le1;obtain⟨e,p,hq,fb,h,rfl⟩:=bA hTr;cases h
        refine uAg ?_;refine uBc ?_;refine aK ?_;refine aR ?_;refine aR ?_;refine aK ?_;refine uBc ?_;refine bJ (Hl.le_trans hle4 le1) ?_;unfold MI;rw[hres,hq];exact⟨fb,rfl,rfl⟩
       rintro _ K _ hTr -;obtain⟨q,hq,rfl,rfl,rfl⟩:=bB hTr;clear hTr;have hqp:=eQ hq;refine aG (aE ?_);refine uCi ?_;refine a7 ?_;refine bS ?_;refine bS ?_;refine a7 ?_;refine a7 ?_;refine bS ?_;refine a7 ?_;refine uAg ?_;refine tK rfl (by first|exact hle4|exact hle2) ?_;unfold MI;rw[hres,hq];exact⟨_,rfl,rfl,pv4,by rw[hqp];exact hks4,rfl⟩
      ·
       obtain⟨hvk,rfl,rfl⟩:gU o x y=none∧s=s4∧pv=pv4:=(by rcases hmm with ⟨h,_⟩|⟨_,h⟩;(rw[h93]at h;cases h);exact h);refine aW ?_;refine aN (aE ?_);refine uDj ?_;refine aO (.cons (.there .here) (.cons .here (.cons .here (.cons .here .nil)))) ?_;exact cQ ⟨j+1,K4⟩ ⟨by (show j+1≤ks.length);omega,hle4,(aQK hy hvk).symm.trans hin⟩ (by (show ks.length - (j+1) < ks.length - j);omega) (.cons 0 rfl (.cons 4 rfl (.cons 6 rfl (.cons 7 rfl (.cons 9 rfl (.cons 41 rfl (.cons 42 rfl (.cons 43 rfl (.cons 47 rfl (.cons 48 rfl (.cons 49 rfl .nil))))))))))) rfl (fun _ h=>h)
    ·
     have hin0:rA o x ks=none:=(by rw[←hin];exact aMP aI);refine uAp ?_;refine aN (aE ?_);refine uDj ?_;exact cQ ⟨i+1,K3⟩ ⟨by (show i+1≤vs.length);omega,hle3,by have h:=aB6 (o:=o) (ks:=ks) hx;rw[hin0]at h;exact h.symm.trans hmall⟩ (by (show vs.length - (i+1) < vs.length - i);omega) (.cons 0 rfl (.cons 4 rfl (.cons 6 rfl (.cons 7 rfl (.cons 41 rfl (.cons 42 rfl (.cons 43 rfl .nil))))))) rfl (fun _ h=>h)
   ·
    have hres:matchI nm m o s=push s false:=hnone hcc (by rw[←hmall];exact aQQ aI);refine uAp ?_;refine aE (aB ?_);refine uAa ?_;refine aY rfl rfl (kQ b mb m hv pv nm s false _) (.cons (.there .here) .nil) rfl (fun _ _=>a8 _ _) ?_ ?_
    ·
     rintro _ _ _ hTr le1;obtain⟨e,p,hq,fb,h,rfl⟩:=bA hTr;cases h
     refine uAg ?_;refine bJ (Hl.le_trans hle2 le1) ?_;unfold MI;rw[hres,hq];exact⟨fb,rfl,rfl⟩
    rintro _ K _ hTr -;obtain⟨q,hq,rfl,rfl,rfl⟩:=bB hTr;clear hTr;have hqp:=eQ hq;refine uIg ?_;refine dD rfl (by first|exact hle4|exact hle2) ?_;unfold MI;rw[hres,hq];exact⟨_,rfl,rfl,pv,by rw[hqp];exact hpv.mono hle2,rfl⟩
  ·
   have hno:=wF (nm:=nm) (m:=m) (s:=s) (o:=o) aI;refine uAc ?_;refine uFa ?_;refine aY rfl rfl (oQ _ _ _ _ _ _ _ _ _ _ _ _ _) (.cons (.there .here) .nil) rfl (by rintro _ _ ⟨_,h,_⟩;cases h) ?_ ?_
   ·
    rintro _ _ _ ⟨fb,h,rfl⟩ le1;cases h
    refine uAr ?_;simp only[MI,hno,if_true,if_false,↓reduceIte];exact⟨fb,rfl,rfl⟩
   ·
    rintro _ _ _ ⟨_,h,_⟩;cases h
 ·
  have hno:=wF (nm:=nm) (m:=m) (s:=s) (o:=o) aI;refine uFa ?_;refine uAa ?_;refine uAc ?_;refine uFa ?_;refine aY rfl rfl (oQ _ _ _ _ _ _ _ _ _ _ _ _ _) (.cons (.there .here) .nil) rfl (by rintro _ _ ⟨_,h,_⟩;cases h) ?_ ?_
  ·
   rintro _ _ _ ⟨fb,h,rfl⟩ le1;cases h
   refine uAr ?_;simp only[MI,hno,if_true,if_false,↓reduceIte];exact⟨fb,rfl,rfl⟩
  ·
   rintro _ _ _ ⟨_,h,_⟩;cases h
end Go.Proofs
end
section
namespace Go.SL
abbrev itr(b:Nat)(l:List UInt8)(p:Nat):Asn:=pt b (.stringIter ⟨l.toArray⟩ p)
abbrev dec(l:List UInt8)(p:Nat):Nat×Nat:=Utf8.decode ⟨l.toArray⟩ p
section
variable{E:Env}{fr:Fr}{K:Hl}{L L':List Asn}{dst:Option Tmp}{ty:TypeId}{pos:String}{aft:Array Edge}{g:Option (Nat×Bool)}{x:Operand}{t:TypeId}{l:List UInt8}{b p:Nat}
theorem aAL(hu:E.P.underlying t=some .string)(hx:fr.ev x=some (str l)):EfS E fr K L ⟨dst,.range t x,ty,pos,aft,g⟩ (fun v K' L'=>∃b,v=ptr b∧K'=K∧L'=itr b l 0::L):=by
 intro a w f i;refine⟨ptr w.heap.size,w.iter ⟨l.toArray⟩ 0,K,itr w.heap.size l 0::L,.inl ?_,⟨_,rfl,rfl,rfl⟩,Hl.le_refl _,i.alloc _⟩
 simp only[execOp,f.ev hx,bind];exact aT (run_range_string w t ⟨l.toArray⟩ hu)
theorem aAJ(hp:p < l.length)(hx:fr.ev x=some (ptr b))(hT:Fnd (itr b l p) (itr b l (p+(dec l p).2)) L L'):
  EfS E fr K L ⟨dst,.next x true,ty,pos,aft,g⟩ (fun v K' L''=>v=.tuple #[.bool true,i64 p,.int .i32 (dec l p).1]∧K'=K∧L''=L'):=by
 intro a w f i;have hb:=i.mem hT;have hp':p < (⟨l.toArray⟩:ByteArray).size:=by simpa[ByteArray.size]using hp
 refine⟨_,w.iterAt b ⟨l.toArray⟩ (p+(dec l p).2),K,L',.inl ?_,⟨rfl,rfl,rfl⟩,Hl.le_refl _,?_⟩
 ·simp only[execOp,f.ev hx,bind];exact aT (Lib.run_next_any_at w b ⟨l.toArray⟩ p ty hb hp')
 ·have hlt:b < w.heap.size:=(Array.getElem?_eq_some_iff.1 hb).1;exact i.writeAt hT (H:=w.heap.setIfInBounds b (.stringIter ⟨l.toArray⟩ (p+(dec l p).2))) (by simp) (by simp[hlt]) (fun y hy=>by rw[Array.getElem?_setIfInBounds_ne (Ne.symm hy)])
theorem aCL(hp:¬p < l.length)(hx:fr.ev x=some (ptr b))(hT:Hs (itr b l p) L):
  EfS E fr K L ⟨dst,.next x true,ty,pos,aft,g⟩ (fun v K' L''=>v=.tuple #[.bool false]∧K'=K∧L''=L):=by
 intro a w f i;have hb:=(Sees.own (K:=K) hT).at i;have hp':¬p < (⟨l.toArray⟩:ByteArray).size:=by simpa[ByteArray.size]using hp
 refine⟨_,w,K,L,.inl ?_,⟨rfl,rfl,rfl⟩,Hl.le_refl _,i⟩
 simp only[execOp,f.ev hx,bind];exact aT (Lib.run_next_end_at w b ⟨l.toArray⟩ p ty hb hp')
end
theorem aO4(l:List UInt8)(p:Nat)(h:p < l.length):(⟨l.toArray⟩:ByteArray).get! p=l[p]:=by
 have h':p < (⟨l.toArray⟩:ByteArray).size:=by simpa[ByteArray.size]using h
 have:=get_at ⟨l.toArray⟩ p h';rw[Nat.add_zero]at this;rw[this];rfl
theorem aWG{l:List UInt8}{p:Nat}{c:UInt8}(hc:l[p]?=some c)(h:c.toNat < 128):dec l p=(c.toNat,1):=by
 have hp:p < l.length:=by
  rcases Nat.lt_or_ge p l.length with h'|h'
  ·exact h'
  ·rw[List.getElem?_eq_none h']at hc;cases hc
 have hcl:l[p]=c:=by rw[List.getElem?_eq_getElem hp]at hc;exact Option.some.inj hc
 have h':p < (⟨l.toArray⟩:ByteArray).size:=by simpa[ByteArray.size]using hp
 have e:(⟨l.toArray⟩:ByteArray)[p]'h'=c:=hcl;have:=decode_ascii ⟨l.toArray⟩ p h' (by rw[e];exact h);rw[e]at this;exact this
theorem aWF{l:List UInt8}{p:Nat}{c:UInt8}(hc:l[p]?=some c)(h:128≤c.toNat):
    128≤(dec l p).1∧(dec l p).1≤2147483647∧1≤(dec l p).2∧p+(dec l p).2≤l.length∧∀j d,p≤j→j < p+(dec l p).2→l[j]?=some d→128≤d.toNat:=by
  have hp:p < l.length:=by
    rcases Nat.lt_or_ge p l.length with h'|h'
    · exact h'
    · rw[List.getElem?_eq_none h']at hc;cases hc
  have hcl:l[p]=c:=by rw[List.getElem?_eq_getElem hp]at hc;exact Option.some.inj hc
  have h':p < (⟨l.toArray⟩:ByteArray).size:=by simpa[ByteArray.size]using hp
  have hsz:(⟨l.toArray⟩:ByteArray).size=l.length:=by simp[ByteArray.size]
  have e:(⟨l.toArray⟩:ByteArray)[p]'h'=c:=hcl;have h1:=decode_high ⟨l.toArray⟩ p h' (by rw[e];exact h);have h2:=decode_le ⟨l.toArray⟩ p;refine⟨h1.1,h2,h1.2,?_⟩
  have hb0:((⟨l.toArray⟩:ByteArray).get! (p+0)).toNat=c.toNat:=by rw[Nat.add_zero,aO4 l p hp,hcl]
  have cont:∀k,p+k < l.length→((⟨l.toArray⟩:ByteArray).get! (p+k)).toNat / 64=2→∀d,l[p+k]?=some d→128≤d.toNat:=by
    intro k hk hq d hd;rw[aO4 l _ hk]at hq;rw[List.getElem?_eq_getElem hk]at hd;cases hd;omega
  have key:∀n,(∀k,1≤k→k < n→p+k < l.length∧((⟨l.toArray⟩:ByteArray).get! (p+k)).toNat / 64=2)→1≤n→(dec l p).2=n→p+(dec l p).2≤l.length∧∀j d,p≤j→j < p+(dec l p).2→l[j]?=some d→128≤d.toNat:=by
    intro n hk hn he;rw[he];refine⟨?_,fun j d hj hj2 hd=>?_⟩
    · rcases Nat.lt_or_ge 1 n with h3|h3
      · have:=(hk (n - 1) aI aI).1;omega
      · omega
    · rcases Nat.lt_or_ge p j with h3|h3
      · obtain⟨q1,q2⟩:=hk (j - p) aI aI;have ej:p+(j - p)=j:=by omega
        exact cont (j - p) q1 q2 d (by rw[ej];exact hd)
      · have:j=p:=by omega
        subst this;rw[hc]at hd;cases hd;exact h
  have hn:¬(((⟨l.toArray⟩:ByteArray).get! (p+0)).toNat < 128):=by rw[hb0];omega
  have hone:(dec l p).2=1→p+(dec l p).2≤l.length∧∀j d,p≤j→j < p+(dec l p).2→l[j]?=some d→128≤d.toNat:=key 1 (fun k h1 h2=>by omega) (Nat.le_refl _);obtain⟨D,hD⟩:∃D,D=Utf8.decode ⟨l.toArray⟩ p:=⟨_,rfl⟩;have hD2:dec l p=D:=hD.symm;rw[hD2]at key hone ⊢;have unf:=hD;simp only[Utf8.decode,hn,if_false]at unf;split at unf
  · rename_i hq;simp only[Bool.and_eq_true,beq_iff_eq,decide_eq_true_eq,hsz]at hq;split at unf
    · exact key 2 (fun k k1 k2 => by obtain rfl : k = 1 := by omega
                                     exact hq.2) aI (by rw[unf])
    · exact hone (by rw[unf])
  · split at unf
    · rename_i hq;simp only[Bool.and_eq_true,beq_iff_eq,decide_eq_true_eq,hsz]at hq;split at unf
      · exact key 3 (fun k k1 k2 => by
          rcases(show k=1∨k=2 by omega)with rfl|rfl
          · exact hq.1.2
          · exact hq.2) aI (by rw[unf])
      · exact hone (by rw[unf])
    · split at unf
      · rename_i hq;simp only[Bool.and_eq_true,beq_iff_eq,decide_eq_true_eq,hsz]at hq;split at unf
        · exact key 4 (fun k k1 k2 => by
            rcases(show k=1∨k=2∨k=3 by omega)with rfl|rfl|rfl
            · exact hq.1.1.2
            · exact hq.1.2
            · exact hq.2) aI (by rw[unf])
        · exact hone (by rw[unf])
      · exact hone (by rw[unf])
section
variable{E:Env}{fr:Fr}{K:Hl}{L:List Asn}{L':Nat→List Asn}{dst:Option Tmp}{ty:TypeId}{pos:String}{aft:Array Edge}{g:Option (Nat×Bool)}{x:Operand}{t t2:TypeId}{l:List UInt8}{b p:Nat}{c:UInt8}
theorem nP{α:Type}{l:List α}{p:Nat}{c:α}(hc:l[p]?=some c):p < l.length:=by
 rcases Nat.lt_or_ge p l.length with h'|h'
 ·exact h'
 ·rw[List.getElem?_eq_none h']at hc;cases hc
theorem aG9(hc:l[p]?=some c)(h:c.toNat < 128)(hx:fr.ev x=some (ptr b))(hT:∀n,Fnd (itr b l p) (itr b l (p+n)) L (L' n)):
  EfS E fr K L ⟨dst,.next x true,ty,pos,aft,g⟩ (fun v K' L''=>v=.tuple #[.bool true,i64 p,.int .i32 c.toNat]∧K'=K∧L''=L' 1):=by
 intro a w f i;have hd:=aWG hc h;have:=aAJ (dst:=dst) (ty:=ty) (pos:=pos) (aft:=aft) (g:=g) (nP hc) hx (hT (dec l p).2) a w f i;rw[hd]at this;exact this
theorem aRQ(hc:l[p]?=some c)(h:128≤c.toNat)(hx:fr.ev x=some (ptr b))(hT:∀n,Fnd (itr b l p) (itr b l (p+n)) L (L' n)):
  EfS E fr K L ⟨dst,.next x true,ty,pos,aft,g⟩ (fun v K' L''=>∃r n:Nat,v=.tuple #[.bool true,i64 p,.int .i32 r]∧K'=K∧L''=L' n∧128≤r∧r≤2147483647∧1≤n∧p+n≤l.length∧∀j d,p≤j→j < p+n→l[j]?=some d→128≤d.toNat):=by
 intro a w f i;obtain⟨d1,d2,d3,d4,d5⟩:=aWF hc h;obtain⟨u,w',K',L'',hr,⟨hv,hK,hL⟩,le,j⟩:=aAJ (dst:=dst) (ty:=ty) (pos:=pos) (aft:=aft) (g:=g) (nP hc) hx (hT (dec l p).2) a w f i;exact⟨u,w',K',L'',hr,⟨_,_,hv,hK,hL,d1,d2,d3,d4,d5⟩,le,j⟩
def mY(r:Int):List UInt8:=(Utf8.encode r).data.toList
theorem aD1{k':IntKind}{r:Int}(hs:E.P.underlying t=some (.int k'))(hd:E.P.underlying t2=some .string)(hx:fr.ev x=some (.int .i32 r)):
  Ev E fr K L ⟨dst,.convert t t2 x,ty,pos,aft,g⟩ (str (mY r)):=fun a w f j=>by
 simp only[execOp,f.ev hx];refine d9 ?_;unfold convert;rw[aT (run_underlying hs w),aT (run_underlying hd w)]
 show Result.ok (Value.string (Utf8.encode _)) w=_
 simp[mY]
theorem aRO(r:Int)(h:128≤r):2≤(mY r).length∧(mY r).length≤4∧∃c,(mY r)[(mY r).length - 1]?=some c∧128≤c.toNat:=by
 unfold mY Utf8.encode;have hc:128≤(if Utf8.valid r then r.toNat else Utf8.runeError):=by
  split
  ·omega
  ·decide
 generalize (if Utf8.valid r then r.toNat else Utf8.runeError)=c at hc
 have hb:∀n:Nat,128≤(UInt8.ofNat (0x80+n % 64)).toNat:=by
  intro n;simp;omega
 simp only[if_neg (show ¬c < 0x80 by omega)];split
 ·exact⟨by simp,by simp,_,rfl,hb _⟩
 ·split
  ·exact⟨by simp,by simp,_,rfl,hb _⟩
  ·exact⟨by simp,by simp,_,rfl,hb _⟩
end
end Go.SL
end
section
namespace Go.Proofs
open Go Go.SL Go.Syn Go.Mach
theorem aVF{cs:List UInt8}(hcs:∀c∈cs,c.toNat < 128){i:Nat}(h:i < cs.length):∃c,cs[i]?=some c∧c.toNat < 128:=⟨_,List.getElem?_eq_getElem h,hcs _ (List.getElem_mem h)⟩
theorem aYA{cs:List UInt8}(hcs:∀c∈cs,c.toNat < 128){c:UInt8}(h:128≤c.toNat)(k:Nat):Lib.indexByte (cs.drop k) c= -1:=by
 have h1:=Lib.indexByte_ge (cs.drop k) c
 by_cases hc:Lib.indexByte (cs.drop k) c= -1
 ·exact hc
 ·obtain⟨h2,_⟩:=Lib.indexByte_some (l:=cs.drop k) (c:=c) (o:=(Lib.indexByte (cs.drop k) c).toNat) aI;rw[List.getElem?_drop]at h2;have:=hcs _ (List.mem_of_getElem? h2);omega
theorem aI1(s:List UInt8)(c:UInt8)(K:Hl):Sp Tryz.prog 308 [str s,.int .u8 c.toNat] K [] (Val (i64 (Lib.indexByte s c)) K):=by
 refine kR ⟨_,Tryz.func308,rfl,rfl⟩ fun w hw=>?_
 have:=Tryz.strings_IndexByte ⟨s.toArray⟩ c.toNat w;have e:((c.toNat:Int).toNat).toUInt8=c:=by simp
 rw[e]at this;exact this
theorem aG8(cs:List UInt8)(c:UInt8)(hc:c.toNat < 128)(K:Hl):Sp Tryz.prog 289 [str cs,.int .i32 c.toNat] K [] (Val (i64 (Lib.indexByte cs c)) K):=by
 refine kR ⟨_,Tryz.func289,rfl,rfl⟩ fun w hw=>?_
 have:=Tryz.strings_IndexRune_ascii ⟨cs.toArray⟩ c.toNat w aI aI;have e:((c.toNat:Int).toNat).toUInt8=c:=by simp
 rw[e]at this;exact this
theorem aJV(r:Int)(K:Hl):Sp Tryz.prog 322 [.int .i32 r] K [] (Val (.bool (Lib.validRune r)) K):=
 kR ⟨_,Tryz.func322,rfl,rfl⟩ fun w hw=>Tryz.utf8_ValidRune r w
theorem aG7(cs:List UInt8)(hcs:∀c∈cs,c.toNat < 128)(hl:2≤cs.length)(r:Int)(h1:128≤r)(K:Hl):Sp Tryz.prog 289 [str cs,.int .i32 r] K [] (Ret fun v K' L'=>v=i64 (-1)∧K'=K∧L'=[]):=by
 obtain⟨q1,q2,cl,q3,q4⟩:=aRO r h1;refine aZ Tryz.func289 rfl Tryz.ntmps289 rfl rfl fun F w=>?_
 refine aH (aB ?_);refine uAb ?_;refine aG (aE ?_);refine bE (aH ?_);refine uAf ?_;refine uEs ?_;refine uAa ?_;refine cG 163 rfl (fun g163=>?_) (fun g163=>?_)
 ·
  refine uAi ?_;refine uBn ?_;refine uDv ?_;refine aG (aE ?_);refine bK 160 rfl (fun h160=>?_) (fun h160=>?_)
  ·
   exact absurd h160 aI
  ·
   refine aH (aB ?_);refine uAa ?_;refine uCe ?_;refine aG (aE ?_);refine bK 171 rfl (fun h171=>?_) (fun h171=>?_)
   ·
    refine aH (aH ?_);refine uAf ?_;refine ol_s (aAL Tryz.underlying9 rfl) rfl ?_;rintro _ K _ ⟨b175,rfl,rfl,rfl⟩ -;refine aG (aE ?_);refine bE ?_;refine eR (fun(i:Nat)=>i≤cs.length) (fun i=>[(0,str cs),(1,.int .i32 r),(175,ptr b175)]) (fun _=>K) (fun i=>[itr b175 cs i]) (fun i=>cs.length - i) 0 (Nat.zero_le _) (.cons 0 rfl (.cons 1 rfl (.cons 175 rfl .nil))) rfl (fun _ h=>h) ?_;intro i hi0;rcases Nat.lt_or_ge i cs.length with hi|hi
    ·
     obtain⟨c,hc,hlo⟩:=aVF hcs hi;refine aH (aB ?_);refine ol_s (aG9 (L':=fun n=>[itr b175 cs (i+n)]) hc hlo rfl (fun _=>.here)) rfl ?_;rintro _ K _ ⟨rfl,rfl,rfl⟩ -;refine uGw ?_;refine aG (aE ?_);refine aH ?_;refine uGe ?_;refine aW ?_;refine aE (bE ?_);refine aH (aB ?_);refine uAh ?_;refine uAw ?_;refine aG (aE ?_);refine aH (aB ?_);refine uAa ?_;refine uAq ?_;refine aG (aE ?_);refine bK 181 rfl (fun h181=>?_) (fun h181=>?_)
     ·
      exact absurd h181 aI
     ·
      refine uGr ?_;exact cQ (i+1) aI aI (.cons 0 rfl (.cons 1 rfl (.cons 175 rfl .nil))) rfl (fun _ h=>h)
    ·
     have hn:¬i < cs.length:=aI;refine aH (aB ?_);refine ol_s (aCL hn rfl .here) rfl ?_;rintro _ K _ ⟨rfl,rfl,rfl⟩ -;refine uGw ?_;refine aG (aE ?_);refine aH ?_;refine uHq ?_;refine uAp ?_;refine aE (aH ?_);refine uFr ?_;refine aG (aE ?_);refine bI ?_;refine bS ?_;refine aO .nil ?_;refine bF rfl rfl (Hl.le_refl _) ?_;exact⟨_,rfl,rfl,rfl,rfl⟩
   ·
    refine aH (aB ?_);refine uAa ?_;refine cA rfl rfl (aJV r _) rfl ?_;refine aA (by first|exact dP rfl|exact dO rfl) rfl ?_;refine uAb ?_;refine aG (aE ?_)
    first|refine bK 183 rfl (fun h183=>?_) (fun h183=>?_)|refine eJ 183 rfl (fun h183=>?_) (fun h183=>?_)
    ·
     refine aH (aB ?_);refine uAb ?_;refine aG (aE ?_);refine bI ?_;refine bS ?_;refine aO .nil ?_;refine bF rfl rfl (Hl.le_refl _) ?_;exact⟨_,rfl,rfl,rfl,rfl⟩
    ·
     refine aEY ?_;refine aH (aB ?_);refine uAa ?_;refine aA (aD1 Tryz.underlying21 Tryz.underlying9 rfl) rfl ?_;refine uAb ?_;refine aG (aE ?_);refine aH (aB ?_);refine uAa ?_;refine uBs ?_;refine aA (nB rfl rfl aI aI) rfl ?_;refine uAb ?_;refine aG (aE ?_);refine aH (aB ?_);refine uEj ?_;refine aG (aE ?_);refine aH (aB ?_);refine uAb ?_;refine aG (aE ?_);refine aH (bE ?_);refine eR (fun(u:Unit)=>True) (fun _=>[(0,str cs),(7,str (mY r)),(8,i64 ((mY r).length - 1)),(9,i64 ((mY r).length - 1))]) (fun _=>K) (fun _=>[]) (fun _=>0) () trivial (.cons 0 rfl (.cons 7 rfl (.cons 8 rfl (.cons 9 rfl .nil)))) rfl (fun _ h=>h) ?_;intro _ _;refine aH (aH ?_);refine uCf ?_;refine uBs ?_;refine uBn ?_;refine aG (aE ?_);refine bK 26 rfl (fun h26=>?_) (fun h26=>?_)
     ·
      obtain⟨c,hc,hlo⟩:=aVF hcs (i:=(mY r).length - 1) aI;refine aW ?_;refine aE (bE ?_);refine aEY ?_;refine aH (aH ?_);refine t_draw (anc:=[0,0,3,0,0,24,63]) (ord:=[0,1,2,3,4,5,6]) [] [] mixed (by decide+kernel) (cS _) ?_;refine uGg ?_;refine dl_ev rfl rfl (.none rfl) rfl rfl (dJ (j:=(mY r).length - 1) Tryz.underlying9 rfl rfl aI hc) rfl ?_;refine uGg ?_;refine dl_ev rfl rfl (.none rfl) rfl rfl (dJ (j:=(mY r).length - 1) Tryz.underlying9 rfl rfl aI q3) rfl ?_;refine dl_ev rfl rfl (.none rfl) rfl rfl (gE rfl rfl) rfl ?_;refine uDf ?_;refine bK 33 rfl (fun h33=>?_) (fun h33=>?_)
      ·
       refine aH ?_;refine t_draw (anc:=[0,0,2,7,0,0,48,127,255]) (ord:=[0,1,2,3,4,5,6,7,8]) [7] [] mixed (by decide+kernel) (cS _) ?_;refine uGg ?_;refine uCp ?_;refine dl_ev rfl rfl (.none rfl) rfl rfl (iG (m:=(mY r).length) Tryz.underlying9 rfl rfl aI aI) rfl ?_;refine uGg ?_;refine dl_ev rfl rfl (.none rfl) rfl rfl (dJ (j:=(mY r).length - 1) Tryz.underlying9 rfl rfl aI q3) rfl ?_;refine dl_callv rfl (.none rfl) rfl rfl rfl rfl (aI1 (cs.drop (mY r).length) cl _) rfl ?_;refine uGn ?_;refine aE (aH ?_);refine aH (aB ?_);refine uAa ?_;refine uBn ?_;refine aG (aE ?_);refine bK 43 rfl (fun h43=>?_) (fun h43=>?_)
       ·
        refine aH (aB ?_);refine uAb ?_;refine aG (aE ?_);refine uCk ?_;refine a7 ?_;refine mS ?_;refine uGj ?_;refine a7 ?_;refine mS ?_;refine bS ?_;refine aO .nil ?_;refine bF rfl rfl (Hl.le_refl _) ?_;exact⟨_,rfl,rfl,rfl,rfl⟩
       ·
        exact absurd (show Lib.indexByte (cs.drop (mY r).length) cl < 0 by rw[aYA hcs q4];omega) h43
      ·
       exact absurd (show ¬((c.toNat:Int)=cl.toNat) by omega) h33
     ·
      refine uAp ?_;refine aE (aH ?_);refine aH (aB ?_);refine uAb ?_;refine aG (aE ?_);refine uCk ?_;refine mS ?_;refine bS ?_;refine aO .nil ?_;refine bF rfl rfl (Hl.le_refl _) ?_;exact⟨_,rfl,rfl,rfl,rfl⟩
 ·
  exact absurd (show (0:Int)≤r by omega) g163
theorem xC(cs:List UInt8)(hcs:∀c∈cs,c.toNat < 128)(hl:2≤cs.length)(s:List UInt8)(h8:s.length≤8)(K:Hl):Sp Tryz.prog 221 [str s,str cs] K [] (Ret fun v K' L'=>∃n:Int,v=i64 n∧(0≤n↔(s.any fun c=>cs.contains c)=true)∧K'=K∧L'=[]):=by
 have husc:∀(n:Int) (K:Hl),Sp Tryz.prog 290 [i64 n] K [] (Val (.bool (decide (8 < n))) K):=fun n K=>kR ⟨_,Tryz.func290,rfl,rfl⟩ fun w hw=>Tryz.strings_shouldUseASCIISet n w
 refine aZ Tryz.func221 rfl Tryz.ntmps221 rfl rfl fun F w=>?_
 refine aH (aB ?_);refine uAb ?_;refine aG (aE ?_);refine aH (aH ?_);refine uAf ?_;refine uIl ?_;refine aG (aE ?_);refine bK 12 rfl (fun h12=>?_) (fun h12=>?_)
 ·
  exact absurd h12 (by rintro rfl;simp at hl)
 ·
  refine aW ?_;refine aE (aH ?_);refine aH (aB ?_);refine uAa ?_;refine uBs ?_;refine uAq ?_;refine aG (aE ?_);refine bK 15 rfl (fun h15=>?_) (fun h15=>?_)
  ·
   exact absurd h15 aI
  ·
   refine aW ?_;refine aE (aH ?_);refine aH (aB ?_);refine uAa ?_;refine uBs ?_;refine cA rfl rfl (husc _ _) rfl ?_;refine aG (aE ?_);refine bK 26 rfl (fun h26=>?_) (fun h26=>?_)
   ·
    exact absurd h26 aI
   ·
    refine aW ?_;refine aE (aH ?_);refine aH (aB ?_);refine uAa ?_;refine ol_s (aAL Tryz.underlying9 rfl) rfl ?_;rintro _ K _ ⟨b45,rfl,rfl,rfl⟩ -;refine aG (aE ?_);refine bE ?_;refine eR (fun(i:Nat)=>i≤s.length∧∀j d,j < i→s[j]?=some d→cs.contains d=false) (fun i=>[(0,str s),(1,str cs),(45,ptr b45)]) (fun _=>K) (fun i=>[itr b45 s i]) (fun i=>s.length - i) 0 ⟨Nat.zero_le _,fun j d h _=>by omega⟩ (.cons 0 rfl (.cons 1 rfl (.cons 45 rfl .nil))) rfl (fun _ h=>h) ?_;intro i ⟨hi0,hno⟩;rcases Nat.lt_or_ge i s.length with hi|hi
    ·
     obtain⟨c,hc⟩:∃c,s[i]?=some c:=⟨s[i]'hi,List.getElem?_eq_getElem hi⟩;rcases Nat.lt_or_ge c.toNat 128 with hlo|hhi
     ·
      refine aH (aB ?_);refine ol_s (aG9 (L':=fun n=>[itr b45 s (i+n)]) hc hlo rfl (fun _=>.here)) rfl ?_;rintro _ K _ ⟨rfl,rfl,rfl⟩ -;refine uGw ?_;refine aG (aE ?_);refine aH ?_;refine uGe ?_;refine aW ?_;refine aE (bE ?_);refine aH (aB ?_);refine uAh ?_;refine uAw ?_;refine aG (aE ?_);refine aH (aB ?_);refine uAx ?_;refine cA rfl rfl (aG8 cs c hlo _) rfl ?_;refine uEl ?_;refine aG (aE ?_);refine bK 53 rfl (fun h53=>?_) (fun h53=>?_)
      ·
       have hbl:cs.contains c=true:=(by rw[Lib.contains_iff_indexByte];exact decide_eq_true h53);refine aH (aB ?_);refine uEj ?_;refine aG (aE ?_);refine uCi ?_;refine bS ?_;refine a7 ?_;refine aO .nil ?_;refine bF rfl rfl (Hl.le_refl _) ?_
       first
        |exact⟨_,rfl,-1,rfl,⟨fun h=>by omega,fun h=>by rw[hall]at h;cases h⟩,rfl,rfl⟩
        |exact⟨_,rfl,i,rfl,⟨fun _=>List.any_eq_true.2 ⟨c,List.mem_of_getElem? hc,hbl⟩,fun _=>by omega⟩,rfl,rfl⟩
      ·
       have hbl:cs.contains c=false:=(by rw[Lib.contains_iff_indexByte];exact decide_eq_false h53);refine uGr ?_
       first
        |(exact cQ (i+1) ⟨by omega,fun j d hj hd=>by rcases Nat.lt_or_ge j i with h|h;exact hno j d h hd;(obtain rfl:j=i:=by omega);rw[hc]at hd;cases hd;exact hbl⟩ aI (.cons 0 rfl (.cons 1 rfl (.cons 45 rfl .nil))) rfl (fun _ h=>h))
        |(exact cQ (i+n) ⟨h4,fun j d hj hd=>by rcases Nat.lt_or_ge j i with h|h;exact hno j d h hd;(have:=h5 j d h hj hd);cases hbd:cs.contains d with|false=>rfl|true=>exact absurd (hcs _ (List.contains_iff_mem.1 hbd)) aI⟩ aI (.cons 0 rfl (.cons 1 rfl (.cons 45 rfl .nil))) rfl (fun _ h=>h))
     ·
      refine aH (aB ?_);refine ol_s (aRQ (L':=fun n=>[itr b45 s (i+n)]) hc hhi rfl (fun _=>.here)) rfl ?_;rintro _ K _ ⟨r,n,rfl,rfl,rfl,h1,h2,h3,h4,h5⟩ -;refine uGw ?_;refine aG (aE ?_);refine aH ?_;refine uGe ?_;refine aW ?_;refine aE (bE ?_);refine aH (aB ?_);refine uAh ?_;refine uAw ?_;refine aG (aE ?_);refine aH (aB ?_);refine uAx ?_;refine bC rfl rfl (aG7 cs hcs hl r aI _) .nil rfl ?_;rintro _ K _ ⟨rfl,rfl,rfl⟩ -;refine uEl ?_;refine aG (aE ?_);refine bK 53 rfl (fun h53=>?_) (fun h53=>?_)
      ·
       exact absurd h53 aI
      ·
       refine uGr ?_
       first
        |(exact cQ (i+1) ⟨by omega,fun j d hj hd=>by rcases Nat.lt_or_ge j i with h|h;exact hno j d h hd;(obtain rfl:j=i:=by omega);rw[hc]at hd;cases hd;exact hbl⟩ aI (.cons 0 rfl (.cons 1 rfl (.cons 45 rfl .nil))) rfl (fun _ h=>h))
        |(exact cQ (i+n) ⟨h4,fun j d hj hd=>by rcases Nat.lt_or_ge j i with h|h;exact hno j d h hd;(have:=h5 j d h hj hd);cases hbd:cs.contains d with|false=>rfl|true=>exact absurd (hcs _ (List.contains_iff_mem.1 hbd)) aI⟩ aI (.cons 0 rfl (.cons 1 rfl (.cons 45 rfl .nil))) rfl (fun _ h=>h))
    ·
     have hn:¬i < s.length:=aI;have hall:(s.any fun c=>cs.contains c)=false:=(by rw[List.any_eq_false];intro x hx;obtain⟨j,hj⟩:=List.getElem?_of_mem hx;have:=hno j x (by have:=nP hj;omega) hj;simpa using this);refine aH (aB ?_);refine ol_s (aCL hn rfl .here) rfl ?_;rintro _ K _ ⟨rfl,rfl,rfl⟩ -;refine uGw ?_;refine aG (aE ?_);refine aH ?_;refine uHq ?_;refine uAp ?_;refine aE (aH ?_);refine uFr ?_;refine aG (aE ?_);refine uCx ?_;refine bF rfl rfl (Hl.le_refl _) ?_
     first
      |exact⟨_,rfl,-1,rfl,⟨fun h=>by omega,fun h=>by rw[hall]at h;cases h⟩,rfl,rfl⟩
      |exact⟨_,rfl,i,rfl,⟨fun _=>List.any_eq_true.2 ⟨c,List.mem_of_getElem? hc,hbl⟩,fun _=>by omega⟩,rfl,rfl⟩
theorem aDN(cs:List UInt8)(hcs:∀c∈cs,c.toNat < 128)(hl:2≤cs.length)(s:List UInt8)(h8:s.length≤8)(K:Hl):Sp Tryz.prog 127 [str s,str cs] K [] (Val (.bool (s.any fun c=>cs.contains c)) K):=by
 refine aZ Tryz.func127 rfl Tryz.ntmps127 rfl rfl fun F w=>?_
 refine aH (aB ?_);refine uAb ?_;refine aG (aE ?_);refine aH (aB ?_);refine uAx ?_;refine bC rfl rfl (xC cs hcs hl s h8 _) .nil rfl ?_;rintro _ K _ ⟨n,rfl,hn,rfl,rfl⟩ -;refine uEl ?_;refine uAb ?_;refine aG (aE ?_);refine uCx ?_;refine bF rfl rfl (Hl.le_refl _) ?_;refine retB ?_ _
 rw[Bool.eq_iff_iff,←hn];simp
end Go.Proofs
end
section
namespace Go.Mach
open Go.Syn
theorem aWO(s:aM):s.findIdx? (fun x=>decide (x=64))=if Lib.indexByte s 64 < 0 then none else some (Lib.indexByte s 64).toNat:=by
 split
 ·rename_i h;have h1:=Lib.indexByte_ge s 64;have h2:=Lib.indexByte_none (l:=s) (c:=64) aI;rw[List.findIdx?_eq_none_iff];intro x hx;obtain⟨k,hk⟩:=List.getElem?_of_mem hx;have:=h2 k;rw[hk]at this
  simpa using this
 ·rename_i h;obtain⟨h1,h2⟩:=Lib.indexByte_some (l:=s) (c:=64) (o:=(Lib.indexByte s 64).toNat) aI;rw[List.findIdx?_eq_some_iff_getElem];have hlt:(Lib.indexByte s 64).toNat < s.length:=by
   rcases Nat.lt_or_ge (Lib.indexByte s 64).toNat s.length with h'|h'
   ·exact h'
   ·rw[List.getElem?_eq_none h']at h1;cases h1
  rw[List.getElem?_eq_getElem hlt]at h1;refine⟨hlt,by simpa using h1,fun j hj=>?_⟩
  have:=h2 j hj;rw[List.getElem?_eq_getElem aI]at this
  simpa using this
theorem aXX(s:aM):(s.any fun c=>decide (c=64))=decide (0≤Lib.index s [64]):=by
 rw[Lib.index_one];have h1:=Lib.indexByte_ge s 64
 by_cases h:Lib.indexByte s 64 < 0
 ·have h2:=Lib.indexByte_none (l:=s) (c:=64) aI;rw[decide_eq_false aI,List.any_eq_false];intro x hx;obtain⟨k,hk⟩:=List.getElem?_of_mem hx;have:=h2 k;rw[hk]at this
  simpa using this
 ·obtain⟨h1,h2⟩:=Lib.indexByte_some (l:=s) (c:=64) (o:=(Lib.indexByte s 64).toNat) aI;rw[decide_eq_true aI,List.any_eq_true];exact⟨64,List.mem_of_getElem? h1,by simp⟩
def ad(s:aM):Bool:=(Lib.cut s [64]).2.2&&(decide ((Lib.cut s [64]).1≠[])&&(decide ((Lib.cut s [64]).2.1≠[])&&(!(s.any iY)&&(!(decide (0≤Lib.index (Lib.cut s [64]).2.1 [64]))&&decide (s.length≤32)))))
theorem jZ(s:aM):jY s=ad s:=by
 unfold jY ad Lib.cut;rw[aWO,Lib.index_one]
 by_cases h:Lib.indexByte s 64 < 0
 ·rw[if_pos h,if_neg aI];rfl
 ·rw[if_neg h,if_pos aI];simp only[aXX,List.length_singleton,Bool.true_and,Bool.and_assoc]
theorem aBR(c:UInt8):iY c=[32,9,13,10].contains c:=by
 unfold iY;rw[Bool.eq_iff_iff];simp only[decide_eq_true_eq,List.contains_iff_mem,List.mem_cons,List.not_mem_nil,or_false]
 constructor
 ·rintro(h|h|h|h)
  ·left;exact UInt8.toNat_inj.1 h
  ·right;left;exact UInt8.toNat_inj.1 h
  ·right;right;left;exact UInt8.toNat_inj.1 h
  ·right;right;right;exact UInt8.toNat_inj.1 h
 ·rintro(h|h|h|h) <;> subst h <;> decide
theorem q8:∀s:aM,decide (0≤Lib.indexAny s [32,9,13,10])=s.any iY
 | []=>rfl
 |b::l=>by
  have ih:=q8 l;have hg:=Lib.indexAny_ge [32,9,13,10] l;rw[Lib.indexAny,List.any_cons,aBR,←ih];cases h:[32,9,13,10].contains b with
  |true=>simp
  |false=>
   simp only[Bool.false_eq_true,if_false,Bool.false_or];split
   ·rename_i h2;have:=beq_iff_eq.1 h2;rw[this]
   ·rename_i h2;have h3:Lib.indexAny l [32,9,13,10]≠ -1:=fun e=>h2 (by rw[e];rfl)
    rw[decide_eq_true aI,decide_eq_true aI]
end Go.Mach
end
section
namespace Go.Proofs
open Go Go.SL Go.Syn Go.Mach
def ws:List UInt8:=[32,9,13,10]
theorem aZW{i:Nat}(h:i < 4):∃c,ws[i]?=some c∧c.toNat < 128:=by
 rcases(show i=0∨i=1∨i=2∨i=3 by omega)with rfl|rfl|rfl|rfl
 ·exact⟨32,rfl,by decide⟩
 ·exact⟨9,rfl,by decide⟩
 ·exact⟨13,rfl,by decide⟩
 ·exact⟨10,rfl,by decide⟩
theorem aI0(s:List UInt8)(h8:s.length≤8)(K:Hl):Sp Tryz.prog 221 [str s,str ws] K [] (Ret fun v K' L'=>∃n:Int,v=i64 n∧(0≤n↔s.any iY=true)∧K'=K∧L'=[]):=by
 have e:(fun c=>ws.contains c)=iY:=by funext c;rw[aBR];rfl
 have:=xC ws (by decide) (by decide) s h8 K;rw[e]at this;exact this
theorem aMO(s:List UInt8)(hs:s.length≤1000000)(K:Hl):Sp Tryz.prog 221 [str s,str ws] K [] (Ret fun v K' L'=>∃n:Int,v=i64 n∧(0≤n↔s.any iY=true)∧K'=K∧L'=[]):=by
 rcases Nat.lt_or_ge 8 s.length with h8|h8
 ·have h116:(Tryz.prog.info? 415).map (fun i=>(i.zero,i.size))=some (some (.agg (Array.replicate 256 (.bool false))),256):=by kernel_rfl
  refine(kY (v:=i64 (Lib.indexAny s ws)) ⟨_,Tryz.func221,rfl,rfl⟩ fun w hw=>?_).mono ?_
  ·refine(Tryz.strings_IndexAny_long (zero_of_info h116).1 ⟨s.toArray⟩ ⟨ws.toArray⟩ w (by decide) (by simpa[ByteArray.size]using h8) (by simp[ByteArray.size];omega) (by decide) ?_).mono fun e w' ⟨he,hw'⟩=>⟨he,?_⟩
   ·intro j b hj;have hlt:j < 4:=nP (l:=ws) hj;obtain⟨c,hc,hc2⟩:=aZW hlt;have hj':ws[j]?=some b:=hj;rw[hc]at hj';cases hj';exact hc2
   ·rw[hw'];exact((RowKit.Below.refl _ _).alloc (Nat.le_refl _) _).alloc (by simp) _
  ·rintro e K' L' ⟨rfl,rfl,rfl⟩;have:=q8 s;exact⟨_,rfl,_,rfl,by rw[←this];exact decide_eq_true_iff.symm,rfl,rfl⟩
 ·exact aI0 s h8 K
theorem aLY(s:List UInt8)(hs:s.length≤1000000)(K:Hl):Sp Tryz.prog 127 [str s,str ws] K [] (Val (.bool (s.any iY)) K):=by
 refine aZ Tryz.func127 rfl Tryz.ntmps127 rfl rfl fun F w=>?_
 refine aH (aB ?_);refine uAb ?_;refine aG (aE ?_);refine aH (aB ?_);refine uAx ?_;refine bC rfl rfl (aMO s hs _) .nil rfl ?_;rintro _ K _ ⟨n,rfl,hn,rfl,rfl⟩ -;refine uEl ?_;refine uAb ?_;refine aG (aE ?_);refine uCx ?_;refine bF rfl rfl (Hl.le_refl _) ?_;refine retB ?_ _
 rw[Bool.eq_iff_iff,←hn];simp
theorem aNT(s sep:List UInt8)(K:Hl)(hg:Glob K)(hs:s.length < 4294967281):Sp Tryz.prog 228 [str s,str sep] K [] (Val (.tuple #[str (Lib.cut s sep).1,str (Lib.cut s sep).2.1,.bool (Lib.cut s sep).2.2]) K):=by
 refine kY ⟨_,Tryz.func228,rfl,rfl⟩ fun w hw=>?_
 obtain⟨m,T,fz,hm⟩:=hg.maxLen;refine(Tryz.strings_Cut ⟨s.toArray⟩ ⟨sep.toArray⟩ m w (by simpa[ByteArray.size]using hs) (mM (hw _ _ hm) rfl)).mono fun e w' ⟨he,n,hw'⟩=>⟨he,?_⟩
 rw[hw'];exact⟨rfl,rfl,rfl,Nat.le_refl _,fun _ _=>rfl⟩
theorem aTG(s sep:List UInt8):(Lib.cut s sep).2.1.length≤s.length:=by
 unfold Lib.cut;split
 ·simp
 ·simp
theorem yT(s:List UInt8)(K:Hl)(hg:Glob K)(hs:s.length≤100000):Sp Tryz.prog 256 [str s] K [] (Val (.bool (jY s)) K):=by
 have hcl:=aTG s [64];refine aZ Tryz.func256 rfl Tryz.ntmps256 rfl rfl fun F w=>?_
 refine aH (aB ?_);refine uAb ?_;refine aG (aE ?_);refine aH (aB ?_);refine uAa ?_;refine cA rfl rfl (aNT s [64] _ hg aI) rfl ?_;refine uBw ?_;refine aG (aE ?_);refine aH (aB ?_);refine uAx ?_;refine mW 13 rfl (fun g13=>?_) (fun g13=>?_)
 ·
  refine uAi ?_;refine aA (o2 rfl rfl) rfl ?_;refine uFo ?_;refine cG 17 rfl (fun g17=>?_) (fun g17=>?_)
  ·
   refine uAi ?_;refine aA (o2 rfl rfl) rfl ?_;refine uFo ?_;refine cG 21 rfl (fun g21=>?_) (fun g21=>?_)
   ·
    refine uAi ?_;refine cA rfl rfl (aLY s aI _) rfl ?_;refine uAz ?_;refine aA (by first|exact dP rfl|exact dO rfl) rfl ?_;refine uFo ?_;refine mW 26 rfl (fun g26=>?_) (fun g26=>?_)
    ·
     refine uAi ?_;refine cA rfl rfl (uQ (Lib.cut s [64]).2.1 [64] _ hg aI) rfl ?_;refine uAz ?_;refine aA (by first|exact dP rfl|exact dO rfl) rfl ?_;refine uFo ?_;refine mW 31 rfl (fun g31=>?_) (fun g31=>?_)
     ·
      refine uAi ?_;refine uBs ?_;refine uAz ?_;refine uEs ?_;refine uDv ?_;refine aG (aE ?_);refine uCx ?_;refine bF rfl rfl (Hl.le_refl _) ?_;refine retB ?_ _
      rw[jZ];unfold ad;have hd32:decide ((s.length:Int)≤32)=decide (s.length≤32):=(by rw[decide_eq_decide];omega)
      generalize s.any iY=xb at*
      by_cases hix:0≤Lib.index (Lib.cut s [64]).2.1 [64]
      ·simp_all
      ·simp_all
     ·
      refine uFa ?_;refine uAb ?_;refine aG (aE ?_);refine uCx ?_;refine bF rfl rfl (Hl.le_refl _) ?_;refine retB ?_ _
      rw[jZ];unfold ad;have hd32:decide ((s.length:Int)≤32)=decide (s.length≤32):=(by rw[decide_eq_decide];omega)
      generalize s.any iY=xb at*
      by_cases hix:0≤Lib.index (Lib.cut s [64]).2.1 [64]
      ·simp_all
      ·simp_all
    ·
     refine uDn ?_;refine uAb ?_;refine aG (aE ?_);refine uCx ?_;refine bF rfl rfl (Hl.le_refl _) ?_;refine retB ?_ _
     rw[jZ];unfold ad;have hd32:decide ((s.length:Int)≤32)=decide (s.length≤32):=(by rw[decide_eq_decide];omega)
     generalize s.any iY=xb at*
     by_cases hix:0≤Lib.index (Lib.cut s [64]).2.1 [64]
     ·simp_all
     ·simp_all
   ·
    refine uDn ?_;refine uAa ?_;refine uFa ?_;refine uAb ?_;refine aG (aE ?_);refine uCx ?_;refine bF rfl rfl (Hl.le_refl _) ?_;refine retB ?_ _
    rw[jZ];unfold ad;have hd32:decide ((s.length:Int)≤32)=decide (s.length≤32):=(by rw[decide_eq_decide];omega)
    generalize s.any iY=xb at*
    by_cases hix:0≤Lib.index (Lib.cut s [64]).2.1 [64]
    ·simp_all
    ·simp_all
  ·
   refine uGo ?_;refine uAa ?_;refine uDn ?_;refine uAa ?_;refine uFa ?_;refine uAb ?_;refine aG (aE ?_);refine uCx ?_;refine bF rfl rfl (Hl.le_refl _) ?_;refine retB ?_ _
   rw[jZ];unfold ad;have hd32:decide ((s.length:Int)≤32)=decide (s.length≤32):=(by rw[decide_eq_decide];omega)
   generalize s.any iY=xb at*
   by_cases hix:0≤Lib.index (Lib.cut s [64]).2.1 [64]
   ·simp_all
   ·simp_all
 ·
  refine uGo ?_;refine uAa ?_;refine uGo ?_;refine uAa ?_;refine uDn ?_;refine uAa ?_;refine uFa ?_;refine uAb ?_;refine aG (aE ?_);refine uCx ?_;refine bF rfl rfl (Hl.le_refl _) ?_;refine retB ?_ _
  rw[jZ];unfold ad;have hd32:decide ((s.length:Int)≤32)=decide (s.length≤32):=(by rw[decide_eq_decide];omega)
  generalize s.any iY=xb at*
  by_cases hix:0≤Lib.index (Lib.cut s [64]).2.1 [64]
  ·simp_all
  ·simp_all
end Go.Proofs
end
section
namespace Go.Proofs
open Go Go.SL Go.Syn Go.Mach
structure MsgOk (m:Msg):Prop where
 hn:m.hs.length≤1000000
 hs:∀h∈m.hs,h.1.length≤100000∧h.2.length≤100000
 from_:m.from_.length≤100000
 to_:m.to_.length≤100000
structure InsOk (o:Ins):Prop where
 an:o.a.length≤1000000
 bn:o.b.length≤1000000
 a:∀x∈o.a,x.length≤100000
 b:∀x∈o.b,x.length≤100000
structure MInv (s:MS):Prop where
 stack:s.stack.length≤8
 acts:s.acts.length≤6
 vars:∀name,(vget s.vars name).length≤100000
 parts:∀x∈s.parts,x.length≤100000
theorem MInv.small{s:MS}(h:MInv s):o1 s.vars s.parts:=by
 intro name;unfold held;split
 ·split
  ·rename_i c _;simp only[];cases hp:s.parts[c.toNat - 48]? with
   |none=>simp
   |some x=>exact h.parts x (List.mem_of_getElem? hp)
  ·exact h.vars _
 ·exact h.vars _
theorem MInv.start:MInv Mach.start:=⟨by simp[Mach.start],by simp[Mach.start],fun _=>by simp[Mach.start,vget],by simp[Mach.start]⟩
theorem aDE(k v name:aM):∀vars:List (aM×aM),vget (vput vars k v) name=if k=name then v else vget vars name
 | []=>by unfold vput vget;rfl
 |(j,u)::r=>by
  unfold vput
  by_cases h:j=k
  ·rw[if_pos h];subst h
   unfold vget;split <;> rfl
  ·rw[if_neg h];unfold vget;rw[aDE k v name r]
   by_cases h2:j=name
   ·rw[if_pos h2,if_pos h2,if_neg (fun e=>h (by rw[h2,e]))]
   ·rw[if_neg h2,if_neg h2]
theorem MInv.push{s t:MS}{b:Bool}(h:MInv s)(hp:Mach.push s b=.ok t):MInv t:=by
 unfold Mach.push at hp;split at hp
 ·cases hp;exact⟨by simp;omega,h.acts,h.vars,h.parts⟩
 ·cases hp
theorem MInv.pop{s:MS}{r:Bool×MS}(h:MInv s)(hp:Mach.pop s=.ok r):MInv r.2:=by
 unfold Mach.pop at hp;split at hp
 ·cases hp;exact⟨by have:=h.stack;simp;omega,h.acts,h.vars,h.parts⟩
 ·cases hp
theorem MInv.jump{s t:MS}{by_:Int}{n:Nat}{yes:Bool}(h:MInv s)(hp:Mach.jump s by_ n yes=.ok t):MInv t:=by
 unfold Mach.jump at hp;split at hp
 ·cases hp;split
  ·exact⟨h.stack,h.acts,h.vars,h.parts⟩
  ·exact h
 ·cases hp
theorem aGA(w v k:aM):∀f i j ps,g9 w v k f i j=some ps→∀x∈ps,x.length≤w.length:=by
 have one:∀e i,((w.take e).drop i).length≤w.length:=by intro e i;simp;omega
 intro f;induction f with
 |zero=>intro i j ps h;cases h
 |succ f ih=>
  intro i j ps h;have cons:∀e i' j' q,g9 w v k f i' j'=q→q.map (fun ps=>((w.take e).drop i)::ps)=some ps→∀x∈ps,x.length≤w.length:=by
   intro e i' j' q hq hm;cases q with
   |none=>cases hm
   |some r=>
    cases hm
    intro x hx;rcases List.mem_cons.1 hx with rfl|hx
    ·exact one _ _
    ·exact ih _ _ _ hq x hx
  unfold g9 at h;split at h
  ·split at h
   ·cases h;intro x hx;cases hx
   ·cases h
  ·split at h
   ·have key:∀n e,kA (fun e=>(g9 w v k f e (j+1)).map fun ps=>((w.take e).drop i)::ps) n e=some ps→∀x∈ps,x.length≤w.length:=by
     intro n;induction n with
     |zero=>intro e h;cases h
     |succ n ihn=>
      intro e h;unfold kA at h;split at h
      ·rename_i x hx;cases h
       exact cons _ _ _ _ rfl hx
      ·exact ihn _ h
    exact key _ _ h
   ·split at h
    ·cases h
    ·split at h
     ·exact cons _ _ _ _ rfl h
     ·split at h
      ·split at h
       ·exact ih _ _ _ h
       ·cases h
      ·split at h
       ·exact ih _ _ _ h
       ·cases h
theorem q6{α β:Type}{f:α→Option β}{y:β}:∀ {l:List α},o3 f l=some y→∃x∈l,f x=some y
 | [],h=>by cases h
 |x::l,h=>by
  unfold o3 at h;split at h
  ·rename_i z hz;cases h;exact⟨x,by simp,hz⟩
  ·obtain⟨w,hw,hf⟩:=q6 h;exact⟨w,by simp[hw],hf⟩
theorem aBM{o:Ins}{x y:aM}{ps:List aM}(h:gU o x y=some ps):∀z∈ps,z.length≤x.length:=by
 unfold gU at h;split at h
 ·split at h
  ·cases h;intro z hz;cases hz
  ·cases h
 ·split at h
  ·split at h
   ·cases h;intro z hz;cases hz
   ·cases h
  ·exact aGA _ _ _ _ _ _ _ h
theorem zV{o:Ins}{vs ks ps:List aM}{n:Nat}(hv:∀x∈vs,x.length≤n)(h:jB o vs ks=some ps):∀z∈ps,z.length≤n:=by
 obtain⟨v,hv1,h1⟩:=q6 h;obtain⟨k,hk1,h2⟩:=q6 h1;cases hq:gU o v k with
 |none=>rw[hq]at h2;cases h2
 |some q=>
  rw[hq]at h2;cases h2
  intro z hz;rcases List.mem_cons.1 hz with rfl|hz
  ·exact hv _ hv1
  ·exact Nat.le_trans (aBM hq z hz) (hv _ hv1)
theorem aDD{nm:Bool}{vars:List (aM×aM)}{parts:List aM}{m:Msg}{o:Ins}(hm:MsgOk m)(ho:InsOk o):∀x∈gF (dF nm vars parts) m o,x.length≤100000:=by
 intro x hx;unfold gF at hx;split at hx
 ·obtain⟨y,hy,rfl⟩:=List.mem_map.1 hx;exact iX (ho.a y hy)
 ·split at hx
  ·obtain⟨y,_,hy⟩:=List.mem_flatMap.1 hx;unfold fW at hy;obtain⟨h,hh,rfl⟩:=List.mem_map.1 hy;exact(hm.hs h (List.mem_filter.1 hh).1).2
  ·split at hx
   ·obtain⟨y,_,hy⟩:=List.mem_flatMap.1 hx;unfold oK at hy;split at hy
    ·rw[List.mem_singleton]at hy;subst hy;exact hm.from_
    ·split at hy
     ·rw[List.mem_singleton]at hy;subst hy;exact hm.to_
     ·cases hy
   ·cases hx
theorem MInv.matchI{nm:Bool}{m:Msg}{o:Ins}{s t:MS}(h:MInv s)(hm:MsgOk m)(ho:InsOk o)(hp:Mach.matchI nm m o s=.ok t):MInv t:=by
 unfold Mach.matchI at hp;split at hp
 ·simp only[]at hp;split at hp
  ·rename_i ps hps;refine MInv.push ?_ hp
   split
   ·exact⟨h.stack,h.acts,h.vars,zV (aDD hm ho) hps⟩
   ·exact h
  ·exact h.push hp
 ·cases hp
theorem MInv.setI{nm:Bool}{o:Ins}{s t:MS}(h:MInv s)(hp:Mach.setI nm o s=.ok t):MInv t:=by
 unfold Mach.setI at hp;split at hp
 ·split at hp
  ·cases hp
   refine⟨h.stack,h.acts,fun name=>?_,h.parts⟩
   simp only[aDE];split
   ·simp;omega
   ·exact h.vars name
  ·cases hp
 ·cases hp
theorem MInv.actI{nm:Bool}{o:Ins}{s t:MS}(h:MInv s)(hp:Mach.actI nm o s=.ok t):MInv t:=by
 unfold Mach.actI at hp;split at hp
 ·simp only[]at hp;split at hp
  ·cases hp
  split at hp
  ·cases hp
  split at hp
  ·cases hp;exact⟨h.stack,h.acts,h.vars,h.parts⟩
  split at hp
  ·cases hp
  split at hp
  ·cases hp
  ·cases hp;exact⟨h.stack,by have:=h.acts;simp;omega,h.vars,h.parts⟩
 ·cases hp
theorem MInv.step{nm:Bool}{m:Msg}{n:Nat}{o:Ins}{s t:MS}(hi:MInv s)(hm:MsgOk m)(ho:InsOk o)(h:Mach.step nm m n o s=.ok t):MInv t:=by
 unfold Mach.step at h
 by_cases h0:o.op=1
 ·rw[if_pos h0]at h;split at h
  ·exact hi.push h
  ·cases h
 rw[if_neg h0]at h
 by_cases h1:o.op=2
 ·rw[if_pos h1]at h;split at h
  ·cases h
  ·rename_i r hr;exact(hi.pop hr).push h
 rw[if_neg h1]at h
 by_cases h2:o.op=3
 ·rw[if_pos h2]at h;exact hi.jump h
 rw[if_neg h2]at h
 by_cases h3:o.op=4
 ·rw[if_pos h3]at h;split at h
  ·cases h
  ·rename_i r hr;exact(hi.pop hr).jump h
 rw[if_neg h3]at h
 by_cases h4:o.op=5
 ·rw[if_pos h4]at h;split at h
  ·cases h
  ·rename_i r hr;exact(hi.pop hr).jump h
 rw[if_neg h4]at h
 by_cases h5:o.op=6∨o.op=7∨o.op=8
 ·rw[if_pos h5]at h;exact hi.matchI hm ho h
 rw[if_neg h5]at h
 by_cases h6:o.op=9
 ·rw[if_pos h6]at h;exact hi.push h
 rw[if_neg h6]at h
 by_cases h7:o.op=10
 ·rw[if_pos h7]at h;split at h
  ·exact hi.push h
  ·cases h
 rw[if_neg h7]at h
 by_cases h8:o.op=11
 ·rw[if_pos h8]at h;exact hi.actI h
 rw[if_neg h8]at h
 by_cases h9:o.op=12
 ·rw[if_pos h9]at h;exact hi.setI h
 rw[if_neg h9]at h
 by_cases h10:o.op=13
 ·rw[if_pos h10]at h;cases h;exact⟨hi.stack,hi.acts,hi.vars,hi.parts⟩
 rw[if_neg h10]at h;cases h
def fnOf(op:Int):Nat:=if op=1 then 141 else if op=2 then 143 else if op=3 then 145 else if op=4 then 147 else if op=5 then 148 else if op=9 then 150 else if op=10 then 152 else if op=11 then 153 else if op=12 then 154 else if op=13 then 155 else 149
theorem aJM(b mb:Nat)(m:Msg)(hv pv:Value)(nm:Bool)(s:MS)(o:Ins)(av bv:Value)(n:Nat)(K:Hl)(hop:1≤o.op∧o.op≤13)(hg:Glob K)(hpv:Ksl (bT 9) K pv s.parts)(ha:Ksl (bT 9) K av o.a)(hb:Ksl (bT 9) K bv o.b)(hh:Ksl hdEl K hv m.hs)(hm:MsgOk m)(ho:InsOk o)(hs:MInv s)(hp:s.pc < 1000)(hn:n < 1000):
  Sp Tryz.prog (fnOf o.op) [ptr b,l4 o av bv,i64 n] K [mch b mb m hv pv nm s] (MI b mb m hv nm (Mach.step nm m n o s)):=by
 have hst:s.stack.length≤100:=by have:=hs.stack;omega
 have hhs:∀h∈m.hs,h.1.length≤1000000:=fun h hh=>by have:=(hm.hs h hh).1;omega
 have hvl:∀x∈gF (dF nm s.vars s.parts) m o,x.length≤1000000:=fun x hx=>by have:=aDD hm ho x hx;omega
 unfold fnOf Mach.step
 by_cases h1:o.op=1
 ·rw[if_pos h1,if_pos h1];exact aPW b mb m hv pv nm s o av bv n K hpv ha hb
 rw[if_neg h1,if_neg h1]
 by_cases h2:o.op=2
 ·rw[if_pos h2,if_pos h2];exact aPX b mb m hv pv nm s o av bv n K hpv ha hb hp hn hst
 rw[if_neg h2,if_neg h2]
 by_cases h3:o.op=3
 ·rw[if_pos h3,if_pos h3];exact aPY b mb m hv pv nm s o av bv n K hpv ha hb hp hn hst
 rw[if_neg h3,if_neg h3]
 by_cases h4:o.op=4
 ·rw[if_pos h4,if_pos h4];exact aPZ b mb m hv pv nm s o av bv n K hpv ha hb hp hn hst
 rw[if_neg h4,if_neg h4]
 by_cases h5:o.op=5
 ·rw[if_pos h5,if_pos h5];exact aP0 b mb m hv pv nm s o av bv n K hpv ha hb hp hn hst
 rw[if_neg h5,if_neg h5]
 by_cases h9:o.op=9
 ·rw[if_pos h9,if_neg aI,if_pos h9];exact aP1 b mb m hv pv nm s o av bv n K hg hpv ha hb hh hm.hn hhs ho.an ho.a hs.small
 rw[if_neg h9]
 by_cases h10:o.op=10
 ·rw[if_pos h10,if_neg aI,if_neg h9,if_pos h10];exact aP2 b mb m hv pv nm s o av bv n K hpv ha hb
 rw[if_neg h10]
 by_cases h11:o.op=11
 ·rw[if_pos h11,if_neg aI,if_neg h9,if_neg h10,if_pos h11];exact aLR b mb m hv pv nm s o av bv n K hg hpv ha hb ho.a hs.small hs.acts (fun x K hg hx=>yT x K hg hx)
 rw[if_neg h11]
 by_cases h12:o.op=12
 ·rw[if_pos h12,if_neg aI,if_neg h9,if_neg h10,if_neg h11,if_pos h12];exact aNY b mb m hv pv nm s o av bv n K hg hpv ha hb ho.b hs.small
 rw[if_neg h12]
 by_cases h13:o.op=13
 ·rw[if_pos h13,if_neg aI,if_neg h9,if_neg h10,if_neg h11,if_neg h12,if_pos h13];exact aP3 b mb m hv pv nm s o av bv n K hpv ha hb
 rw[if_neg h13,if_pos aI];exact aGL b mb m hv pv nm s o av bv n K hg hpv ha hb hh hm.hn hhs ho.an ho.a ho.bn ho.b hs.small hvl
def aBX:List Cell:=⟨.nilFunc,rfl⟩::([1,2,3,4,5,6,7,8,9,10,11,12,13].map fun op=>(⟨.func (.func (fnOf op)) #[] #[],rfl⟩:Cell))++[⟨.nilFunc,rfl⟩]
theorem aYI:∀k:Fin 13,([1,2,3,4,5,6,7,8,9,10,11,12,13]:List Int)[k.1]?=some ((k.1:Int)+1):=by decide
theorem aP4{op:Int}(h:1≤op∧op≤13):aBX[op.toNat]?=some ⟨.func (.func (fnOf op)) #[] #[],rfl⟩:=by
 obtain⟨n,hn⟩:∃n:Nat,op.toNat=n+1:=⟨op.toNat - 1,by omega⟩;have hlt:n < 13:=by omega
 have h2:=aYI ⟨n,hlt⟩;simp only at h2;have e:(n:Int)+1=op:=by omega
 rw[e]at h2;unfold aBX;rw[hn,List.cons_append,List.getElem?_cons_succ,List.getElem?_append_left (by simpa using hlt),List.getElem?_map,h2]
 rfl
theorem aII(K:Hl):Sp Tryz.prog 91 [] K [] (Ret fun v K' L'=>Ksl (eD 184) K' v aBX∧L'=[]):=by
 refine aZ Tryz.func91 rfl Tryz.ntmps91 rfl rfl fun F w=>?_
 refine aH (aB ?_);refine uAb ?_;refine aG (aE ?_);refine aH (aB ?_);refine ol_s (bN (z0:=[.nilFunc,.nilFunc,.nilFunc,.nilFunc,.nilFunc,.nilFunc,.nilFunc,.nilFunc,.nilFunc,.nilFunc,.nilFunc,.nilFunc,.nilFunc,.nilFunc,.nilFunc]) xS aZL rfl rfl rfl rfl (.cons rfl rfl rfl (.skip (.cons .nil)) (.cons rfl rfl rfl (.skip (.skip (.cons .nil))) (.cons rfl rfl rfl (.skip (.skip (.skip (.cons .nil)))) (.cons rfl rfl rfl (.skip (.skip (.skip (.skip (.cons .nil))))) (.cons rfl rfl rfl (.skip (.skip (.skip (.skip (.skip (.cons .nil)))))) (.cons rfl rfl rfl (.skip (.skip (.skip (.skip (.skip (.skip (.cons .nil))))))) (.cons rfl rfl rfl (.skip (.skip (.skip (.skip (.skip (.skip (.skip (.cons .nil)))))))) (.cons rfl rfl rfl (.skip (.skip (.skip (.skip (.skip (.skip (.skip (.skip (.cons .nil))))))))) (.cons rfl rfl rfl (.skip (.skip (.skip (.skip (.skip (.skip (.skip (.skip (.skip (.cons .nil)))))))))) (.cons rfl rfl rfl (.skip (.skip (.skip (.skip (.skip (.skip (.skip (.skip (.skip (.skip (.cons .nil))))))))))) (.cons rfl rfl rfl (.skip (.skip (.skip (.skip (.skip (.skip (.skip (.skip (.skip (.skip (.skip (.cons .nil)))))))))))) (.cons rfl rfl rfl (.skip (.skip (.skip (.skip (.skip (.skip (.skip (.skip (.skip (.skip (.skip (.skip (.cons .nil))))))))))))) (.cons rfl rfl rfl (.skip (.skip (.skip (.skip (.skip (.skip (.skip (.skip (.skip (.skip (.skip (.skip (.skip (.cons .nil)))))))))))))) (.cons rfl rfl rfl (.skip (.skip (.skip (.skip (.skip (.skip (.skip (.skip (.skip (.skip (.skip (.skip (.skip (.skip (.cons .nil))))))))))))))) .nil))))))))))))))) rfl ?_;rintro _ K _ ⟨b1,rfl,rfl,rfl⟩ -;refine uAb ?_;refine aG (aE ?_);refine bI ?_;refine gI fun KS leS hS=>?_
 refine bF rfl rfl leS ?_;exact⟨_,rfl,.inr ⟨b1,0,15,_,_,rfl,⟨_,hS⟩,rfl⟩,rfl⟩
end Go.Proofs
end
section
namespace Go.Proofs
open Go Go.SL Go.Syn Go.Mach Go.Cmp
theorem aRM(b6 b8:Nat)(K:Hl):SpD Tryz.prog 89 [ptr b6,ptr b8] K [] .returning fun e u' K' L'=>u'=.returning∧(e=.returned (.tuple #[])∧K'=K∧L'=[]):=by
 refine aEU (rv:=.nilIface) (u':=.returning) Tryz.func89 rfl Tryz.ntmps89 rfl rfl rfl rfl tC fun F w=>?_
 refine aH (aB ?_);refine uAa ?_;refine aA (gL Tryz.underlying20 rfl) rfl ?_;refine aG (aE ?_);refine uBf ?_;refine dD rfl (Hl.le_refl _) ?_;exact⟨rfl,rfl,rfl⟩
theorem aRL(b6 b8 fb:Nat)(v1 v2:Value)(K:Hl):SpD Tryz.prog 89 [ptr b6,ptr b8] K [pt b8 (aU [v2] 79),pt b6 (aU [v1] 29)] (.panicking [{v:=.iface 118 (ptr fb),recovered:=false}])
  fun e u' K' L'=>u'=.panicking [{v:=.iface 118 (ptr fb),recovered:=true}]∧(e=.returned (.tuple #[])∧K'=K∧∃bk,L'=[pt b8 (aU [.iface 118 (ptr fb)] 79),pt b6 (aU [.slice (some ⟨bk,0,none⟩) 1 1] 29),pt bk (aU [i64 1,str []] 34)]):=by
 refine aEU (rv:=.iface 118 (ptr fb)) (u':=.panicking [{v:=.iface 118 (ptr fb),recovered:=true}]) Tryz.func89 rfl Tryz.ntmps89 rfl rfl rfl rfl tB fun F w=>?_
 refine aH (aB ?_);refine uAa ?_;refine aA (iF Tryz.underlying20 rfl rfl) rfl ?_;refine aG (aE ?_);refine uGe ?_;refine aH (aB ?_);refine uAa ?_;refine aA (fE Tryz.underlying118 (fun _ h=>by cases h) rfl) rfl ?_;refine uBy ?_;refine aG (aE ?_);refine aH (aH ?_);refine uAf ?_;refine aA (by first|exact dP rfl|exact dO rfl) rfl ?_;refine aG (aE ?_);refine uBf ?_;refine aE (aB ?_);refine uFj ?_;refine ol_s (bN (z0:=[.int .i64 0,(str [])]) iS tz34 rfl rfl rfl rfl (.cons rfl rfl rfl (.cons (.cons .nil)) .nil)) rfl ?_;rintro _ K _ ⟨b17,rfl,rfl,rfl⟩ -;refine uAa ?_;refine aA (cL Tryz.underlying118 (fun _ h=>by cases h) rfl) rfl ?_;refine bP (bH ts29 rfl rfl cD aX .zero rfl) ?_;rintro _ K _ ⟨rfl,rfl⟩ -;refine uEm ?_;rintro _ K _ ⟨rfl,rfl⟩ -;refine aG ?_;refine aO (.cons (.there .here) (.cons (.there .here) (.cons .here .nil))) ?_;refine dD rfl (Hl.le_refl _) ?_;exact⟨rfl,rfl,b17,rfl⟩
def ErrP(e:Option (Int×Int))(ev:Value)(M:List Asn):Prop:=match e with
 |none=>ev=.nilIface∧M=[]
 |some (e,p)=>∃fb,ev=.iface 118 (ptr fb)∧M=[pt fb (aU [i64 e,i64 p] 123)]
def RunR(out:Out):Ending→Hl→List Asn→Prop:=Ret fun v K' L'=>∃av ev M,v=.tuple #[av,i64 out.steps,ev]∧L'=sl true cY av out.acts::M∧ErrP out.err ev M
theorem aRS{α:Type}{k:El α}{b:Nat}{xs:List α}{n:Nat}{M:List Asn}(hx:xs≠[])(hn:n=xs.length):∀h,Sat (pt b (aU (k.cs xs) k.e)::M) h→Sat (sl true k (.slice (some ⟨b,0,none⟩) n n) xs::M) h:=by
 subst hn;rintro h ⟨a,l,ha,hl,hd,rfl⟩;refine⟨a,l,.inr ⟨b,xs.length,[],(0,0),rfl,fun _=>hx,Nat.le_refl _,by simp,.inl (Nat.le_refl _),?_⟩,hl,hd,rfl⟩
 rw[List.append_nil];exact ha
theorem yF{n:Nat}{w:World}{F K0 K:Hl}{fr:Fr}{b6 b8 fb:Nat}{v1 v2:Value}{e p x:Int}{out:Out}{st:Nat}(g6:fr.get 6=some (ptr b6))(g7:fr.get 7=some (i64 x))(g8:fr.get 8=some (ptr b8))(le:K0.le K)(ho:out=⟨[(1,[])],st,some (e,p)⟩)(hx:x=st):
  D ⟨Tryz.prog,n,[dfr 89 #[ptr b6,ptr b8]],w,F⟩ (.panic [{v:=.iface 118 (ptr fb),recovered:=false}]) fr K [pt fb (aU [i64 e,i64 p] 123),pt b8 (aU [v2] 79),pt b6 (aU [v1] 29)] (w9 Tryz.prog Tryz.f54 w F K0 (RunR out)):=by
 subst ho;subst hx
 refine aPO (.pan _) rfl ts29 ts79 g6 g7 g8 (.cons (.there .here) (.cons (.there .here) .nil)) (aRL b6 b8 fb v1 v2 K) rfl ?_;rintro _ _ _ ⟨rfl,rfl,bk,rfl⟩;refine⟨⟨_,rfl⟩,fun le2=>⟨_,_,[sl true cY (.slice (some ⟨bk,0,none⟩) 1 1) [(1,[])],pt fb (aU [i64 e,i64 p] 123)],fun h hh=>?_,⟨_,rfl,_,_,_,rfl,rfl,fb,rfl,rfl⟩,le⟩⟩
 exact eH (dU (fun h hh=>dU (fun h hh=>aRS (k:=cY) (xs:=[(1,[])]) (by simp) rfl h hh) hh) hh)
theorem iM{n:Nat}{w:World}{F K0 K:Hl}{fr:Fr}{b6 b8:Nat}{av:Value}{out:Out}{x:Int}{st:Nat}{acts:List Action}(g6:fr.get 6=some (ptr b6))(g7:fr.get 7=some (i64 x))(g8:fr.get 8=some (ptr b8))(le:K0.le K)(ho:out=⟨acts,st,none⟩)(hx:x=st):
  D ⟨Tryz.prog,n,[dfr 89 #[ptr b6,ptr b8]],w,F⟩ .ret fr K [pt b6 (aU [av] 29),pt b8 (aU [.nilIface] 79),sl true cY av acts] (w9 Tryz.prog Tryz.f54 w F K0 (RunR out)):=by
 subst ho;subst hx
 refine aPO .ret rfl ts29 ts79 g6 g7 g8 .nil (aRM b6 b8 K) rfl ?_;rintro _ _ _ ⟨rfl,rfl,rfl⟩;exact⟨⟨_,rfl⟩,fun le2=>⟨_,_,[sl true cY av acts],fun h hh=>hh,⟨_,rfl,_,_,_,rfl,rfl,rfl,rfl⟩,le⟩⟩
theorem aM0{b mb:Nat}{m:Msg}{hv:Value}{nm:Bool}{L:List Asn}:∀h,Sat (pt b (aU [str m.from_,str m.to_,i64 m.size,hv,.slice none 0 0,.bool true,.bool nm,.map (some mb),.slice none 0 0,.slice none 0 0,i64 0] 178)::pt mb (mapO [] 0)::L) h→Sat (mch b mb m hv (.slice none 0 0) nm Mach.start::L) h:=by
 intro h hh;refine dR (av:=.slice none 0 0) (sv:=.slice none 0 0) (f:=fun _=>0) (c:=0) (s:=Mach.start) h ?_;exact dU (fun h hh=>tZ (tZ hh)) hh
theorem aMV{nm:Bool}{m:Msg}{code:List Ins}{f st:Nat}{s:MS}(h:code.length≤s.pc):Mach.loop nm m code (f+1) st s=⟨if s.keep=true then s.acts++[(1,[])]else s.acts,st,none⟩:=by
 rw[Mach.loop,List.getElem?_eq_none h]
theorem aMW{nm:Bool}{m:Msg}{code:List Ins}{f st:Nat}{s:MS}{o:Ins}(h:code[s.pc]?=some o)(ho:o.op=14):Mach.loop nm m code (f+1) st s=⟨if s.keep=true then s.acts++[(1,[])]else s.acts,st+1,none⟩:=by
 rw[Mach.loop,h];simp only[if_pos ho]
theorem zU{nm:Bool}{m:Msg}{code:List Ins}{f st:Nat}{s:MS}{o:Ins}{e:Int×Int}(h:code[s.pc]?=some o)(ho:¬o.op=14)(hs:Mach.step nm m code.length o s=.error e):Mach.loop nm m code (f+1) st s=⟨[(1,[])],st+1,some e⟩:=by
 rw[Mach.loop,h];simp only[if_neg ho,hs]
theorem yC{nm:Bool}{m:Msg}{code:List Ins}{f st:Nat}{s t:MS}{o:Ins}(h:code[s.pc]?=some o)(ho:¬o.op=14)(hs:Mach.step nm m code.length o s=.ok t):Mach.loop nm m code (f+1) st s=Mach.loop nm m code f (st+1) {t with pc:=t.pc+1}:=by
 rw[Mach.loop,h];simp only[if_neg ho,hs]
theorem aHL{nm:Bool}{m:Msg}{n:Nat}{o:Ins}{s:MS}(h:¬(1≤o.op∧o.op≤13)):Mach.step nm m n o s=.error (12,s.pc):=by
 unfold Mach.step;rw[if_neg aI,if_neg aI,if_neg aI,if_neg aI,if_neg aI,if_neg aI,if_neg aI,if_neg aI,if_neg aI,if_neg aI,if_neg aI]
 rfl
theorem aQU{p:Prop}[Decidable p]{e q pc:Int}(h:(if p then (Except.ok ():Res Unit)else .error (12,pc))=.error (e,q)):¬p∧e=12∧q=pc:=by
 split at h
 ·cases h
 ·rename_i hp;cases h;exact⟨hp,rfl,rfl⟩
structure RI where
 st:Nat
 s:MS
 pv:Value
 K:Hl
theorem aRN(nm:Bool)(cv hv:Value)(vs:List InsV)(code:List Ins)(m:Msg)(K:Hl)(hg:Glob K)(hcv:Ksl gO K cv vs)(hR:RIs K vs code)(hh:Ksl hdEl K hv m.hs)(hm:MsgOk m)(hc:∀o∈code,InsOk o)(hcl:code.length≤1000000):
  Sp Tryz.prog 54 [.bool nm,cv,.agg #[str m.from_,str m.to_,i64 m.size,hv]] K [] (RunR (Mach.run nm code m)):=by
 have hlen:vs.length=code.length:=hR.length;have hdl:aBX.length=15:=rfl;obtain⟨ha,hn,hcp,rfl⟩:=hh.isSlice;obtain⟨ca,cn,ccp,rfl⟩:=hcv.isSlice;refine aHJ Tryz.func54 rfl Tryz.ntmps54 rfl rfl fun F w=>?_
 refine aH (aB ?_);refine uBk ?_;rintro _ K _ ⟨b5,rfl,rfl,rfl⟩ -;refine ol_s (cN tz29) rfl ?_;rintro _ K _ ⟨b6,rfl,rfl,rfl⟩ -;refine uAb ?_;refine ol_s (cN tz79) rfl ?_;rintro _ K _ ⟨b8,rfl,rfl,rfl⟩ -;refine aG (aE ?_);refine aH (aB ?_);refine uEp ?_;refine aA (cP aYV aXG (.cons rfl rfl rfl (.cons (.cons (.cons (.cons .nil)))) (.cons rfl rfl rfl (.skip (.skip (.skip (.skip (.skip (.cons .nil)))))) .nil))) rfl ?_;refine uAa ?_;refine ol_s nQ rfl ?_;rintro _ K _ ⟨b15,rfl,rfl,rfl⟩ -;refine aA (cP aYW aXH (.cons rfl rfl rfl (.cons (.cons (.cons (.cons (.cons (.cons .nil)))))) (.cons rfl rfl rfl (.skip (.skip (.skip (.skip (.skip (.skip (.cons .nil))))))) (.cons rfl rfl rfl (.skip (.skip (.skip (.skip (.skip (.skip (.skip (.cons .nil)))))))) .nil)))) rfl ?_;refine uBk ?_;rintro _ K _ ⟨b17,rfl,rfl,rfl⟩ -;refine uAb ?_;refine aG (aE ?_);refine aH ?_;refine kJ (aM0 (m:=m) (hv:=.slice ha hn hcp) (nm:=nm)) ?_;refine aAT (.cons .here (.cons .here (.cons .here .nil))) ?_;refine aB ?_;refine uGi ?_;refine aGR rfl ?_;refine aG (aE ?_);refine aH (aH ?_);refine uAf ?_;refine aA (cB (k:=gO) rfl Tryz.underlying42 rfl aL) rfl ?_;refine uEr ?_;refine aG (aE ?_);refine bK 21 rfl (fun h21=>?_) (fun h21=>?_)
 ·
  refine uAf ?_;refine aY rfl rfl (iQ _ 12 400 _) .nil rfl (by rintro _ _ ⟨_,h,_⟩;cases h) ?_ ?_
  ·
   rintro _ _ _ ⟨fb,h,rfl⟩ le1;cases h
   refine uEa ?_;refine aK ?_;exact yF rfl rfl rfl bU (by (unfold Mach.run;rw[if_pos aI])) aI
  ·
   rintro _ _ _ ⟨_,h,_⟩;cases h
 ·
  have hc4:code.length≤400:=by omega
  refine aW ?_;refine aE (aH ?_);refine aB ?_;refine bC rfl rfl (aII _) .nil rfl ?_;rintro tv KD _ ⟨hTab,rfl⟩ leD;refine uAb ?_;refine aG (aE ?_);refine aH (bE ?_);refine eR (fun(q:RI)=>KD.le q.K∧Ksl (bT 9) q.K q.pv q.s.parts∧MInv q.s∧q.st≤q.s.pc∧q.s.pc≤code.length∧∃f,code.length≤f+q.s.pc∧Mach.run nm code m=Mach.loop nm m code (f+1) q.st q.s) (fun q=>[(1,.slice ca cn ccp),(6,ptr b6),(7,i64 q.st),(8,ptr b8),(9,ptr b17),(10,tv)]) (fun q=>q.K) (fun q=>[mch b17 b15 m (.slice ha hn hcp) q.pv nm q.s,pt b8 (aU [.nilIface] 79),pt b6 (aU [.slice none 0 0] 29)]) (fun q=>code.length - q.s.pc) ⟨0,Mach.start,.slice none 0 0,KD⟩ ⟨Hl.le_refl _,.inl ⟨none,0,rfl,rfl⟩,MInv.start,Nat.zero_le _,Nat.zero_le _,code.length,by omega,by unfold Mach.run;rw[if_neg aI]⟩ (.cons 1 rfl (.cons 6 rfl (.cons 7 rfl (.cons 8 rfl (.cons 9 rfl (.cons 10 rfl .nil)))))) rfl (fun _ h=>h) ?_;intro ⟨st,s,pv,K1⟩ ⟨hle,hpv,hinv,hst,hpc,f,hf,hx⟩;dsimp only at hle hpv hinv hst hpc hf hx ⊢;have hle0:=Hl.le_trans leD hle;have hcv1:=hcv.mono hle0;have hh1:=hh.mono hle0;have hg1:=hg.mono hle0;have hTab1:=hTab.mono hle;refine qQ fun av sv fv c=>?_
  refine aAS (p:=av.oneCell'=true) (fun h hs=>?_) ?_
  ·obtain⟨_,l,_,hl,_,_⟩:=hs;obtain⟨y,_,hy,_,_,_⟩:=hl;obtain⟨a,n,c,rfl⟩:=aHG y hy;rfl
  intro hav;refine aH (aH ?_);refine uBv ?_;refine uFq ?_;refine uAn ?_;refine uAa ?_;refine aA (cB (k:=gO) rfl Tryz.underlying42 rfl aL) rfl ?_;refine uBn ?_;refine aG (aE ?_);refine bK 31 rfl (fun h31=>?_) (fun h31=>?_)
  ·
   have hilt:s.pc < vs.length:=by omega
   obtain⟨v,hvv⟩:∃v,vs[s.pc]?=some v:=⟨vs[s.pc]'hilt,List.getElem?_eq_getElem hilt⟩;obtain⟨o,ho,hro⟩:=(hR.mono hle0).get hvv;obtain⟨vop,vn,vtag,voct,⟨va,hva⟩,⟨vb,hvb⟩,vat⟩:=v;obtain⟨rfl,rfl,rfl,rfl,rfl,hra,hrb⟩:=hro;dsimp only at hra hrb;obtain⟨sa,sn,sc,rfl⟩:=hra.isSlice;obtain⟨ta,tn,tc,rfl⟩:=hrb.isSlice;have hoo:=hc o (List.mem_of_getElem? ho);refine aW ?_;refine aE (bE ?_);refine aH (aB ?_);refine uAa ?_;refine uCj ?_;refine uAb ?_;refine aG (aE ?_);refine aH (aB ?_);refine uAx ?_;refine uEw ?_;refine uFq ?_;refine uAn ?_;refine aA (b0 (k:=gO) iT rfl aL rfl rfl (by first|assumption|omega)) rfl ?_;refine aA (eE (n:=0) (k:=gO) kE rfl aL bU) rfl ?_;refine ol_s (cN tz41) rfl ?_;rintro _ K _ ⟨b11,rfl,rfl,rfl⟩ -;refine bP (cJ kE rfl rfl rfl aX (by first|(simp[Value.oneCell'];done)|exact fun c hc=>El.one _ _ c hc) (.cons (.cons (.cons (.cons (.cons (.cons (.cons .nil))))))) (by intro j hj;simp)) ?_;rintro _ K _ ⟨rfl,rfl⟩ -;refine aG (aE ?_);refine aH (aH ?_);refine aB ?_;refine aA (aD (o':=0) jX rfl rfl) rfl ?_;refine uAn ?_;refine uAq ?_;refine aG (aE ?_);refine bK 43 rfl (fun h43=>?_) (fun h43=>?_)
   ·
    have h43:o.op=14:=h43;have hx:=hx.trans (aMW ho h43);refine uFp ?_;refine bG ?_;refine aE (aH ?_);refine aH (aB ?_);refine uBz ?_;refine uEh ?_;refine uGc ?_;refine aG (aE ?_);refine eJ 77 rfl (fun h77=>?_) (fun h77=>?_)
    ·
     refine uCf ?_;refine uBd ?_;refine uFj ?_;refine ol_s (bN (z0:=[.int .i64 0,(str [])]) iS tz34 rfl rfl rfl rfl (.cons rfl rfl rfl (.cons (.cons .nil)) .nil)) rfl ?_;rintro _ K _ ⟨b85,rfl,rfl,rfl⟩ -;refine ol_s (dM (k:=cY) (ys:=[((1:Int),([]:List UInt8))]) lO rfl rfl aX (fun w j=>dB Tryz.underlying29 (SeesSl.at (k:=cY) (.blk (.own .here) rfl rfl) j)) (by have:=hinv.acts;simp;omega) (by have:=hinv.acts;simp;omega)) rfl ?_;rintro v86 K _ ⟨rfl,rfl,ho86⟩ -;refine uGs ?_;rintro _ K _ ⟨rfl,rfl⟩ -;refine aG (aE ?_);refine aH (aB ?_);refine uAa ?_;refine uGd ?_;rintro _ K _ ⟨rfl,rfl⟩ -;refine uAb ?_;refine uEm ?_;rintro _ K _ ⟨rfl,rfl⟩ -;refine aG (aE ?_);refine bI ?_
     first
      |(refine aO (.cons (.there (.there (.there (.there (.there .here))))) (.cons (.there (.there (.there (.there .here)))) (.cons (.there .here) .nil))) ?_;exact iM rfl rfl rfl hle0 (by rw[hx,if_neg (by rw[h77];decide)]) aI)
      |(refine aO (.cons (.there (.there (.there (.there (.there (.there .here)))))) (.cons (.there (.there (.there (.there (.there .here))))) (.cons (.there (.there .here)) .nil))) ?_;exact iM rfl rfl rfl hle0 (by rw[hx,if_neg (by rw[h77];decide)]) aI)
      |(refine aO (.cons (.there (.there (.there (.there (.there (.there .here)))))) (.cons (.there (.there (.there (.there (.there .here))))) (.cons .here .nil))) ?_;exact iM rfl rfl rfl hle0 (by rw[hx,if_pos h77]) aI)
      |(refine aO (.cons (.there (.there (.there (.there (.there (.there (.there .here))))))) (.cons (.there (.there (.there (.there (.there (.there .here)))))) (.cons .here .nil))) ?_;exact iM rfl rfl rfl hle0 (by rw[hx,if_pos h77]) aI)
    ·
     refine aW ?_;refine aE (aH ?_);refine uAf ?_;refine uGd ?_;rintro _ K _ ⟨rfl,rfl⟩ -;refine uAb ?_;refine uEm ?_;rintro _ K _ ⟨rfl,rfl⟩ -;refine aG (aE ?_);refine bI ?_
     first
      |(refine aO (.cons (.there (.there (.there (.there (.there .here))))) (.cons (.there (.there (.there (.there .here)))) (.cons (.there .here) .nil))) ?_;exact iM rfl rfl rfl hle0 (by rw[hx,if_neg (by rw[h77];decide)]) aI)
      |(refine aO (.cons (.there (.there (.there (.there (.there (.there .here)))))) (.cons (.there (.there (.there (.there (.there .here))))) (.cons (.there (.there .here)) .nil))) ?_;exact iM rfl rfl rfl hle0 (by rw[hx,if_neg (by rw[h77];decide)]) aI)
      |(refine aO (.cons (.there (.there (.there (.there (.there (.there .here)))))) (.cons (.there (.there (.there (.there (.there .here))))) (.cons .here .nil))) ?_;exact iM rfl rfl rfl hle0 (by rw[hx,if_pos h77]) aI)
      |(refine aO (.cons (.there (.there (.there (.there (.there (.there (.there .here))))))) (.cons (.there (.there (.there (.there (.there (.there .here)))))) (.cons .here .nil))) ?_;exact iM rfl rfl rfl hle0 (by rw[hx,if_pos h77]) aI)
   ·
    have h43:¬o.op=14:=h43;refine aW ?_;refine aE (aH ?_);refine uAf ?_;refine aA (aD (o':=0) jX rfl rfl) rfl ?_;refine uAn ?_;refine uEr ?_;refine uAa ?_;refine cG 48 rfl (fun g48=>?_) (fun g48=>?_)
    ·
     have g48:0 < o.op:=g48;refine uAz ?_;refine aA (aD (o':=0) jX rfl rfl) rfl ?_;refine uAz ?_;refine uAn ?_;refine uAi ?_;refine aA (cB (k:=(eD 184)) rfl Tryz.underlying181 rfl aL) rfl ?_;refine uAz ?_;refine uBn ?_;refine uAy ?_;refine aY rfl rfl (n7 (o.op < (aBX.length:Int)) _ _ _ _ _ _ _ _ _ _ _ _ _) (.cons (.there .here) .nil) rfl (fun _ _=>a8 _ _) ?_ ?_
     ·
      rintro _ _ _ hTr le1;obtain⟨e,p,hu,fb,h,rfl⟩:=bA hTr;cases h
      refine uIc ?_;exact yF rfl rfl rfl (Hl.le_trans hle0 le1) (by (obtain⟨q1,rfl,rfl⟩:=aQU hu;rw[hx,zU ho h43 (aHL aI)])) aI
     rintro _ K _ hTr -;obtain⟨u0,hu,rfl,rfl,rfl⟩:=bB hTr;clear hTr;have hbl:o.op < (aBX.length:Int):=Classical.byContradiction (fun h=>by rw[if_neg h]at hu;cases hu);have hop:1≤o.op∧o.op≤13:=⟨by omega,by omega⟩;refine aG (aE ?_);refine aH ?_;refine tD (.cons .here (.cons (.there .here) (.cons (.there .here) (.cons (.there .here) .nil)))) ?_;refine kJ (dR (m:=m) (hv:=.slice ha hn hcp) (pv:=pv) (nm:=nm) (s:=s)) ?_;refine t_draw (anc:=[0,0,2,7,15,0,0,0,128,511]) (ord:=[0,1,2,3,4,5,6,7,8,9]) [9] [9] mixed (by decide+kernel) (cS _) ?_;refine uAj ?_;refine dl_ev rfl rfl (.none rfl) rfl rfl (aD (o':=0) jX rfl rfl) rfl ?_;refine uFk ?_;refine dl_ev rfl rfl (.none rfl) rfl rfl (b0 (k:=eD 184) (j:=o.op.toNat) xS rfl (.known hTab1) rfl (show o.op=(o.op.toNat:Int) by omega) aI) rfl ?_;refine dl_ev rfl rfl (.none rfl) rfl rfl (dW (o:=0) (k:=eD 184) aZB rfl (.known hTab1) (aP4 hop) rfl) rfl ?_;refine uAj ?_;refine dl_ev rfl rfl (.none rfl) rfl rfl (bX kE rfl aL rfl rfl) rfl ?_;refine uAj ?_;refine dl_ev rfl rfl (.none rfl) rfl rfl (cB (k:=gO) rfl Tryz.underlying42 rfl aL) rfl ?_;refine aIH (fr':=[(6,ptr b6),(7,i64 ((st:Int)+1)),(8,ptr b8)]) rfl (.none rfl) rfl rfl rfl (aJM b17 b15 m (.slice ha hn hcp) pv nm s o (.slice sa sn sc) (.slice ta tn tc) vs.length _ hop hg1 hpv hra hrb hh1 hm hoo hinv aI aI) (.cons .here .nil) rfl (fun _ _=>a8 _ _) (.cons 6 rfl (.cons 7 rfl (.cons 8 rfl .nil))) rfl ?_ ?_
     ·
      rintro _ _ _ hTr le1;obtain⟨e,p,hq,fb,h,rfl⟩:=bA hTr;cases h
      refine uEa ?_;refine uGf ?_;exact yF rfl rfl rfl (Hl.le_trans hle0 le1) (by (rw[hlen]at hq;rw[hx,zU ho h43 hq])) aI
     rintro _ K3 _ hTr leK3;obtain⟨t,hq,rfl,pv3,hpv3,rfl⟩:=bB hTr;clear hTr;rw[hlen]at hq;have hinv2:=hinv.step hm hoo hq;have hinv3:MInv {t with pc:=t.pc+1}:=⟨hinv2.stack,hinv2.acts,hinv2.vars,hinv2.parts⟩;have hp2:=aK6 hq (by omega:s.pc < code.length);refine uDf ?_;refine qQ fun av3 sv3 fv3 c3=>?_
     refine uBv ?_;refine uFq ?_;refine uAn ?_;refine uHd ?_;rintro _ K _ ⟨rfl,rfl⟩ -;refine aG (aN ?_);have hp3:=aK6 hq (by omega:s.pc < code.length);have e:((t.pc+1:Nat):Int)=(t.pc:Int)+1:=by omega
     refine dN (fun h hh=>dR (m:=m) (hv:=.slice ha hn hcp) (pv:=pv3) (nm:=nm) (s:={t with pc:=t.pc+1}) h (by show Sat (mblk _ _ _ _ _ _ _ _ _ _ _ ((t.pc+1:Nat):Int)::_) h;rw[e];exact hh)) ?_;refine uEa ?_;exact cQ ⟨st+1,{t with pc:=t.pc+1},pv3,_⟩ ⟨Hl.le_trans hle leK3,hpv3,hinv3,by (show st+1≤t.pc+1);omega,by (show t.pc+1≤code.length);omega,f - 1,by (show code.length≤f - 1+(t.pc+1));omega,by have e2:f - 1+1=f:=aI;rw[e2,hx,yC ho h43 hq]⟩ (by (show code.length - (t.pc+1) < code.length - s.pc);omega) (.cons 1 rfl (.cons 6 rfl (.cons 7 rfl (.cons 8 rfl (.cons 9 rfl (.cons 10 rfl .nil)))))) rfl (fun _ h=>h)
    ·
     have g48:¬0 < o.op:=g48;refine uAc ?_;refine uGo ?_;refine aY rfl rfl (oQ _ _ _ _ _ _ _ _ _ _ _ _ _) (.cons (.there .here) .nil) rfl (by rintro _ _ ⟨_,h,_⟩;cases h) ?_ ?_
     ·
      rintro _ _ _ ⟨fb,h,rfl⟩ le1;cases h
      refine uIc ?_;exact yF rfl rfl rfl (Hl.le_trans hle0 le1) (by rw[hx,zU ho h43 (aHL aI)]) aI
     ·
      rintro _ _ _ ⟨_,h,_⟩;cases h
  ·
   have hx:=hx.trans (aMV aI);refine uAp ?_;refine aE (aH ?_);refine aH (aB ?_);refine uBz ?_;refine uEh ?_;refine uGc ?_;refine aG (aE ?_);refine eJ 77 rfl (fun h77=>?_) (fun h77=>?_)
   ·
    refine uCf ?_;refine uBd ?_;refine uFj ?_;refine ol_s (bN (z0:=[.int .i64 0,(str [])]) iS tz34 rfl rfl rfl rfl (.cons rfl rfl rfl (.cons (.cons .nil)) .nil)) rfl ?_;rintro _ K _ ⟨b85,rfl,rfl,rfl⟩ -;refine ol_s (dM (k:=cY) (ys:=[((1:Int),([]:List UInt8))]) lO rfl rfl aX (fun w j=>dB Tryz.underlying29 (SeesSl.at (k:=cY) (.blk (.own .here) rfl rfl) j)) (by have:=hinv.acts;simp;omega) (by have:=hinv.acts;simp;omega)) rfl ?_;rintro v86 K _ ⟨rfl,rfl,ho86⟩ -;refine uGs ?_;rintro _ K _ ⟨rfl,rfl⟩ -;refine aG (aE ?_);refine aH (aB ?_);refine uAa ?_;refine uGd ?_;rintro _ K _ ⟨rfl,rfl⟩ -;refine uAb ?_;refine uEm ?_;rintro _ K _ ⟨rfl,rfl⟩ -;refine aG (aE ?_);refine bI ?_
    first
     |(refine aO (.cons (.there (.there (.there (.there (.there .here))))) (.cons (.there (.there (.there (.there .here)))) (.cons (.there .here) .nil))) ?_;exact iM rfl rfl rfl hle0 (by rw[hx,if_neg (by rw[h77];decide)]) aI)
     |(refine aO (.cons (.there (.there (.there (.there (.there (.there .here)))))) (.cons (.there (.there (.there (.there (.there .here))))) (.cons (.there (.there .here)) .nil))) ?_;exact iM rfl rfl rfl hle0 (by rw[hx,if_neg (by rw[h77];decide)]) aI)
     |(refine aO (.cons (.there (.there (.there (.there (.there (.there .here)))))) (.cons (.there (.there (.there (.there (.there .here))))) (.cons .here .nil))) ?_;exact iM rfl rfl rfl hle0 (by rw[hx,if_pos h77]) aI)
     |(refine aO (.cons (.there (.there (.there (.there (.there (.there (.there .here))))))) (.cons (.there (.there (.there (.there (.there (.there .here)))))) (.cons .here .nil))) ?_;exact iM rfl rfl rfl hle0 (by rw[hx,if_pos h77]) aI)
   ·
    refine aW ?_;refine aE (aH ?_);refine uAf ?_;refine uGd ?_;rintro _ K _ ⟨rfl,rfl⟩ -;refine uAb ?_;refine uEm ?_;rintro _ K _ ⟨rfl,rfl⟩ -;refine aG (aE ?_);refine bI ?_
    first
     |(refine aO (.cons (.there (.there (.there (.there (.there .here))))) (.cons (.there (.there (.there (.there .here)))) (.cons (.there .here) .nil))) ?_;exact iM rfl rfl rfl hle0 (by rw[hx,if_neg (by rw[h77];decide)]) aI)
     |(refine aO (.cons (.there (.there (.there (.there (.there (.there .here)))))) (.cons (.there (.there (.there (.there (.there .here))))) (.cons (.there (.there .here)) .nil))) ?_;exact iM rfl rfl rfl hle0 (by rw[hx,if_neg (by rw[h77];decide)]) aI)
     |(refine aO (.cons (.there (.there (.there (.there (.there (.there .here)))))) (.cons (.there (.there (.there (.there (.there .here))))) (.cons .here .nil))) ?_;exact iM rfl rfl rfl hle0 (by rw[hx,if_pos h77]) aI)
     |(refine aO (.cons (.there (.there (.there (.there (.there (.there (.there .here))))))) (.cons (.there (.there (.there (.there (.there (.there .here)))))) (.cons .here .nil))) ?_;exact iM rfl rfl rfl hle0 (by rw[hx,if_pos h77]) aI)
end Go.Proofs
end

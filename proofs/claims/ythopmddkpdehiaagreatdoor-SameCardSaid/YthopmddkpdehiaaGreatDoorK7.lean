/-
  What the proof stands on, part 7: the logic of walks, the walks through the functions, the plain laws. Conditions: as each theorem says. (Merged and shortened by a program.)
-/
import Derived.Laws.MakeOwn
import Derived.Lib.MakeNoZero
import Derived.Laws.CopyRow
import Derived.Laws.LoneSync
import Derived.Lib.ItoaLen
import Derived.Lib.Bytealg
import Derived.Laws.IdiomRangeMap
import Derived.KernelRfl
import Derived.Shelf.SlSortFuncK.WholeK
import Derived.Shelf.GgSortFunc.Tiny
import Derived.Sort.Walk0
import Derived.Test.YthopmddkpdehiaaGreatDoorK1
import Derived.Test.YthopmddkpdehiaaGreatDoorK2
import Derived.Test.YthopmddkpdehiaaGreatDoorK3
import Derived.Test.YthopmddkpdehiaaGreatDoorK4
import Derived.Test.YthopmddkpdehiaaGreatDoorK5
import Derived.Test.YthopmddkpdehiaaGreatDoorK6
set_option linter.unusedVariables false
set_option linter.unusedSimpArgs false
set_option maxRecDepth 4000
set_option maxHeartbeats 1000000
section
namespace Go.SL
section
variable{E:Env}{fr:Fr}{K:Hl}{L:List Asn}{dst:Option Tmp}{ty:TypeId}{pos:String}{aft:Array Edge}{g:Option (Nat×Bool)}{x y:Operand}{t t':TypeId}{m n:Int}{k:IntKind}
theorem aYO(hx:fr.ev x=some (.int k m))(hy:fr.ev y=some (.int k n))(h0:n≠0):Ev E fr K L ⟨dst,.binOp .rem t x y t',ty,pos,aft,g⟩ (.int k (m.tmod n)):=
 fM hx hy hO fun w=>by simp[binOp,Op.intDiv,h0,pure]
theorem aRM(hx:fr.ev x=some (.int k m))(hy:fr.ev y=some (.int k n))(h0:n≠0):Ev E fr K L ⟨dst,.binOp .quo t x y t',ty,pos,aft,g⟩ (.int k (k.wrap (m.tdiv n))):=
 fM hx hy hO fun w=>by simp[binOp,Op.intDiv,h0,pure]
end
end Go.SL
end
section
namespace Go.SL
section
variable{E:Env}{fr:Fr}{K:Hl}{L:List Asn}{dst:Option Tmp}{ty:TypeId}{pos:String}{aft:Array Edge}{g:Option (Nat×Bool)}{x y:Operand}{t e:TypeId}{n b:Nat}{k:IntKind}
theorem aO7{P:Program}(h:d7 P e=true):∃inf,P.info? e=some inf∧inf.size=1:=by
 unfold d7 at h;split at h
 ·cases h
 ·cases h
 ·rename_i i h1 h2;exact⟨_,‹P.info? e=some _›,by simpa using h⟩
 ·cases h
theorem eZ{j:Nat}{jv:Int}(hu:E.P.underlying t=some (.array n e))(he:d7 E.P e=true)(hx:fr.ev x=some (ptr b))(hy:fr.ev y=some (.int k jv))(hjv:jv=(j:Int))(hj:j < n):
  Ev E fr K L ⟨dst,.indexAddr t x y,ty,pos,aft,g⟩ (ptr b j):=fun a w f i=>by
 subst hjv;obtain⟨inf,h2,h3⟩:=aO7 he;simp only[execOp,f.ev hx,f.ev hy];refine dS ?_;unfold Instr.indexAt;simp[asIntOf,underlying,program,bind,Sem.bind,pure,Sem.run,hu,hj,sizeOf,typeInfo,h2,h3,Instr.sureAddr,hZ]
end
end Go.SL
end
section
namespace Go.SL
def nN(v:Value)(m sz:Nat):Value:=
 match v with
 | .slice a n c=>.slice (if c=m then a else a.map (·.add (m*sz))) (n - m) (c - m)
 |v=>v
def aJI(v:Value):Prop:=∀a n c,v=.slice a n c→n≤c
section
variable{E:Env}{fr:Fr}{K:Hl}{L L':List Asn}{Q:Post}{dst:Option Tmp}{ty:TypeId}{pos:String}{aft:Array Edge}{g:Option (Nat×Bool)}{x y:Operand}{t:TypeId}{α:Type}{k:El α}{v u:Value}{xs ys:List α}{c0:Code}{x0:Exit}{m:Nat}
theorem aR6(h:Ksl k K v xs)(hm:m≤xs.length)(hf:aJI v):Ksl k K (nN v m k.sz) (xs.drop m):=by
 rcases h with ⟨a,c,rfl,rfl⟩|⟨b,off,cap,cells,fz,rfl,h1,h2⟩
 ·have:m=0:=by simpa using hm
  subst this;exact .inl ⟨_,_,by simp[nN];exact⟨rfl,rfl⟩,by simp⟩
 ·have hle:=hf _ _ _ rfl
  by_cases hc:cap=m
  ·have:m=xs.length:=by omega
   subst this;exact .inl ⟨_,_,by simp[nN];exact⟨rfl,rfl⟩,by simp⟩
  ·refine .inr ⟨b,off+m*k.sz,cap - m,cells,fz,?_,h1,?_⟩
   ·simp only[nN,if_neg hc,List.length_drop,Option.map];unfold Addr.add;split
    ·rename_i h0;rw[h0];rfl
    ·rfl
   ·rw[List.length_drop,Nat.sub_mul,←k.cs_drop,←h2,←List.drop_drop,List.drop_take]
theorem y8{kk:IntKind}{mv:Int}{lo:Operand}(ht:iM E.P t k.e k.sz=true)(hx:fr.ev x=some v)(hs:SeesSl k K L v xs)(hh:fr.ev lo=some (.int kk mv))(hmv:mv=(m:Int))(hm:m≤xs.length):
  Ev E fr K L ⟨dst,.slice t x (some lo) none none,ty,pos,aft,g⟩ (nN v m k.sz):=fun a w f j=>by
 subst hmv;obtain⟨inf,h1,h2,h3⟩:=mS ht;simp only[execOp,f.ev hx,f.ev hh,Option.map];refine dS ?_;have hu:(underlying t).run E.P w=.ok (.slice k.e) w:=by simp only[underlying,program,bind,Sem.bind,pure,Sem.run,h1]
 have hsz:(sizeOf k.e).run E.P w=.ok inf.size w:=by simp only[sizeOf,typeInfo,program,bind,Sem.bind,pure,Sem.run,h2]
 have key:∀(a:Option Addr) (n c:Nat),m≤n→(Instr.sliceAt t (.slice a n c) (some (.int kk m)) none none).run E.P w=.ok (nN (.slice a n c) m k.sz) w:=by
  intro a n c hc;unfold Instr.sliceAt;rw[aP hu];simp only[Instr.slice];rw[aP hu];simp only[];have hb:(Instr.sliceBounds true n c (some (.int kk m)) none none).run E.P w=.ok (m,n,c) w:=by
   simp[Instr.sliceBounds,Instr.sliceBound,asIntOf,bind,Sem.bind,pure,Sem.run,hc]
  rw[aP hb];simp only[];rw[aP hsz];simp only[nN,h3,pure,Sem.run]
 rcases hs.at j with ⟨a0,c,rfl,rfl⟩|⟨b,off,cap,cells,fz,rfl,⟨u0,h4⟩,h5⟩
 ·exact key a0 0 c (by simpa using hm)
 ·exact key _ _ _ hm
end
end Go.SL
end
section
namespace Go.SL
theorem aHK(v:Value)(hv:v.cells= #[v])(n:Nat):madeCells v.cells n=(List.replicate n v).toArray:=by
 unfold madeCells;rw[hv]
 apply Array.ext
 ·simp
 ·intro i h1 h2;simp[Nat.mod_one]
theorem vI{α:Type}(k:El α){x0:α}{v:Value}(h:k.enc x0=[v]):∀n,k.cs (List.replicate n x0)=List.replicate n v
 |0=>rfl
 |n+1=>by
  have:=vI k h n;simp only[El.cs,List.replicate_succ,List.flatMap_cons,h]at this ⊢;rw[this];rfl
section
variable{E:Env}{fr:Fr}{K:Hl}{L L' M:List Asn}{dst:Option Tmp}{ty:TypeId}{pos:String}{aft:Array Edge}{g:Option (Nat×Bool)}{x y:Operand}{t t2 t' bytes:Nat}{α:Type}{k:El α}{v u:Value}{xs ys:List α}{n m j:Nat}
theorem aV9{x0:α}{kl kc:IntKind}{vl vc:Int}(hok:elOk E.P t k.e k.sz bytes=true)(hz:eQ E.P k.e=some v)(hv:v.cells= #[v])(he:k.enc x0=[v])(hx:fr.ev x=some (.int kl vl))(hy:fr.ev y=some (.int kc vc))(h1:vl=n)(h2:vc=n)(hb:bytes*n≤281474976710656)(h63:n≤9223372036854775807):
  EfS E fr K L ⟨dst,.makeSlice t x y,ty,pos,aft,g⟩ (fun r K' L'=>∃b,r=.slice (some ⟨b,0,none⟩) n n∧K'=K∧L'=sl false k (.slice (some ⟨b,0,none⟩) n n) (List.replicate n x0)::L):=by
 subst h1 h2;intro a w f q;obtain⟨i,z,e1,e2,e3,e4,e5,e6⟩:=xD hok;have hzz:z=v:=by
  unfold eQ at hz;rw[e2]at hz
  simpa[e5]using hz
 subst hzz;have hs1:k.sz=1:=by have:=k.len x0;rw[he]at this;exact this.symm
 have hr:=run_make (P:=E.P) w t k.e i z e1 e2 e5 kl kc n n aH (Int.le_refl _) (by rw[e4,←Int.natCast_mul];omega) aH;simp only[Int.toNat_natCast]at hr;rw[aHK z hv,e3,hs1,Nat.mul_one]at hr;refine⟨.slice (some ⟨w.heap.size,0,none⟩) n n,_,K,_,.inl ?_,⟨_,rfl,rfl,rfl⟩,Hl.le_refl _,(q.alloc (aU (List.replicate n z) k.e)).imp fun h hh=>?_⟩
 ·simp only[execOp,f.ev hx,f.ev hy];exact dS hr
 ·obtain⟨aa,l,ha,hl,hd,he2⟩:=hh;refine⟨aa,l,?_,hl,hd,he2⟩
  refine .inr ⟨w.heap.size,n,[],(0,0),by simp,(fun h=>by cases h),by simp,by simp,.inl (Nat.le_refl _),?_⟩
  rw[List.append_nil,vI k he];exact ha
theorem aV8{kl kc:IntKind}{vl vc:Int}(hok:elOk E.P t k.e k.sz bytes=true)(hz:eQ E.P k.e=some v)(hv:v.cells= #[v])(hs1:k.sz=1)(hx:fr.ev x=some (.int kl vl))(hy:fr.ev y=some (.int kc vc))(h1:vl=0)(h2:vc=n)(hb:bytes*n≤281474976710656)(h63:n≤9223372036854775807):
  EfS E fr K L ⟨dst,.makeSlice t x y,ty,pos,aft,g⟩ (fun r K' L'=>K'=K∧L'=sl false k r []::L∧r.oneCell'=true):=by
 subst h1 h2;intro a w f q;obtain⟨i,z,e1,e2,e3,e4,e5,e6⟩:=xD hok;have hzz:z=v:=by
  unfold eQ at hz;rw[e2]at hz
  simpa[e5]using hz
 subst hzz;have hr:=run_make (P:=E.P) w t k.e i z e1 e2 e5 kl kc 0 n (Int.le_refl _) aH (by rw[e4,←Int.natCast_mul];omega) aH;simp only[Int.toNat_natCast,Int.toNat_zero]at hr;rw[aHK z hv,e3,hs1,Nat.mul_one]at hr;refine⟨.slice (some ⟨w.heap.size,0,none⟩) 0 n,_,K,_,.inl ?_,⟨rfl,rfl,rfl⟩,Hl.le_refl _,(q.alloc (aU (List.replicate n z) k.e)).imp fun h hh=>?_⟩
 ·simp only[execOp,f.ev hx,f.ev hy];exact dS hr
 ·obtain⟨aa,l,ha,hl,hd,he2⟩:=hh;refine⟨aa,l,?_,hl,hd,he2⟩
  refine .inr ⟨w.heap.size,n,List.replicate n z,(0,0),by simp,(fun h=>by cases h),by simp,by simp[hs1],.inl (Nat.le_refl _),?_⟩
  simpa[El.cs,pt]using ha
theorem aTI{zf:Bool}(hu:E.P.underlying t=some (.slice k.e))(hsz:(E.P.info? k.e).map (·.size)=some k.sz)(hx:fr.ev x=some (nN v j k.sz))(hy:fr.ev y=some u)(hT:Fnd (sl zf k v xs) (sl zf k v (xs.take j++ys++xs.drop (j+ys.length))) L L')
  (hs:SeesSl k K L u ys) (h0:ys≠[]) (hfit:j+ys.length≤xs.length):
  EfS E fr K L ⟨dst,.call ⟨.builtin .copy,#[x,y],#[t,t2]⟩,ty,pos,aft,g⟩ (fun r K' L''=>r=i64 ys.length∧K'=K∧L''=L'):=by
 intro a w f q;have hS:=hs.at q;obtain⟨M,m1,m2⟩:=hT.split;have hyp:0 < ys.length:=List.length_pos_iff.2 h0;rcases(q.imp m1).slCases with ⟨rfl,rfl,_⟩|⟨b,cap,junk,fz,rfl,hz,hcap,hjk,hf,q0⟩
 ·rw[List.length_nil]at hfit;omega
 ·have hcj:cap≠j:=by omega
  have hx':fr.ev x=some (.slice (some ⟨b,j*k.sz,none⟩) (xs.length - j) (cap - j)):=by
   rw[hx];simp only[nN,if_neg hcj,Option.map];congr 3
   unfold Addr.add;split
   ·rename_i h;rw[h]
   ·simp
  have e:Array.map a.eval #[x,y]= #[.slice (some ⟨b,j*k.sz,none⟩) (xs.length - j) (cap - j),u]:=by simp[f.ev hx',f.ev hy]
  have hle:(j+ys.length)*k.sz≤xs.length*k.sz:=Nat.mul_le_mul_right _ hfit;have hle2:xs.length*k.sz≤cap*k.sz:=Nat.mul_le_mul_right _ hcap;rw[Nat.add_mul]at hle;have hcl:(k.cs ys).length=ys.length*k.sz:=k.cs_length ys;have hcx:(k.cs xs).length=xs.length*k.sz:=k.cs_length xs;obtain⟨w',r1,r2,r3,r4,r5⟩:=oU (P:=E.P) (b:=b) (k.cs ys) (j*k.sz) 0 w (k.cs xs++junk) q0.piece gCE (fun i hi=>hf.at aH) (k.cs_one ys);refine⟨i64 ys.length,w',K,_,.inl ?_,⟨rfl,rfl,rfl⟩,Hl.le_refl _,?_⟩
  ·simp only[execOp,resolve,e,bind,pure,Sem.bind,invoke,builtin];refine dS ?_;have hsrc:=dK (k:=k) (t2:=t) hu hS;have hc:=hsrc.cells w.drawn;have hlen:=hsrc.len;cases hq:E.P.info? k.e with
   |none=>simp[hq]at hsz
   |some i=>
    have hi:i.size=k.sz:=by simpa[hq]using hsz
    have hmin:Nat.min ys.length (xs.length - j)=ys.length:=Nat.min_eq_left aH;simp[Builtin.copy_,run_underlying hu,hlen,sizeOf,typeInfo,hq,hi,hmin,hc,r1,goInt]
  ·have jj:=q0.write r2 (by simpa using r3) r4;rw[←r5]at jj;refine jj.imp fun h hh=>m2 h ?_
   obtain⟨aa,l,ha,hl,hd,he⟩:=hh;refine⟨aa,l,?_,hl,hd,he⟩
   have e1:(xs.take j++ys++xs.drop (j+ys.length)).length=xs.length:=by rw[List.length_append,List.length_append,List.length_take,List.length_drop];omega
   refine .inr ⟨b,cap,junk,fz,by rw[e1],?_,by rw[e1];exact hcap,by rw[e1];exact hjk,hf,?_⟩
   ·intro _ h2;have:=congrArg List.length h2;rw[e1,List.length_nil]at this;omega
   ·have e2:(k.cs xs++junk).take (j*k.sz)=k.cs (xs.take j):=by rw[List.take_append_of_le_length (by rw[k.cs_length];omega),k.cs_take]
    have e3:(k.cs xs++junk).drop (j*k.sz+(k.cs ys).length)=k.cs (xs.drop (j+ys.length))++junk:=by
     rw[hcl,←Nat.add_mul,List.drop_append_of_le_length (by rw[k.cs_length,Nat.add_mul];omega),k.cs_drop]
    rw[e2,e3]at ha;rw[k.cs_append,k.cs_append,List.append_assoc]
    simpa[pt,List.append_assoc]using ha
theorem vQ{P:Program}(w:World){e:TypeId}{a:Option Addr}{n c:Nat}(hu:P.underlying t=some (.slice e)):(Op.equal t (.slice a n c) (.slice none 0 0)).run P w=.ok a.isNone w:=by
 have h:∀d:Nat,(Op.equalIn (d+1) t (.slice a n c) (.slice none 0 0)).run P w=.ok a.isNone w:=fun d=>by cases a <;> simp[Op.equalIn,run_underlying hu]
 exact h 9999
theorem aG1{e:TypeId}{a:Option Addr}{n c:Nat}(hu:E.P.underlying t=some (.slice e))(hx:fr.ev x=some (.slice a n c)):Ev E fr K L ⟨dst,.binOp .eql t x (.const (.slice none 0 0)) t',ty,pos,aft,g⟩ (.bool a.isNone):=
 fM hx (v:=.slice none 0 0) rfl (fun w=>by unfold eqGuard;first|rfl|simp) fun w=>by
  simp only[binOp];rw[aP (vQ w hu)];rfl
theorem o5{e:TypeId}{a:Option Addr}{n c:Nat}(hu:E.P.underlying t=some (.slice e))(hx:fr.ev x=some (.slice a n c)):Ev E fr K L ⟨dst,.binOp .neq t x (.const (.slice none 0 0)) t',ty,pos,aft,g⟩ (.bool a.isSome):=
 fM hx (v:=.slice none 0 0) rfl (fun w=>by unfold eqGuard;first|rfl|simp) fun w=>by
  simp only[binOp];rw[aP (vQ w hu)];cases a <;> rfl
theorem aAK{kk:IntKind}{mv:Int}{lo:Operand}{e sz:TypeId}{a:Option Addr}{c:Nat}(ht:iM E.P t e sz=true)(hx:fr.ev x=some (.slice a n c))(hh:fr.ev lo=some (.int kk mv))(hmv:mv=(m:Int))(hm:m≤n):
  Ev E fr K L ⟨dst,.slice t x (some lo) none none,ty,pos,aft,g⟩ (nN (.slice a n c) m sz):=fun ac w f j=>by
 subst hmv;obtain⟨inf,h1,h2,h3⟩:=mS ht;simp only[execOp,f.ev hx,f.ev hh,Option.map];refine dS ?_;have hu:(underlying t).run E.P w=.ok (.slice e) w:=by simp only[underlying,program,bind,Sem.bind,pure,Sem.run,h1]
 have hsz:(sizeOf e).run E.P w=.ok inf.size w:=by simp only[sizeOf,typeInfo,program,bind,Sem.bind,pure,Sem.run,h2]
 unfold Instr.sliceAt;rw[aP hu];simp only[Instr.slice];rw[aP hu];simp only[];have hb:(Instr.sliceBounds true n c (some (.int kk m)) none none).run E.P w=.ok (m,n,c) w:=by
  simp[Instr.sliceBounds,Instr.sliceBound,asIntOf,bind,Sem.bind,pure,Sem.run,hm]
 rw[aP hb];simp only[];rw[aP hsz];simp only[nN,h3,pure,Sem.run]
theorem qU{ats:Array TypeId}{e:TypeId}{a:Option Addr}{n c:Nat}(ha:ats[0]?=some t)(hu:E.P.underlying t=some (.slice e))(hx:fr.ev x=some (.slice a n c)):
  Ev E fr K L ⟨dst,.call ⟨.builtin .len,#[x],ats⟩,ty,pos,aft,g⟩ (i64 n):=fun ac w f j=>by
 have e:Array.map ac.eval #[x]= #[.slice a n c]:=by simp[f.ev hx]
 simp only[execOp,resolve,e,bind,pure,Sem.bind,invoke,builtin];simp[Builtin.len_,ha,underlying,program,bind,Sem.bind,pure,Sem.run,hu,goInt]
theorem aAE{ats:Array TypeId}{e:TypeId}{a:Option Addr}{n c:Nat}(ha:ats[0]?=some t)(hu:E.P.underlying t=some (.slice e))(hx:fr.ev x=some (.slice a n c)):
  Ev E fr K L ⟨dst,.call ⟨.builtin .cap,#[x],ats⟩,ty,pos,aft,g⟩ (i64 c):=fun ac w f j=>by
 have e:Array.map ac.eval #[x]= #[.slice a n c]:=by simp[f.ev hx]
 simp only[execOp,resolve,e,bind,pure,Sem.bind,invoke,builtin];simp[Builtin.cap_,ha,underlying,program,bind,Sem.bind,pure,Sem.run,hu,goInt]
theorem aEZ{kk:IntKind}{mv:Int}{hi:Operand}{e sz:TypeId}{a:Option Addr}{c:Nat}(ht:iM E.P t e sz=true)(hx:fr.ev x=some (.slice a n c))(hh:fr.ev hi=some (.int kk mv))(hmv:mv=(m:Int))(hm:m≤c):
  Ev E fr K L ⟨dst,.slice t x none (some hi) none,ty,pos,aft,g⟩ (.slice a m c):=fun ac w f j=>by
 subst hmv;obtain⟨inf,h1,h2,h3⟩:=mS ht;simp only[execOp,f.ev hx,f.ev hh,Option.map];refine dS ?_;have hu:(underlying t).run E.P w=.ok (.slice e) w:=by simp only[underlying,program,bind,Sem.bind,pure,Sem.run,h1]
 have hsz:(sizeOf e).run E.P w=.ok inf.size w:=by simp only[sizeOf,typeInfo,program,bind,Sem.bind,pure,Sem.run,h2]
 unfold Instr.sliceAt;rw[aP hu];simp only[Instr.slice];rw[aP hu];simp only[];have hb:(Instr.sliceBounds true n c none (some (.int kk m)) none).run E.P w=.ok (0,m,c) w:=by
  simp[Instr.sliceBounds,Instr.sliceBound,asIntOf,bind,Sem.bind,pure,Sem.run,hm]
 rw[aP hb];simp only[];rw[aP hsz];cases a with
 |none=>by_cases hc:c=0 <;> simp[hc,pure,Sem.run,Addr.add]
 |some a=>by_cases hc:c=0 <;> simp[hc,pure,Sem.run,Addr.add]
theorem bAW{fv:Operand}{os:List Operand}{ats ps:Array TypeId}{f:FuncId}{fn:Func}{e:TypeId}(hf:fr.ev fv=some (.func (.func f) #[] #[]))(hos:fr.evs os=some [i64 n])
  (h1:E.P.funcs[f]?=some fn) (h2:(fn.name=="runtime.NumGoroutine")=false) (h3:fn.body.isNone=true) (h4:Extern.findNext fn=none) (h5:Extern.find fn=some (Extern.BytealgMakeNoZero.makeNoZero ps #[t])) (ht:E.P.underlying t=some (.slice e)) (hn:n≤281474976710656):
  EfS E fr K L ⟨dst,.call ⟨.value fv,os.toArray,ats⟩,ty,pos,aft,g⟩ (fun r K' L'=>∃(b:Nat) (cs:List Value),n≤cs.length∧r=.slice (some ⟨b,0,none⟩) n cs.length∧K'=K∧L'=pt b (aU cs e)::L):=
 yW hf hos h1 h2 h3 h4 h5 fun w i=>by
  obtain⟨cs,hr,hle,_⟩:=Lib.run_makeNoZero (P:=E.P) w ps t e ht n hn;refine⟨_,_,K,_,hr,⟨w.heap.size,cs.toList,by simpa using hle,by simp,rfl,rfl⟩,Hl.le_refl _,?_⟩
  have j:=(i.drew (w.drawn+1+1)).alloc (aU cs.toList e);have e1:(Obj.cells cs e)=aU cs.toList e:=by unfold aU;simp
  rw[e1];exact j
theorem aJ3{e:TypeId}{a:Addr}{c:Nat}(hu:E.P.underlying t=some (.slice e))(hs:((E.P.info? e).map (·.size)).isSome=true)(hx:fr.ev x=some (.slice (some a) n c))(hy:fr.ev y=some (.slice none 0 0)):
  Ev E fr K L ⟨dst,.call ⟨.builtin .copy,#[x,y],#[t,t2]⟩,ty,pos,aft,g⟩ (i64 0):=fun ac w f j=>by
 have e:Array.map ac.eval #[x,y]= #[.slice (some a) n c,.slice none 0 0]:=by simp[f.ev hx,f.ev hy]
 simp only[execOp,resolve,e,bind,pure,Sem.bind,invoke,builtin];exact dS (run_copy_nil E.P w t t2 ty _ a n c hu hs)
theorem xC{o:Oper}{ob:Obj}{f:Nat→Value}{N:Value→Hl→List Asn→Prop}(h:EfS E fr K L o N)(hN:∀v K' L',N v K' L'→∃b,v=f b∧K'=K∧L'=pt b ob::L):EfS E fr K L o (fun v K' L'=>∃b,v=f b∧K' b=some ob∧L'=L):=fun a w fo j=>by
 obtain⟨u,w',K',L',hr,hn,le,j'⟩:=h a w fo j;obtain⟨b,h1,rfl,rfl⟩:=hN _ _ _ hn;obtain⟨le2,hk,j2⟩:=j'.settle;exact⟨u,w',_,L,hr,⟨b,h1,hk,rfl⟩,Hl.le_trans le le2,j2⟩
end
end Go.SL
end
section
namespace Go.SL
def aEC(P:Program)(fv:Value)(f:FuncId)(vs:List Value):Prop:=∀w,(do let d ←Deferred.ofValue fv #[];invoke d.target d.args).run P w=.ok (.enter f vs.toArray) w
section
variable{E:Env}{fr:Fr}{K:Hl}{L L1 L2:List Asn}{Q:Post}{ops:Array Oper}{rest:List Oper}{ty:TypeId}{pos:String}{aft:Array Edge}
theorem aSM{d:Nat}{fv:Operand}{ats:Array TypeId}{x:Value}{f:FuncId}{vs:List Value}{N:Value→Hl→List Asn→Prop}(hf:fr.ev fv=some x)(he:aEC E.P x f vs)(hs:Sp E.P f vs K L1 (Ret N))(hL:Tks L1 L L2)(hd:Nat.blt d E.n=true)
  (h:∀v K' L',N v K' L'→K.le K'→OL E ops rest ((d,v)::fr) K' (L'++L2) Q):OL E ops (⟨some d,.call ⟨.value fv,#[],ats⟩,ty,pos,aft,none⟩::rest) fr K L Q:=
 aDB (aGZ (N := fun v K' L'' => ∃ L', L'' = L' ++ L2 ∧ N v K' L') (fun a w fo => by
  have:=he w
  simpa[execOp,resolve,fo.ev hf,bind,pure,Sem.bind]using this) hL hs (fun v K' L' ⟨u,e,n⟩=>by cases e;exact⟨L',rfl,n⟩) (fun ch K' L' ⟨u,e,n⟩=>by cases e) (fun K' L' ⟨u,e,n⟩=>by cases e)) hd
  (fun v K' L'' ⟨L',e,n⟩ le=>by subst e;exact h v K' L' n le)
theorem ev_T{o:Oper}{p:Prop}[Decidable p](h:Ev E fr K L o (.bool (decide p)))(hp:p):Ev E fr K L o (.bool true):=by rwa [decide_eq_true hp]at h
theorem ev_F{o:Oper}{p:Prop}[Decidable p](h:Ev E fr K L o (.bool (decide p)))(hp:¬p):Ev E fr K L o (.bool false):=by rwa [decide_eq_false hp]at h
theorem lM{o:Oper}{u v:Value}(h:Ev E fr K L o u)(e:u=v):Ev E fr K L o v:=e▸h
end
end Go.SL
end
section
namespace Go.SL
def aJC(P:Program)(U n T:Nat):Bool:=
 match P.info? T with
 |some j=>j.size !=0&&n !=0&&liesAt P P.depth U (n / P.cellsOf U) 0 T 1
 |none=>false
section
variable{E:Env}{fr:Fr}{K:Hl}{L L':List Asn}{Q:Post}{dst:Option Tmp}{ty:TypeId}{pos:String}{aft:Array Edge}{g:Option (Nat×Bool)}{x y:Operand}{t t2 t' s e b n:Nat}{T U:TypeId}{v:Value}
theorem aCD{l:List Value}{fz:Nat×Nat}(hs:E.P.underlying t=some (.pointer T))(hd:E.P.underlying t2=some .unsafePointer)(hx:fr.ev x=some (ptr b))(hS:Sees K L b (aU l U fz))(hT:aJC E.P U l.length T=true):
  Ev E fr K L ⟨dst,.convert t t2 x,ty,pos,aft,g⟩ (ptr b):=fun a w f j=>by
 simp only[execOp,f.ev hx];refine dS ?_;unfold aJC at hT;cases hi:E.P.info? T with
 |none=>simp[hi]at hT
 |some inf=>
  simp[hi]at hT;have hp:0 < l.length:=by
   rcases Nat.eq_zero_or_pos l.length with h|h
   ·exact absurd (List.length_eq_zero_iff.1 h) hT.1.2
   ·exact h
  exact Lib.run_to_unsafe w ⟨b,0,none⟩ hs hd hi (by have:=hT.1.1;omega) (sL (hS.at j)) hp
theorem y7{l:List Value}{fz:Nat×Nat}(hs:E.P.underlying t=some .unsafePointer)(hd:E.P.underlying t2=some (.pointer T))(hx:fr.ev x=some (ptr b))(hS:Sees K L b (aU l U fz))(hT:aJC E.P U l.length T=true):
  Ev E fr K L ⟨dst,.convert t t2 x,ty,pos,aft,g⟩ (ptr b):=fun a w f j=>by
 simp only[execOp,f.ev hx];refine dS ?_;unfold aJC at hT;cases hi:E.P.info? T with
 |none=>simp[hi]at hT
 |some inf=>
  simp[hi]at hT;exact Lib.run_from_unsafe w ⟨b,0,none⟩ hs hd hi (sL (hS.at j)) hT.2
end
end Go.SL
end
section
namespace Go.SL
section
variable{E:Env}{fr:Fr}{K:Hl}{L L':List Asn}{Q:Post}{dst:Option Tmp}{ty:TypeId}{pos:String}{aft:Array Edge}{g:Option (Nat×Bool)}{ops:Array Oper}{rest:List Oper}{v x:Value}{b o:Nat}
theorem aCO{fv:Operand}{os:List Operand}{vs:List Value}{ats:Array TypeId}{f:FuncId}{a:Act}{w w':World}{r:Value}(fo:FrOk E.n E.ds fr a)(hf:fr.ev fv=some (.func (.func f) #[] #[]))(hos:fr.evs os=some vs)
  (hr:(callFunc f vs.toArray).run E.P w=.ok (.value r) w'):(execOp a.eval ⟨dst,.call ⟨.value fv,os.toArray,ats⟩,ty,pos,aft,g⟩).run E.P w=.ok (.value r) w':=by
 have e1:Array.map a.eval os.toArray=vs.toArray:=by simp[fo.evs hos]
 simp only[execOp,resolve,e1,fo.ev hf,Deferred.ofValue,bind,pure,Sem.bind,invoke,List.append_toArray];simp only[List.nil_append,List.append_nil];exact hr
theorem oG{fv:Operand}{os:List Operand}{vs:List Value}{ats:Array TypeId}{f:FuncId}(hf:fr.ev fv=some (.func (.func f) #[] #[]))(hos:fr.evs os=some vs)(hr:∀w,In E.w0 E.F K L w→(callFunc f vs.toArray).run E.P w=.ok (.value v) w):
  Ev E fr K L ⟨dst,.call ⟨.value fv,os.toArray,ats⟩,ty,pos,aft,g⟩ v:=fun a w fo j=>aCO fo hf hos (hr w j)
theorem xR{fv:Operand}{os:List Operand}{vs:List Value}{ats:Array TypeId}{f:FuncId}{l l':List Value}{u:TypeId}{fz:Nat×Nat}(hf:fr.ev fv=some (.func (.func f) #[] #[]))(hos:fr.evs os=some vs)
  (hr:∀w:World,w.heap[b]?=some (aU l u fz)→(callFunc f vs.toArray).run E.P w=.ok (.value v) (w.setCell ⟨b,o,none⟩ x))
  (hs:Fnd (pt b (aU l u fz)) (pt b (aU l' u fz)) L L') (hset:SetAt l o x l'):
  EfS E fr K L ⟨dst,.call ⟨.value fv,os.toArray,ats⟩,ty,pos,aft,g⟩ (fun r K' L''=>r=v∧K'=K∧L''=L'):=by
 intro a w fo j;have hb:=j.mem hs;obtain⟨rfl,ho'⟩:=hset.eq;obtain⟨s1,s2,s3⟩:=nT (o:=o) x hb;exact⟨_,_,_,_,.inl (aCO fo hf hos (hr w hb)),⟨rfl,rfl,rfl⟩,Hl.le_refl _,j.writeAt hs s1 s2 s3⟩
theorem vS{t t2 T:TypeId}{y:Operand}{l:List Value}{u:TypeId}{fz:Nat×Nat}{c:Value}(hs:E.P.underlying t=some (.pointer T))(hd:E.P.underlying t2=some .unsafePointer)(hsz:(E.P.info? T).map (fun i=>decide (i.size=0))=some false)(hx:fr.ev y=some (ptr b o))(hS:Sees K L b (aU l u fz))(hl:l[o]?=some c):
  Ev E fr K L ⟨dst,.convert t t2 y,ty,pos,aft,g⟩ (ptr b o):=fun a w f j=>by
 simp only[execOp,f.ev hx];refine dS ?_;exact run_convert_to_unsafe hs hd hsz (kZ (hS.at j) hl)
theorem xG{w:World}{l:List Value}{u:TypeId}(h:w.heap[b]?=some (aU l u)):w.frozen? ⟨b,o,none⟩=false:=by
 simp only[World.frozen?,h];simp
theorem aES{P:Program}{f:FuncId}{r:Value}(hb:∃fn,P.funcs[f]?=some fn∧(fn.name=="runtime.NumGoroutine")=false∧fn.body.isSome=true):aEC P (.func (.func f) #[r] #[]) f [r]:=by
 intro w;obtain⟨fn,h1,h2,h3⟩:=hb;simp only[Deferred.ofValue,bind,pure,Sem.bind,invoke];have:=xE (vs:= #[r]) h1 h2 h3 w
 simpa using this
abbrev dfa(f:FuncId)(args:List Value):Deferred:={target:=.fn (.func f) #[],args:=args.toArray}
theorem aDA{fv:Operand}{os:List Operand}{vs:List Value}{ats:Array TypeId}{f:FuncId}(hf:fr.ev fv=some (.func (.func f) #[] #[]))(hos:fr.evs os=some vs)
  (h:OL ⟨E.P,E.n,dfa f vs::E.ds,E.w0,E.F⟩ ops rest fr K L Q):OL E ops (⟨none,.defer ⟨.value fv,os.toArray,ats⟩,ty,pos,aft,none⟩::rest) fr K L Q:=by
 intro a w f1 i;refine wpList_plain rfl fun k hk=>?_
 unfold Oper.wp;have e1:Array.map a.eval os.toArray=vs.toArray:=by simp[f1.evs hos]
 have:(execOp a.eval ⟨none,.defer ⟨.value fv,os.toArray,ats⟩,ty,pos,aft,none⟩).run E.P w=.ok (.defer (dfa f vs)) w:=by
  simp only[execOp,resolve,e1,f1.ev hf,Deferred.ofValue,bind,pure,Sem.bind];simp[Sem.run,dfa]
 rw[this];refine hk _ _ (h _ _ ⟨?_,f1.size,fun k v e=>f1.get k v e⟩ i)
 show dfa f vs::a.defers=_
 rw[f1.defers]
end
theorem aIR{P:Program}{f:FuncId}{fn:Func}{c:Code}{args:List Value}{n:Nat}{K:Hl}{L:List Asn}{R:Ending→Hl→List Asn→Prop}{u:FrameMode}
  (hf:P.funcs[f]?=some fn) (hb:fn.body=some c) (hn:fn.ntmps=n) (hl:Nat.ble args.length n=true) (hname:(fn.name=="runtime.NumGoroutine")=false)
  (h:∀(F:Hl) (w:World),T ⟨P,n,[],w,F⟩ c (Fr.init 0 args n) K L (tT P fn w F K R)):SpD P f args K L u fun e u'' K' L'=>u''=u∧R e K' L':=by
 refine⟨⟨fn,hf,hname,by simp[hb]⟩,fun F w i=>callsD_of_wpS hf hb fun c0 cs hu=>?_⟩
 have hlen:args.length≤n:=Nat.le_of_ble_eq_true hl;have f0:FrOk n [] (Fr.init 0 args n) {tmps:=args.toArray++Array.replicate (fn.ntmps - args.toArray.size) undef,defers:=[]}:=by
  refine⟨rfl,by simp[hn];omega,?_⟩
  intro k v e;obtain⟨_,h2⟩:=sB e;have hk:k < args.length:=by
   rcases Nat.lt_or_ge k args.length with h|h
   ·exact h
   ·simp[List.getElem?_eq_none h]at h2
  show (args.toArray++Array.replicate _ _)[k]?=some v
  rw[Array.getElem?_append_left gC1]
  simpa using h2
 refine wpS_of_wp (Code.wp_mono ?_ (h F w _ _ f0 i))
 intro e a' w' q;cases e with
 |normal=>obtain⟨h1,v,h2,K',L',h3,h4,h5⟩:=q;exact⟨h1,_,rfl,v,h2,K',L',⟨hu,h3⟩,h4,h5⟩
 |ret=>obtain⟨h1,v,h2,K',L',h3,h4,h5⟩:=q;exact⟨h1,_,rfl,v,h2,K',L',⟨hu,h3⟩,h4,h5⟩
 |panic ch=>obtain⟨h1,K',L',h3,h4,h5⟩:=q;exact⟨h1,_,rfl,K',L',⟨hu,h3⟩,h4,h5⟩
 |exit id=>exact q.elim
 |goto l=>exact q.elim
 |outgrown=>obtain⟨K',L',h3,h4,h5⟩:=q;exact⟨_,K',L',⟨hu,h3⟩,h4,h5⟩
section
variable{P:Program}{fn:Func}{n:Nat}{w0:World}{F K0 K:Hl}{fr:Fr}{L L1 L2:List Asn}{R:Ending→Hl→List Asn→Prop}{x:Exit}
theorem yQ{f:FuncId}{vs:List Value}{ds:List Deferred}{u:FrameMode}{N:Hl→List Asn→Prop}{RW:Ending→World→Prop}{tmps:Array Value}{w:World}(i:In w0 F K L w)(hu:u≠.run)(hL:Tks L1 L L2)
  (hs:SpD P f vs K L1 u fun e u'' K' L'=>u''=u∧((∃v,e=.returned v)∧N K' L'))
  (next:∀K' L' w',N K' L'→K.le K'→In w0 F K' (L'++L2) w'→Leaves P fn tmps RW ds (settle u) w'):Leaves P fn tmps RW (dfa f vs::ds) u w:=by
 obtain⟨F',i1,back⟩:=(i.imp hL.sat).hide;obtain⟨⟨g,g1,g2,g3⟩,hs⟩:=hs;refine leaves_cons hu (f:=f) (args:=vs.toArray) ?_ ((hs F' w i1).mono fun e u' w' ⟨K',L',r,le,j⟩=>?_)
 ·have:=xE (vs:=vs.toArray) g1 g2 g3 w;simp only[invoke]
  simpa using this
 ·obtain⟨rfl,⟨v,rfl⟩,hn⟩:=r;exact next K' L' w' hn le (back j)
theorem aQV{f1 f2:FuncId}{vs1 vs2:List Value}{M1:List Asn}{N1 N2:Hl→List Asn→Prop}(hw:Way x .returning)(hr:fn.results= #[])(hL:Tks L1 L M1)(hs1:SpD P f1 vs1 K L1 .returning fun e u'' K' L'=>u''=.returning∧((∃v,e=.returned v)∧N1 K' L'))
  (h2:∀K' L',N1 K' L'→K.le K'→∃L2 M2,Tks L2 (L'++M1) M2∧SpD P f2 vs2 K' L2 .returning (fun e u'' K'' L''=>u''=.returning∧((∃v,e=.returned v)∧N2 K'' L''))∧∀K'' L'',N2 K'' L''→K'.le K''→R (.returned (.tuple #[])) K'' (L''++M2)∧K0.le K''):
  D ⟨P,n,[dfa f1 vs1,dfa f2 vs2],w0,F⟩ x fr K L (u5 P fn w0 F K0 R):=fun a w fo i=>by
 refine hw.post ?_;rw[fo.defers];refine yQ i hw.ne hL hs1 fun K' L' w' hn le j=>?_
 obtain⟨L2,M2,t2,s2,fin⟩:=h2 K' L' hn le;refine yQ j (by simp[settle]) t2 (by simpa[settle]using s2) fun K'' L'' w'' hn2 le2 j2=>?_
 obtain⟨r,l0⟩:=fin K'' L'' hn2 le2;exact⟨_,results_none hr _ _ _,K'',_,r,l0,j2⟩
end
end Go.SL
end
section
namespace Go.Syn
def j1(c:UInt8):aJ:=if c=92 then [92,92]else if c=34 then [92,34]else [c]
def fD(s:aJ):aJ:=[34]++s.flatMap j1++[34]
def rL(sep:aJ):List aJ→aJ
 | []=>[]
 | [x]=>x
 |x::y::r=>x++sep++rL sep (y::r)
def lY:List aJ→aJ
 | [x]=>fD x
 |l=>[91]++rL [44,32] (l.map fD)++[93]
def indC:Nat→aJ
 |0=>[]
 |n+1=>[32,32]++indC n
def nL(op:Int):aJ:=if op=6 then [104,101,97,100,101,114]else if op=7 then [101,110,118,101,108,111,112,101]else if op=8 then [115,116,114,105,110,103]else []
def tM(tag:Int):aJ:=if tag=2 then [32,58,99,111,110,116,97,105,110,115]else if tag=3 then [32,58,109,97,116,99,104,101,115]else []
def rC(tag:Int):aJ:=if tag=1 then [32,58,108,111,119,101,114]else if tag=2 then [32,58,117,112,112,101,114]else if tag=3 then [32,58,108,101,110,103,116,104]else []
def qC(tag:Int):aJ:=if tag=1 then [111,118,101,114]else if tag=2 then [117,110,100,101,114]else []
def qP(k:Int):aJ:=if k=2 then [102,105,108,101,105,110,116,111,32]else if k=3 then [114,101,100,105,114,101,99,116,32]else if k=4 then [114,101,106,101,99,116,32]else []
def tG:aJ:=[32,58,99,111,109,112,97,114,97,116,111,114,32,34,105,59,111,99,116,101,116,34]
def prn:Tree→Nat→Bool→aJ
 | .const b,_,_=>if b=true then [116,114,117,101]else [102,97,108,115,101]
 | .not_ t,d,_=>[110,111,116,32]++prn t d true
 | .many all l,d,_=>(if all=true then [97,108,108,111,102,32,40]else [97,110,121,111,102,32,40])++prn l d true++[41]
 | .mat tag oct op a b,_,_=>nL op++(if oct=true then tG else [])++(tM tag++[32]++lY a++[32]++lY b)
 | .exi a,_,_=>[101,120,105,115,116,115,32]++lY a
 | .siz tag n,_,_=>[115,105,122,101,32,58]++qC tag++[32]++Lib.itoa n
 | .tnil,_,_=>[]
 | .tcons t l,d,f=>(if f=true then []else [44,32])++prn t d true++prn l d false
 | .plain op,_,_=>if op=14 then [115,116,111,112,59]else [100,105,115,99,97,114,100,59]
 | .act k a _,_,_=>if k=1 then [107,101,101,112,59]else qP k++(fD a++[59])
 | .set_ n v tag,_,_=>[115,101,116]++rC tag++[32]++fD n++[32]++fD v++[59]
 | .iff bs,d,_=>prn bs d true
 | .cnil,_,_=>[]
 | .ccons c l,d,_=>indC d++prn c d true++[10]++prn l d true
 | .bnil,_,_=>[]
 | .bcons t b l,d,f=>(if f=true then [105,102,32]else [32,101,108,115,105,102,32])++prn t d true++[32,123,10]++prn b (d+1) true++(indC d++[125])++prn l d false
 | .belse b l,d,_=>[32,101,108,115,101]++[32,123,10]++prn b (d+1) true++(indC d++[125])++prn l d false
def oV(r:List aJ×Tree):aJ:=(if r.1=[]then []else [114,101,113,117,105,114,101,32]++lY r.1++[59,10])++prn r.2 0 true
end Go.Syn
end
section
namespace Go.Proofs
open Go Go.SL Go.Syn
abbrev nilS:Value:=.slice none 0 0
def rcs(f:Nat→Value)(tv:Value):List Value:=(List.range 256).map f++[tv]
theorem zG(f:Nat→Value)(tv:Value):(rcs f tv).length=257:=by simp[rcs]
theorem pD{f:Nat→Value}{tv:Value}{j:Nat}(h:j < 256):(rcs f tv)[j]?=some (f j):=by
 unfold rcs;rw[List.getElem?_append_left (by simpa using h)];simp[h]
theorem aBG(f:Nat→Value)(tv:Value):(rcs f tv)[256]?=some tv:=by
 unfold rcs;rw[List.getElem?_append_right (by simp)];simp
def upd(f:Nat→Value)(j:Nat)(v:Value):Nat→Value:=fun i=>if i=j then v else f i
theorem aV2{f:Nat→Value}{tv v:Value}{j:Nat}(h:j < 256):SetAt (rcs f tv) j v (rcs (upd f j v) tv):=by
 have e:(rcs f tv).set j v=rcs (upd f j v) tv:=by
  unfold rcs;rw[List.set_append_left _ _ (by simpa using h)]
  congr 1
  apply List.ext_getElem?
  intro i;rw[List.getElem?_set]
  by_cases hi:j=i
  ·subst hi;simp[h,upd]
  ·simp only[if_neg hi,List.getElem?_map];rcases Nat.lt_or_ge i 256 with hl|hl
   ·rw[List.getElem?_range hl];simp[upd,Ne.symm hi]
   ·rw[List.getElem?_eq_none (by simpa using hl)];rfl
 rw[←e];exact xU (by rw[zG];omega)
theorem aH7{f:Nat→Value}{tv v:Value}:SetAt (rcs f tv) 256 v (rcs f v):=by
 have e:(rcs f tv).set 256 v=rcs f v:=by
  unfold rcs;rw[List.set_append_right _ _ (by simp)];simp
 rw[←e];exact xU (by rw[zG];omega)
theorem aRP(v:Value)(n:Nat):Spl (List.replicate (n+1) nilS) n [v] ((List.range n).map (fun _=>nilS)++[v]):=by
 have h:=aBR (o:=n) (l:=List.replicate (n+1) nilS) (cs:=[v]) (by simp);have e:(List.replicate (n+1) nilS).take n++[v]++(List.replicate (n+1) nilS).drop (n+[v].length)=(List.range n).map (fun _=>nilS)++[v]:=by
  rw[List.take_replicate,List.drop_replicate,List.length_singleton,Nat.min_eq_left (Nat.le_succ n),Nat.sub_self,List.map_const',List.length_range];simp
 rw[e]at h;exact h
theorem aS1(v:Value):Spl (List.replicate 257 nilS) 256 [v] (rcs (fun _=>nilS) v):=aRP v 256
theorem aTW{l cs:List Value}(h:l.length=cs.length):Spl l 0 cs cs:=by
 have h2:=aBR (o:=0) (l:=l) (cs:=cs) aH;rw[List.take_zero,List.nil_append,List.drop_eq_nil_of_le aH,List.append_nil]at h2;exact h2
theorem aV1{f:Nat→Value}{tv:Value}(hf:∀j,(f j).oneCell'=true)(ht:tv.oneCell'=true):∀c∈rcs f tv,c.oneCell'=true:=by
 intro c hc;unfold rcs at hc;rcases List.mem_append.1 hc with h|h
 ·obtain⟨j,_,rfl⟩:=List.mem_map.1 h;exact hf j
 ·simp at h;subst h;exact ht
def kk(s:Nat):UInt8:=if s=0 then 34 else 92
def nn(s:Nat):List UInt8:=if s=0 then [92,34]else [92,92]
def olds:List (List UInt8):=[[92],[92,92],[34],[92,34]]
def vX(s:Nat):List (List UInt8):=[[34],[92]].take s
theorem aSO{s:Nat}(h:s≤1):olds[2 - 2*s]?=some [kk s]∧olds[3 - 2*s]?=some (nn s)∧vX (s+1)=vX s++[[kk s]]:=by
 rcases Nat.le_one_iff_eq_zero_or_eq_one.1 h with rfl|rfl <;> exact⟨rfl,rfl,rfl⟩
theorem aSP{s:Nat}(h:s < 2):∃c x,olds[2*s]?=some [c]∧olds[2*s+1]?=some x∧x.length=2:=by
 rcases Nat.le_one_iff_eq_zero_or_eq_one.1 (Nat.le_of_lt_succ h)with rfl|rfl
 ·exact⟨92,[92,92],rfl,rfl,rfl⟩
 ·exact⟨34,[92,34],rfl,rfl,rfl⟩
def isz:Nat→Bool
 |0=>true
 |_+1=>false
def Done(K:Hl)(s:Nat)(f:Nat→Value):Prop:=∀j,(∃i,i < s∧j=(kk i).toNat∧(∃a c,f j=.slice (some a) 2 c)∧Ksl (elB 5) K (f j) (nn i))∨((∀i,i < s→j≠(kk i).toNat)∧f j=nilS)
theorem aM5{K K':Hl}{s:Nat}{f:Nat→Value}(h:Done K s f)(le:K.le K'):Done K' s f:=fun j=>(h j).imp_left fun⟨i,h1,h2,h3,h4⟩=>⟨i,h1,h2,h3,h4.mono le⟩
theorem aM7(K:Hl):Done K 0 (fun _=>nilS):=fun j=>.inr ⟨fun i h=>by omega,rfl⟩
theorem aY3(s:Nat):(nn s).length=2:=by unfold nn;split <;> rfl
theorem aR7{e:TypeId}{K:Hl}{v:Value}{xs:List UInt8}(h:Ksl (elB e) K v xs)(h0:xs.length=2):∃a c,v=.slice (some a) 2 c:=by
 rcases h with ⟨a,c,rfl,rfl⟩|⟨b,off,cap,cells,fz,rfl,_⟩
 ·simp at h0
 ·rw[h0];exact⟨_,_,rfl⟩
theorem aRE{K:Hl}{s:Nat}{f:Nat→Value}(h:Done K s f)(hs:s≤1):f (kk s).toNat=nilS:=by
 rcases h (kk s).toNat with ⟨i,h1,h2,_⟩|⟨_,h⟩
 ·have:i=0∧s=1:=by omega
  obtain⟨rfl,rfl⟩:=this;exact absurd h2 (by decide)
 ·exact h
theorem aM6{K K':Hl}{s:Nat}{f:Nat→Value}{v:Value}(h:Done K s f)(le:K.le K')(hv:Ksl (elB 5) K' v (nn s)):Done K' (s+1) (upd f (kk s).toNat v):=by
 intro j
 by_cases hj:j=(kk s).toNat
 ·refine .inl ⟨s,by omega,hj,?_⟩
  unfold upd;rw[if_pos hj];exact⟨aR7 hv (aY3 s),hv⟩
 ·unfold upd;rw[if_neg hj];rcases h j with ⟨i,h1,h2,h3,h4⟩|⟨h1,h2⟩
  ·exact .inl ⟨i,by omega,h2,h3,h4.mono le⟩
  ·refine .inr ⟨fun i hi=>?_,h2⟩
   rcases Nat.lt_or_ge i s with h|h
   ·exact h1 i h
   ·have:i=s:=by omega
    subst this;exact hj
def isQ(c:UInt8):Bool:=decide (c=34∨c=92)
theorem aJW{K:Hl}{f:Nat→Value}(h:Done K 2 f)(c:UInt8):(isQ c=true∧(∃a n,f c.toNat=.slice (some a) 2 n)∧Ksl (elB 5) K (f c.toNat) (j1 c)∧(j1 c).length=2)∨(isQ c=false∧f c.toNat=nilS∧j1 c=[c]):=by
 have h34:c.toNat=34→c=34:=fun e=>UInt8.toNat_inj.1 e
 have h92:c.toNat=92→c=92:=fun e=>UInt8.toNat_inj.1 e
 rcases h c.toNat with ⟨i,h1,h2,h3,h4⟩|⟨h1,h2⟩
 ·have hi:i=0∨i=1:=by omega
  rcases hi with rfl|rfl
  ·have e:=h34 h2;subst e;exact .inl ⟨by decide,h3,h4,rfl⟩
  ·have e:=h92 h2;subst e;exact .inl ⟨by decide,h3,h4,rfl⟩
 ·have n34:c≠34:=fun e=>h1 0 aH (by rw[e];rfl)
  have n92:c≠92:=fun e=>h1 1 aH (by rw[e];rfl)
  refine .inr ⟨by simp[isQ,n34,n92],h2,by unfold j1;rw[if_neg n92,if_neg n34]⟩
def cntQ(s:aJ):Nat:=s.countP isQ
def encQ(s:aJ):aJ:=s.flatMap j1
theorem vO:∀s:aJ,(encQ s).length=s.length+cntQ s
 | []=>rfl
 |c::s=>by
  have ih:=vO s;unfold encQ cntQ at ih ⊢;rw[List.flatMap_cons,List.length_append,ih,List.countP_cons,List.length_cons];have:(j1 c).length=1+if isQ c=true then 1 else 0:=by
   unfold j1 isQ
   by_cases h1:c=92
   ·simp[h1]
   ·by_cases h2:c=34 <;> simp[h1,h2]
  omega
theorem vE(s:aJ):cntQ s≤s.length:=List.countP_le_length
theorem aNC{s:aJ}(h:cntQ s=0):encQ s=s:=by
 induction s with
 |nil=>rfl
 |cons c s ih=>
  unfold cntQ at h;rw[List.countP_cons]at h;have h2:isQ c=false:=by
   cases hq:isQ c with
   |false=>rfl
   |true=>rw[hq]at h;simp at h
  have h3:cntQ s=0:=by unfold cntQ;omega
  have ih:=ih h3;unfold encQ at ih ⊢;rw[List.flatMap_cons,ih];unfold isQ at h2;simp at h2;unfold j1;rw[if_neg h2.2,if_neg h2.1];rfl
theorem aQR(s:aJ):cntQ s=Lib.countByte s 34+Lib.countByte s 92:=by
 induction s with
 |nil=>rfl
 |cons c s ih=>
  unfold cntQ Lib.countByte at ih ⊢;rw[List.countP_cons,List.count_cons,List.count_cons,ih];unfold isQ
  by_cases h1:c=34
  ·subst h1;simp;omega
  ·by_cases h2:c=92
   ·subst h2;simp;omega
   ·simp[h1,h2]
theorem vH(s:aJ)(c:UInt8):Lib.countByte s c≤s.length:=List.count_le_length
def cntU(s:aJ)(i:Nat):Nat:=if i=0 then 0 else if i=1 then Lib.countByte s 34 else cntQ s
theorem aCS{s:aJ}{i:Nat}(h:i < 2):cntU s (i+1)=cntU s i+Lib.countByte s (kk i):=by
 rcases Nat.le_one_iff_eq_zero_or_eq_one.1 (Nat.le_of_lt_succ h)with rfl|rfl
 ·simp[cntU,kk]
 ·simp[cntU,kk];exact aQR s
theorem aU4(s:aJ)(i:Nat):cntU s i≤s.length:=by
 unfold cntU;split
 ·omega
 ·split
  ·exact vH _ _
  ·exact vE _
theorem aDR{s:aJ}{i:Nat}{c:UInt8}(h:s[i]?=some c):s.take (i+1)=s.take i++[c]:=by
 have hi:i < s.length:=by
  rcases Nat.lt_or_ge i s.length with h'|h'
  ·exact h'
  ·rw[List.getElem?_eq_none h']at h;cases h
 rw[List.getElem?_eq_getElem hi]at h;cases h
 rw[List.take_succ_eq_append_getElem hi]
theorem aM1{s:aJ}{i:Nat}{c:UInt8}(h:s[i]?=some c):cntQ (s.take (i+1))=cntQ (s.take i)+if isQ c=true then 1 else 0:=by
 rw[aDR h];unfold cntQ;rw[List.countP_append];simp[List.countP_cons]
theorem nZ{s:aJ}{i:Nat}{c:UInt8}(h:s[i]?=some c):encQ (s.take (i+1))=encQ (s.take i)++j1 c:=by
 rw[aDR h];unfold encQ;rw[List.flatMap_append];simp
theorem vP(s:aJ)(i:Nat):(encQ (s.take i)).length≤(encQ s).length:=by
 have:s=s.take i++s.drop i:=(List.take_append_drop i s).symm;have e:encQ s=encQ (s.take i)++encQ (s.drop i):=by
  conv=>lhs;rw[this]
  unfold encQ;rw[List.flatMap_append]
 rw[e,List.length_append];omega
def posB:Nat→Bool
 |0=>false
 |_+1=>true
theorem sG{n:Nat}(h:0 < n):posB n=true:=by cases n with|zero=>omega|succ n=>rfl
theorem aR2{i:Nat}(h:i < 2):(vX 2)[i]?=some [kk i]:=by
 rcases Nat.le_one_iff_eq_zero_or_eq_one.1 (Nat.le_of_lt_succ h)with rfl|rfl <;> rfl
theorem kk_q(i:Nat):isQ (kk i)=true:=by unfold kk;split <;> rfl
theorem aGW(s:aJ):cntU s 2=cntQ s:=rfl
def bufQ(s:aJ)(i:Nat):aJ:=encQ (s.take i)++List.replicate ((encQ s).length - (encQ (s.take i)).length) 0
theorem aGT(s:aJ)(i:Nat):(bufQ s i).length=(encQ s).length:=by
 have:=vP s i;unfold bufQ;rw[List.length_append,List.length_replicate];omega
theorem aMW(s:aJ):bufQ s 0=List.replicate (encQ s).length 0:=by simp[bufQ,encQ]
theorem aQK(s:aJ):bufQ s s.length=encQ s:=by unfold bufQ;rw[List.take_length,Nat.sub_self];simp
theorem w6{s:aJ}{i:Nat}{c:UInt8}(h:s[i]?=some c):(bufQ s i).take (encQ (s.take i)).length++j1 c++(bufQ s i).drop ((encQ (s.take i)).length+(j1 c).length)=bufQ s (i+1):=by
 have h1:=vP s (i+1);have h2:=nZ h;rw[h2,List.length_append]at h1;unfold bufQ;rw[h2,List.take_left,←List.drop_drop,List.drop_left,List.drop_replicate,List.length_append,Nat.sub_sub]
theorem aCN{s:aJ}{i:Nat}{c:UInt8}(h:s[i]?=some c):(encQ (s.take i)).length+(j1 c).length≤(encQ s).length:=by
 have h1:=vP s (i+1);rw[nZ h,List.length_append]at h1;exact h1
theorem aGU{s:aJ}{i:Nat}{c:UInt8}(h:s[i]?=some c)(hq:j1 c=[c]):(bufQ s i).set (encQ (s.take i)).length c=bufQ s (i+1):=by
 have h0:=w6 h;have h1:=aCN h;rw[hq]at h0 h1;simp only[List.length_singleton]at h0 h1;rw[←h0,List.set_eq_take_append_cons_drop,if_pos (by rw[aGT];omega)];simp
end Go.Proofs
end
section
namespace Go.Box
open Go.Syn
abbrev File:=aJ×aJ
abbrev DMap:=aJ→Option aJ
def DMap.put(f:DMap)(n d:aJ):DMap:=fun x=>if x=n then some d else f x
def DMap.cut(f:DMap)(n:aJ):DMap:=fun x=>if x=n then none else f x
abbrev Er:=Option Int
structure OpR where
 kind:Int
 name:aJ
 to:aJ
 data:aJ
def doF(f:DMap)(o:OpR):DMap:=if o.kind=1 then f.put o.name o.data else f.cut o.name
structure DSt where
 dur:DMap
 now:DMap
 pend:List OpR
 left:Int
 full:Int
 down:Bool
def aGD(l f:Int)(dn:Bool):Er×Int×Int×Bool:=
 if dn=true∨l=0 then (some 16,l,f,true)
 else if f=0 then (some 15,IntKind.i64.wrap (l - 1),-1,false)
 else (none,IntKind.i64.wrap (l - 1),IntKind.i64.wrap (f - 1),false)
def DSt.ws(s:DSt):DSt:={s with left:=(aGD s.left s.full s.down).2.1,full:=(aGD s.left s.full s.down).2.2.1,down:=(aGD s.left s.full s.down).2.2.2}
def DSt.add(s:DSt)(o:OpR):DSt:={s with pend:=s.pend++[o]}
def aYN(f:File):aJ:=f.1++[32]++Lib.itoa f.2.length++[10]++f.2
def lS(files:List File):aJ:=files.flatMap aYN
inductive Left:Bool→List OpR→DMap→DMap→Prop where
 |nil {b f}:Left b [] f f
 |lost {b o os f g}:Left b os f g→Left b (o::os) f g
 |kept {b o os f g}:Left b os (doF f o) g→Left b (o::os) f g
 |torn {o os f g d}:o.kind=1→d<+:o.data→Left false os (f.put o.name d) g→Left true (o::os) f g
 |none {b o os f g}:1 < o.kind→f o.name=none→Left b os f g→Left b (o::os) f g
theorem o3{α:Type}{l:List α}{i:Nat}{o:α}(hx:l[i]?=some o):l.drop i=o::l.drop (i+1):=by
 have hi:i < l.length:=by
  rcases Nat.lt_or_ge i l.length with h|h
  ·exact h
  ·simp[List.getElem?_eq_none h]at hx
 rw[List.drop_eq_getElem_cons hi];rw[List.getElem?_eq_getElem hi]at hx;cases hx;rfl
theorem Left.mono{b:Bool}{os:List OpR}{f g:DMap}(h:Left b os f g):∀ {b':Bool},(b=true→b'=true)→Left b' os f g:=by
 induction h with
 |nil=>intro b' _;exact .nil
 |lost _ ih=>intro b' hb;exact .lost (ih hb)
 |kept _ ih=>intro b' hb;exact .kept (ih hb)
 |torn h1 h2 h3 ih=>intro b' hb;rw[hb rfl];exact .torn h1 h2 h3
 |none h1 h2 _ ih=>intro b' hb;exact .none h1 h2 (ih hb)
def CrI(pend:List OpR)(dur:DMap)(r i:Nat)(g:DMap):Prop:=∀x,Left (decide (i≤r)) (pend.drop i) g x→Left true pend dur x
section
variable{pend:List OpR}{dur g:DMap}{r i:Nat}{o:OpR}
theorem CrI.init:CrI pend dur r 0 dur:=fun x h=>by simpa using h
theorem CrI.lost (hx : pend[i]? = some o) (h : CrI pend dur r i g) : CrI pend dur r (i + 1) g := fun x k => h x (by
 rw[o3 hx];exact .lost (k.mono fun e=>by have:=of_decide_eq_true e;exact decide_eq_true aH))
theorem CrI.none (hx : pend[i]? = some o) (h1 : 1 < o.kind) (h2 : g o.name = Option.none) (h : CrI pend dur r i g) : CrI pend dur r (i + 1) g := fun x k => h x (by
 rw[o3 hx];exact .none h1 h2 (k.mono fun e=>by have:=of_decide_eq_true e;exact decide_eq_true aH))
theorem CrI.kept (hx : pend[i]? = some o) (h : CrI pend dur r i g) : CrI pend dur r (i + 1) (doF g o) := fun x k => h x (by
 rw[o3 hx];exact .kept (k.mono fun e=>by have:=of_decide_eq_true e;exact decide_eq_true aH))
theorem CrI.torn {d : aJ} (hx : pend[i]? = some o) (h1 : o.kind = 1) (hr : i = r) (hd : d <+: o.data) (h : CrI pend dur r i g) : CrI pend dur r (i + 1) (g.put o.name d) := fun x k => h x (by
 rw[o3 hx,decide_eq_true (by omega:i≤r)];rw[decide_eq_false (by omega:¬i+1≤r)]at k;exact .torn h1 hd k)
theorem CrI.do{d:aJ}(hx:pend[i]?=some o)(hd:d=o.data∨o.kind=1∧i=r∧d<+:o.data)(h:CrI pend dur r i g):CrI pend dur r (i+1) (doF g {o with data:=d}):=by
 rcases hd with rfl|⟨h1,h2,h3⟩
 ·exact h.kept hx
 ·have:=h.torn hx h1 h2 h3
  simpa[doF,h1]using this
theorem CrI.done(h:CrI pend dur r pend.length g):Left true pend dur g:=h g (by simpa using Left.nil)
end
def DSt.set(s:DSt)(l f:Int):DSt:={s with left:=l,full:=f}
end Go.Box
end
section
namespace Go.SL
open Go.MapKept
def mdel(k:List UInt8):List Ent→List Ent
 | []=>[]
 |e::r=>if k=e.1 then r else e::mdel k r
section
variable{E:Env}{fr:Fr}{K:Hl}{L L':List Asn}{dst:Option Tmp}{ty:TypeId}{pos:String}{aft:Array Edge}{g:Option (Nat×Bool)}{x y:Operand}{t kt et t2:TypeId}{b:Nat}{es:List Ent}{c:Nat}{k:List UInt8}
end
end Go.SL
end
section
namespace Go.SL
open Go.MapKept
structure Fresh (es:List Ent) (c:Nat):Prop where
 lt:∀e∈es,e.2.2 < c
 nd:(es.map (·.2.2)).Nodup
section
variable{E:Env}{fr:Fr}{K:Hl}{L L':List Asn}{dst:Option Tmp}{ty:TypeId}{pos:String}{aft:Array Edge}{g:Option (Nat×Bool)}{x:Operand}{t kt et:TypeId}{b m c:Nat}{es:List Ent}{seen:List Nat}
end
end Go.SL
end
section
namespace Go.SL
theorem gD(k:List UInt8)(e:Ent)(es:List Ent):mget (e::es) k=if k=e.1 then some e.2.1 else mget es k:=by
 unfold mget;rw[List.find?_cons]
 by_cases h:k=e.1
 ·simp[h]
 ·rw[if_neg h];simp[h]
theorem aA6{k:List UInt8}{v:Value}{c:Nat}:∀(es:List Ent),(mset k v c es).map (·.2.2)=if (mget es k).isSome=true then es.map (·.2.2)else es.map (·.2.2)++[c]
 | []=>by simp[mset,mget]
 |e::es=>by
  unfold mset;rw[gD]
  by_cases h:k=e.1
  ·rw[if_pos h,if_pos h];simp
  ·rw[if_neg h,if_neg h,List.map_cons,aA6 es];split <;> simp
theorem aC9{k:List UInt8}{v:Value}{c:Nat}:∀(es:List Ent),(mset k v c es).map (·.1)=if (mget es k).isSome=true then es.map (·.1)else es.map (·.1)++[k]
 | []=>by simp[mset,mget]
 |e::es=>by
  unfold mset;rw[gD]
  by_cases h:k=e.1
  ·rw[if_pos h,if_pos h];simp
  ·rw[if_neg h,if_neg h,List.map_cons,aC9 es];split <;> simp
theorem aA2{k:List UInt8}:∀(es:List Ent),(mget es k).isSome=true↔k∈es.map (·.1)
 | []=>by simp[mget]
 |e::es=>by
  rw[gD]
  by_cases h:k=e.1
  ·rw[if_pos h];simp[h]
  ·rw[if_neg h,aA2 es];simp[h]
theorem aC8{k j:List UInt8}{v:Value}{c:Nat}:∀(es:List Ent),mget (mset k v c es) j=if j=k then some v else mget es j
 | []=>by
  unfold mset;rw[gD]
 |e::es=>by
  unfold mset
  by_cases h:k=e.1
  ·rw[if_pos h,gD,gD]
   by_cases h2:j=k
   ·rw[if_pos h2,if_pos (by rw[h2];exact h)]
   ·rw[if_neg h2,if_neg (fun h3=>h2 (h3.trans h.symm)),if_neg (fun h3=>h2 (h3.trans h.symm))]
  ·rw[if_neg h,gD,gD,aC8 es]
   by_cases h2:j=e.1
   ·rw[if_pos h2,if_pos h2,if_neg (fun h3=>h (h3.symm.trans h2))]
   ·rw[if_neg h2,if_neg h2]
theorem wD{k:List UInt8}:∀(es:List Ent),(mdel k es).Sublist es
 | []=>.slnil
 |e::es=>by
  unfold mdel;split
  ·exact List.sublist_cons_self _ _
  ·exact(wD es).cons_cons _
theorem aFH{k:List UInt8}{es:List Ent}(h:k∉es.map (·.1)):mget es k=none:=by
 cases hm:mget es k with
 |none=>rfl
 |some v=>exact absurd ((aA2 es).1 (by rw[hm];rfl)) h
theorem aC7{k j:List UInt8}:∀ {es:List Ent},(es.map (·.1)).Nodup→mget (mdel k es) j=if j=k then none else mget es j
 | [],_=>by simp[mdel,mget]
 |e::es,hn=>by
  have hn':e.1∉es.map (·.1)∧(es.map (·.1)).Nodup:=List.nodup_cons.1 hn;unfold mdel
  by_cases h:k=e.1
  ·rw[if_pos h,gD]
   by_cases h2:j=k
   ·rw[if_pos h2];exact aFH (by rw[h2,h];exact hn'.1)
   ·rw[if_neg h2,if_neg (fun h3=>h2 (h3.trans h.symm))]
  ·rw[if_neg h,gD,gD,aC7 hn'.2]
   by_cases h2:j=e.1
   ·rw[if_pos h2,if_pos h2,if_neg (fun h3=>h (h3.symm.trans h2))]
   ·rw[if_neg h2,if_neg h2]
theorem Fresh.nil:Fresh [] 0:=by
 refine⟨?_,List.nodup_nil⟩
 intro e h;cases h
theorem Fresh.set{es:List Ent}{c:Nat}{k:List UInt8}{v:Value}(h:Fresh es c):Fresh (mset k v c es) (tY es k c):=by
 have hb:=aA6 (k:=k) (v:=v) (c:=c) es;refine⟨fun e he=>?_,?_⟩
 ·have hm:e.2.2∈(mset k v c es).map (·.2.2):=List.mem_map_of_mem he;rw[hb]at hm;unfold tY;split at hm
  ·rename_i h1;rw[if_pos h1];obtain⟨f,hf,e2⟩:=List.mem_map.1 hm;rw[←e2];exact h.lt f hf
  ·rename_i h1;rw[if_neg h1];rcases List.mem_append.1 hm with hm|hm
   ·obtain⟨f,hf,e2⟩:=List.mem_map.1 hm;have:=h.lt f hf;omega
   ·have:=List.mem_singleton.1 hm;omega
 ·rw[hb];split
  ·exact h.nd
  ·refine List.nodup_append.2 ⟨h.nd,by simp,fun a ha b hb=>?_⟩
   obtain⟨f,hf,rfl⟩:=List.mem_map.1 ha;have:=h.lt f hf;have:=List.mem_singleton.1 hb;omega
theorem Fresh.del{es:List Ent}{c:Nat}{k:List UInt8}(h:Fresh es c):Fresh (mdel k es) c:=
 ⟨fun e he=>h.lt e ((wD es).subset he),h.nd.sublist ((wD es).map _)⟩
theorem aR3{es:List Ent}{c:Nat}{k:List UInt8}{v:Value}(h:(es.map (·.1)).Nodup):((mset k v c es).map (·.1)).Nodup:=by
 rw[aC9];split
 ·exact h
 ·rename_i h1;refine List.nodup_append.2 ⟨h,by simp,fun a ha b hb=>?_⟩
  have:=List.mem_singleton.1 hb;subst this;rintro rfl;exact h1 ((aA2 es).2 ha)
theorem aR1{es:List Ent}{k:List UInt8}(h:(es.map (·.1)).Nodup):((mdel k es).map (·.1)).Nodup:=h.sublist ((wD es).map _)
end Go.SL
end
section
namespace Go.Proofs
open Go Go.SL Go.Syn Go.Box
abbrev errV(n:Int):Value:=.iface 30 (i64 n)
def erV:Er→Value
 |none=>.nilIface
 |some n=>errV n
abbrev dskO(m1 m2 pv:Value)(l f:Int)(dn:Bool):Obj:=aU [m1,m2,pv,i64 l,i64 f,.bool dn] 110
def aGM(K:Hl)(v:Value)(d:aJ):Prop:=∃b T fz,v=ptr b∧K b=some (aU [str d] T fz)
theorem aGM.mono{K K':Hl}{v:Value}{d:aJ}(h:aGM K v d)(le:K.le K'):aGM K' v d:=let ⟨b,T,fz,e,h⟩:=h;⟨b,T,fz,e,le _ _ h⟩
structure MapOk (K:Hl) (es:List Ent) (c:Nat) (f:DMap):Prop where
 fresh:Fresh es c
 nd:(es.map (·.1)).Nodup
 has:∀n v,mget es n=some v→∃d,f n=some d∧aGM K v d
 lacks:∀n,mget es n=none→f n=none
theorem MapOk.mono{K K':Hl}{es:List Ent}{c:Nat}{f:DMap}(h:MapOk K es c f)(le:K.le K'):MapOk K' es c f:=
 ⟨h.fresh,h.nd,fun n v e=>let ⟨d,h1,h2⟩:=h.has n v e;⟨d,h1,h2.mono le⟩,h.lacks⟩
theorem MapOk.nil{K:Hl}:MapOk K [] 0 (fun _=>none):=⟨Fresh.nil,List.nodup_nil,fun n v e=>by simp[mget]at e,fun n _=>rfl⟩
theorem MapOk.put{K:Hl}{es:List Ent}{c:Nat}{f:DMap}{n d:aJ}{u:Value}(h:MapOk K es c f)(hu:aGM K u d):MapOk K (mset n u c es) (tY es n c) (f.put n d):=by
 refine⟨h.fresh.set,aR3 h.nd,fun j v e=>?_,fun j e=>?_⟩ <;> rw[aC8]at e <;> unfold DMap.put <;> split at e
 ·rename_i hj;cases e;rw[if_pos hj];exact⟨d,rfl,hu⟩
 ·rename_i hj;rw[if_neg hj];exact h.has j v e
 ·cases e
 ·rename_i hj;rw[if_neg hj];exact h.lacks j e
theorem MapOk.cut{K:Hl}{es:List Ent}{c:Nat}{f:DMap}{n:aJ}(h:MapOk K es c f):MapOk K (mdel n es) c (f.cut n):=by
 refine⟨h.fresh.del,aR1 h.nd,fun j v e=>?_,fun j e=>?_⟩ <;> rw[aC7 h.nd]at e <;> unfold DMap.cut <;> split at e
 ·cases e
 ·rename_i hj;rw[if_neg hj];exact h.has j v e
 ·rename_i hj;rw[if_pos hj]
 ·rename_i hj;rw[if_neg hj];exact h.lacks j e
theorem MapOk.isSome{K:Hl}{es:List Ent}{c:Nat}{f:DMap}(h:MapOk K es c f)(n:aJ):(mget es n).isSome=(f n).isSome:=by
 cases e:mget es n with
 |none=>rw[h.lacks n e];rfl
 |some v=>obtain⟨d,h1,_⟩:=h.has n v e;rw[h1];rfl
def OpOk(o:OpR):Prop:=o.kind=1∨o.kind=3
end Go.Proofs
end
section
namespace Go.Proofs
open Go Go.SL Go.Syn Go.Box
def opEl:El OpR:={e:=165,sz:=4,enc:=fun o=>[i64 o.kind,str o.name,str o.to,str o.data],len:=fun _=>rfl,one:=fun _ u h=>by simp at h;rcases h with rfl|rfl|rfl|rfl <;> rfl}
abbrev dskL(b m1 m2:Nat)(es1:List Ent)(c1:Nat)(es2:List Ent)(c2:Nat)(pv:Value)(s:DSt):List Asn:=
 [pt b (dskO (.map (some m1)) (.map (some m2)) pv s.left s.full s.down),pt m1 (mapO es1 c1),pt m2 (mapO es2 c2),sl false opEl pv s.pend]
def wW(K:Hl)(b:Nat)(s:DSt)(L:List Asn):Prop:=∃m1 m2 es1 c1 es2 c2 pv,MapOk K es1 c1 s.dur∧MapOk K es2 c2 s.now∧(∀o∈s.pend,OpOk o)∧pv.oneCell'=true∧L=dskL b m1 m2 es1 c1 es2 c2 pv s
theorem wW.mono{K K':Hl}{b:Nat}{s:DSt}{L:List Asn}(h:wW K b s L)(le:K.le K'):wW K' b s L:=
 let ⟨m1,m2,es1,c1,es2,c2,pv,h1,h2,h3,h4,h5⟩:=h
 ⟨m1,m2,es1,c1,es2,c2,pv,h1.mono le,h2.mono le,h3,h4,h5⟩
end Go.Proofs
end
section
namespace Go.Proofs
open Go Go.SL Go.Syn Go.Box
def dsk(K:Hl)(b:Nat)(s:DSt):Asn:=fun h=>∃L,wW K b s L∧Sat L h
theorem aWA{K:Hl}{b:Nat}{s:DSt}{M:List Asn}{h:Hl}:Sat (dsk K b s::M) h→∃L,wW K b s L∧Sat (L++M) h:=fun⟨x,y,⟨L,hd,hx⟩,hy,hj,e⟩=>⟨L,hd,fH.2 ⟨x,y,hx,hy,hj,e⟩⟩
theorem In.dsk{w0 w:World}{F K K0:Hl}{b:Nat}{s:DSt}{M:List Asn}(i:In w0 F K (dsk K0 b s::M) w):∃L,wW K0 b s L∧In w0 F K (L++M) w:=
 let ⟨h,hs,r⟩:=i.rep;let ⟨L,hd,hs2⟩:=aWA hs;⟨L,hd,i.os,i.tape,i.output,i.size,h,hs2,r⟩
section
variable{E:Env}{fr:Fr}{K K0:Hl}{M:List Asn}{Q:Post}{b:Nat}{s:DSt}
end
end Go.Proofs
end
section
namespace Go.Proofs
open Go Go.SL Go.Syn Go.Box
def Deb(K:Hl):Prop:=∃l T fz,K 6=some (aU l T fz)∧l[15]?=some (.int .u8 4)
theorem Deb.mono{K K':Hl}(h:Deb K)(le:K.le K'):Deb K':=let ⟨l,T,fz,h1,h2⟩:=h;⟨l,T,fz,le _ _ h1,h2⟩
end Go.Proofs
end
section
namespace Go.Proofs
open Go.Shelf Go.RowKit Go.Lib Go.Sort
set_option maxHeartbeats 2000000 in
theorem Tryz.less(blk off c Bs size:Nat)(W:World)(G:Nat→List UInt8)(hs:W.cell? ⟨Bs,0,none⟩=some (.slice (some ⟨blk,off,none⟩) size c))
  (hc:∀t,t < size→W.cell? ⟨blk,off+t*2,none⟩=some (SL.str (G t))) (i j:Nat) (hi:i < size) (hj:j < size) (_hsz:size < 4611686018427387904):
  Calls Tryz.prog 84 #[.int .i64 i,.int .i64 j,.pointer (some ⟨Bs,0,none⟩)] W fun e w'=>e=.returned (.bool (ltStr (G i) (G j)))∧∃q,w'=W.drewN q:=by
 have ci:=hc i hi;have cj:=hc j hj
 go_enter Tryz.func84,Tryz.ntmps84
 go_wp2
 go_quiet (fail)
 go_wp2
 go_ret
 refine⟨?_,nq,rfl⟩
 rw[bytesLess_eq]
 rfl
end Go.Proofs
end
section
namespace Go.Proofs
open Go Go.SL Go.Sort
theorem In.grow{w0:World}{F K:Hl}{L:List Asn}:∀(os:List Obj) {w:World},In w0 F K L w→In w0 F K L (Sort.grow w os.toArray)
 | [],w,i=>by simpa using i
 |o::os,w,i=>by
  have e:Sort.grow w (o::os).toArray=Sort.grow (w.alloc o) os.toArray:=by rw[alloc_eq_grow,grow_grow];congr 1;simp
  rw[e];exact In.grow os (i.alloc o).drop
end Go.Proofs
end
section
namespace Go.Proofs
open Go Go.SL Go.Syn Go.Box
def Clo(N:Nat)(K:Hl)(b:Nat)(fv:Value)(g:DSt→Er×DSt):Prop:=∃f vs,aEC Tryz.prog fv f vs∧∀(K1 K0:Hl) (s:DSt),K.le K1→K0.le K1→s.pend.length≤N→
 Sp Tryz.prog f vs K1 [dsk K0 b s] (Ret fun v K' L'=>v=erV (g s).1∧L'=[dsk K' b (g s).2])∧(g s).2.pend.length≤s.pend.length+200
theorem Clo.mono{N:Nat}{K K':Hl}{b:Nat}{fv:Value}{g:DSt→Er×DSt}(h:Clo N K b fv g)(le:K.le K'):Clo N K' b fv g:=let ⟨f,vs,h1,h2⟩:=h;⟨f,vs,h1,fun K1 K0 s le1 le0 hp=>h2 K1 K0 s (Hl.le_trans le le1) le0 hp⟩
theorem aPQ{P:Program}{f:FuncId}{args:List Value}{K:Hl}{b:Nat}{o:Obj}{L:List Asn}{R:Ending→Hl→List Asn→Prop}(hb:∃fn,P.funcs[f]?=some fn∧(fn.name=="runtime.NumGoroutine")=false∧fn.body.isSome=true)
  (h:∀K',K.le K'→K' b=some o→Sp P f args K' L R):Sp P f args K (pt b o::L) R:=
 ⟨hb, fun F w i => by
  obtain⟨h1,h2,h3⟩:=i.settle;exact((h _ h1 h2).2 F w h3).mono fun e w' ⟨K',L',r,le,j⟩=>⟨K',L',r,Hl.le_trans h1 le,j⟩⟩
end Go.Proofs
end
section
attribute [local irreducible] Go.SL.T Go.SL.OL Go.SL.D Go.SL.DL Go.SL.Ev Go.SL.Ef Go.SL.EfS
namespace Go.Proofs
open Go Go.SL
abbrev rplL(dn st:Int)(x2 rv ov:Value):List Value:=[.int .u32 dn,.int .i32 st,x2,rv,ov]
abbrev rpl(b:Nat)(dn st:Int)(x2 rv ov:Value):Asn:=pt b (aU (rplL dn st x2 rv ov) 400)
section
variable{b:Nat}{dn st:Int}{x2 rv ov:Value}
theorem aGR(K:Hl):Sp Tryz.prog 312 [ptr b 0] K [rpl b dn st x2 rv ov] (Ret fun r K' L'=>r=.bool (decide (dn≠0))∧K'=K∧L'=[rpl b dn st x2 rv ov]):=by
 refine aZ Tryz.func312 rfl Tryz.ntmps312 rfl rfl fun F w=>?_
 refine zz10 ?_;refine aA (oG rfl rfl (fun w j=>run_call_load Tryz.func337 b0 b0 b0 .u32 b0 (kZ j.piece rfl))) rfl ?_;refine zz6 ?_;exact⟨_,rfl,rfl,rfl,rfl⟩
theorem aQE(v:Bool)(K:Hl):Sp Tryz.prog 358 [.bool v] K [] (Val (.int .u32 (if v=true then 1 else 0)) K):=by
 refine aZ Tryz.func358 rfl Tryz.ntmps358 rfl rfl fun F w=>?_
 refine zz11 ?_;refine d8 3 rfl (fun h3=>?_) (fun h3=>?_)
 ·
  refine zz8 ?_;rw[h3];exact⟨rfl,rfl,rfl⟩
 ·
  refine zz9 ?_;rw[h3];exact⟨rfl,rfl,rfl⟩
abbrev Lv(N:Hl→List Asn→Prop):Ending→Hl→List Asn→Prop:=fun e K' L'=>(∃v,e=.returned v)∧N K' L'
theorem aMV(K:Hl)(w0:World):SpD Tryz.prog 340 [ptr b 0,.bool true] K [rpl b dn st x2 rv ov] .returning fun e u K' L'=>u=.returning∧Lv (fun K' L'=>K'=K∧L'=[rpl b 1 st x2 rv ov]) e K' L':=by
 refine aIR Tryz.func340 rfl Tryz.ntmps340 rfl rfl fun F w=>?_
 refine t_draw (anc:=[0,1,3,0,8,31]) (ord:=[0,1,2,3,4,5]) [4,5] [5] mixed gBO (cX _) ?_;refine zz4 ?_;refine dl_callv rfl (.none rfl) rfl rfl rfl rfl (aQE true _) rfl ?_;refine dl_g rfl rfl (.none rfl) rfl (xR (x:=.int .u32 1) rfl rfl (fun w h=>run_call_store Tryz.func357 b0 b0 b0 b0 (kZ h rfl) (xG h)) .here .zero) rfl ?_;rintro _ K _ ⟨rfl,rfl,rfl⟩ -;refine zz2 ?_;exact⟨⟨_,rfl⟩,rfl,rfl⟩
theorem aRX(K:Hl):Sp Tryz.prog 355 [ptr b 1] K [rpl b dn 0 x2 rv ov] (Ret fun r K' L'=>r=.tuple #[]∧K'=K∧L'=[rpl b dn 1 x2 rv ov]):=by
 refine aZ Tryz.func355 rfl Tryz.ntmps355 rfl rfl fun F w=>?_
 refine zz2 ?_;refine aA (oG rfl (vs:=[]) rfl (fun w j=>run_call_mark0 Tryz.func366 b0 b0 b0 .disable b0 w)) rfl ?_;refine zz8 ?_;refine ol_s (xR (x:=.int .i32 1) rfl rfl (fun w h=>run_call_cas_hit Tryz.func367 b0 b0 b0 .i32 b0 (kZ h rfl) (xG h)) .here (.succ .zero)) rfl ?_;rintro _ K _ ⟨rfl,rfl,rfl⟩ -;refine zz7 ?_;refine aA (oG rfl (vs:=[]) rfl (fun w j=>run_call_mark0 Tryz.func368 b0 b0 b0 .enable b0 w)) rfl ?_;refine zz4 ?_;refine aA (vS Tryz.underlying501 Tryz.underlying185 b0 rfl (.own .here) rfl) rfl ?_;refine aA (oG rfl rfl (fun w j=>run_call_marked Tryz.func369 b0 b0 b0 .acquire b0 _ w)) rfl ?_;refine zz4 ?_;refine qR rfl (Hl.le_refl _) ?_;exact⟨_,rfl,rfl,rfl,rfl⟩
theorem aKG(K:Hl):Sp Tryz.prog 356 [ptr b 1] K [rpl b dn 1 x2 rv ov] (Ret fun r K' L'=>r=.tuple #[]∧K'=K∧L'=[rpl b dn 0 x2 rv ov]):=by
 refine aZ Tryz.func356 rfl Tryz.ntmps356 rfl rfl fun F w=>?_
 refine zz13 ?_;refine aA (vS Tryz.underlying501 Tryz.underlying185 b0 rfl (.own .here) rfl) rfl ?_;refine aA (oG rfl rfl (fun w j=>run_call_marked Tryz.func371 b0 b0 b0 .releaseMerge b0 _ w)) rfl ?_;refine zz3 ?_;refine aA (oG rfl (vs:=[]) rfl (fun w j=>run_call_mark0 Tryz.func366 b0 b0 b0 .disable b0 w)) rfl ?_;refine zz7 ?_;refine ol_s (xR (x:=.int .i32 0) rfl rfl (fun w h=>run_call_add Tryz.func372 b0 b0 b0 .i32 b0 (kZ h rfl) (xG h) rfl) .here (.succ .zero)) rfl ?_;rintro _ K _ ⟨rfl,rfl,rfl⟩ -;refine zz7 ?_;refine aA (ev_F (fN rfl rfl) (by decide)) rfl ?_;refine zz6 ?_;refine aA (oG rfl (vs:=[]) rfl (fun w j=>run_call_mark0 Tryz.func368 b0 b0 b0 .enable b0 w)) rfl ?_;refine zz2 ?_;exact⟨_,rfl,rfl,rfl,rfl⟩
theorem aVS(K:Hl):Sp Tryz.prog 338 [ptr b 1] K [rpl b dn 0 x2 rv ov] (Ret fun r K' L'=>r=.tuple #[]∧K'=K∧L'=[rpl b dn 1 x2 rv ov]):=by
 refine aZ Tryz.func338 rfl Tryz.ntmps338 rfl rfl fun F w=>?_
 refine zz4 ?_;refine aY rfl rfl (aRX _) (.cons .here .nil) rfl ?_;rintro _ K _ ⟨rfl,rfl,rfl⟩ -;refine zz2 ?_;exact⟨_,rfl,rfl,rfl,rfl⟩
theorem aP6(K:Hl):SpD Tryz.prog 339 [ptr b 1] K [rpl b dn 1 x2 rv ov] .returning fun e u K' L'=>u=.returning∧Lv (fun K' L'=>K'=K∧L'=[rpl b dn 0 x2 rv ov]) e K' L':=by
 refine aIR Tryz.func339 rfl Tryz.ntmps339 rfl rfl fun F w=>?_
 refine zz4 ?_;refine aY rfl rfl (aKG _) (.cons .here .nil) rfl ?_;rintro _ K _ ⟨rfl,rfl,rfl⟩ -;refine zz2 ?_;exact⟨⟨_,rfl⟩,rfl,rfl⟩
theorem aM4(f:FuncId)(hf:∃fn,Tryz.prog.funcs[f]?=some fn∧(fn.name=="runtime.NumGoroutine")=false∧fn.body.isSome=true)(K:Hl)(N:Hl→Value→Value→Prop)(hb:∀K',K.le K'→Sp Tryz.prog f [ptr b] K' [rpl b 0 1 x2 rv ov] (Ret fun r K'' L'=>r=.tuple #[]∧∃rv' ov',N K'' rv' ov'∧L'=[rpl b 0 1 x2 rv' ov'])):
  Sp Tryz.prog 313 [ptr b 0,.func (.func f) #[ptr b] #[]] K [rpl b 0 0 x2 rv ov] (Ret fun r K' L'=>r=.tuple #[]∧∃rv' ov',N K' rv' ov'∧L'=[rpl b 1 0 x2 rv' ov']):=by
 refine aBQ Tryz.func313 rfl Tryz.ntmps313 rfl rfl fun F w=>?_
 refine zz5 ?_;refine aY rfl rfl (aVS _) (.cons .here .nil) rfl ?_;rintro _ K _ ⟨rfl,rfl,rfl⟩ -;refine zz7 ?_;refine aDA rfl rfl ?_;refine zz7 ?_;refine aY rfl rfl (aGR _) (.cons .here .nil) rfl ?_;rintro _ K _ ⟨rfl,rfl,rfl⟩ -;refine aA gBN rfl ?_;refine zz8 ?_;refine aDA rfl rfl ?_;refine zz4 ?_;refine aSM rfl (aES hf) (hb _ (Hl.le_refl _)) (.cons .here .nil) rfl ?_;rintro _ K2 _ ⟨rfl,rv2,ov2,hN,rfl⟩ le2;refine aF ?_;refine aQV (N1:=fun K3 L3=>K3=K2∧L3=[rpl b 1 1 x2 rv2 ov2]) (N2:=fun K4 L4=>K4=K2∧L4=[rpl b 1 0 x2 rv2 ov2]) .norm rfl (.cons .here .nil) (aMV K2 w) ?_;rintro K3 L3 ⟨rfl,rfl⟩ le3;refine⟨_,_,.cons .here .nil,aP6 _,?_⟩
 rintro K4 L4 ⟨rfl,rfl⟩ le4;exact⟨⟨_,rfl,rfl,rv2,ov2,hN,rfl⟩,le2⟩
theorem aZ7(f:FuncId)(hf:∃fn,Tryz.prog.funcs[f]?=some fn∧(fn.name=="runtime.NumGoroutine")=false∧fn.body.isSome=true)(K:Hl)(N:Hl→Value→Value→Prop)(hb:∀K',K.le K'→Sp Tryz.prog f [ptr b] K' [rpl b 0 1 x2 rv ov] (Ret fun r K'' L'=>r=.tuple #[]∧∃rv' ov',N K'' rv' ov'∧L'=[rpl b 0 1 x2 rv' ov'])):
  Sp Tryz.prog 273 [ptr b 0,.func (.func f) #[ptr b] #[]] K [rpl b 0 0 x2 rv ov] (Ret fun r K' L'=>r=.tuple #[]∧∃rv' ov',N K' rv' ov'∧L'=[rpl b 1 0 x2 rv' ov']):=by
 refine aZ Tryz.func273 rfl Tryz.ntmps273 rfl rfl fun F w=>?_
 refine zz5 ?_;refine aY rfl rfl (aGR _) (.cons .here .nil) rfl ?_;rintro _ K _ ⟨rfl,rfl,rfl⟩ -;refine aA gBN rfl ?_;refine zz6 ?_;refine aY rfl rfl (aM4 f hf _ N hb) (.cons .here .nil) rfl ?_;rintro _ K2 _ ⟨rfl,rv2,ov2,hN,rfl⟩ le2;refine aF ?_;refine cT rfl le2 ?_;exact⟨_,rfl,rfl,rv2,ov2,hN,rfl⟩
end
end Go.Proofs
end
section
attribute [local irreducible] Go.SL.T Go.SL.OL Go.SL.D Go.SL.DL Go.SL.Ev Go.SL.Ef Go.SL.EfS
namespace Go.Proofs
open Go Go.SL Go.Syn
set_option maxRecDepth 100000 in
theorem aZZ:cJ Tryz.prog 470=some (List.replicate 257 nilS):=by kernel_rfl
set_option maxRecDepth 100000 in
theorem aZX:eJ Tryz.prog 470=some (List.replicate 257 nilS,[(0,256),(256,1)]):=by kernel_rfl
set_option maxRecDepth 100000 in
theorem aWV:eI Tryz.prog 470=true:=by kernel_rfl
set_option maxRecDepth 100000 in
theorem aR9(b:Nat)(w:World):(Go.method (Tryz.prog.types.size+Made.depth) 471 (ptr b) "Replace").run Tryz.prog w=.ok (448,ptr b) w:=by kernel_rfl
def aQA(K:Hl)(rv ov:Value):Prop:=∃br f tv,rv=.iface 471 (ptr br)∧K br=some (aU (rcs f tv) 470)∧Done K 2 f∧Ksl (bC 9) K tv (vX 2)
theorem aOW(b:Nat)(dn st:Int)(x2 rv ov:Value)(K:Hl)(hov:Ksl (bC 9) K ov olds):Sp Tryz.prog 314 [ptr b] K [rpl b dn st x2 rv ov]
  (Ret fun r K' L'=>aQA K' r nilS∧L'=[rpl b dn st x2 rv ov]):=by
 refine aZ Tryz.func314 rfl Tryz.ntmps314 rfl rfl fun F w=>?_
 refine zz18 ?_;refine aA (bX (k:=bC 9) rfl Tryz.underlying39 rfl (.known hov)) rfl ?_;refine aA (ev_F (bW rfl rfl) (by decide)) rfl ?_;refine zz24 ?_;refine d6 (fun(s:Nat)=>s≤2) (fun s=>[(0,ptr b),(2,.nilIface),(3,ov),(4,.bool (isz s)),(5,i64 ((2*s:Nat):Int))]) (fun _=>K) (fun _=>[rpl b dn st x2 rv ov]) (fun s=>2 - s) 0 (Nat.zero_le _) (.cons 0 rfl (.cons 2 rfl (.cons 3 rfl (.cons 4 rfl (.cons 5 rfl .nil))))) rfl (fun _ h=>h) ?_;intro s hs;refine zz5 ?_;refine aA (bX (k:=bC 9) rfl Tryz.underlying39 rfl (.known hov)) rfl ?_;refine zz3 ?_;refine bG 40 rfl (fun h40=>?_) (fun h40=>?_)
 ·
  have hs2:s < 2:=gCW;obtain⟨c0,x0,hc0,hx0,hl0⟩:=aSP hs2;refine zz9 ?_;refine aA (bQ (k:=bC 9) (j:=2*s) bS rfl (.known hov) rfl rfl gCW) rfl ?_;refine aA (cV (o:=0) (k:=bC 9) ts9 rfl (.known hov) hc0 rfl) rfl ?_;refine zz1 ?_;refine aA (ev_F (fN rfl rfl) (by simp)) rfl ?_;refine zz10 ?_;refine aA (bQ (k:=bC 9) (j:=2*s+1) bS rfl (.known hov) rfl aH gCW) rfl ?_;refine aA (cV (o:=0) (k:=bC 9) ts9 rfl (.known hov) hx0 rfl) rfl ?_;refine zz1 ?_;refine aA (ev_T (fN rfl rfl) aH) rfl ?_;refine zz13 ?_;exact cG (s+1) aH aH (.cons 0 rfl (.cons 2 rfl (.cons 3 rfl (.cons 4 rfl (.cons 5 (by exact congrArg (fun x:Int=>some (i64 x)) aH) .nil))))) rfl (fun _ h=>h)
 ·
  have hs2:s=2:=gCW;subst hs2;refine zz17 ?_;refine aA (bX (k:=bC 9) rfl Tryz.underlying39 rfl (.known hov)) rfl ?_;refine aA (lM (v:=i64 2) (aRM rfl rfl (by decide)) rfl) rfl ?_;refine ol_s (aV8 (k:=bC 9) (n:=2) fA tv9 rfl rfl rfl rfl rfl rfl aH aH) rfl ?_;rintro v94 K _ ⟨rfl,rfl,ho94⟩ -;refine aA (cR aZX aWV (.cons rfl (aCQ ho94) rfl (aS1 _) .nil)) rfl ?_;refine ol_s (cU aZZ) rfl ?_;rintro _ K _ ⟨b11,rfl,rfl,rfl⟩ -;refine bR (cM (cs:=rcs (fun _=>nilS) v94) ta470_257 rfl rfl (zG _ _) .here (aV1 (fun _=>rfl) ho94) (aTW (by rw[zG,List.length_replicate])) gBU) ?_;rintro _ K _ ⟨rfl,rfl⟩ -;refine zz6 ?_;refine aA (bX (k:=bC 9) rfl Tryz.underlying39 rfl (.known hov)) rfl ?_;refine zz5 ?_;refine rE (fun(K2:Hl) (s:Nat) (f:Nat→Value) (tv:Value)=>K.le K2∧s≤2∧Done K2 s f) (fun _ s _ _=>[(0,ptr b),(2,.nilIface),(3,ov),(11,ptr b11),(12,i64 (2 - 2*(s:Int)))]) (fun K2 _ _ _=>K2) (fun _ s f tv=>[pt b11 (aU (rcs f tv) 470),sl false (bC 9) tv (vX s),rpl b dn st x2 rv ov]) (fun _ s _ _=>2 - s) _ 0 _ v94 ⟨Hl.le_refl _,Nat.zero_le _,aM7 K⟩ (.cons 0 rfl (.cons 2 rfl (.cons 3 rfl (.cons 11 rfl (.cons 12 rfl .nil))))) rfl (fun _ h=>h) ?_;intro K2 s f tv ⟨le2,hs,hD⟩;have hov:=hov.mono le2;refine zz7 ?_;refine bG 100 rfl (fun h100=>?_) (fun h100=>?_)
  ·
   have hs1:s≤1:=aH;obtain⟨hk1,hk2,hk3⟩:=aSO hs1;have hkl:(kk s).toNat < 256:=(kk s).toNat_lt;have hol:olds.length=4:=rfl;have hfn:=aRE hD hs1;refine zz8 ?_;refine aA (bQ (k:=bC 9) (j:=2 - 2*s) bS rfl (.known hov) rfl aH aH) rfl ?_;refine aA (cV (o:=0) (k:=bC 9) ts9 rfl (.known hov) hk1 rfl) rfl ?_;refine aA (dD (c:=kk s) Tryz.underlying9 rfl rfl rfl rfl) rfl ?_;refine zz8 ?_;refine aA (bQ (k:=bC 9) (j:=3 - 2*s) bS rfl (.known hov) rfl aH aH) rfl ?_;refine aA (cV (o:=0) (k:=bC 9) ts9 rfl (.known hov) hk2 rfl) rfl ?_;refine zz8 ?_;refine aA (eZ (j:=(kk s).toNat) Tryz.underlying468 f5 rfl rfl rfl hkl) rfl ?_;refine aA (lM (aL f5 rfl (.own .here) (pD hkl)) hfn) rfl ?_;refine aA (aG1 Tryz.underlying130 rfl) rfl ?_;refine zz5 ?_;refine aA (aL ts39 rfl (.own .here) (aBG _ _)) rfl ?_;refine zz1 ?_;refine ol_s (a6 (z0:=[.int .u8 0]) jQ tz5 rfl rfl rfl rfl (.cons rfl rfl rfl (.cons .nil) .nil)) rfl ?_;rintro _ K _ ⟨b121,rfl,rfl,rfl⟩ -;refine aA (qT (xs:=[kk s]) Tryz.underlying130 Tryz.underlying5 Tryz.underlying9 rfl (.blk (.own .here) rfl rfl)) rfl ?_;refine ol_s (a6 (z0:=[(str [])]) bS tz9 rfl rfl rfl rfl (.cons rfl rfl rfl (.cons .nil) .nil)) rfl ?_;rintro _ K _ ⟨b123,rfl,rfl,rfl⟩ -;refine ol_s (dT (k:=(bC 9)) (ys:=[[kk s]]) fA rfl rfl bB (fun w j=>dK Tryz.underlying39 (SeesSl.at (.blk (.own .here) rfl rfl) j)) (by simp[vX];omega) (by simp[vX];omega)) rfl ?_;rintro v124 K _ ⟨rfl,rfl,ho124⟩ -;refine zz1 ?_;refine bR (bL (fz:=(0,0)) ts39 rfl rfl ho124 (.there (.there (.there .here))) aH7 rfl) ?_;rintro _ K _ ⟨rfl,rfl⟩ -;refine zz5 ?_;refine uAp ?_;rintro v128 K _ ⟨rfl,rfl⟩ -;refine fL fun K3 le3 hS=>?_
   obtain⟨sa,sn,sc,rfl⟩:=hS.isSlice;refine zz1 ?_;refine aA (eZ (j:=(kk s).toNat) Tryz.underlying468 f5 rfl rfl rfl hkl) rfl ?_;refine bR (bL (fz:=(0,0)) f5 rfl rfl rfl (.there (.there (.there .here))) (aV2 hkl) rfl) ?_;rintro _ K _ ⟨rfl,rfl⟩ -;refine zz8 ?_;refine aO (.cons (.there (.there (.there .here))) (.cons .here (.cons (.there (.there .here)) .nil))) ?_;refine oE _ (s+1) _ v124 ⟨Hl.le_trans le2 le3,by omega,aM6 hD le3 hS⟩ aH (.cons 0 rfl (.cons 2 rfl (.cons 3 rfl (.cons 11 rfl (.cons 12 (by exact congrArg (fun x:Int=>some (i64 x)) aH) .nil))))) rfl (by rw[hk3];exact fun _ h=>h)
  ·
   have hs2:s=2:=aH;subst hs2;refine zz7 ?_;refine aA (dG Tryz.underlying471 (fun _ h=>by cases h) rfl) rfl ?_;refine zz4 ?_;refine aO (.cons (.there .here) (.cons .here (.cons .here .nil))) ?_;refine fU fun K3 le3 hS=>?_
   refine gO fun K4 le4 hb11=>?_
   refine bJ rfl rfl (Hl.le_trans le2 (Hl.le_trans le3 le4)) ?_;exact⟨_,rfl,⟨b11,f,tv,rfl,hb11,aM5 hD (Hl.le_trans le3 le4),hS.mono le4⟩,rfl⟩
end Go.Proofs
end
section
attribute [local irreducible] Go.SL.T Go.SL.OL Go.SL.D Go.SL.DL Go.SL.Ev Go.SL.Ef Go.SL.EfS
set_option maxRecDepth 4000
namespace Go.Proofs
open Go Go.SL Go.Syn
theorem aQT(s:aJ)(c:UInt8)(K:Hl):Sp Tryz.prog 450 [str s,str [c]] K [] (Val (i64 (Lib.countByte s c)) K):=by
 refine aZ Tryz.func450 rfl Tryz.ntmps450 rfl rfl fun F w=>?_
 refine zz10 ?_;refine aA (ev_F (bW rfl rfl) (by simp)) rfl ?_;refine zz10 ?_;refine aA (ev_T (bW rfl rfl) (by simp)) rfl ?_;refine zz7 ?_;refine aA (dD (c:=c) Tryz.underlying9 rfl rfl rfl rfl) rfl ?_;refine aA (kL (v:=i64 (Lib.countByte s c)) rfl rfl Tryz.func452 b0 b0 b0 (ex:=Extern.BytealgCount.count) b0 (fun w _=>(Lib.run_countString (P:=Tryz.prog) ⟨s.toArray⟩ c.toNat w).trans (by simp))) rfl ?_;refine zz6 ?_;exact⟨rfl,rfl,rfl⟩
theorem aEJ(br:Nat)(f:Nat→Value)(tv:Value)(s:aJ)(K:Hl)(hs:s.length≤1000000)(hb:K br=some (aU (rcs f tv) 470))(hD:Done K 2 f)(ht:Ksl (bC 9) K tv (vX 2)):
    Sp Tryz.prog 448 [ptr br,str s] K [] (Ret fun r K' L'=>r=str (encQ s)∧L'=[]):=by
  have hel:=vO s;have hcl:=vE s;have htl:(vX 2).length=2:=rfl;refine aZ Tryz.func448 rfl Tryz.ntmps448 rfl rfl fun F w=>?_
  refine zz17 ?_;refine gG (fun(u:Unit)=>True) (fun _=>[(0,ptr br),(1,str s),(4,str []),(5,i64 (encQ s).length),(6,.bool (posB (cntQ s)))]) (fun _=>K) (fun _=>[]) ?_ ?_
  ·
    refine zz5 ?_;refine aA (aL ts39 rfl (.known hb) (aBG _ _)) rfl ?_;refine aA (bX (k:=bC 9) rfl Tryz.underlying39 rfl (.known ht)) rfl ?_;refine zz6 ?_;refine bG 26 rfl (fun h26=>?_) (fun h26=>?_)
    ·
      refine zz5 ?_;refine aA (aL ts39 rfl (.known hb) (aBG _ _)) rfl ?_;refine aA (bX (k:=bC 9) rfl Tryz.underlying39 rfl (.known ht)) rfl ?_;refine zz4 ?_;refine d6 (fun(i:Nat)=>i≤2) (fun i=>[(0,ptr br),(1,str s),(4,str []),(5,i64 ((s.length+cntU s i:Nat):Int)),(6,.bool (posB (cntU s i))),(30,tv),(31,i64 2),(32,i64 i)]) (fun _=>K) (fun _=>[]) (fun i=>2 - i) 0 (Nat.zero_le _) (.cons 0 rfl (.cons 1 rfl (.cons 4 rfl (.cons 5 rfl (.cons 6 rfl (.cons 30 rfl (.cons 31 rfl (.cons 32 rfl .nil)))))))) rfl (fun _ h=>h) ?_;intro i hi;refine zz6 ?_;refine bG 33 rfl (fun h33=>?_) (fun h33=>?_)
      ·
        have hi2:i < 2:=aH;have hkg:=aR2 hi2;have hkl:(kk i).toNat < 256:=(kk i).toNat_lt;have hcb:=vH s (kk i);have hcu:=aU4 s i;obtain⟨a0,n0,hfe⟩:∃a n,f (kk i).toNat=.slice (some a) 2 n:=(by rcases aJW hD (kk i)with ⟨_,h,_⟩|⟨h,_⟩;exact h;(rw[kk_q]at h;cases h));refine zz6 ?_;refine aA (bQ (k:=bC 9) (j:=i) bS rfl (.known ht) rfl rfl aH) rfl ?_;refine aA (cV (o:=0) (k:=bC 9) ts9 rfl (.known ht) hkg rfl) rfl ?_;refine zz7 ?_;refine cE rfl rfl (aQT s (kk i) _) rfl ?_;refine zz9 ?_;refine bG 40 rfl (fun h40=>?_) (fun h40=>?_)
        ·
          refine aI ?_;refine t_draw (anc:=[0,0,0,0,8,4,36,124,252,508,1020,2046,4095,8191]) (ord:=[0,1,2,3,4,5,6,7,8,9,10,11,12,13]) [] [] mixed gBO (cX _) ?_;refine zz4 ?_;refine dl_ev rfl rfl (.none rfl) rfl rfl (dD (c:=kk i) Tryz.underlying9 rfl rfl rfl rfl) rfl ?_;refine zz2 ?_;refine dl_ev rfl rfl (.none rfl) rfl rfl (eZ (j:=(kk i).toNat) Tryz.underlying468 f5 rfl rfl rfl hkl) rfl ?_;refine dl_ev rfl rfl (.none rfl) rfl rfl (lM (aL f5 rfl (.known hb) (pD hkl)) hfe) rfl ?_;refine dl_ev rfl rfl (.none rfl) rfl rfl (qU rfl Tryz.underlying130 rfl) rfl ?_;refine zz15 ?_;have hst:=aCS (s:=s) hi2
          first
            | (refine cG (i + 1) aH aH (.cons 0 rfl (.cons 1 rfl (.cons 4 rfl (.cons 5 ?_ (.cons 6 ?_ (.cons 30 rfl (.cons 31 rfl (.cons 32 rfl .nil)))))))) rfl (fun _ h => h)
               · exact congrArg (fun x:Int=>some (i64 x)) (show _=((s.length+cntU s (i+1):Nat):Int) by rw[hst];omega)
               · exact congrArg (fun x:Bool=>some (Value.bool x)) (sG aH).symm)
            | (refine cG (i + 1) aH aH (.cons 0 rfl (.cons 1 rfl (.cons 4 rfl (.cons 5 ?_ (.cons 6 ?_ (.cons 30 rfl (.cons 31 rfl (.cons 32 rfl .nil)))))))) rfl (fun _ h => h)
               · exact congrArg (fun x:Int=>some (i64 x)) (show _=((s.length+cntU s (i+1):Nat):Int) by rw[hst];omega)
               · rw[show cntU s (i+1)=cntU s i from by omega];rfl)
        ·
          refine zz7 ?_;have hst:=aCS (s:=s) hi2
          first
            | (refine cG (i + 1) aH aH (.cons 0 rfl (.cons 1 rfl (.cons 4 rfl (.cons 5 ?_ (.cons 6 ?_ (.cons 30 rfl (.cons 31 rfl (.cons 32 rfl .nil)))))))) rfl (fun _ h => h)
               · exact congrArg (fun x:Int=>some (i64 x)) (show _=((s.length+cntU s (i+1):Nat):Int) by rw[hst];omega)
               · exact congrArg (fun x:Bool=>some (Value.bool x)) (sG aH).symm)
            | (refine cG (i + 1) aH aH (.cons 0 rfl (.cons 1 rfl (.cons 4 rfl (.cons 5 ?_ (.cons 6 ?_ (.cons 30 rfl (.cons 31 rfl (.cons 32 rfl .nil)))))))) rfl (fun _ h => h)
               · exact congrArg (fun x:Int=>some (i64 x)) (show _=((s.length+cntU s (i+1):Nat):Int) by rw[hst];omega)
               · rw[show cntU s (i+1)=cntU s i from by omega];rfl)
      ·
        have hie:i=2:=aH;subst hie;refine zz4 ?_
        first
          |exact gA6
          |exact gBH
    ·
      refine zz6 ?_;refine d6 (fun(i:Nat)=>i≤s.length) (fun i=>[(0,ptr br),(1,str s),(4,str []),(5,i64 ((s.length+cntQ (s.take i):Nat):Int)),(6,.bool (posB (cntQ (s.take i)))),(10,i64 i)]) (fun _=>K) (fun _=>[]) (fun i=>s.length - i) 0 (Nat.zero_le _) (.cons 0 rfl (.cons 1 rfl (.cons 4 rfl (.cons 5 rfl (.cons 6 rfl (.cons 10 rfl .nil)))))) rfl (fun _ h=>h) ?_;intro i hi;refine zz9 ?_;refine bG 58 rfl (fun h58=>?_) (fun h58=>?_)
      ·
        have hlt:i < s.length:=aH;obtain⟨c,hc⟩:∃c,s[i]?=some c:=⟨s[i]'hlt,List.getElem?_eq_getElem hlt⟩;have hkl:c.toNat < 256:=c.toNat_lt;have hst:=aM1 hc;have hcq:=vE (s.take i);rw[List.length_take]at hcq;refine zz12 ?_;rcases aJW hD c with ⟨hq,⟨a0,n0,hfe⟩,_,_⟩|⟨hq,hfe,_⟩
        ·
          refine zz6 ?_;refine aA (eZ (j:=c.toNat) Tryz.underlying468 f5 rfl rfl rfl hkl) rfl ?_;refine aA (lM (aL f5 rfl (.known hb) (pD hkl)) hfe) rfl ?_;refine aA (o5 Tryz.underlying130 rfl) rfl ?_;refine zz10 ?_;refine aA (eZ (j:=c.toNat) Tryz.underlying468 f5 rfl rfl rfl hkl) rfl ?_;refine aA (lM (aL f5 rfl (.known hb) (pD hkl)) hfe) rfl ?_;refine aA (qU rfl Tryz.underlying130 rfl) rfl ?_;refine zz15 ?_
          first
            | (refine cG (i + 1) aH aH (.cons 0 rfl (.cons 1 rfl (.cons 4 rfl (.cons 5 ?_ (.cons 6 ?_ (.cons 10 rfl .nil)))))) rfl (fun _ h => h)
               · exact congrArg (fun x:Int=>some (i64 x)) (show _=((s.length+cntQ (s.take (i+1)):Nat):Int) by rw[hst,if_pos hq];omega)
               · exact congrArg (fun x:Bool=>some (Value.bool x)) (sG (by rw[hst,if_pos hq];omega)).symm)
            | (refine cG (i + 1) aH aH (.cons 0 rfl (.cons 1 rfl (.cons 4 rfl (.cons 5 ?_ (.cons 6 ?_ (.cons 10 rfl .nil)))))) rfl (fun _ h => h)
               · exact congrArg (fun x:Int=>some (i64 x)) (show _=((s.length+cntQ (s.take (i+1)):Nat):Int) by rw[hst,if_neg (by rw[hq];simp)];omega)
               · rw[show cntQ (s.take (i+1))=cntQ (s.take i)from by rw[hst,if_neg (by rw[hq];simp)];rfl];rfl)
        ·
          refine zz6 ?_;refine aA (eZ (j:=c.toNat) Tryz.underlying468 f5 rfl rfl rfl hkl) rfl ?_;refine aA (lM (aL f5 rfl (.known hb) (pD hkl)) hfe) rfl ?_;refine aA (o5 Tryz.underlying130 rfl) rfl ?_;refine zz11 ?_
          first
            | (refine cG (i + 1) aH aH (.cons 0 rfl (.cons 1 rfl (.cons 4 rfl (.cons 5 ?_ (.cons 6 ?_ (.cons 10 rfl .nil)))))) rfl (fun _ h => h)
               · exact congrArg (fun x:Int=>some (i64 x)) (show _=((s.length+cntQ (s.take (i+1)):Nat):Int) by rw[hst,if_pos hq];omega)
               · exact congrArg (fun x:Bool=>some (Value.bool x)) (sG (by rw[hst,if_pos hq];omega)).symm)
            | (refine cG (i + 1) aH aH (.cons 0 rfl (.cons 1 rfl (.cons 4 rfl (.cons 5 ?_ (.cons 6 ?_ (.cons 10 rfl .nil)))))) rfl (fun _ h => h)
               · exact congrArg (fun x:Int=>some (i64 x)) (show _=((s.length+cntQ (s.take (i+1)):Nat):Int) by rw[hst,if_neg (by rw[hq];simp)];omega)
               · rw[show cntQ (s.take (i+1))=cntQ (s.take i)from by rw[hst,if_neg (by rw[hq];simp)];rfl];rfl)
      ·
        have hie:i=s.length:=aH;subst hie;rw[List.take_length];refine zz4 ?_
        first
          |exact gA6
          |exact gBH
  ·
    intro u _;refine zz4 ?_;refine aA gBN rfl ?_;refine zz2 ?_;refine d8 82 rfl (fun h82=>?_) (fun h82=>?_)
    ·
      have hz:encQ s=s:=aNC (by rcases Nat.eq_zero_or_pos (cntQ s)with h|h;exact h;(rw[sG h]at h82;cases h82));refine zz9 ?_;rw[hz];exact⟨_,rfl,rfl,rfl⟩
    ·
      refine zz5 ?_;refine ol_s (aV9 (k:=elB 5) (x0:=0) (n:=(encQ s).length) nG tv5 rfl rfl rfl rfl rfl rfl aH aH) rfl ?_;rintro _ K _ ⟨b85,rfl,rfl,rfl⟩ -;refine zz15 ?_;refine d6 (fun(i:Nat)=>i≤s.length) (fun i=>[(0,ptr br),(1,str s),(4,str []),(12,.slice (some ⟨b85,0,none⟩) (encQ s).length (encQ s).length),(13,i64 (encQ (s.take i)).length),(14,i64 i)]) (fun _=>K) (fun i=>[sl false (elB 5) (.slice (some ⟨b85,0,none⟩) (encQ s).length (encQ s).length) (bufQ s i)]) (fun i=>s.length - i) 0 (Nat.zero_le _) (.cons 0 rfl (.cons 1 rfl (.cons 4 rfl (.cons 12 rfl (.cons 13 rfl (.cons 14 rfl .nil)))))) rfl (by rw[aMW];exact fun _ h=>h) ?_;intro i hi;refine zz9 ?_;refine bG 89 rfl (fun h89=>?_) (fun h89=>?_)
      ·
        have hlt:i < s.length:=aH;obtain⟨c,hc⟩:∃c,s[i]?=some c:=⟨s[i]'hlt,List.getElem?_eq_getElem hlt⟩;have hkl:c.toNat < 256:=c.toNat_lt;have hbl:=aGT s i;have hbr:=aCN hc;have hbp:=vP s i;refine zz12 ?_;rcases aJW hD c with ⟨hq,⟨a0,n0,hfe⟩,hqk,hql⟩|⟨hq,hfe,hqb⟩
        ·
          refine zz6 ?_;refine aA (eZ (j:=c.toNat) Tryz.underlying468 f5 rfl rfl rfl hkl) rfl ?_;refine aA (lM (aL f5 rfl (.known hb) (pD hkl)) hfe) rfl ?_;refine aA (o5 Tryz.underlying130 rfl) rfl ?_;refine zz3 ?_;refine t_draw (anc:=[0,0,0,6,0,0,16,80,240,496,1022,2047,4095]) (ord:=[0,1,2,3,4,5,6,7,8,9,10,11,12]) [10] [] mixed gBO .nil ?_;refine zz3 ?_;refine dl_ev rfl rfl (.none rfl) rfl rfl (aAK (m:=(encQ (s.take i)).length) jQ rfl rfl rfl aH) rfl ?_;refine zz4 ?_;refine dl_ev rfl rfl (.none rfl) rfl rfl (eZ (j:=c.toNat) Tryz.underlying468 f5 rfl rfl rfl hkl) rfl ?_;refine dl_ev rfl rfl (.none rfl) rfl rfl (aL f5 rfl (.known hb) (pD hkl)) rfl ?_;refine dl_s rfl rfl (.none rfl) rfl rfl (aTI (k:=elB 5) (j:=(encQ (s.take i)).length) (ys:=j1 c) Tryz.underlying130 b0 rfl rfl .here (.known hqk) (by intro h;rw[h]at hql;simp at hql) aH) rfl ?_;rintro _ K _ ⟨rfl,rfl,rfl⟩ -;refine⟨_,(show Tks _ _ _ from .nil).sat,?_⟩
          refine zz10 ?_
          first
            | (refine cG (i + 1) aH aH (.cons 0 rfl (.cons 1 rfl (.cons 4 rfl (.cons 12 rfl (.cons 13 ?_ (.cons 14 rfl .nil)))))) rfl (by rw [← w6 hc]; exact fun _ h => h)
               · exact congrArg (fun x:Int=>some (i64 x)) (show _=((encQ (s.take (i+1))).length:Int) by rw[nZ hc,List.length_append];omega))
            | (refine cG (i + 1) aH aH (.cons 0 rfl (.cons 1 rfl (.cons 4 rfl (.cons 12 rfl (.cons 13 ?_ (.cons 14 rfl .nil)))))) rfl (by rw [← aGU hc hqb]; exact fun _ h => h)
               · exact congrArg (fun x:Int=>some (i64 x)) (show _=((encQ (s.take (i+1))).length:Int) by rw[nZ hc,List.length_append,hqb,List.length_singleton];omega))
        ·
          refine zz6 ?_;refine aA (eZ (j:=c.toNat) Tryz.underlying468 f5 rfl rfl rfl hkl) rfl ?_;refine aA (lM (aL f5 rfl (.known hb) (pD hkl)) hfe) rfl ?_;refine aA (o5 Tryz.underlying130 rfl) rfl ?_;refine zz8 ?_;refine aA (bQ (k:=elB 5) (j:=(encQ (s.take i)).length) jQ rfl (.own .here) rfl rfl (by rw[hqb]at hbr;simp at hbr;omega)) rfl ?_;refine bR (aDJ (k:=elB 5) (j:=(encQ (s.take i)).length) (y0:=c) (xs:=bufQ s i) ts5 rfl rfl rfl rfl (by rw[hqb]at hbr;simp at hbr;omega) .here) ?_;rintro _ K _ ⟨rfl,rfl⟩ -;refine zz14 ?_
          first
            | (refine cG (i + 1) aH aH (.cons 0 rfl (.cons 1 rfl (.cons 4 rfl (.cons 12 rfl (.cons 13 ?_ (.cons 14 rfl .nil)))))) rfl (by rw [← w6 hc]; exact fun _ h => h)
               · exact congrArg (fun x:Int=>some (i64 x)) (show _=((encQ (s.take (i+1))).length:Int) by rw[nZ hc,List.length_append];omega))
            | (refine cG (i + 1) aH aH (.cons 0 rfl (.cons 1 rfl (.cons 4 rfl (.cons 12 rfl (.cons 13 ?_ (.cons 14 rfl .nil)))))) rfl (by rw [← aGU hc hqb]; exact fun _ h => h)
               · exact congrArg (fun x:Int=>some (i64 x)) (show _=((encQ (s.take (i+1))).length:Int) by rw[nZ hc,List.length_append,hqb,List.length_singleton];omega))
      ·
        have hie:i=s.length:=aH;subst hie;rw[aQK];refine zz8 ?_;refine aA (qT Tryz.underlying130 Tryz.underlying5 Tryz.underlying9 rfl aN) rfl ?_;refine zz4 ?_;refine uAw ?_;refine zz1 ?_;exact⟨_,rfl,rfl,rfl⟩
end Go.Proofs
end
section
attribute [local irreducible] Go.SL.T Go.SL.OL Go.SL.D Go.SL.DL Go.SL.Ev Go.SL.Ef Go.SL.EfS
namespace Go.Proofs
open Go Go.SL
theorem aB0:aJC Tryz.prog 134 3 132=true:=by kernel_rfl
abbrev aH3(b:Nat)(dp:Int)(q:Bool)(v:Value):Asn:=pt b (aU [if q then ptr b else .pointer none,v,i64 dp] 134)
abbrev pbl(b:Nat)(dp:Int)(xs:List UInt8):Asn:=exA fun v:Value=>[exA fun q:Bool=>[aH3 b dp q v],sl true (elB 5) v xs]
theorem aVY(b:Nat)(dp:Int):∀h,pt b (aU [.pointer none,.slice none 0 0,i64 dp] 134) h→Sat [pbl b dp []] h:=by
 intro h hh;refine lB.2 ⟨.slice none 0 0,lB.2 ⟨false,h,.emp,hh,⟨.emp,.emp,.inl ⟨rfl,rfl,rfl⟩,rfl,Hl.dj_emp _,(Hl.join_emp _).symm⟩,Hl.dj_emp _,(Hl.join_emp _).symm⟩⟩
theorem aSU(b:Nat)(dp:Int)(v:Value)(xs:List UInt8):∀h,Sat [aH3 b dp true v,sl true (elB 5) v xs] h→Sat [pbl b dp xs] h:=by
 intro h hh;exact lB.2 ⟨v,lB.2 ⟨true,hh⟩⟩
theorem aSV(b:Nat)(dp:Int):∀h,pt b (aU [.pointer none,.slice none 0 0,i64 dp] 134) h→pbl b dp [] h:=by
 intro h hh;obtain⟨a,l,ha,hl,hd,he⟩:=aVY b dp h hh;rw[he,show l=.emp from hl,Hl.join_emp];exact ha
theorem y9(b:Nat)(dp:Int)(q:Bool)(v:Value)(K:Hl):Sp Tryz.prog 196 [ptr b] K [aH3 b dp q v] (Ret fun u K' L'=>u=.tuple #[]∧K'=K∧L'=[aH3 b dp true v]):=by
 cases q with
 |true=>
  refine aZ Tryz.func196 rfl Tryz.ntmps196 rfl rfl fun F w=>?_
  refine zz17 ?_;refine aA (yN Tryz.underlying129 rI rfl rfl) rfl ?_;refine zz5 ?_;exact⟨_,rfl,rfl,rfl,rfl⟩
 |false=>
  refine aZ Tryz.func196 rfl Tryz.ntmps196 rfl rfl fun F w=>?_
  refine zz13 ?_;refine aA (aCD Tryz.underlying129 Tryz.underlying185 rfl (.own .here) aB0) rfl ?_;refine aA (kL rfl rfl Tryz.func272 b0 b0 b0 (ex:=Extern.AbiNoEscape.same) b0 (fun _ _=>rfl)) rfl ?_;refine aA (y7 Tryz.underlying185 Tryz.underlying129 rfl (.own .here) aB0) rfl ?_;refine zz2 ?_;refine bR (bL y4 rfl rfl cK bB .zero rfl) ?_;rintro _ K _ ⟨rfl,rfl⟩ -;refine zz2 ?_;exact⟨_,rfl,rfl,rfl,rfl⟩
theorem wJ(b:Nat)(dp:Int)(s:List UInt8)(xs:List UInt8)(hn:xs.length+s.length≤140737488351232)(K:Hl):Sp Tryz.prog 109 [ptr b,str s] K [pbl b dp xs] (Ret fun u K' L'=>u=.tuple #[i64 s.length,.nilIface]∧K'=K∧L'=[pbl b dp (xs++s)]):=by
 refine aZ Tryz.func109 rfl Tryz.ntmps109 rfl rfl fun F w=>?_
 refine t_ex fun v=>t_ex fun q=>?_
 refine zz9 ?_;refine aY rfl rfl (y9 b dp q v _) (.cons .here .nil) rfl ?_;rintro _ K _ ⟨rfl,rfl,rfl⟩ -;refine zz10 ?_;refine ol_s (dT (k:=(elB 5)) (ys:=s) nG rfl rfl bB (fun _ _=>u1 Tryz.underlying9) aH aH) rfl ?_;rintro v14 K _ ⟨rfl,rfl,ho14⟩ -;refine zz2 ?_;refine uBa ?_;rintro _ K _ ⟨rfl,rfl⟩ -;refine zz11 ?_;refine uAl ?_;refine eD (aSU b dp v14 (xs++s)) ?_;refine kK rfl rfl rfl (Hl.le_refl _) ?_;exact⟨_,rfl,rfl,rfl,rfl⟩
theorem aFN(b:Nat)(dp:Int)(xs:List UInt8)(hn:xs.length≤140737488351232)(K:Hl):Sp Tryz.prog 63 [ptr b] K [pbl b dp xs] (Ret fun u K' L'=>u=str xs∧K'=K∧L'=[]):=by
 refine aZ Tryz.func63 rfl Tryz.ntmps63 rfl rfl fun F w=>?_
 refine t_ex fun v=>t_ex fun q=>?_
 refine zz6 ?_;refine t_draw (anc:=[0,1,3,7,15,0,32,96,224,480,1023,2047]) (ord:=[0,1,2,3,4,5,6,7,8,9,10,11]) [10] [10] mixed gBO (cX _) ?_;refine zz4 ?_;refine dl_ev rfl rfl (.none rfl) rfl rfl (vR (e:=5) rfl (.there .here)) rfl ?_;refine zz4 ?_;refine dl_ev rfl rfl (.none rfl) rfl rfl (bX (k:=(elB 5)) rfl Tryz.underlying130 rfl aN) rfl ?_;refine dl_g rfl rfl (.none rfl) rfl (sK (e:=5) rfl Tryz.underlying227 aCP aH rfl rfl (.there .here)) rfl ?_;rintro _ K _ ⟨rfl,rfl,rfl⟩ -;refine zz4 ?_;refine uAw ?_;refine zz1 ?_;exact⟨_,rfl,rfl,rfl,rfl⟩
end Go.Proofs
end
section
attribute [local irreducible] Go.SL.T Go.SL.OL Go.SL.D Go.SL.DL Go.SL.Ev Go.SL.Ef Go.SL.EfS
namespace Go.Proofs
open Go Go.SL Go.Syn
theorem aVH{texts:List aJ}{i:Nat}:((texts.take i).flatten).length≤texts.flatten.length:=by
 have:texts.flatten=(texts.take i).flatten++(texts.drop i).flatten:=by rw[←List.flatten_append,List.take_append_drop]
 rw[this,List.length_append];omega
theorem aCX{texts:List aJ}{i:Nat}{s:aJ}(h:texts[i]?=some s):(texts.take (i+1)).flatten=(texts.take i).flatten++s:=by
 have hi:=n3 h;rw[List.getElem?_eq_getElem hi]at h;cases h
 rw[List.take_succ_eq_append_getElem hi,List.flatten_append];simp
theorem aOS(b:Nat)(dp:Int)(v:Value)(xs:aJ)(texts:List aJ)(K:Hl)(hv:Ksl (bC 9) K v texts)(hn:xs.length+texts.flatten.length≤140737488351232)(hl:texts.length≤1000000):
  Sp Tryz.prog 60 [ptr b,v] K [pbl b dp xs] (Ret fun r K' L'=>r=.tuple #[]∧K'=K∧L'=[pbl b dp (xs++texts.flatten)]):=by
 refine aZ Tryz.func60 rfl Tryz.ntmps60 rfl rfl fun F w=>?_
 refine zz3 ?_;refine aA (bX (k:=bC 9) rfl Tryz.underlying39 rfl (.known hv)) rfl ?_;refine zz4 ?_;refine d6 (fun(i:Nat)=>i≤texts.length) (fun i=>[(0,ptr b),(6,v),(7,i64 texts.length),(8,i64 i)]) (fun _=>K) (fun i=>[pbl b dp (xs++(texts.take i).flatten)]) (fun i=>texts.length - i) 0 (Nat.zero_le _) (.cons 0 rfl (.cons 6 rfl (.cons 7 rfl (.cons 8 rfl .nil)))) rfl (fun _ h=>by simpa using h) ?_;intro i hi;refine zz6 ?_;refine bG 9 rfl (fun h9=>?_) (fun h9=>?_)
 ·
  have hlt:i < texts.length:=by omega
  obtain⟨s,hs⟩:∃s,texts[i]?=some s:=⟨texts[i]'hlt,List.getElem?_eq_getElem hlt⟩;have hfl:((texts.take (i+1)).flatten).length≤texts.flatten.length:=aVH;rw[aCX hs,List.length_append]at hfl;refine zz6 ?_;refine aA (bQ (k:=bC 9) (j:=i) bS rfl (.known hv) rfl rfl hlt) rfl ?_;refine aA (cV (o:=0) (k:=bC 9) ts9 rfl (.known hv) hs rfl) rfl ?_;refine zz8 ?_;refine aY rfl rfl (wJ b dp s _ gCE _) (.cons .here .nil) rfl ?_;rintro _ K _ ⟨rfl,rfl,rfl⟩ -;refine zz7 ?_;refine cG (i+1) aH aH (.cons 0 rfl (.cons 6 rfl (.cons 7 rfl (.cons 8 rfl .nil)))) rfl (fun _ h=>by rw[aCX hs,←List.append_assoc];exact h)
 ·
  have hie:i=texts.length:=by omega
  subst hie;rw[List.take_length];refine zz5 ?_;exact⟨_,rfl,rfl,rfl,rfl⟩
theorem aWG(texts:List aJ):(bC 9).cs texts=texts.map str:=by
 induction texts with
 |nil=>rfl
 |cons x r ih=>show str x::(bC 9).cs r=_;rw[ih];rfl
theorem eO(b bs n:Nat)(dp:Int)(xs:aJ)(texts:List aJ)(cells:List Value)(K:Hl)(fz:Nat×Nat)(hc:cells=texts.map str)(hn2:n=texts.length)(hn:xs.length+texts.flatten.length≤140737488351232)(hl:texts.length≤1000000):
  Sp Tryz.prog 60 [ptr b,.slice (some ⟨bs,0,none⟩) n n] K [pt bs (aU cells 9 fz),pbl b dp xs] (Ret fun r K' L'=>r=.tuple #[]∧L'=[pbl b dp (xs++texts.flatten)]):=by
 subst hc hn2;refine aPQ ⟨_,Tryz.func60,rfl,rfl⟩ fun K' le' hk=>?_
 refine(aOS b dp _ xs texts K' (.inr ⟨bs,0,texts.length,_,fz,rfl,⟨_,hk⟩,?_⟩) hn hl).mono fun e K2 L2 ⟨v,h1,h2,h3,h4⟩=>⟨v,h1,h2,h4⟩
 rw[aWG];exact List.take_of_length_le (by simp[bC])
end Go.Proofs
end
section
attribute [local irreducible] Go.SL.T Go.SL.OL Go.SL.D Go.SL.DL Go.SL.Ev Go.SL.Ef Go.SL.EfS
set_option maxRecDepth 4000
namespace Go.Proofs
open Go Go.SL Go.Syn
theorem aEK(b:Nat)(dn st:Int)(x2 rv ov:Value)(K:Hl)(hov:Ksl (bC 9) K ov olds):Sp Tryz.prog 274 [ptr b] K [rpl b dn st x2 rv ov]
  (Ret fun r K' L'=>r=.tuple #[]∧∃rv' ov',aQA K' rv' ov'∧L'=[rpl b dn st x2 rv' ov']):=by
 refine aZ Tryz.func274 rfl Tryz.ntmps274 rfl rfl fun F w=>?_
 refine zz4 ?_;refine aY rfl rfl (aOW b dn st x2 rv ov _ hov) (.cons .here .nil) rfl ?_;rintro _ K2 _ ⟨⟨br,f,tv,rfl,h1,h2,h3⟩,rfl⟩ le2;refine zz2 ?_;refine bR (bL ts398 rfl rfl cK bB (.succ (.succ (.succ .zero))) rfl) ?_;rintro _ K _ ⟨rfl,rfl⟩ -;refine zz6 ?_;refine uBg ?_;rintro _ K _ ⟨rfl,rfl⟩ -;refine aF ?_;refine cT rfl le2 ?_;exact⟨_,rfl,rfl,_,_,⟨br,f,tv,rfl,h1,h2,h3⟩,rfl⟩
theorem aA8(v:Value)(K:Hl)(hv:Ksl (bC 9) K v olds):Sp Tryz.prog 197 [v] K [] (Ret fun r K' L'=>∃b ov,r=ptr b∧Ksl (bC 9) K' ov olds∧L'=[rpl b 0 0 (.int .u32 0) .nilIface ov]):=by
 refine aZ Tryz.func197 rfl Tryz.ntmps197 rfl rfl fun F w=>?_
 refine zz9 ?_;refine aA (bX (k:=bC 9) rfl Tryz.underlying39 rfl (.known hv)) rfl ?_;refine aA (lM (v:=i64 0) (aYO rfl rfl (by decide)) rfl) rfl ?_;refine aA (ev_F (bW rfl rfl) (by decide)) rfl ?_;refine zz8 ?_;refine jY (eT (bC 9)) ?_;refine ol_s (dT (k:=(bC 9)) (ys:=olds) fA rfl rfl bB (fun w j=>dK Tryz.underlying39 (SeesSl.at (k:=bC 9) (.known hv) j)) (by show (0+4)*16≤_;decide) (by show 0+4≤_;decide)) rfl ?_;rintro v9 K _ ⟨rfl,rfl,ho9⟩ -;refine fL fun K2 le2 hS=>?_
 obtain⟨sa,sn,sc,rfl⟩:=hS.isSlice;refine aA (cR tb400 tb400f (.cons rfl rfl rfl (.skip (.skip (.skip (.skip (.cons .nil))))) .nil)) rfl ?_;refine zz1 ?_;rintro _ K _ ⟨b11,rfl,rfl,rfl⟩ -;refine zz4 ?_;refine bJ rfl rfl le2 ?_;exact⟨_,rfl,_,_,rfl,hS,rfl⟩
theorem aND:∃fn,Tryz.prog.funcs[274]?=some fn∧(fn.name=="runtime.NumGoroutine")=false∧fn.body.isSome=true:=⟨_,Tryz.func274,rfl,rfl⟩
theorem aH6(b:Nat)(ov:Value)(s:aJ)(K:Hl)(hs:s.length≤1000000)(hov:Ksl (bC 9) K ov olds):Sp Tryz.prog 198 [ptr b,str s] K [rpl b 0 0 (.int .u32 0) .nilIface ov] (Ret fun r K' L'=>r=str (encQ s)):=by
 refine aZ Tryz.func198 rfl Tryz.ntmps198 rfl rfl fun F w=>?_
 refine zz12 ?_;refine aY rfl rfl (aZ7 _ aND _ aQA (fun K1 le=>aEK b 0 1 _ _ _ K1 (hov.mono le))) (.cons .here .nil) rfl ?_;rintro _ K2 _ ⟨rfl,rv2,ov2,⟨br,f,tv,rfl,h1,h2,h3⟩,rfl⟩ le2;refine zz9 ?_;refine lF rfl rfl (aR9 br) (aEJ br f tv s _ hs h1 h2 h3) .nil rfl ?_;rintro _ K3 _ ⟨rfl,rfl⟩ le3;refine zz4 ?_;refine bJ rfl rfl (Hl.le_trans le2 le3) ?_;exact⟨_,rfl,rfl⟩
theorem wK(s:aJ)(K:Hl)(hs:s.length≤1000000):Sp Tryz.prog 110 [str s] K [] (Ret fun r K' L'=>r=str (fD s)∧L'=[]):=by
 have hel:=vO s;have hcl:=vE s;refine aZ Tryz.func110 rfl Tryz.ntmps110 rfl rfl fun F w=>?_
 refine zz7 ?_;refine ol_s (a6 (z0:=[(str []),(str []),(str []),(str [])]) bS tz9 rfl rfl rfl rfl (.cons rfl rfl rfl (.cons .nil) (.cons rfl rfl rfl (.skip (.cons .nil)) (.cons rfl rfl rfl (.skip (.skip (.cons .nil))) (.cons rfl rfl rfl (.skip (.skip (.skip (.cons .nil)))) .nil))))) rfl ?_;rintro _ K _ ⟨b3,rfl,rfl,rfl⟩ -;refine fW fun K1 le1 hb=>?_
 refine aY rfl rfl (aA8 _ _ (.inr ⟨b3,0,4,_,_,rfl,⟨_,hb⟩,rfl⟩)) .nil rfl ?_;rintro _ K2 _ ⟨b4,ov,rfl,hov,rfl⟩ le2;refine zz1 ?_;refine aY rfl rfl (aH6 b4 ov s _ hs hov) (.cons .here .nil) rfl ?_;rintro _ K3 L3 rfl le3;refine aA (xF rfl rfl gBQ) rfl ?_;refine aA (xF rfl rfl gBQ) rfl ?_;refine zz4 ?_;refine uAw ?_;refine bJ rfl rfl (Hl.le_trans le1 (Hl.le_trans le2 le3)) ?_;exact⟨_,rfl,rfl,rfl⟩
end Go.Proofs
end
section
attribute [local irreducible] Go.SL.T Go.SL.OL Go.SL.D Go.SL.DL Go.SL.Ev Go.SL.Ef Go.SL.EfS
set_option maxRecDepth 4000
namespace Go.Proofs
open Go Go.SL Go.Syn
theorem aY2(x y:Nat)(K:Hl)(hx:x < 18446744073709551616)(hy:y < 18446744073709551616):Sp Tryz.prog 200 [.int .u64 x,.int .u64 y] K [] (Val (.tuple #[.int .u64 ((x*y / 18446744073709551616:Nat):Int),.int .u64 ((x*y % 18446744073709551616:Nat):Int)]) K):=
 nF ⟨_,Tryz.func200,rfl,rfl⟩ fun w hw=>(Tryz.bits_Mul x y hx hy w).mono fun e w' ⟨he,hw'⟩=>⟨he,by rw[hw'];exact RowKit.Below.refl _ _⟩
theorem aE5(s p:aJ)(K:Hl)(h:p.length≤s.length)(he:s.take p.length=p):Sp Tryz.prog 201 [str s,str p] K [] (Val (.bool true) K):=by
 have oM:∀K,Sp Tryz.prog 278 [str s,str p] K [] (Val (.bool true) K):=by
  intro K;refine aZ Tryz.func278 rfl Tryz.ntmps278 rfl rfl fun F w=>?_
  refine zz11 ?_;refine aA (ev_T (gP rfl rfl) aH) rfl ?_;refine zz8 ?_;refine aA (eR (n:=p.length) Tryz.underlying9 rfl rfl rfl aH) rfl ?_;refine zz3 ?_;refine aA (ev_T (jX rfl rfl) he) rfl ?_;refine zz6 ?_;exact⟨rfl,rfl,rfl⟩
 refine aZ Tryz.func201 rfl Tryz.ntmps201 rfl rfl fun F w=>?_
 refine zz9 ?_;refine cE rfl rfl (oM _) rfl ?_;refine zz5 ?_;exact⟨rfl,rfl,rfl⟩
def aBP:aJ:=List.replicate 128 32
theorem aAQ:∀d,indC d=List.replicate (2*d) 32
 |0=>rfl
 |d+1=>by rw[indC,aAQ d,show 2*(d+1)=(2*d+1)+1 from by omega,List.replicate_succ,List.replicate_succ];rfl
theorem aIS{d:Nat}(h:d≤64):aBP.take (2*d)=indC d:=by rw[aAQ,aBP,List.take_replicate,Nat.min_eq_left aH]
theorem aDG(d:Nat)(hd:d≤64)(K:Hl):Sp Tryz.prog 112 [str [32,32],i64 d] K [] (Val (str (indC d)) K):=by
 refine aZ Tryz.func112 rfl Tryz.ntmps112 rfl rfl fun F w=>?_
 refine zz18 ?_;refine bG 12 rfl (fun h12=>?_) (fun h12=>?_)
 ·
  refine zz9 ?_;rw[show d=0 from by omega];exact⟨rfl,rfl,rfl⟩
 ·
  refine zz6 ?_;refine bG 14 rfl (fun h14=>?_) (fun h14=>?_)
  ·
   refine zz10 ?_;rw[show d=1 from by omega];exact⟨rfl,rfl,rfl⟩
  ·
   refine zz7 ?_;refine aA (ev_F (cY rfl rfl) aH) rfl ?_;refine zz9 ?_;refine aA (lM (v:=.int .u64 ((2:Nat):Int)) (rZ Tryz.underlying257 Tryz.underlying3 rfl) (by rfl)) rfl ?_;refine zz1 ?_;refine aA (lM (v:=.int .u64 (d:Int)) (rZ Tryz.underlying257 Tryz.underlying3 rfl) (by congr 1;unfold IntKind.wrap IntKind.bits IntKind.signed;simp;omega)) rfl ?_;refine cE rfl rfl (aY2 2 d _ (by decide) aH) rfl ?_;refine zz11 ?_;refine aA (ev_F (gX rfl rfl) (by have:2*d / 18446744073709551616=0:=Nat.div_eq_of_lt aH;omega)) rfl ?_;refine zz4 ?_;refine aA (ev_F (gX rfl rfl) (by have:=Nat.mod_lt (2*d) (show 0 < 18446744073709551616 by decide);have:=Nat.mod_le (2*d) 18446744073709551616;omega)) rfl ?_;refine zz9 ?_;refine aA (lM (v:=i64 ((2*d:Nat):Int)) (rY Tryz.underlying3 Tryz.underlying257 rfl aH (by have:=Nat.mod_le (2*d) 18446744073709551616;omega)) (by rw[Nat.mod_eq_of_lt aH])) rfl ?_;refine zz8 ?_;refine aA (ev_F (bW rfl rfl) (by decide)) rfl ?_;refine zz9 ?_;refine aA (dD (c:=32) Tryz.underlying9 rfl rfl rfl rfl) rfl ?_;refine zz6 ?_;refine aA (ev_T (bW rfl rfl) (by decide)) rfl ?_;refine zz11 ?_;refine aA (ev_T (i8 rfl rfl) aH) rfl ?_;refine zz4 ?_;refine cE rfl rfl (aE5 aBP [32,32] _ (by decide) rfl) rfl ?_;refine zz8 ?_;refine aA (eR (n:=2*d) (l:=aBP) Tryz.underlying9 rfl rfl rfl (by simp[aBP];omega)) rfl ?_;refine zz8 ?_;rw[aIS hd];exact⟨rfl,rfl,rfl⟩
end Go.Proofs
end
section
attribute [local irreducible] Go.SL.T Go.SL.OL Go.SL.D Go.SL.DL Go.SL.Ev Go.SL.Ef Go.SL.EfS
set_option maxRecDepth 4000
namespace Go.Proofs
open Go Go.SL Go.Syn
theorem aRT(b n:Nat)(K:Hl)(hn:n≤140737488351232):Sp Tryz.prog 275 [ptr b,i64 n] K [vA b true nilS] (Ret fun u K' L'=>u=.tuple #[]∧K'=K∧∃c cs,L'=[vA b true (.slice (some ⟨c,0,none⟩) 0 (List.length cs)),pt c (aU cs 5)]):=by
 refine aZ Tryz.func275 rfl Tryz.ntmps275 rfl rfl fun F w=>?_
 refine aI ?_;refine t_draw (anc:=[0,1,3,7,15,31,0,127,255,0,512,1536,3584,7680,16383,32767]) (ord:=[0,1,2,3,4,5,6,7,9,10,11,12,13,8,14,15]) [8] [] mixed gBO (.cons .here .nil) ?_;refine zz4 ?_;refine dl_ev rfl rfl (.none rfl) rfl rfl (aAE rfl Tryz.underlying130 rfl) rfl ?_;refine dl_ev rfl rfl (.none rfl) rfl rfl (lM (v:=i64 0) (oH rfl rfl (by decide) (by decide)) rfl) rfl ?_;refine zz1 ?_;refine dl_ev rfl rfl (.none rfl) rfl rfl (lM (v:=i64 n) (cA rfl rfl aH aH) (by rw[Int.zero_add])) rfl ?_;refine zz4 ?_;refine dl_ev rfl rfl (.none rfl) rfl rfl (qU rfl Tryz.underlying130 rfl) rfl ?_;refine dl_s rfl rfl (.none rfl) rfl rfl (bAW (n:=n) (ps:= #[3]) (t:=130) rfl rfl Tryz.func315 b0 b0 b0 b0 Tryz.underlying130 aH) rfl ?_;rintro _ K _ ⟨c,cs,hcs,rfl,rfl,rfl⟩ -;refine⟨_,(show Tks _ _ _ from .cons (.there .here) .nil).sat,?_⟩
 refine dl_ev rfl rfl (.none rfl) rfl rfl (aEZ (m:=0) jQ rfl rfl rfl aH) rfl ?_;refine zz10 ?_;refine aA (aJ3 Tryz.underlying130 b0 rfl rfl) rfl ?_;refine zz7 ?_;refine uBa ?_;rintro _ K _ ⟨rfl,rfl⟩ -;refine zz2 ?_;exact⟨_,rfl,rfl,rfl,c,cs,rfl⟩
def bldg(b:Nat)(L:List Asn):Prop:=∃c cs,L=[vA b true (.slice (some ⟨c,0,none⟩) 0 (List.length cs)),pt c (aU cs 5)]
theorem aRR(b n:Nat)(K:Hl)(hn:n≤140737488351232)(h0:0 < n):Sp Tryz.prog 199 [ptr b,i64 n] K [vA b false nilS] (Ret fun u K' L'=>u=.tuple #[]∧K'=K∧bldg b L'):=by
 refine aZ Tryz.func199 rfl Tryz.ntmps199 rfl rfl fun F w=>?_
 refine zz3 ?_;refine aY rfl rfl (lU b false nilS _) (.cons .here .nil) rfl ?_;rintro _ K _ ⟨rfl,rfl,rfl⟩ -;refine zz6 ?_;refine aA (ev_F (cY rfl rfl) aH) rfl ?_;refine zz6 ?_;refine t_draw (anc:=[0,1,3,7,15,0,32,96,224,480,1023,0,4095]) (ord:=[0,1,2,3,4,5,6,7,8,9,10,11,12]) [] [] mixed gBO (cX _) ?_;refine zz4 ?_;refine dl_ev rfl rfl (.none rfl) rfl rfl (aAE rfl Tryz.underlying130 rfl) rfl ?_;refine zz4 ?_;refine dl_ev rfl rfl (.none rfl) rfl rfl (qU rfl Tryz.underlying130 rfl) rfl ?_;refine zz2 ?_;refine dl_ev rfl rfl (.none rfl) rfl rfl (ev_T (cY rfl rfl) aH) rfl ?_;refine zz6 ?_;refine aY rfl rfl (aRT b n _ hn) (.cons .here .nil) rfl ?_;rintro _ K _ ⟨rfl,rfl,c,cs,rfl⟩ -;refine zz2 ?_;exact⟨_,rfl,rfl,rfl,c,cs,rfl⟩
theorem aWE{e:TypeId}{c:Nat}{cs:List Value}{L:List Asn}:∀h,Sat (pt c (aU cs e)::L) h→Sat (sl false (elB e) (.slice (some ⟨c,0,none⟩) 0 cs.length) []::L) h:=by
 rintro h ⟨a,l,ha,hl,hd,he⟩;refine⟨a,l,?_,hl,hd,he⟩
 exact .inr ⟨c,cs.length,cs,(0,0),rfl,(fun h=>by cases h),Nat.zero_le _,by simp[rT],.inl (Nat.le_refl _),by simpa[El.cs,pt,rT]using ha⟩
theorem aPN{e:TypeId}{v:Value}{xs:aJ}{L:List Asn}(h0:xs≠[]):∀h,Sat (sl false (elB e) v xs::L) h→Sat (sl true (elB e) v xs::L) h:=by
 rintro h ⟨a,l,ha,hl,hd,he⟩;refine⟨a,l,?_,hl,hd,he⟩
 rcases ha with ⟨_,h1,_⟩|⟨b,cap,junk,fz,h1,h2,h3⟩
 ·exact absurd h1 h0
 ·exact .inr ⟨b,cap,junk,fz,h1,fun _=>h0,h3⟩
theorem aNN(b c:Nat)(cs:List Value)(s:aJ)(K:Hl)(h0:s≠[])(hn:s.length≤140737488351232):Sp Tryz.prog 109 [ptr b,str s] K [vA b true (.slice (some ⟨c,0,none⟩) 0 cs.length),pt c (aU cs 5)] (Ret fun u K' L'=>u=.tuple #[i64 s.length,.nilIface]∧K'=K∧L'=[bldr b s]):=by
 refine aZ Tryz.func109 rfl Tryz.ntmps109 rfl rfl fun F w=>?_
 refine t8 (fun h hh=>aWE h (gA hh)) ?_;refine zz9 ?_;refine aY rfl rfl (lU b true _ _) (.cons (.there .here) .nil) rfl ?_;rintro _ K _ ⟨rfl,rfl,rfl⟩ -;refine zz10 ?_;refine ol_s (dT (k:=(elB 5)) (ys:=s) nG rfl rfl bB (fun _ _=>u1 Tryz.underlying9) gBV gBV) rfl ?_;rintro v14 K _ ⟨rfl,rfl,ho14⟩ -;refine zz2 ?_;refine uBa ?_;rintro _ K _ ⟨rfl,rfl⟩ -;refine zz11 ?_;rw[List.nil_append];refine eD (aPN h0) ?_;refine uAl ?_;refine eD (wY b v14 s) ?_;refine kK rfl rfl rfl (Hl.le_refl _) ?_;exact⟨_,rfl,rfl,rfl,rfl⟩
def tX(sep x:aJ)(r:List aJ):aJ:=x++r.flatMap (sep++ ·)
theorem aAU(sep:aJ):∀(x:aJ) (r:List aJ),rL sep (x::r)=tX sep x r
 |x,[]=>by simp[rL,tX]
 |x,y::r=>by rw[rL,aAU sep y r];simp[tX,List.append_assoc]
theorem aKH{sep x:aJ}{r:List aJ}{i:Nat}{y:aJ}(h:r[i]?=some y):tX sep x (r.take (i+1))=tX sep x (r.take i)++sep++y:=by
 have hi:i < r.length:=by
  rcases Nat.lt_or_ge i r.length with h'|h'
  ·exact h'
  ·rw[List.getElem?_eq_none h']at h;cases h
 rw[List.getElem?_eq_getElem hi]at h;cases h
 rw[List.take_succ_eq_append_getElem hi];unfold tX;rw[List.flatMap_append];simp only[List.flatMap_cons,List.flatMap_nil,List.append_nil,List.append_assoc]
def lenT(texts:List aJ):Nat:=(texts.map List.length).sum
theorem xL{texts:List aJ}{i:Nat}{y:aJ}(h:texts[i]?=some y):lenT (texts.take (i+1))=lenT (texts.take i)+y.length:=by
 have hi:i < texts.length:=by
  rcases Nat.lt_or_ge i texts.length with h'|h'
  ·exact h'
  ·rw[List.getElem?_eq_none h']at h;cases h
 rw[List.getElem?_eq_getElem hi]at h;cases h
 rw[List.take_succ_eq_append_getElem hi];unfold lenT;rw[List.map_append,List.sum_append];simp
theorem aHI(texts:List aJ)(i:Nat):lenT (texts.take i)≤lenT texts:=by
 have:lenT texts=lenT (texts.take i)+lenT (texts.drop i):=by
  conv=>lhs;rw[←List.take_append_drop i texts]
  unfold lenT;rw[List.map_append,List.sum_append]
 omega
theorem xJ(sep x:aJ)(r:List aJ):(tX sep x r).length=x.length+lenT r+sep.length*r.length:=by
 unfold tX lenT;rw[List.length_append];induction r with
 |nil=>simp
 |cons y r ih=>
  rw[List.flatMap_cons,List.length_append,List.length_append,List.map_cons,List.sum_cons,List.length_cons,Nat.mul_succ];omega
theorem aVO(v:Value)(texts:List aJ)(sep:aJ)(K:Hl)(hv:Ksl (bC 9) K v texts)(hf:aJI v)(h0:∀x∈texts,x≠[])(hs:0 < sep.length∧sep.length≤1000)(hl:texts.length≤100000)(ht:lenT texts≤1000000000):
  Sp Tryz.prog 111 [v,str sep] K [] (Ret fun r K' L'=>r=str (rL sep texts)∧K'=K∧L'=[]):=by
 refine aZ Tryz.func111 rfl Tryz.ntmps111 rfl rfl fun F w=>?_
 refine zz9 ?_;refine aA (bX (k:=bC 9) rfl Tryz.underlying39 rfl (.known hv)) rfl ?_;refine zz9 ?_;refine bG 13 rfl (fun h13=>?_) (fun h13=>?_)
 ·
  refine zz9 ?_;have e:texts=[]:=List.length_eq_zero_iff.1 aH;rw[e];exact⟨_,rfl,rfl,rfl,rfl⟩
 ·
  refine zz6 ?_;refine bG 15 rfl (fun h15=>?_) (fun h15=>?_)
  ·
   obtain⟨x,hx⟩:∃x,texts=[x]:=List.length_eq_one_iff.1 aH;have hx0:texts[0]?=some x:=by rw[hx];rfl
   refine zz3 ?_;refine aA (bQ (k:=bC 9) (j:=0) bS rfl (.known hv) rfl rfl aH) rfl ?_;refine aA (cV (o:=0) (k:=bC 9) ts9 rfl (.known hv) hx0 rfl) rfl ?_;refine zz7 ?_;rw[hx];exact⟨_,rfl,rfl,rfl,rfl⟩
  ·
   refine zz13 ?_;refine aA (ev_T (gX rfl rfl) aH) rfl ?_;refine zz9 ?_;refine aA (bX (k:=bC 9) rfl Tryz.underlying39 rfl (.known hv)) rfl ?_;refine zz1 ?_;refine aA (lM (v:=i64 (9223372036854775807 / ((texts.length:Int) - 1))) (aRM rfl rfl aH) (by rw[Int.tdiv_eq_ediv_of_nonneg (by decide)];unfold IntKind.wrap IntKind.bits IntKind.signed;have h1:0≤(9223372036854775807:Int) / ((texts.length:Int) - 1):=Int.ediv_nonneg (by decide) aH;have h2:(9223372036854775807:Int) / ((texts.length:Int) - 1)≤9223372036854775807:=Int.ediv_le_self _ (by decide);congr 1;simp;omega)) rfl ?_;refine aA (ev_F (gP rfl rfl) (by have h1:(1001:Int)≤9223372036854775807 / ((texts.length:Int) - 1):=Int.le_ediv_of_mul_le aH aH;omega)) rfl ?_;refine zz10 ?_;refine aA (bX (k:=bC 9) rfl Tryz.underlying39 rfl (.known hv)) rfl ?_;refine zz1 ?_;have hm1:(sep.length:Int)*((texts.length:Int) - 1)=((sep.length*(texts.length - 1):Nat):Int):=(by rw[Int.natCast_mul,Int.natCast_sub aH];rfl);have hm2:sep.length*(texts.length - 1)≤1000*100000:=Nat.mul_le_mul hs.2 aH;refine aA (lM (v:=i64 ((sep.length*(texts.length - 1):Nat):Int)) (oH rfl rfl aH aH) (by rw[←hm1])) rfl ?_;refine zz8 ?_;refine aA (bX (k:=bC 9) rfl Tryz.underlying39 rfl (.known hv)) rfl ?_;refine zz4 ?_;refine d6 (fun(i:Nat)=>i≤texts.length) (fun i=>[(0,v),(1,str sep),(5,i64 ((sep.length*(texts.length - 1)+lenT (texts.take i):Nat):Int)),(39,v),(40,i64 texts.length),(41,i64 i)]) (fun _=>K) (fun _=>[]) (fun i=>texts.length - i) 0 (Nat.zero_le _) (.cons 0 rfl (.cons 1 rfl (.cons 5 (by exact congrArg (fun x:Int=>some (i64 x)) (by simp[lenT])) (.cons 39 rfl (.cons 40 rfl (.cons 41 rfl .nil)))))) rfl (fun _ h=>h) ?_;intro i hi;refine zz6 ?_;refine bG 42 rfl (fun h42=>?_) (fun h42=>?_)
   ·
    have hlt:i < texts.length:=aH;obtain⟨x,hx⟩:∃x,texts[i]?=some x:=⟨texts[i]'hlt,List.getElem?_eq_getElem hlt⟩;have hl1:=aHI texts (i+1);rw[xL hx]at hl1;refine zz6 ?_;refine aA (bQ (k:=bC 9) (j:=i) bS rfl (.known hv) rfl rfl hlt) rfl ?_;refine aA (cV (o:=0) (k:=bC 9) ts9 rfl (.known hv) hx rfl) rfl ?_;refine zz10 ?_;refine aA (ev_F (gX rfl rfl) aH) rfl ?_;refine zz18 ?_;exact cG (i+1) aH aH (.cons 0 rfl (.cons 1 rfl (.cons 5 (by exact congrArg (fun x:Int=>some (i64 x)) (by rw[xL hx];omega)) (.cons 39 rfl (.cons 40 rfl (.cons 41 rfl .nil)))))) rfl (fun _ h=>h)
   ·
    have hie:i=texts.length:=aH;subst hie;rw[List.take_length];obtain⟨x,r,hxr⟩:∃x r,texts=x::r:=(by cases texts with|nil=>simp at h15 h13|cons x r=>exact⟨x,r,rfl⟩);have hx0:texts[0]?=some x:=by rw[hxr];rfl
    have hrl:r.length=texts.length - 1:=by rw[hxr];simp
    have hlx:lenT texts=x.length+lenT r:=by rw[hxr];simp[lenT]
    have hxn:=h0 x (by rw[hxr];simp);have hdr:texts.drop 1=r:=by rw[hxr];rfl
    have hjl:=xJ sep x r;rw[hrl]at hjl;refine zz8 ?_;rintro _ K _ ⟨b8,rfl,rfl,rfl⟩ -;refine zz5 ?_;refine aY rfl rfl (aRR b8 (sep.length*(texts.length - 1)+lenT texts) _ aH (by have:=Nat.mul_pos hs.1 (show 0 < texts.length - 1 by omega);omega)) (.cons .here .nil) rfl ?_;rintro _ K _ ⟨rfl,rfl,c,cs,rfl⟩ -;refine zz5 ?_;refine aA (bQ (k:=bC 9) (j:=0) bS rfl (.known hv) rfl rfl aH) rfl ?_;refine aA (cV (o:=0) (k:=bC 9) ts9 rfl (.known hv) hx0 rfl) rfl ?_;refine aY rfl rfl (aNN b8 c cs x _ hxn aH) (.cons .here (.cons .here .nil)) rfl ?_;rintro _ K _ ⟨rfl,rfl,rfl⟩ -;refine zz6 ?_;refine aA (y8 (k:=bC 9) (m:=1) bS rfl (.known hv) rfl rfl aH) rfl ?_;have hv2:=aR6 hv (show 1≤texts.length by omega) hf;rw[hdr]at hv2;refine aA (bX (k:=bC 9) rfl Tryz.underlying39 rfl (.known hv2)) rfl ?_;refine zz4 ?_;refine d6 (fun(i:Nat)=>i≤r.length) (fun i=>[(1,str sep),(8,ptr b8),(63,nN v 1 1),(64,i64 r.length),(65,i64 i)]) (fun _=>K) (fun i=>[bldr b8 (tX sep x (r.take i))]) (fun i=>r.length - i) 0 (Nat.zero_le _) (.cons 1 rfl (.cons 8 rfl (.cons 63 rfl (.cons 64 rfl (.cons 65 rfl .nil))))) rfl (by simp only[tX,List.take_zero,List.flatMap_nil,List.append_nil];exact fun _ h=>h) ?_;intro i hi;refine zz6 ?_;refine bG 66 rfl (fun h66=>?_) (fun h66=>?_)
    ·
     have hlt:i < r.length:=aH;obtain⟨y,hy⟩:∃y,r[i]?=some y:=⟨r[i]'hlt,List.getElem?_eq_getElem hlt⟩;have hl1:=aHI r (i+1);rw[xL hy]at hl1;have hj1:=xJ sep x (r.take i);rw[List.length_take,Nat.min_eq_left aH]at hj1;have hm3:sep.length*i≤sep.length*(texts.length - 1):=Nat.mul_le_mul_left _ aH;refine zz6 ?_;refine aA (bQ (k:=bC 9) (j:=i) bS rfl (.known hv2) rfl rfl hlt) rfl ?_;refine aA (cV (o:=0) (k:=bC 9) ts9 rfl (.known hv2) hy rfl) rfl ?_;refine zz6 ?_;refine aY rfl rfl (kH b8 sep _ aH _) (.cons .here .nil) rfl ?_;rintro _ K _ ⟨rfl,rfl,rfl⟩ -;refine zz4 ?_;refine aY rfl rfl (kH b8 y _ gCE _) (.cons .here .nil) rfl ?_;rintro _ K _ ⟨rfl,rfl,rfl⟩ -;refine zz7 ?_;exact cG (i+1) aH aH (.cons 1 rfl (.cons 8 rfl (.cons 63 rfl (.cons 64 rfl (.cons 65 rfl .nil))))) rfl (by rw[aKH hy];exact fun _ h=>h)
    ·
     have hie:i=r.length:=aH;subst hie;rw[List.take_length];refine zz7 ?_;refine aY rfl rfl (nQ b8 _ aH _) (.cons .here .nil) rfl ?_;rintro _ K _ ⟨rfl,rfl,rfl⟩ -;refine zz5 ?_;rw[hxr,aAU];exact⟨_,rfl,rfl,rfl,rfl⟩
end Go.Proofs
end
section
attribute [local irreducible] Go.SL.T Go.SL.OL Go.SL.D Go.SL.DL Go.SL.Ev Go.SL.Ef Go.SL.EfS
set_option maxRecDepth 4000
namespace Go.Proofs
open Go Go.SL Go.Syn
theorem aBE(s:aJ):(fD s).length=s.length+cntQ s+2:=by
 have:=vO s;unfold encQ at this;unfold fD;simp only[List.length_append,List.length_singleton,this];omega
theorem n4(s:aJ):(fD s).length≤2*s.length+2:=by have:=aBE s;have:=vE s;omega
theorem aOV(s:aJ):fD s≠[]:=by intro h;have:=aBE s;rw[h]at this;simp at this
theorem uO{n:Nat}:∀ {l:List aJ},(∀x∈l,x.length≤n)→lenT (l.map fD)≤l.length*(2*n+2)
 | [],_=>by simp[lenT]
 |x::l,h=>by
  have ih:=uO (l:=l) fun y hy=>h y (by simp[hy])
  have h1:=n4 x;have h2:=h x (by simp);unfold lenT at ih ⊢;rw[List.map_cons,List.map_cons,List.sum_cons,List.length_cons,Nat.succ_mul];omega
theorem aC0{l:List aJ}:(rL [44,32] l).length≤lenT l+2*l.length:=by
 cases l with
 |nil=>simp[rL]
 |cons x r=>
  rw[aAU,xJ];simp[lenT];omega
theorem aAX{l:List aJ}(h:l.length≠1):lY l=[91]++rL [44,32] (l.map fD)++[93]:=by
 cases l with
 |nil=>rfl
 |cons x r=>
  cases r with
  |nil=>simp at h
  |cons y r=>rfl
theorem aNT{n:Nat}{l:List aJ}(h:∀x∈l,x.length≤n):(lY l).length≤l.length*(2*n+4)+2:=by
 by_cases h1:l.length=1
 ·obtain⟨x,rfl⟩:=List.length_eq_one_iff.1 h1;have:=n4 x;have:=h x (by simp);simp[lY];omega
 ·have h2:=uO h;have h3:=aC0 (l:=l.map fD);rw[List.length_map]at h3;rw[aAX h1];simp only[List.length_append,List.length_singleton];have:l.length*(2*n+4)=l.length*(2*n+2)+2*l.length:=by rw[show 2*n+4=(2*n+2)+2 from rfl,Nat.mul_add];omega
  omega
theorem aOE{l:List aJ}{i:Nat}{x:aJ}(h:l[i]?=some x):(l.take (i+1)).map fD=(l.take i).map fD++[fD x]:=by
 have hi:i < l.length:=by
  rcases Nat.lt_or_ge i l.length with h'|h'
  ·exact h'
  ·rw[List.getElem?_eq_none h']at h;cases h
 rw[List.getElem?_eq_getElem hi]at h;cases h
 rw[List.take_succ_eq_append_getElem hi,List.map_append];rfl
attribute [local semireducible] Go.SL.T Go.SL.OL Go.SL.D Go.SL.DL Go.SL.Ev Go.SL.Ef Go.SL.EfS in
theorem aON{E:Env}{ops:Array Oper}{rest:List Oper}{fr:Fr}{K:Hl}{L:List Asn}{Q:Post}{α:Type}{k:El α}{v:Value}{xs:List α}{z:Bool}(h:aJI v→OL E ops rest fr K (sl z k v xs::L) Q):OL E ops rest fr K (sl z k v xs::L) Q:=fun a w f i=>h (aXP .here i) a w f i
theorem wI(v:Value)(l:List aJ)(K:Hl)(hv:Ksl (bC 9) K v l)(hx:∀x∈l,x.length≤1000)(hl:l.length≤100000):Sp Tryz.prog 61 [v] K [] (Ret fun r K' L'=>r=str (lY l)∧L'=[]):=by
 have hlt:=uO hx;have hjl:=aC0 (l:=l.map fD);rw[List.length_map]at hjl;refine aZ Tryz.func61 rfl Tryz.ntmps61 rfl rfl fun F w=>?_
 refine t8 (eT (bC 9)) ?_;refine zz14 ?_;refine aA (bX (k:=bC 9) rfl Tryz.underlying39 rfl (.known hv)) rfl ?_;refine zz4 ?_;refine wP (fun(K2:Hl) (i:Nat) (u:Value)=>K.le K2∧i≤l.length) (fun _ i u=>[(3,u),(6,v),(7,i64 l.length),(8,i64 i)]) (fun K2 _ _=>K2) (fun _ i u=>[sl false (bC 9) u ((l.take i).map fD)]) (fun _ i _=>l.length - i) _ 0 _ ⟨Hl.le_refl _,Nat.zero_le _⟩ (.cons 3 rfl (.cons 6 rfl (.cons 7 rfl (.cons 8 rfl .nil)))) rfl (fun _ h=>h) ?_;intro K2 i u ⟨le2,hi⟩;have hv2:=hv.mono le2;refine zz6 ?_;refine bG 9 rfl (fun h9=>?_) (fun h9=>?_)
 ·
  have hlt2:i < l.length:=aH;obtain⟨x,hxx⟩:∃x,l[i]?=some x:=⟨l[i]'hlt2,List.getElem?_eq_getElem hlt2⟩;have hxl:=hx x (List.mem_of_getElem? hxx);refine zz6 ?_;refine aA (bQ (k:=bC 9) (j:=i) bS rfl (.known hv2) rfl rfl hlt2) rfl ?_;refine aA (cV (o:=0) (k:=bC 9) ts9 rfl (.known hv2) hxx rfl) rfl ?_;refine zz6 ?_;refine aY rfl rfl (wK x _ aH) .nil rfl ?_;rintro _ K3 _ ⟨rfl,rfl⟩ le3;refine ol_s (a6 (z0:=[(str [])]) bS tz9 rfl rfl rfl rfl (.cons rfl rfl rfl (.cons .nil) .nil)) rfl ?_;rintro _ K _ ⟨b15,rfl,rfl,rfl⟩ -;refine ol_s (dT (k:=(bC 9)) (ys:=[fD x]) fA rfl rfl bB (fun w j=>dK Tryz.underlying39 (SeesSl.at (.blk (.own .here) rfl rfl) j)) gBV gBV) rfl ?_;rintro v16 K _ ⟨rfl,rfl,ho16⟩ -;refine zz8 ?_;refine uAa ?_;exact jF _ (i+1) v16 ⟨Hl.le_trans le2 le3,by omega⟩ aH (.cons 3 rfl (.cons 6 rfl (.cons 7 rfl (.cons 8 rfl .nil)))) rfl (by rw[aOE hxx];exact fun _ h=>h)
 ·
  have hie:i=l.length:=aH;subst hie;rw[List.take_length];refine zz9 ?_;refine aA (bX (k:=bC 9) rfl Tryz.underlying39 rfl (.own .here)) rfl ?_;refine zz3 ?_;refine bG 20 rfl (fun h20=>?_) (fun h20=>?_)
  ·
   have hl1:l.length=1:=(by have:=h20;simp at this;omega);obtain⟨x,hxe⟩:=List.length_eq_one_iff.1 hl1;subst hxe;refine zz3 ?_;refine aA (bQ (k:=bC 9) (j:=0) bS rfl (.own .here) rfl rfl (by simp)) rfl ?_;refine aA (cV (o:=0) (k:=bC 9) (u:=fD x) ts9 rfl (.own .here) rfl rfl) rfl ?_;refine zz5 ?_;refine uAw ?_;refine bJ rfl rfl (by first|exact le2|exact Hl.le_trans le2 le3) ?_;exact⟨_,rfl,rfl,rfl⟩
  ·
   have hl1:l.length≠1:=(by have:=h20;simp at this;omega);refine zz4 ?_;refine aON fun hfit=>?_
   refine fL fun K3 le3 hS=>?_
   refine zz1 ?_;refine aY rfl rfl (aVO _ _ [44,32] _ hS hfit (fun y hy=>by obtain⟨x,_,rfl⟩:=List.mem_map.1 hy;exact aOV x) ⟨by decide,by decide⟩ (by simpa using hl) aH) .nil rfl ?_;rintro _ K _ ⟨rfl,rfl,rfl⟩ -;refine aA (xF rfl rfl (by simp only[List.length_cons,List.length_nil];omega)) rfl ?_;refine aA (xF rfl rfl (by simp only[List.length_append,List.length_cons,List.length_nil];omega)) rfl ?_;refine zz4 ?_;refine uAw ?_;refine bJ rfl rfl (by first|exact le2|exact Hl.le_trans le2 le3) ?_;rw[aAX hl1];exact⟨_,rfl,rfl,rfl⟩
end Go.Proofs
end
section
namespace Go.SL
open Go.MapKept
abbrev EntI:=Int×Value×Nat
def entI(p:EntI):MapEntry:={key:=i64 p.1,val:=p.2.1,born:=p.2.2}
abbrev mapI(es:List EntI)(c:Nat):Obj:=.map (es.map entI).toArray c
def q8(k:Int):List EntI→Nat→Option (Nat×Value)
 | [],_=>none
 |e::es,i=>if k=e.1 then some (i,e.2.1)else q8 k es (i+1)
def aSC(es:List EntI)(k:Int):Option Value:=(es.find? fun e=>decide (k=e.1)).map (·.2.1)
theorem yP(k:Int):∀(es:List EntI) (i:Nat),Instr.findNow (.int .i64) (i64 k) (es.map entI) i=some (q8 k es i):=by
 intro es;induction es with
 |nil=>intro i;rfl
 |cons e es ih=>
  intro i;simp only[List.map_cons,Instr.findNow,entI,Instr.sameNow,q8];rw[show ((k==e.1):Bool)=decide (k=e.1)from rfl]
  by_cases h:k=e.1
  ·simp[h]
  ·simp only[decide_eq_false h,if_neg h];exact ih _
theorem aKK(k:Int):∀(es:List EntI) (i:Nat),(q8 k es i).map (·.2)=aSC es k:=by
 intro es;induction es with
 |nil=>intro i;rfl
 |cons e es ih=>
  intro i;unfold q8 aSC
  by_cases h:k=e.1
  ·simp[h]
  ·rw[if_neg h,List.find?_cons,decide_eq_false h];exact ih _
section
variable{E:Env}{fr:Fr}{K:Hl}{L L':List Asn}{Q:Post}{dst:Option Tmp}{ty:TypeId}{pos:String}{aft:Array Edge}{g:Option (Nat×Bool)}{x y m:Operand}{t t' kt et b c:Nat}{v z:Value}{k:Int}{es:List EntI}
theorem aKU:EfS E fr K L ⟨dst,.makeMap t none,ty,pos,aft,g⟩ (fun u K' L'=>∃b,u=.map (some b)∧K'=K∧L'=pt b (mapI [] 0)::L):=pZ
theorem zA{P:Program}{w:World}(hm:P.underlying t=some (.map kt et))(hk:P.underlying kt=some (.int .i64))(hb:w.heap[b]?=some (mapI es c))(hn:es.any (fun e=>decide (k=e.1))=false):
  (Instr.mapUpdate t (.map (some b)) (i64 k) v).run P w=.ok () {w with heap:=w.heap.setIfInBounds b (mapI (es++[(k,v,c)]) (c+1))}:=by
 have hf:q8 k es 0=none:=by
  have:∀(es:List EntI) (i:Nat),es.any (fun e=>decide (k=e.1))=false→q8 k es i=none:=by
   intro es;induction es with
   |nil=>intro i h;rfl
   |cons e es ih=>
    intro i h;rw[List.any_cons,Bool.or_eq_false_iff]at h;unfold q8;rw[if_neg (by simpa using h.1)];exact ih _ h.2
  exact this es 0 hn
 have h1:(Instr.checkKey false 10000 kt (i64 k)).run P w=.ok () w:=run_checkKey hk (d:=.int .i64) (k:=i64 k) rfl _ 9999;have h2:=run_findKey (w:=w) (kt:=kt) hk (yP k es 0);unfold Instr.mapUpdate;rw[aP (run_underlying hm w)];simp only[]
 show ((getObj b)>>=fun _=>_).run P w=_
 rw[aP (MapKept.run_getObj_map hb)];simp only[];rw[aP h1]
 show ((Instr.findKey kt (i64 k) (es.map entI))>>=fun _=>_).run P w=_
 rw[aP h2,hf]
 show (setObj b _).run P w=_
 rw[MapKept.run_setObj_map _ hb];have e1:(es.map entI).toArray.push {key:=i64 k,val:=v,born:=c}=((es++[(k,v,c)]).map entI).toArray:=by simp[entI]
 rw[e1]
theorem xS(hm:E.P.underlying t=some (.map kt et))(hk:E.P.underlying kt=some (.int .i64))(hx:fr.ev m=some (.map (some b)))(hy:fr.ev x=some (i64 k))(hv:fr.ev y=some v)(hn:es.any (fun e=>decide (k=e.1))=false)
  (hF:Fnd (pt b (mapI es c)) (pt b (mapI (es++[(k,v,c)]) (c+1))) L L'):EfS E fr K L ⟨dst,.insert t m x y,ty,pos,aft,g⟩ (fun _ K' L''=>K'=K∧L''=L'):=by
 intro a w f j;have hb:=j.mem hF;have hr:(execOp a.eval ⟨dst,.insert t m x y,ty,pos,aft,g⟩).run E.P w=.ok .skip {w with heap:=w.heap.setIfInBounds b (mapI (es++[(k,v,c)]) (c+1))}:=by
  simp only[execOp,f.ev hx,f.ev hy,f.ev hv];rw[aP (zA hm hk hb hn)];rfl
 have hs:=MapKept.heap_set (o':=mapI (es++[(k,v,c)]) (c+1)) hb;exact⟨_,_,_,_,.inr ⟨hr,rfl⟩,⟨rfl,rfl⟩,Hl.le_refl _,j.writeAt hF (by simp) hs.1 hs.2⟩
end
section
variable{E:Env}{fr:Fr}{K:Hl}{L L':List Asn}{Q:Post}{dst:Option Tmp}{ty:TypeId}{pos:String}{aft:Array Edge}{g:Option (Nat×Bool)}{x y m:Operand}{t t' kt et b c:Nat}{v z:Value}{k:Int}{es:List EntI}
theorem aG2(hm:E.P.underlying t=some (.map kt et))(hk:E.P.underlying kt=some (.int .i64))(hz:eQ E.P et=some z)(hx:fr.ev x=some (.map (some b)))(hy:fr.ev y=some (i64 k))(hs:Sees K L b (mapI es c)):
  Ev E fr K L ⟨dst,.lookup t x y false,ty,pos,aft,g⟩ ((aSC es k).getD z):=fun a w f j=>by
 simp only[execOp,f.ev hx,f.ev hy];refine dS ?_;have hb:=hs.at j;have h1:(Instr.checkKey (es.map entI).toArray.isEmpty 10000 kt (i64 k)).run E.P w=.ok () w:=run_checkKey hk (d:=.int .i64) (k:=i64 k) rfl _ 9999;have h2:=run_findKey (w:=w) (kt:=kt) hk (yP k es 0);have h3:(zeroValue et).run E.P w=.ok z w:=by
  unfold eQ at hz;cases hi:E.P.info? et with
  |none=>simp[hi]at hz
  |some inf=>simp[hi]at hz;simp only[zeroValue,typeInfo,program,bind,Sem.bind,pure,Sem.run,hi,hz]
 have h4:=aKK k es 0;unfold Instr.lookup;rw[aP (run_underlying hm w)];simp only[]
 show ((getObj b)>>=fun _=>_).run E.P w=_
 rw[aP (MapKept.run_getObj_map hb)];simp only[];rw[aP (sJ _ _),aP h1]
 show ((Instr.findKey kt (i64 k) (es.map entI))>>=fun _=>_).run E.P w=_
 rw[aP h2,←h4];cases q8 k es 0 with
 |some p=>rfl
 |none=>
  show ((zeroValue et)>>=fun _=>_).run E.P w=_
  rw[aP h3];rfl
end
end Go.SL
end
section
attribute [local irreducible] Go.SL.T Go.SL.OL Go.SL.D Go.SL.DL Go.SL.Ev Go.SL.Ef Go.SL.EfS
set_option maxRecDepth 4000
namespace Go.Proofs
open Go Go.SL Go.Syn
def PSp(K:Hl)(v:Value)(t:Tree)(d:Nat):Prop:=∃ty u f,v=.iface ty u∧(∀w,(Go.method (Tryz.prog.types.size+Made.depth) ty u "mailsieve/syntax.print").run Tryz.prog w=.ok (f,u) w)∧
 ∀(b:Nat) (xs:aJ) (K':Hl),K.le K'→xs.length+(prn t d true).length≤100000000000→Sp Tryz.prog f [u,ptr b] K' [pbl b d xs] (Ret fun q K'' L'=>q=.tuple #[]∧L'=[pbl b d (xs++prn t d true)])
theorem aN1(u:Value)(w:World):(Go.method (Tryz.prog.types.size+Made.depth) 282 u "mailsieve/syntax.print").run Tryz.prog w=.ok (424,u) w:=by kernel_rfl
theorem aN2(u:Value)(w:World):(Go.method (Tryz.prog.types.size+Made.depth) 285 u "mailsieve/syntax.print").run Tryz.prog w=.ok (425,u) w:=by kernel_rfl
theorem aN3(u:Value)(w:World):(Go.method (Tryz.prog.types.size+Made.depth) 289 u "mailsieve/syntax.print").run Tryz.prog w=.ok (426,u) w:=by kernel_rfl
theorem aN4(u:Value)(w:World):(Go.method (Tryz.prog.types.size+Made.depth) 293 u "mailsieve/syntax.print").run Tryz.prog w=.ok (429,u) w:=by kernel_rfl
theorem aN5(u:Value)(w:World):(Go.method (Tryz.prog.types.size+Made.depth) 297 u "mailsieve/syntax.print").run Tryz.prog w=.ok (430,u) w:=by kernel_rfl
theorem aN6(u:Value)(w:World):(Go.method (Tryz.prog.types.size+Made.depth) 300 u "mailsieve/syntax.print").run Tryz.prog w=.ok (431,u) w:=by kernel_rfl
theorem aN7(u:Value)(w:World):(Go.method (Tryz.prog.types.size+Made.depth) 308 u "mailsieve/syntax.print").run Tryz.prog w=.ok (432,u) w:=by kernel_rfl
theorem aN8(u:Value)(w:World):(Go.method (Tryz.prog.types.size+Made.depth) 311 u "mailsieve/syntax.print").run Tryz.prog w=.ok (433,u) w:=by kernel_rfl
theorem aN9(u:Value)(w:World):(Go.method (Tryz.prog.types.size+Made.depth) 376 u "mailsieve/syntax.print").run Tryz.prog w=.ok (434,u) w:=by kernel_rfl
theorem aOA(u:Value)(w:World):(Go.method (Tryz.prog.types.size+Made.depth) 380 u "mailsieve/syntax.print").run Tryz.prog w=.ok (435,u) w:=by kernel_rfl
theorem aRO(v:Bool)(K:Hl):Sp Tryz.prog 427 [.bool v] K [] (Val (str (if v=true then nO else lD)) K):=by
 have oM:∀K,Sp Tryz.prog 428 [.bool v] K [] (Val (str (if v=true then nO else lD)) K):=by
  intro K;refine aZ Tryz.func428 rfl Tryz.ntmps428 rfl rfl fun F w=>?_
  refine zz11 ?_;refine d8 3 rfl (fun h3=>?_) (fun h3=>?_)
  ·
   refine zz8 ?_;rw[if_pos h3];exact⟨rfl,rfl,rfl⟩
  ·
   refine zz9 ?_;rw[if_neg (by rw[h3];simp)];exact⟨rfl,rfl,rfl⟩
 refine aZ Tryz.func427 rfl Tryz.ntmps427 rfl rfl fun F w=>?_
 refine zz8 ?_;refine cE rfl rfl (oM _) rfl ?_;refine zz5 ?_;exact⟨rfl,rfl,rfl⟩
theorem aSW(K:Hl)(v:Bool)(d:Nat):PSp K (.iface 289 (.bool v)) (.const v) d:=by
 refine⟨_,_,_,rfl,aN3 _,fun b xs K' le hx=>?_⟩
 simp only[prn]at hx ⊢;refine aZ Tryz.func426 rfl Tryz.ntmps426 rfl rfl fun F w=>?_
 refine zz3 ?_;refine cE rfl rfl (aRO v _) rfl ?_;refine ol_s (a6 (z0:=[(str [])]) bS tz9 rfl rfl rfl rfl (.cons rfl rfl rfl (.cons .nil) .nil)) rfl ?_;rintro _ K _ ⟨b7,rfl,rfl,rfl⟩ -;refine aY rfl rfl (eO b b7 1 d xs [if v=true then nO else lD] _ _ _ rfl rfl (by simp only[List.flatten_cons,List.flatten_nil,List.append_nil];simp only[nO,lD];omega) (by simp)) (.cons .here (.cons .here .nil)) rfl ?_;rintro _ K2 _ ⟨rfl,rfl⟩ le2;refine aF ?_;refine cT rfl le2 ?_;exact⟨_,rfl,rfl,by simp[nO,lD]⟩
theorem aSX(K:Hl)(op:Int)(d:Nat):PSp K (.iface 285 (.agg #[i64 op])) (.plain op) d:=by
 refine⟨_,_,_,rfl,aN2 _,fun b xs K' le hx=>?_⟩
 simp only[prn]at hx ⊢;refine aZ Tryz.func425 rfl Tryz.ntmps425 rfl rfl fun F w=>?_
 refine zz3 ?_;rintro _ K _ ⟨b2,rfl,rfl,rfl⟩ -;refine zz9 ?_;refine bG 6 rfl (fun h6=>?_) (fun h6=>?_)
 ·
  refine zz2 ?_;refine ol_s (a6 (z0:=[(str [])]) bS tz9 rfl rfl rfl rfl (.cons rfl rfl rfl (.cons .nil) .nil)) rfl ?_;rintro _ K _ ⟨b8,rfl,rfl,rfl⟩ -;refine aY rfl rfl (eO b b8 1 d xs [[115,116,111,112,59]] _ _ _ rfl rfl gBV (by simp)) (.cons .here (.cons (.there .here) .nil)) rfl ?_;rintro _ K2 _ ⟨rfl,rfl⟩ le2;refine uAx ?_;refine cT rfl le2 ?_;exact⟨_,rfl,rfl,by rw[if_pos h6];simp⟩
 ·
  refine zz2 ?_;refine ol_s (a6 (z0:=[(str [])]) bS tz9 rfl rfl rfl rfl (.cons rfl rfl rfl (.cons .nil) .nil)) rfl ?_;rintro _ K _ ⟨b11,rfl,rfl,rfl⟩ -;refine aY rfl rfl (eO b b11 1 d xs [[100,105,115,99,97,114,100,59]] _ _ _ rfl rfl gBV (by simp)) (.cons .here (.cons (.there .here) .nil)) rfl ?_;rintro _ K2 _ ⟨rfl,rfl⟩ le2;refine uAx ?_;refine cT rfl le2 ?_;exact⟨_,rfl,rfl,by rw[if_neg h6];simp⟩
theorem aY8(K:Hl)(va:Value)(a:List aJ)(d:Nat)(ha:Ksl (bC 9) K va a)(hx1:∀x∈a,x.length≤1000)(hl1:a.length≤100000):PSp K (.iface 297 (.agg #[va])) (.exi a) d:=by
 refine⟨_,_,_,rfl,aN5 _,fun b xs K' le hx=>?_⟩
 have ha:=ha.mono le;simp only[prn,List.length_append]at hx ⊢;obtain⟨sa,sn,sc,rfl⟩:=ha.isSlice;refine aZ Tryz.func430 rfl Tryz.ntmps430 rfl rfl fun F w=>?_
 refine zz3 ?_;rintro _ K _ ⟨b2,rfl,rfl,rfl⟩ -;refine zz6 ?_;refine aY rfl rfl (wI _ a _ ha hx1 hl1) .nil rfl ?_;rintro _ K1 _ ⟨rfl,rfl⟩ le1;refine ol_s (a6 (z0:=[(str []),(str [])]) bS tz9 rfl rfl rfl rfl (.cons rfl rfl rfl (.cons .nil) (.cons rfl rfl rfl (.skip (.cons .nil)) .nil))) rfl ?_;rintro _ K _ ⟨b8,rfl,rfl,rfl⟩ -;refine aY rfl rfl (eO b b8 2 d xs [[101,120,105,115,116,115,32],lY a] _ _ _ rfl rfl (by simp at hx ⊢;omega) (by simp)) (.cons .here (.cons (.there .here) .nil)) rfl ?_;rintro _ K2 _ ⟨rfl,rfl⟩ le2;refine uAx ?_;refine cT rfl (Hl.le_trans le1 le2) ?_;exact⟨_,rfl,rfl,by simp⟩
theorem aY7(K:Hl)(k:Int)(a:aJ)(p:Int)(d:Nat)(hk:1≤k∧k≤4)(ha:a.length≤1000):PSp K (.iface 282 (.agg #[i64 k,str a,i64 p])) (.act k a p) d:=by
 refine⟨_,_,_,rfl,aN1 _,fun b xs K' le hx=>?_⟩
 have hq:=n4 a;refine aZ Tryz.func424 rfl Tryz.ntmps424 rfl rfl fun F w=>?_
 refine zz3 ?_;rintro _ K _ ⟨b2,rfl,rfl,rfl⟩ -;refine zz2 ?_;refine gG (fun(K2:Hl)=>K.le K2∧k≠1) (fun _=>[(1,ptr b),(2,ptr b2)]) (fun K2=>K2) (fun _=>[pt b2 (aU [i64 k,str a,i64 p] 282),pbl b d (xs++qP k)]) ?_ ?_
 ·
  refine zz13 ?_;refine bG 6 rfl (fun h6=>?_) (fun h6=>?_)
  ·
   refine zz3 ?_;refine ol_s (a6 (z0:=[(str [])]) bS tz9 rfl rfl rfl rfl (.cons rfl rfl rfl (.cons .nil) .nil)) rfl ?_;rintro _ K _ ⟨b9,rfl,rfl,rfl⟩ -;refine aY rfl rfl (eO b b9 1 d xs [[107,101,101,112,59]] _ _ _ rfl rfl gBV (by simp)) (.cons .here (.cons (.there .here) .nil)) rfl ?_;rintro _ K2 _ ⟨rfl,rfl⟩ le2;refine zz5 ?_;refine uAa ?_;refine qR rfl (by first|exact le2|exact Hl.le_trans le2 (Hl.le_trans le3 le4)) ?_;exact⟨_,rfl,rfl,by simp only[prn,if_pos h6];simp⟩
  ·
   refine zz6 ?_;refine bG 11 rfl (fun h11=>?_) (fun h11=>?_)
   ·
    refine zz2 ?_;refine ol_s (a6 (z0:=[(str [])]) bS tz9 rfl rfl rfl rfl (.cons rfl rfl rfl (.cons .nil) .nil)) rfl ?_;rintro _ K _ ⟨b14,rfl,rfl,rfl⟩ -;refine aY rfl rfl (eO b b14 1 d xs [[102,105,108,101,105,110,116,111,32]] _ _ _ rfl rfl gBV (by simp)) (.cons .here (.cons (.there .here) .nil)) rfl ?_;rintro _ K2 _ ⟨rfl,rfl⟩ le2;refine zz2 ?_
    first
     |exact gAT
     |exact gAS
     |exact gAR
     |(exfalso;omega)
   ·
    refine zz6 ?_;refine bG 16 rfl (fun h16=>?_) (fun h16=>?_)
    ·
     refine zz2 ?_;refine ol_s (a6 (z0:=[(str [])]) bS tz9 rfl rfl rfl rfl (.cons rfl rfl rfl (.cons .nil) .nil)) rfl ?_;rintro _ K _ ⟨b19,rfl,rfl,rfl⟩ -;refine aY rfl rfl (eO b b19 1 d xs [[114,101,100,105,114,101,99,116,32]] _ _ _ rfl rfl gBV (by simp)) (.cons .here (.cons (.there .here) .nil)) rfl ?_;rintro _ K2 _ ⟨rfl,rfl⟩ le2;refine zz2 ?_
     first
      |exact gAT
      |exact gAS
      |exact gAR
      |(exfalso;omega)
    ·
     refine zz6 ?_;refine bG 21 rfl (fun h21=>?_) (fun h21=>?_)
     ·
      refine zz2 ?_;refine ol_s (a6 (z0:=[(str [])]) bS tz9 rfl rfl rfl rfl (.cons rfl rfl rfl (.cons .nil) .nil)) rfl ?_;rintro _ K _ ⟨b24,rfl,rfl,rfl⟩ -;refine aY rfl rfl (eO b b24 1 d xs [[114,101,106,101,99,116,32]] _ _ _ rfl rfl gBV (by simp)) (.cons .here (.cons (.there .here) .nil)) rfl ?_;rintro _ K2 _ ⟨rfl,rfl⟩ le2;refine zz2 ?_
      first
       |exact gAT
       |exact gAS
       |exact gAR
       |(exfalso;omega)
     ·
      refine zz2 ?_
      first
       |exact gAT
       |exact gAS
       |exact gAR
       |(exfalso;omega)
 ·
  intro K2 ⟨le2,hk1⟩;refine aB ?_;have han:(qP k).length≤9:=(by unfold qP;split;decide;split;decide;split <;> decide);have hxl:xs.length≤100000000000:=aH;refine zz3 ?_;refine aY rfl rfl (wK a _ aH) .nil rfl ?_;rintro _ K3 _ ⟨rfl,rfl⟩ le3;refine ol_s (a6 (z0:=[(str []),(str [])]) bS tz9 rfl rfl rfl rfl (.cons rfl rfl rfl (.cons .nil) (.cons rfl rfl rfl (.skip (.cons .nil)) .nil))) rfl ?_;rintro _ K _ ⟨b30,rfl,rfl,rfl⟩ -;refine aY rfl rfl (eO b b30 2 d _ [fD a,[59]] _ _ _ rfl rfl (by simp at*;omega) (by simp)) (.cons .here (.cons (.there .here) .nil)) rfl ?_;rintro _ K4 _ ⟨rfl,rfl⟩ le4;refine uAx ?_;refine cT rfl (by first|exact le2|exact Hl.le_trans le2 (Hl.le_trans le3 le4)) ?_;exact⟨_,rfl,rfl,by simp only[prn,if_neg hk1];simp⟩
end Go.Proofs
end
section
attribute [local irreducible] Go.SL.T Go.SL.OL Go.SL.D Go.SL.DL Go.SL.Ev Go.SL.Ef Go.SL.EfS
set_option maxRecDepth 4000
namespace Go.Proofs
open Go Go.SL Go.Syn
def aFU:List aJ:=[[],[111,118,101,114],[117,110,100,101,114]]
theorem aKY{t:Int}(h:t=1∨t=2):aFU[t.toNat]?=some (qC t):=by rcases h with rfl|rfl <;> rfl
def aL9:List aJ:=[[],[32,58,108,111,119,101,114],[32,58,117,112,112,101,114],[32,58,108,101,110,103,116,104]]
theorem aPE{t:Int}(h:0≤t∧t≤3):aL9[t.toNat]?=some (rC t):=by
 have:t=0∨t=1∨t=2∨t=3:=by omega
 rcases this with rfl|rfl|rfl|rfl <;> rfl
def aME:List aJ:=[[],[],[32,58,99,111,110,116,97,105,110,115],[32,58,109,97,116,99,104,101,115]]
theorem aPR{t:Int}(h:1≤t∧t≤3):aME[t.toNat]?=some (tM t):=by
 have:t=1∨t=2∨t=3:=by omega
 rcases this with rfl|rfl|rfl <;> rfl
theorem aZD(K:Hl)(tag n:Int)(d:Nat)(hg:Glob K)(ht:tag=1∨tag=2)(hn:0≤n∧n≤2147483647):PSp K (.iface 300 (.agg #[i64 tag,i64 n])) (.siz tag n) d:=by
 refine⟨_,_,_,rfl,aN6 _,fun b xs K' le hx=>?_⟩
 have hg:=hg.mono le;have hnm:=aKY ht;have hsl:aFU.length=3:=rfl;simp only[prn,List.length_append]at hx ⊢;refine aZ Tryz.func431 rfl Tryz.ntmps431 rfl rfl fun F w=>?_
 refine zz3 ?_;rintro _ K _ ⟨b2,rfl,rfl,rfl⟩ -;refine zz2 ?_;refine t_draw (anc:=[0,0,0,4,14,30,0,64,192,510,1023]) (ord:=[0,2,3,6,7,8,1,4,5,9,10]) [1,9,10] [10] mixed gBO (.cons .here .nil) ?_;refine zz5 ?_;refine rU rfl (.none rfl) rfl rfl rfl rfl (fun K1 le1=>(aCZ n aH aH _ (hg.mono le1))) rfl ?_;refine dl_s rfl rfl (.none rfl) rfl rfl (xC (f:=fun b=>.slice (some ⟨b,0,none⟩) 3 3) (a6 (z0:=[(str []),(str []),(str [])]) bS tz9 rfl rfl rfl rfl (.cons rfl rfl rfl (.cons .nil) (.cons rfl rfl rfl (.skip (.cons .nil)) (.cons rfl rfl rfl (.skip (.skip (.cons .nil))) .nil)))) (fun _ _ _ h=>h)) rfl ?_;rintro _ K5 _ ⟨b5,rfl,hb5,rfl⟩ le5;refine⟨_,(show Tks _ _ _ from (.cons .here .nil)).sat,?_⟩
 refine dl_ev rfl rfl (.none rfl) rfl rfl (bQ (k:=bC 9) (xs:=aFU) (j:=tag.toNat) bS rfl (.known (.inr ⟨b5,0,3,_,_,rfl,⟨_,hb5⟩,rfl⟩)) rfl aH aH) rfl ?_;refine dl_ev rfl rfl (.none rfl) rfl rfl (cV (o:=0) (k:=bC 9) (xs:=aFU) (v:=.slice (some ⟨b5,0,none⟩) 3 3) ts9 rfl (.known (.inr ⟨b5,0,3,_,_,rfl,⟨_,hb5⟩,rfl⟩)) hnm rfl) rfl ?_;refine dl_s rfl rfl (.none rfl) rfl rfl (a6 (z0:=[(str []),(str []),(str []),(str [])]) bS tz9 rfl rfl rfl rfl (.cons rfl rfl rfl (.cons .nil) (.cons rfl rfl rfl (.skip (.cons .nil)) (.cons rfl rfl rfl (.skip (.skip (.cons .nil))) (.cons rfl rfl rfl (.skip (.skip (.skip (.cons .nil)))) .nil))))) rfl ?_;rintro _ K _ ⟨b13,rfl,rfl,rfl⟩ -;refine⟨_,(show Tks _ _ _ from (.cons (.there .here) .nil)).sat,?_⟩
 refine kS rfl (.none rfl) rfl rfl rfl (eO b b13 4 d xs [[115,105,122,101,32,58],qC tag,[32],Lib.itoa n] _ _ _ rfl rfl (by simp at hx ⊢;omega) (by simp)) (.cons (.there .here) (.cons (.there .here) .nil)) rfl ?_;rintro _ K2 _ ⟨rfl,rfl⟩ le2;refine zz1 ?_;refine uAa ?_;refine cT rfl (Hl.le_trans le5 le2) ?_;exact⟨_,rfl,rfl,by simp⟩
theorem aZC(K:Hl)(n v:aJ)(t:Int)(d:Nat)(ht:0≤t∧t≤3)(hn:n.length≤1000)(hv:v.length≤1000):PSp K (.iface 308 (.agg #[str n,str v,i64 t])) (.set_ n v t) d:=by
 refine⟨_,_,_,rfl,aN7 _,fun b xs K' le hx=>?_⟩
 have hnm:=aPE ht;have hsl:aL9.length=4:=rfl;simp only[prn,List.length_append]at hx ⊢;refine aZ Tryz.func432 rfl Tryz.ntmps432 rfl rfl fun F w=>?_
 refine zz3 ?_;rintro _ K _ ⟨b2,rfl,rfl,rfl⟩ -;refine zz2 ?_;refine t_draw (anc:=[0,0,0,4,14,30,0,64,192,0,512,1984,4094,8191]) (ord:=[0,2,3,6,7,8,9,10,11,1,4,5,12,13]) [1,12,13] [13] mixed gBO (.cons .here .nil) ?_;refine zz5 ?_;refine rU rfl (.none rfl) rfl rfl rfl rfl (fun K1 le1=>(aFX (wK n _ aH))) rfl ?_;refine zz2 ?_;refine rU rfl (.none rfl) rfl rfl rfl rfl (fun K1 le1=>(aFX (wK v _ aH))) rfl ?_;refine dl_s rfl rfl (.none rfl) rfl rfl (xC (f:=fun b=>.slice (some ⟨b,0,none⟩) 4 4) (a6 (z0:=[(str []),(str []),(str []),(str [])]) bS tz9 rfl rfl rfl rfl (.cons rfl rfl rfl (.cons .nil) (.cons rfl rfl rfl (.skip (.cons .nil)) (.cons rfl rfl rfl (.skip (.skip (.cons .nil))) (.cons rfl rfl rfl (.skip (.skip (.skip (.cons .nil)))) .nil))))) (fun _ _ _ h=>h)) rfl ?_;rintro _ K5 _ ⟨b5,rfl,hb5,rfl⟩ le5;refine⟨_,(show Tks _ _ _ from (.cons .here .nil)).sat,?_⟩
 refine dl_ev rfl rfl (.none rfl) rfl rfl (bQ (k:=bC 9) (xs:=aL9) (j:=t.toNat) bS rfl (.known (.inr ⟨b5,0,4,_,_,rfl,⟨_,hb5⟩,rfl⟩)) rfl aH aH) rfl ?_;refine dl_ev rfl rfl (.none rfl) rfl rfl (cV (o:=0) (k:=bC 9) (xs:=aL9) (v:=.slice (some ⟨b5,0,none⟩) 4 4) ts9 rfl (.known (.inr ⟨b5,0,4,_,_,rfl,⟨_,hb5⟩,rfl⟩)) hnm rfl) rfl ?_;refine dl_s rfl rfl (.none rfl) rfl rfl (a6 (z0:=[(str []),(str []),(str []),(str []),(str []),(str []),(str [])]) bS tz9 rfl rfl rfl rfl (.cons rfl rfl rfl (.cons .nil) (.cons rfl rfl rfl (.skip (.cons .nil)) (.cons rfl rfl rfl (.skip (.skip (.cons .nil))) (.cons rfl rfl rfl (.skip (.skip (.skip (.cons .nil)))) (.cons rfl rfl rfl (.skip (.skip (.skip (.skip (.cons .nil))))) (.cons rfl rfl rfl (.skip (.skip (.skip (.skip (.skip (.cons .nil)))))) (.cons rfl rfl rfl (.skip (.skip (.skip (.skip (.skip (.skip (.cons .nil))))))) .nil)))))))) rfl ?_;rintro _ K _ ⟨b16,rfl,rfl,rfl⟩ -;refine⟨_,(show Tks _ _ _ from (.cons (.there .here) .nil)).sat,?_⟩
 refine kS rfl (.none rfl) rfl rfl rfl (eO b b16 7 d xs [[115,101,116],rC t,[32],fD n,[32],fD v,[59]] _ _ _ rfl rfl (by simp at hx ⊢;omega) (by simp)) (.cons (.there .here) (.cons (.there .here) .nil)) rfl ?_;rintro _ K2 _ ⟨rfl,rfl⟩ le2;refine zz1 ?_;refine uAa ?_;refine cT rfl (Hl.le_trans le5 le2) ?_;exact⟨_,rfl,rfl,by simp⟩
theorem aY9(K:Hl)(tag:Int)(oct:Bool)(op:Int)(va vb:Value)(a c:List aJ)(d:Nat)(ht:1≤tag∧tag≤3)(hop:op=6∨op=7∨op=8)(ha:Ksl (bC 9) K va a)(hb:Ksl (bC 9) K vb c)(hxa:∀x∈a,x.length≤1000)(hla:a.length≤100000)(hxb:∀x∈c,x.length≤1000)(hlb:c.length≤100000):
  PSp K (.iface 380 (.agg #[i64 tag,.bool oct,i64 op,va,vb])) (.mat tag oct op a c) d:=by
 refine⟨_,_,_,rfl,aOA _,fun b xs K' le hx=>?_⟩
 have ha:=ha.mono le;have hb:=hb.mono le;obtain⟨sa,sn,sc,rfl⟩:=ha.isSlice;obtain⟨ta,tn,tc,rfl⟩:=hb.isSlice;have hnm:=aPR ht;have hsl:aME.length=4:=rfl;simp only[prn,List.length_append]at hx ⊢;have hon:(nL op).length≤8:=(by rcases hop with rfl|rfl|rfl <;> decide);refine aZ Tryz.func435 rfl Tryz.ntmps435 rfl rfl fun F w=>?_
 refine zz3 ?_;rintro _ K _ ⟨b2,rfl,rfl,rfl⟩ -;refine zz5 ?_;refine ol_s aKU rfl ?_;rintro _ K _ ⟨b5,rfl,rfl,rfl⟩ -;refine uBh ?_;refine bR (xS Tryz.underlying535 Tryz.underlying3 rfl rfl rfl ?_ bB) ?_
 ·rfl
 rintro _ K _ ⟨rfl,rfl⟩ -;refine uBh ?_;refine bR (xS Tryz.underlying535 Tryz.underlying3 rfl rfl rfl ?_ bB) ?_
 ·rfl
 rintro _ K _ ⟨rfl,rfl⟩ -;refine uBh ?_;refine bR (xS Tryz.underlying535 Tryz.underlying3 rfl rfl rfl ?_ bB) ?_
 ·rfl
 rintro _ K _ ⟨rfl,rfl⟩ -;refine zz3 ?_;refine aA (lM (v:=.agg #[.int .u8 0,str (nL op),i64 0,i64 0]) (aG2 (k:=op) Tryz.underlying535 Tryz.underlying3 tv202 rfl rfl (.own (.here))) (by rcases hop with rfl|rfl|rfl <;> rfl)) rfl ?_;refine zz1 ?_;refine ol_s (a6 (z0:=[(str [])]) bS tz9 rfl rfl rfl rfl (.cons rfl rfl rfl (.cons .nil) .nil)) rfl ?_;rintro _ K _ ⟨b14,rfl,rfl,rfl⟩ -;refine aY rfl rfl (eO b b14 1 d xs [nL op] _ _ _ rfl rfl gBV (by simp)) (.cons .here (.cons (.there (.there .here)) .nil)) rfl ?_;rintro _ K2 _ ⟨rfl,rfl⟩ le2;refine zz2 ?_;refine gG (fun(K3:Hl)=>K2.le K3) (fun _=>[(1,ptr b),(2,ptr b2)]) (fun K3=>K3) (fun _=>[pt b2 (aU [i64 tag,.bool oct,i64 op,.slice sa sn sc,.slice ta tn tc] 380),pbl b d (xs++nL op++(if oct=true then tG else []))]) ?_ ?_
 ·
  refine zz7 ?_;refine d8 18 rfl (fun h18=>?_) (fun h18=>?_)
  ·
   refine zz2 ?_;refine ol_s (a6 (z0:=[(str [])]) bS tz9 rfl rfl rfl rfl (.cons rfl rfl rfl (.cons .nil) .nil)) rfl ?_;rintro _ K _ ⟨b20,rfl,rfl,rfl⟩ -;refine aY rfl rfl (eO b b20 1 d _ [tG] _ _ _ rfl rfl (by simp only[List.flatten_cons,List.flatten_nil,List.append_nil,List.length_append];simp only[tG,List.length_cons,List.length_nil];omega) (by simp)) (.cons .here (.cons .here .nil)) rfl ?_;rintro _ K3 _ ⟨rfl,rfl⟩ le3;refine aF ?_
   first
    |exact gA5
    |exact gA3
  ·
   refine aW ?_
   first
    |exact gA5
    |exact gA3
 ·
  intro K3 le3;refine t_draw (anc:=[0,0,0,4,12,30,62,0,128,384,0,1024,3968,8190,16383]) (ord:=[0,2,3,4,7,8,9,10,11,12,1,5,6,13,14]) [1,13,14] [14] mixed gBO (.cons .here .nil) ?_;refine zz6 ?_;refine rU rfl (.none rfl) rfl rfl rfl rfl (fun K1 le1=>(aFX (wI _ a _ (ha.mono (Hl.le_trans le2 (Hl.le_trans le3 le1))) hxa hla))) rfl ?_;refine zz2 ?_;refine rU rfl (.none rfl) rfl rfl rfl rfl (fun K1 le1=>(aFX (wI _ c _ (hb.mono (Hl.le_trans le2 (Hl.le_trans le3 le1))) hxb hlb))) rfl ?_;refine dl_s rfl rfl (.none rfl) rfl rfl (xC (f:=fun b=>.slice (some ⟨b,0,none⟩) 4 4) (a6 (z0:=[(str []),(str []),(str []),(str [])]) bS tz9 rfl rfl rfl rfl (.cons rfl rfl rfl (.cons .nil) (.cons rfl rfl rfl (.skip (.cons .nil)) (.cons rfl rfl rfl (.skip (.skip (.cons .nil))) (.cons rfl rfl rfl (.skip (.skip (.skip (.cons .nil)))) .nil))))) (fun _ _ _ h=>h)) rfl ?_;rintro _ K23 _ ⟨b23,rfl,hb23,rfl⟩ le23;refine⟨_,(show Tks _ _ _ from (.cons .here .nil)).sat,?_⟩
  refine dl_ev rfl rfl (.none rfl) rfl rfl (bQ (k:=bC 9) (xs:=aME) (j:=tag.toNat) bS rfl (.known (.inr ⟨b23,0,4,_,_,rfl,⟨_,hb23⟩,rfl⟩)) rfl aH aH) rfl ?_;refine dl_ev rfl rfl (.none rfl) rfl rfl (cV (o:=0) (k:=bC 9) (xs:=aME) (v:=.slice (some ⟨b23,0,none⟩) 4 4) ts9 rfl (.known (.inr ⟨b23,0,4,_,_,rfl,⟨_,hb23⟩,rfl⟩)) hnm rfl) rfl ?_;refine dl_s rfl rfl (.none rfl) rfl rfl (a6 (z0:=[(str []),(str []),(str []),(str []),(str [])]) bS tz9 rfl rfl rfl rfl (.cons rfl rfl rfl (.cons .nil) (.cons rfl rfl rfl (.skip (.cons .nil)) (.cons rfl rfl rfl (.skip (.skip (.cons .nil))) (.cons rfl rfl rfl (.skip (.skip (.skip (.cons .nil)))) (.cons rfl rfl rfl (.skip (.skip (.skip (.skip (.cons .nil))))) .nil)))))) rfl ?_;rintro _ K _ ⟨b35,rfl,rfl,rfl⟩ -;refine⟨_,(show Tks _ _ _ from (.cons (.there .here) .nil)).sat,?_⟩
  refine kS rfl (.none rfl) rfl rfl rfl (eO b b35 5 d _ [tM tag,[32],lY a,[32],lY c] _ _ _ rfl rfl (by simp only[List.flatten_cons,List.flatten_nil,List.append_nil,List.length_append,List.length_cons,List.length_nil]at hx ⊢;omega) (by simp)) (.cons (.there .here) (.cons (.there .here) .nil)) rfl ?_;rintro _ K4 _ ⟨rfl,rfl⟩ le4;refine zz1 ?_;refine uAa ?_;refine cT rfl (Hl.le_trans le2 (Hl.le_trans le3 (Hl.le_trans le23 le4))) ?_;exact⟨_,rfl,rfl,by simp⟩
theorem aZA(K:Hl)(v:Value)(t:Tree)(d:Nat)(hv:PSp K v t d):PSp K (.iface 293 (.agg #[v])) (.not_ t) d:=by
 obtain⟨ty,u,f,rfl,hm,hs⟩:=hv;refine⟨_,_,_,rfl,aN4 _,fun b xs K' le hx=>?_⟩
 simp only[prn,List.length_append,List.length_cons,List.length_nil]at hx ⊢;refine aZ Tryz.func429 rfl Tryz.ntmps429 rfl rfl fun F w=>?_
 refine zz3 ?_;rintro _ K _ ⟨b2,rfl,rfl,rfl⟩ -;refine zz5 ?_;refine ol_s (a6 (z0:=[(str [])]) bS tz9 rfl rfl rfl rfl (.cons rfl rfl rfl (.cons .nil) .nil)) rfl ?_;rintro _ K _ ⟨b5,rfl,rfl,rfl⟩ -;refine aY rfl rfl (eO b b5 1 d xs [[110,111,116,32]] _ _ _ rfl rfl gBV (by simp)) (.cons .here (.cons (.there .here) .nil)) rfl ?_;rintro _ K2 _ ⟨rfl,rfl⟩ le2;refine zz6 ?_;refine lF rfl rfl hm (hs b _ _ (Hl.le_trans le le2) gBV) (.cons .here .nil) rfl ?_;rintro _ K3 _ ⟨rfl,rfl⟩ le3;refine uAx ?_;refine cT rfl (Hl.le_trans le2 le3) ?_;exact⟨_,rfl,rfl,by simp⟩
end Go.Proofs
end
section
namespace Go.Syn
def dpt:Tree→Nat
 | .iff bs=>dpt bs
 | .ccons c l=>max (dpt c) (dpt l)
 | .bcons _ b l=>max (dpt b+1) (dpt l)
 | .belse b l=>max (dpt b+1) (dpt l)
 |_=>0
theorem aPP{m:Nat}{t:Tree}(ht:dpt t≤m):∀ {l:Tree},dpt l≤m→dpt (l.snocC t)≤m:=by
 intro l;induction l with
 |ccons x l ih1 ih2=>intro h;simp only[dpt]at h;have:=ih2 aH;simp only[Tree.snocC,dpt];omega
 |_=>intro _;simp only[Tree.snocC,dpt];omega
theorem aDL{m:Nat}{o:Option Tree}{b:Tree}(hb:dpt b+1≤m):∀ {l:Tree},dpt l≤m→dpt (l.snocB o b)≤m:=by
 intro l;have hm:dpt (mkB o b .bnil)≤m:=by cases o <;> simp only[mkB,dpt] <;> omega
 induction l with
 |bcons x y l ih1 ih2 ih3=>intro h;simp only[dpt]at h;have:=ih3 aH;simp only[Tree.snocB,dpt];omega
 |belse y l ih1 ih2=>intro h;simp only[dpt]at h;have:=ih2 aH;simp only[Tree.snocB,dpt];omega
 |_=>intro _;exact hm
variable{s:aJ}
def DptA(m:Nat)(T:St→Res (Tree×St)):Prop:=∀st r,T st=.ok r→dpt r.1≤m
theorem wZ{m:Nat}{B:St→Res (Tree×St)}(hB:DptA m B):DptA m (lS s B):=by
 intro st r e;unfold lS at e;split at e
 ·cases e
 split at e
 ·cases e
 rename_i b hb;split at e
 ·cases e
 cases e
 exact hB _ b hb
theorem aJZ{m:Nat}{T B:St→Res (Tree×St)}(hB:DptA m B):∀ {f:Nat} {acc:Tree} {st:St} {r:Tree×St},dpt acc≤m+1→eM s T B f acc st=.ok r→dpt r.1≤m+1:=by
 intro f;induction f with
 |zero=>intro acc st r _ e;cases e
 |succ f ih=>
  intro acc st r ha e;simp only[eM]at e;split at e
  ·split at e
   ·cases e
   split at e
   ·cases e
   split at e
   ·cases e
   rename_i b hb;have:=wZ hB _ _ hb;exact ih (aDL aH ha) e
  ·unfold iA at e;split at e
   ·split at e
    ·cases e
    split at e
    ·cases e
    rename_i b hb;have:=wZ hB _ _ hb;cases e
    exact aDL aH ha
   ·cases e;exact ha
theorem aQN{m:Nat}{needs:List aJ}{T B:St→Res (Tree×St)}(hB:DptA m B){st:St}{r:Tree×St}(e:cmdD s needs T B st=some (.ok r)):dpt r.1≤m+1:=by
 have simple:∀ {c:Tree},dpt c=0→iG s c st=.ok r→dpt r.1≤m+1:=by
  intro c hc e;unfold iG at e;split at e
  ·cases e
  split at e
  ·cases e
  cases e
  show dpt c≤_
  omega
 have acting:∀ {k:Int} {x:aJ} {p:Int},actC s needs k x p st=.ok r→dpt r.1≤m+1:=by
  intro k x p e;unfold actC at e;split at e
  ·cases e
  split at e
  ·cases e
  split at e
  ·cases e
  split at e
  ·cases e
  cases e
  exact Nat.zero_le _
 unfold cmdD at e;simp only[]at e;split at e
 ·exact simple rfl gBS
 split at e
 ·exact simple rfl gBS
 split at e
 ·exact simple rfl gBS
 split at e
 ·exact acting gBS
 split at e
 ·exact acting gBS
 split at e
 ·exact acting gBS
 split at e
 ·have e:qB s needs st=.ok r:=by simpa using e
  unfold qB at e;split at e
  ·cases e
  ·cases e;exact Nat.zero_le _
 split at e
 ·have e:ifC s T B st=.ok r:=by simpa using e
  unfold ifC at e;split at e
  ·cases e
  split at e
  ·cases e
  split at e
  ·cases e
  rename_i b hb;have:=wZ hB _ _ hb;exact aJZ hB (by simp only[dpt];omega) e
 ·cases e
theorem aJN{m:Nat}{C:St→Option (Res (Tree×St))}(hC:∀ {st r},C st=some (.ok r)→dpt r.1≤m):∀ {f:Nat} {acc:Tree} {st:St} {r:Tree×St},dpt acc≤m→gW s C f acc st=.ok r→dpt r.1≤m:=by
 intro f;induction f with
 |zero=>intro acc st r _ e;cases e
 |succ f ih=>
  intro acc st r ha e;simp only[gW]at e;split at e
  ·split at e
   ·cases e
   ·cases e
   rename_i c hc;exact ih (aPP (hC hc) ha) e
  ·cases e;exact ha
theorem aCK{needs:List aJ}:∀n,DptA n (block s needs n)
 |0=>by intro st r e;simp only[block]at e;split at e <;> cases e;exact Nat.zero_le _
 |n+1=>by
  intro st r e;simp only[block]at e;exact aJN (fun h=>aQN (aCK n) h) (Nat.zero_le _) e
theorem aOP{r:List aJ×Tree}(h:eE s=.ok r):dpt r.2≤7:=by
 unfold eE at h;split at h
 ·cases h
 unfold f9 at h;split at h
 ·cases h
 split at h
 ·cases h
 rename_i b hb;split at h
 ·cases h;exact aCK 7 _ _ hb
 ·cases h
end Go.Syn
end
section
attribute [local irreducible] Go.SL.T Go.SL.OL Go.SL.D Go.SL.DL Go.SL.Ev Go.SL.Ef Go.SL.EfS
set_option maxRecDepth 4000
namespace Go.Proofs
open Go Go.SL Go.Syn
theorem PSp.mono{K K':Hl}{v:Value}{t:Tree}{d:Nat}(h:PSp K v t d)(le:K.le K'):PSp K' v t d:=let ⟨ty,u,f,h1,h2,h3⟩:=h;⟨ty,u,f,h1,h2,fun b xs K2 le2=>h3 b xs K2 (Hl.le_trans le le2)⟩
def BdS(K:Hl)(sv:Value)(t:Tree)(d:Nat):Prop:=∀(b:Nat) (xs:aJ) (K':Hl),K.le K'→xs.length+(prn t d true).length≤100000000000→Sp Tryz.prog 62 [ptr b,sv] K' [pbl b d xs] (Ret fun q K'' L'=>q=.tuple #[]∧L'=[pbl b d (xs++prn t d true)])
def PrA(K:Hl):Tree→Nat→List (Cell×Cell)→Prop
 | .tnil,_,us=>us=[]
 | .tcons t l,d,us=>∃v xs,us=(v,u0)::xs∧PSp K v.1 t d∧PrA K l d xs
 | .cnil,_,us=>us=[]
 | .ccons t l,d,us=>∃v xs,us=(v,u0)::xs∧PSp K v.1 t d∧PrA K l d xs
 | .bnil,_,us=>us=[]
 | .bcons t b l,d,us=>∃v sv xs,us=(v,sv)::xs∧(PSp K v.1 t d)∧BdS K sv.1 b (d+1)∧PrA K l d xs
 | .belse b l,d,us=>∃sv xs,us=(⟨.nilIface,rfl⟩,sv)::xs∧BdS K sv.1 b (d+1)∧PrA K l d xs
 |t,d,us=>∃v,us=[(v,u0)]∧PSp K v.1 t d
theorem BdS.mono{K K':Hl}{v:Value}{t:Tree}{d:Nat}(h:BdS K v t d)(le:K.le K'):BdS K' v t d:=fun b xs K2 le2=>h b xs K2 (Hl.le_trans le le2)
theorem PrA.mono{K K':Hl}(le:K.le K'):∀ {t:Tree} {d:Nat} {us:List (Cell×Cell)},PrA K t d us→PrA K' t d us:=by
 intro t;induction t with
 |tcons t l ih1 ih2=>rintro d us ⟨v,xs,e,h1,h2⟩;exact⟨v,xs,e,h1.mono le,ih2 h2⟩
 |ccons t l ih1 ih2=>rintro d us ⟨v,xs,e,h1,h2⟩;exact⟨v,xs,e,h1.mono le,ih2 h2⟩
 |bcons t b l ih1 ih2 ih3=>rintro d us ⟨v,sv,xs,e,h1,h2,h3⟩;exact⟨v,sv,xs,e,h1.mono le,h2.mono le,ih3 h3⟩
 |belse b l ih1 ih2=>rintro d us ⟨sv,xs,e,h2,h3⟩;exact⟨sv,xs,e,h2.mono le,ih2 h3⟩
 |tnil=>intro d us h;exact h
 |cnil=>intro d us h;exact h
 |bnil=>intro d us h;exact h
 |_=>rintro d us ⟨v,e,h1⟩;exact⟨v,e,h1.mono le⟩
def sepB(i:Nat):aJ:=if isz i=true then []else [44,32]
theorem bAS{K:Hl}{rest:Tree}{d i:Nat}{us:List (Cell×Cell)}(hw:wf rest 1=true)(h:PrA K rest d (us.drop i))(hi:i < us.length):∃t l v,rest=.tcons t l∧(us.map (·.1))[i]?=some v∧PSp K v.1 t d∧PrA K l d (us.drop (i+1))∧wf l 1=true∧
  prn rest d (isz i)=sepB i++prn t d true++prn l d false:=by
 have hd:us.drop i=us[i]::us.drop (i+1):=List.drop_eq_getElem_cons hi;cases rest <;> simp only[wf]at hw <;> try (simp at hw;done)
 case tnil=>rw[hd]at h;cases h
 case tcons t l=>
  obtain⟨v,xs,e,h1,h2⟩:=h;rw[hd]at e
  injection e with e1 e2
  subst e2;simp at hw;refine⟨t,l,v,rfl,by simp[List.getElem?_eq_getElem hi,e1],h1,h2,hw.2,?_⟩
  simp only[prn,sepB]
theorem aS0{K:Hl}{rest:Tree}{d i:Nat}{us:List (Cell×Cell)}(hw:wf rest 1=true)(h:PrA K rest d (us.drop i))(hi:us.length≤i)(f:Bool):prn rest d f=[]:=by
 rw[List.drop_of_length_le hi]at h;cases rest <;> simp only[wf]at hw <;> try (simp at hw;done)
 case tnil=>rfl
 case tcons t l=>obtain⟨v,xs,e,_⟩:=h;cases e
theorem aVZ(K:Hl)(all:Bool)(l:Tree)(xs0:List (Cell×Cell))(sv:Value)(d:Nat)(hp:PrA K l d xs0)(hw:wf l 1=true)(hs:Ksl (dY 288) K sv (xs0.map (·.1)))(hxl:xs0.length≤1000000):PSp K (.iface 376 (.agg #[.bool all,sv])) (.many all l) d:=by
 refine⟨_,_,_,rfl,aN9 _,fun b xs K' le hx=>?_⟩
 have hs:=hs.mono le;have hp:=hp.mono le;obtain⟨sa,sn,sc,rfl⟩:=hs.isSlice;have hml:(xs0.map (·.1)).length=xs0.length:=List.length_map ..;simp only[prn,List.length_append,List.length_cons,List.length_nil]at hx ⊢;have hh:(if all=true then [97,108,108,111,102,32,40]else [97,110,121,111,102,32,40]:aJ).length=7:=by split <;> rfl
 refine aZ Tryz.func434 rfl Tryz.ntmps434 rfl rfl fun F w=>?_
 refine zz3 ?_;rintro _ K _ ⟨b2,rfl,rfl,rfl⟩ -;refine zz2 ?_;refine gG (fun(K3:Hl)=>K.le K3) (fun _=>[(1,ptr b),(2,ptr b2)]) (fun K3=>K3) (fun _=>[pt b2 (aU [.bool all,.slice sa sn sc] 376),pbl b d (xs++(if all=true then [97,108,108,111,102,32,40]else [97,110,121,111,102,32,40]))]) ?_ ?_
 ·
  refine zz6 ?_;refine d8 7 rfl (fun h7=>?_) (fun h7=>?_)
  ·
   refine zz2 ?_;refine ol_s (a6 (z0:=[(str [])]) bS tz9 rfl rfl rfl rfl (.cons rfl rfl rfl (.cons .nil) .nil)) rfl ?_;rintro _ K _ ⟨b9,rfl,rfl,rfl⟩ -;refine aY rfl rfl (eO b b9 1 d _ [[97,108,108,111,102,32,40]] _ _ _ rfl rfl gBV (by simp)) (.cons .here (.cons (.there .here) .nil)) rfl ?_;rintro _ K2 _ ⟨rfl,rfl⟩ le2;refine aF ?_;refine uAl ?_
   first
    |exact bU _ le2 (.cons 1 rfl (.cons 2 rfl .nil)) rfl gCS
    |exact bU _ le2 (.cons 1 rfl (.cons 2 rfl .nil)) rfl gCQ
  ·
   refine zz2 ?_;refine ol_s (a6 (z0:=[(str [])]) bS tz9 rfl rfl rfl rfl (.cons rfl rfl rfl (.cons .nil) .nil)) rfl ?_;rintro _ K _ ⟨b12,rfl,rfl,rfl⟩ -;refine aY rfl rfl (eO b b12 1 d _ [[97,110,121,111,102,32,40]] _ _ _ rfl rfl gBV (by simp)) (.cons .here (.cons (.there .here) .nil)) rfl ?_;rintro _ K2 _ ⟨rfl,rfl⟩ le2;refine aF ?_;refine uAl ?_
   first
    |exact bU _ le2 (.cons 1 rfl (.cons 2 rfl .nil)) rfl gCS
    |exact bU _ le2 (.cons 1 rfl (.cons 2 rfl .nil)) rfl gCQ
 ·
  intro K3 le3;have hs:=hs.mono le3;have hp:=hp.mono le3;refine zz5 ?_;refine aA (bX (k:=dY 288) rfl Tryz.underlying374 rfl (.known hs)) rfl ?_;refine zz4 ?_;refine rE (fun(K4:Hl) (i:Nat) (rest:Tree) (acc:aJ)=>K3.le K4∧i≤xs0.length∧(wf rest 1=true∧PrA K4 rest d (xs0.drop i))∧acc++prn rest d (isz i)=xs++(if all=true then [97,108,108,111,102,32,40]else [97,110,121,111,102,32,40])++prn l d true) (fun _ i _ _=>[(1,ptr b),(2,ptr b2),(15,.slice sa sn sc),(16,i64 (xs0.map (·.1)).length),(17,i64 i)]) (fun K4 _ _ _=>K4) (fun _ _ _ acc=>[pt b2 (aU [.bool all,.slice sa sn sc] 376),pbl b d acc]) (fun _ i _ _=>xs0.length - i) _ 0 l _ ⟨Hl.le_refl _,Nat.zero_le _,⟨hw,hp⟩,rfl⟩ (.cons 1 rfl (.cons 2 rfl (.cons 15 rfl (.cons 16 rfl (.cons 17 rfl .nil))))) rfl (fun _ h=>h) ?_;intro K4 i rest acc ⟨le4,hi,⟨hwr,hpr⟩,htx⟩;have hs4:=hs.mono le4;refine zz6 ?_;refine bG 18 rfl (fun h18=>?_) (fun h18=>?_)
  ·
   have hlt:i < xs0.length:=aH;obtain⟨t2,l2,v2,rfl,hv2,⟨ty2,u2,f2,hve,hm2,hps⟩,hpl,hwl,hpn⟩:=bAS hwr hpr hlt;have htl:=congrArg List.length htx;rw[hpn]at htl;simp only[List.length_append,hh]at htl;refine zz7 ?_;refine aA (bQ (k:=dY 288) (j:=i) pK rfl (.known hs4) rfl rfl aH) rfl ?_;refine aA (lM (v:=.iface ty2 u2) (cV (o:=0) (k:=dY 288) sW rfl (.known hs4) hv2 rfl) hve) rfl ?_;refine zz4 ?_;refine gG (fun(K5:Hl)=>K4.le K5) (fun _=>[(1,ptr b),(2,ptr b2),(5,.iface ty2 u2),(15,.slice sa sn sc),(16,i64 (xs0.map (·.1)).length),(17,i64 i)]) (fun K5=>K5) (fun _=>[pt b2 (aU [.bool all,.slice sa sn sc] 376),pbl b d (acc++sepB i)]) ?_ ?_
   ·
    refine zz6 ?_;refine bG 23 rfl (fun h23=>?_) (fun h23=>?_)
    ·
     refine zz2 ?_;refine ol_s (a6 (z0:=[(str [])]) bS tz9 rfl rfl rfl rfl (.cons rfl rfl rfl (.cons .nil) .nil)) rfl ?_;rintro _ K _ ⟨b25,rfl,rfl,rfl⟩ -;refine aY rfl rfl (eO b b25 1 d _ [[44,32]] _ _ _ rfl rfl gBV (by simp)) (.cons .here (.cons (.there .here) .nil)) rfl ?_;rintro _ K25 _ ⟨rfl,rfl⟩ le25;refine aF ?_
     first
      |exact gAZ
      |exact bU _ (Hl.le_refl _) (.cons 1 rfl (.cons 2 rfl (.cons 5 rfl (.cons 15 rfl (.cons 16 rfl (.cons 17 rfl .nil)))))) rfl gCX
    ·
     refine aW ?_
     first
      |exact gAZ
      |exact bU _ (Hl.le_refl _) (.cons 1 rfl (.cons 2 rfl (.cons 5 rfl (.cons 15 rfl (.cons 16 rfl (.cons 17 rfl .nil)))))) rfl gCX
   ·
    intro K5 le5;refine zz3 ?_;refine lF rfl rfl hm2 (hps b _ _ le5 gCE) (.cons (.there .here) .nil) rfl ?_;rintro _ K6 _ ⟨rfl,rfl⟩ le6;refine zz7 ?_;refine uAl ?_;exact oE _ (i+1) l2 _ ⟨Hl.le_trans le4 (Hl.le_trans le5 le6),by omega,⟨hwl,hpl.mono (Hl.le_trans le5 le6)⟩,by rw[←htx,hpn];simp only[List.append_assoc];rfl⟩ aH (.cons 1 rfl (.cons 2 rfl (.cons 15 rfl (.cons 16 rfl (.cons 17 rfl .nil))))) rfl (fun _ h=>h)
  ·
   have hie:i=xs0.length:=aH;subst hie;rw[aS0 hwr hpr (Nat.le_refl _),List.append_nil]at htx;subst htx;refine zz7 ?_;refine ol_s (a6 (z0:=[(str [])]) bS tz9 rfl rfl rfl rfl (.cons rfl rfl rfl (.cons .nil) .nil)) rfl ?_;rintro _ K _ ⟨b32,rfl,rfl,rfl⟩ -;refine aY rfl rfl (eO b b32 1 d _ [[41]] _ _ _ rfl rfl (by simp only[List.length_append,hh,List.flatten_cons,List.flatten_nil,List.append_nil,List.length_cons,List.length_nil];omega) (by simp)) (.cons .here (.cons (.there .here) .nil)) rfl ?_;rintro _ K7 _ ⟨rfl,rfl⟩ le7;refine uAx ?_;refine cT rfl (Hl.le_trans le3 (Hl.le_trans le4 le7)) ?_;exact⟨_,rfl,rfl,by simp[List.append_assoc]⟩
theorem bAR{K:Hl}{rest:Tree}{d i:Nat}{us:List (Cell×Cell)}(hw:wf rest 3=true)(h:PrA K rest d (us.drop i))(hi:i < us.length):∃t l v,rest=.ccons t l∧(us.map (·.1))[i]?=some v∧PSp K v.1 t d∧PrA K l d (us.drop (i+1))∧wf l 3=true:=by
 have hd:us.drop i=us[i]::us.drop (i+1):=List.drop_eq_getElem_cons hi;cases rest <;> simp only[wf]at hw <;> try (simp at hw;done)
 case cnil=>rw[hd]at h;cases h
 case ccons t l=>
  obtain⟨v,xs,e,h1,h2⟩:=h;rw[hd]at e
  injection e with e1 e2
  subst e2;simp at hw;exact⟨t,l,v,rfl,by simp[List.getElem?_eq_getElem hi,e1],h1,h2,hw.2⟩
theorem aSZ{K:Hl}{rest:Tree}{d i:Nat}{us:List (Cell×Cell)}(hw:wf rest 3=true)(h:PrA K rest d (us.drop i))(hi:us.length≤i):prn rest d true=[]:=by
 rw[List.drop_of_length_le hi]at h;cases rest <;> simp only[wf]at hw <;> try (simp at hw;done)
 case cnil=>rfl
 case ccons t l=>obtain⟨v,xs,e,_⟩:=h;cases e
theorem wH(b:Nat)(dp:Int)(q:Bool)(v:Value)(xs:aJ){L:List Asn}:∀h,Sat (aH3 b dp q v::sl true (elB 5) v xs::L) h→Sat (pbl b dp xs::L) h:=fun h hh=>lB.2 ⟨v,lB.2 ⟨q,hh⟩⟩
theorem aFL(K:Hl)(l:Tree)(xs0:List (Cell×Cell))(sv:Value)(d:Nat)(hp:PrA K l d xs0)(hw:wf l 3=true)(hs:Ksl (dY 224) K sv (xs0.map (·.1)))(hxl:xs0.length≤1000000)(hd:d≤64):BdS K sv l d:=by
 intro b xs K' le hx;have hs:=hs.mono le;have hp:=hp.mono le;have hml:(xs0.map (·.1)).length=xs0.length:=List.length_map ..;refine aZ Tryz.func62 rfl Tryz.ntmps62 rfl rfl fun F w=>?_
 refine zz3 ?_;refine aA (bX (k:=dY 224) rfl Tryz.underlying135 rfl (.known hs)) rfl ?_;refine zz4 ?_;refine rE (fun(K4:Hl) (i:Nat) (rest:Tree) (acc:aJ)=>K'.le K4∧i≤xs0.length∧(wf rest 3=true∧PrA K4 rest d (xs0.drop i))∧acc++prn rest d true=xs++prn l d true) (fun _ i _ _=>[(0,ptr b),(6,sv),(7,i64 (xs0.map (·.1)).length),(8,i64 i)]) (fun K4 _ _ _=>K4) (fun _ _ _ acc=>[pbl b d acc]) (fun _ i _ _=>xs0.length - i) _ 0 l _ ⟨Hl.le_refl _,Nat.zero_le _,⟨hw,hp⟩,rfl⟩ (.cons 0 rfl (.cons 6 rfl (.cons 7 rfl (.cons 8 rfl .nil)))) rfl (fun _ h=>h) ?_;intro K4 i rest acc ⟨le4,hi,⟨hwr,hpr⟩,htx⟩;have hs4:=hs.mono le4;refine zz6 ?_;refine bG 9 rfl (fun h9=>?_) (fun h9=>?_)
 ·
  have hlt:i < xs0.length:=aH;obtain⟨t2,l2,v2,rfl,hv2,⟨ty2,u2,f2,hve,hm2,hps⟩,hpl,hwl⟩:=bAR hwr hpr hlt;have htl:=congrArg List.length htx;simp only[prn,List.length_append,List.length_cons,List.length_nil]at htl;refine zz6 ?_;refine aA (bQ (k:=dY 224) (j:=i) sV rfl (.known hs4) rfl rfl aH) rfl ?_;refine aA (lM (v:=.iface ty2 u2) (cV (o:=0) (k:=dY 224) aXY rfl (.known hs4) hv2 rfl) hve) rfl ?_;refine zz4 ?_;refine t_ex fun vb=>t_ex fun qb=>?_
  refine zz6 ?_;refine cE rfl rfl (aDG d hd _) rfl ?_;refine jY (wH b d qb vb acc) ?_;refine ol_s (a6 (z0:=[(str [])]) bS tz9 rfl rfl rfl rfl (.cons rfl rfl rfl (.cons .nil) .nil)) rfl ?_;rintro _ K _ ⟨b18,rfl,rfl,rfl⟩ -;refine aY rfl rfl (eO b b18 1 d _ [indC d] _ _ _ rfl rfl (by simp only[List.flatten_cons,List.flatten_nil,List.append_nil];omega) (by simp)) (.cons .here (.cons .here .nil)) rfl ?_;rintro _ K5 _ ⟨rfl,rfl⟩ le5;refine zz6 ?_;refine lF rfl rfl hm2 (hps b _ _ le5 (by simp only[List.length_append,List.flatten_cons,List.flatten_nil,List.append_nil];omega)) (.cons .here .nil) rfl ?_;rintro _ K6 _ ⟨rfl,rfl⟩ le6;refine zz4 ?_;refine ol_s (a6 (z0:=[(str [])]) bS tz9 rfl rfl rfl rfl (.cons rfl rfl rfl (.cons .nil) .nil)) rfl ?_;rintro _ K _ ⟨b24,rfl,rfl,rfl⟩ -;refine aY rfl rfl (eO b b24 1 d _ [[10]] _ _ _ rfl rfl (by simp only[List.length_append,List.flatten_cons,List.flatten_nil,List.append_nil,List.length_cons,List.length_nil];omega) (by simp)) (.cons .here (.cons .here .nil)) rfl ?_;rintro _ K7 _ ⟨rfl,rfl⟩ le7;refine zz7 ?_;refine uAa ?_;exact oE _ (i+1) l2 _ ⟨Hl.le_trans le4 (Hl.le_trans le5 (Hl.le_trans le6 le7)),by omega,⟨hwl,hpl.mono (Hl.le_trans le5 (Hl.le_trans le6 le7))⟩,by rw[←htx];simp only[prn,List.append_assoc,List.flatten_cons,List.flatten_nil,List.append_nil]⟩ aH (.cons 0 rfl (.cons 6 rfl (.cons 7 rfl (.cons 8 rfl .nil)))) rfl (fun _ h=>h)
 ·
  have hie:i=xs0.length:=aH;subst hie;rw[aSZ hwr hpr (Nat.le_refl _),List.append_nil]at htx;subst htx;refine zz4 ?_;refine cT rfl le4 ?_;exact⟨_,rfl,rfl,rfl⟩
def r8(o:Option Tree)(d i:Nat):aJ:=match o with
 |some t=>(if isz i=true then [105,102,32]else [32,101,108,115,105,102,32])++prn t d true
 |none=>[32,101,108,115,101]
theorem bAQ{K:Hl}{rest:Tree}{d i:Nat}{us:List (Cell×Cell)}(hw:wf rest 4=true)(h:PrA K rest d (us.drop i))(hi:i < us.length):∃o bt l x,us[i]?=some x∧(match o with|some t=>PSp K x.1.1 t d|none=>x.1.1=.nilIface)∧BdS K x.2.1 bt (d+1)∧PrA K l d (us.drop (i+1))∧wf l 4=true∧
  prn rest d (isz i)=r8 o d i++[32,123,10]++prn bt (d+1) true++(indC d++[125])++prn l d false:=by
 have hd:us.drop i=us[i]::us.drop (i+1):=List.drop_eq_getElem_cons hi;cases rest <;> simp only[wf]at hw <;> try (simp at hw;done)
 case bnil=>rw[hd]at h;cases h
 case bcons t b l=>
  obtain⟨v,sv,xs,e,h1,h2,h3⟩:=h;rw[hd]at e
  injection e with e1 e2
  subst e2;simp at hw;exact⟨some t,b,l,_,List.getElem?_eq_getElem hi,by rw[e1];exact h1,by rw[e1];exact h2,h3,hw.2.2,by simp only[prn,r8]⟩
 case belse b l=>
  obtain⟨sv,xs,e,h2,h3⟩:=h;rw[hd]at e
  injection e with e1 e2
  subst e2;simp at hw;exact⟨none,b,l,_,List.getElem?_eq_getElem hi,by rw[e1],by rw[e1];exact h2,h3,hw.2,by simp only[prn,r8]⟩
theorem aSY{K:Hl}{rest:Tree}{d i:Nat}{us:List (Cell×Cell)}(hw:wf rest 4=true)(h:PrA K rest d (us.drop i))(hi:us.length≤i)(f:Bool):prn rest d f=[]:=by
 rw[List.drop_of_length_le hi]at h;cases rest <;> simp only[wf]at hw <;> try (simp at hw;done)
 case bnil=>rfl
 case bcons t b l=>obtain⟨v,sv,xs,e,_⟩:=h;cases e
 case belse b l=>obtain⟨sv,xs,e,_⟩:=h;cases e
end Go.Proofs
end
section
attribute [local irreducible] Go.SL.T Go.SL.OL Go.SL.D Go.SL.DL Go.SL.Ev Go.SL.Ef Go.SL.EfS
set_option maxRecDepth 4000
namespace Go.Proofs
open Go Go.SL Go.Syn
theorem bAP(K:Hl)(bs:Tree)(xs0:List (Cell×Cell))(sv:Value)(d:Nat)(hp:PrA K bs d xs0)(hw:wf bs 4=true)(hs:Ksl (gI 371) K sv xs0)(hxl:xs0.length≤1000000)(hd:d≤64):PSp K (.iface 311 (.agg #[sv])) (.iff bs) d:=by
 refine⟨_,_,_,rfl,aN8 _,fun b xs K' le hx=>?_⟩
 have hs:=hs.mono le;have hp:=hp.mono le;obtain⟨sa,sn,sc,rfl⟩:=hs.isSlice;simp only[prn]at hx ⊢;refine aZ Tryz.func433 rfl Tryz.ntmps433 rfl rfl fun F w=>?_
 refine zz3 ?_;rintro _ K _ ⟨b2,rfl,rfl,rfl⟩ -;refine zz6 ?_;refine aA (bX (k:=gI 371) rfl Tryz.underlying309 rfl (.known hs)) rfl ?_;refine zz4 ?_;refine aIW (.cons (.there .here) .nil) ?_;refine rE (fun(K4:Hl) (i:Nat) (rest:Tree) (acc:aJ)=>K.le K4∧i≤xs0.length∧(wf rest 4=true∧PrA K4 rest d (xs0.drop i))∧acc++prn rest d (isz i)=xs++prn bs d true) (fun _ i _ _=>[(1,ptr b),(7,.slice sa sn sc),(8,i64 xs0.length),(9,i64 i)]) (fun K4 _ _ _=>K4) (fun _ _ _ acc=>[pbl b d acc]) (fun _ i _ _=>xs0.length - i) _ 0 bs _ ⟨Hl.le_refl _,Nat.zero_le _,⟨hw,hp⟩,rfl⟩ (.cons 1 rfl (.cons 7 rfl (.cons 8 rfl (.cons 9 rfl .nil)))) rfl (fun _ h=>h) ?_;intro K4 i rest acc ⟨le4,hi,⟨hwr,hpr⟩,htx⟩;have hs4:=hs.mono le4;refine zz6 ?_;refine bG 10 rfl (fun h10=>?_) (fun h10=>?_)
 ·
  have hlt:i < xs0.length:=aH;obtain⟨o2,b2,l2,x2,hx2,ho2,hbd,hpl,hwl,hpn⟩:=bAQ hwr hpr hlt;have htl:=congrArg List.length htx;rw[hpn]at htl;simp only[List.length_append,List.length_cons,List.length_nil]at htl;obtain⟨⟨c0,hc0⟩,⟨s0,hs0⟩⟩:=x2;simp only at ho2 hbd;refine zz7 ?_;refine aA (bQ (k:=gI 371) (j:=i) pJ rfl (.known hs4) rfl rfl aH) rfl ?_;refine aA (fF (n:=0) (k:=gI 371) tL rfl (.known hs4) hx2) rfl ?_;refine zz1 ?_;rintro _ K _ ⟨b5,rfl,rfl,rfl⟩ -;refine zz1 ?_;refine bR (cM tL rfl rfl rfl bB gBK (.cons (.cons .nil)) gBU) ?_;rintro _ K _ ⟨rfl,rfl⟩ -;refine zz2 ?_;refine gG (fun(K5:Hl)=>K.le K5) (fun _=>[(1,ptr b),(5,ptr b5),(7,.slice sa sn sc),(8,i64 xs0.length),(9,i64 i)]) (fun K5=>K5) (fun _=>[pt b5 (aU [c0,s0] 371),pbl b d (acc++r8 o2 d i)]) ?_ ?_
  ·
   refine bD ?_;rcases o2 with _|t2
   ·
    have ho2:c0=.nilIface:=ho2;subst ho2;refine zz11 ?_;refine ol_s (a6 (z0:=[(str [])]) bS tz9 rfl rfl rfl rfl (.cons rfl rfl rfl (.cons .nil) .nil)) rfl ?_;rintro _ K _ ⟨b26,rfl,rfl,rfl⟩ -;refine aY rfl rfl (eO b b26 1 d _ [[32,101,108,115,101]] _ _ _ rfl rfl gBV (by simp)) (.cons .here (.cons (.there .here) .nil)) rfl ?_;rintro _ K15 _ ⟨rfl,rfl⟩ le15;refine zz2 ?_
    first
     |exact gAX
     |exact gAN
   ·
    obtain⟨ty2,u2,f2,rfl,hm2,hps⟩:=ho2;simp only[r8,List.length_append]at htl;refine zz16 ?_;refine bG 28 rfl (fun h28=>?_) (fun h28=>?_)
    ·
     have hzi:isz i=false:=(by obtain⟨j,rfl⟩:∃j,i=j+1:=⟨i - 1,by omega⟩;rfl);rw[hzi]at htl;refine zz3 ?_;refine ol_s (a6 (z0:=[(str [])]) bS tz9 rfl rfl rfl rfl (.cons rfl rfl rfl (.cons .nil) .nil)) rfl ?_;rintro _ K _ ⟨b32,rfl,rfl,rfl⟩ -;refine aY rfl rfl (eO b b32 1 d _ [[32,101,108,115,105,102,32]] _ _ _ rfl rfl gBV (by simp)) (.cons .here (.cons (.there .here) .nil)) rfl ?_;rintro _ K15 _ ⟨rfl,rfl⟩ le15;refine zz6 ?_;refine lF rfl rfl hm2 (hps b _ _ le15 (by simp at htl ⊢;omega)) (.cons .here .nil) rfl ?_;rintro _ K16 _ ⟨rfl,rfl⟩ le16;refine zz2 ?_
     first
      |exact gAX
      |exact gAN
    ·
     have hzi:isz i=true:=(by rw[show i=0 by omega];rfl);rw[hzi]at htl;refine zz3 ?_;refine ol_s (a6 (z0:=[(str [])]) bS tz9 rfl rfl rfl rfl (.cons rfl rfl rfl (.cons .nil) .nil)) rfl ?_;rintro _ K _ ⟨b15,rfl,rfl,rfl⟩ -;refine aY rfl rfl (eO b b15 1 d _ [[105,102,32]] _ _ _ rfl rfl gBV (by simp)) (.cons .here (.cons (.there .here) .nil)) rfl ?_;rintro _ K15 _ ⟨rfl,rfl⟩ le15;refine zz6 ?_;refine lF rfl rfl hm2 (hps b _ _ le15 (by simp at htl ⊢;omega)) (.cons .here .nil) rfl ?_;rintro _ K16 _ ⟨rfl,rfl⟩ le16;refine zz2 ?_
     first
      |exact gAX
      |exact gAN
  ·
   intro K5 le5;refine zz3 ?_;refine ol_s (a6 (z0:=[(str [])]) bS tz9 rfl rfl rfl rfl (.cons rfl rfl rfl (.cons .nil) .nil)) rfl ?_;rintro _ K _ ⟨b39,rfl,rfl,rfl⟩ -;refine aY rfl rfl (eO b b39 1 d _ [[32,123,10]] _ _ _ rfl rfl gBV (by simp)) (.cons .here (.cons (.there .here) .nil)) rfl ?_;rintro _ K6 _ ⟨rfl,rfl⟩ le6;refine zz3 ?_;refine t_ex fun vb=>t_ex fun qb=>?_
   refine zz8 ?_;refine bR (bL ts3 rfl rfl cK bB (.succ (.succ .zero)) rfl) ?_;rintro _ K _ ⟨rfl,rfl⟩ -;refine zz7 ?_;refine jY (wH b (d+1:Nat) qb vb _) ?_;refine aY rfl rfl (hbd b _ _ (Hl.le_trans le5 le6) gBV) (.cons .here .nil) rfl ?_;rintro _ K7 _ ⟨rfl,rfl⟩ le7;refine zz3 ?_;refine t_ex fun vc=>t_ex fun qc=>?_
   refine zz5 ?_;refine aA (lM (v:=i64 d) (jR rfl rfl aH aH) (by congr 1;omega)) rfl ?_;refine zz2 ?_;refine bR (bL ts3 rfl rfl cK bB (.succ (.succ .zero)) rfl) ?_;rintro _ K _ ⟨rfl,rfl⟩ -;refine zz2 ?_;refine t8 (wH b d qc vc _) ?_;refine t_ex fun vd=>t_ex fun qd=>?_
   refine zz6 ?_;refine cE rfl rfl (aDG d hd _) rfl ?_;refine jY (wH b d qd vd _) ?_;refine ol_s (a6 (z0:=[(str []),(str [])]) bS tz9 rfl rfl rfl rfl (.cons rfl rfl rfl (.cons .nil) (.cons rfl rfl rfl (.skip (.cons .nil)) .nil))) rfl ?_;rintro _ K _ ⟨b65,rfl,rfl,rfl⟩ -;refine aY rfl rfl (eO b b65 2 d _ [indC d,[125]] _ _ _ rfl rfl gBV (by simp)) (.cons .here (.cons .here .nil)) rfl ?_;rintro _ K8 _ ⟨rfl,rfl⟩ le8;refine zz7 ?_;refine uAa ?_;exact oE _ (i+1) l2 _ ⟨Hl.le_trans le4 (Hl.le_trans le5 (Hl.le_trans le6 (Hl.le_trans le7 le8))),by omega,⟨hwl,hpl.mono (Hl.le_trans le5 (Hl.le_trans le6 (Hl.le_trans le7 le8)))⟩,by rw[←htx,hpn];simp only[List.append_assoc,List.flatten_cons,List.flatten_nil,List.append_nil];rfl⟩ aH (.cons 1 rfl (.cons 7 rfl (.cons 8 rfl (.cons 9 rfl .nil)))) rfl (fun _ h=>h)
 ·
  have hie:i=xs0.length:=aH;subst hie;rw[aSY hwr hpr (Nat.le_refl _),List.append_nil]at htx;subst htx;refine zz4 ?_;refine cT rfl le4 ?_;exact⟨_,rfl,rfl,rfl⟩
theorem wL{K:Hl}:∀ {t:Tree} {us:List (Cell×Cell)} {k:Nat},wf t k=true→Rep K t us→us.length≤Cmp.cnt t+1:=by
 intro t;induction t with
 |tnil=>intro us k _ h;rw[show us=[]from h];simp
 |cnil=>intro us k _ h;rw[show us=[]from h];simp
 |bnil=>intro us k _ h;rw[show us=[]from h];simp
 |tcons t l ih1 ih2=>
  rintro us k hw ⟨v,xs,h1,h2,rfl⟩;simp[wf]at hw;have:=ih2 hw.2.2 h2;have hc:1≤Cmp.cnt t:=by cases t <;> simp[wf]at hw <;> simp[Cmp.cnt]
  simp only[List.length_cons,Cmp.cnt];omega
 |ccons t l ih1 ih2=>
  rintro us k hw ⟨v,xs,h1,h2,rfl⟩;simp[wf]at hw;have:=ih2 hw.2.2 h2;have hc:1≤Cmp.cnt t:=by cases t <;> simp[wf]at hw <;> simp[Cmp.cnt]
  simp only[List.length_cons,Cmp.cnt];omega
 |bcons t b l ih1 ih2 ih3=>
  rintro us k hw ⟨v,ys,sv,xs,h1,_,h2,_,h3,rfl⟩;simp[wf]at hw;have:=ih3 hw.2.2.2 h3;simp only[List.length_cons,Cmp.cnt];omega
 |belse b l ih1 ih2=>
  rintro us k hw ⟨ys,sv,xs,h2,_,h3,rfl⟩;simp[wf]at hw;have:=ih2 hw.2.2 h3;simp only[List.length_cons,Cmp.cnt];omega
 |const b=>intro us k _ h;rw[show us=_ from h];simp
 |not_ t ih=>rintro us k _ ⟨v,_,rfl⟩;simp
 |many all l ih=>rintro us k _ ⟨xs,sv,_,_,rfl⟩;simp
 |mat tag oct op a b=>rintro us k _ ⟨va,vb,_,_,rfl⟩;simp
 |exi a=>rintro us k _ ⟨va,_,rfl⟩;simp
 |siz tag n=>intro us k _ h;rw[show us=_ from h];simp
 |plain op=>intro us k _ h;rw[show us=_ from h];simp
 |act k a p=>intro us k _ h;rw[show us=_ from h];simp
 |set_ n v t=>intro us k _ h;rw[show us=_ from h];simp
 |iff bs ih=>rintro us k _ ⟨xs,sv,_,_,rfl⟩;simp
theorem zF{K:Hl}{t:Tree}{d:Nat}{v:Cell}(hw:wf t 0=true∨wf t 2=true)(h:PrA K t d [(v,u0)]):PSp K v.1 t d:=by
 cases t <;> simp only[wf,PrA]at h hw <;> first|(obtain⟨v',e,hp⟩:=h;injection e with e1 _;injection e1 with e2 _;rw[e2];exact hp)|(simp at hw;done)
theorem aV0{K:Hl}(hg:Glob K){n:Nat}(hn:n≤1000):∀ {t:Tree} {d k:Nat} {us:List (Cell×Cell)},Rep K t us→wf t k=true→okT t=true→sOk n t→Cmp.cnt t≤100000→d+dpt t≤64→PrA K t d us:=by
 intro t;induction t with
 |const b=>intro d k us h _ _ _ _ _;exact⟨_,h,aSW K b d⟩
 |not_ t ih=>
  rintro d k us ⟨v,h,rfl⟩ hw ho hs hc hd;simp[wf]at hw;simp only[okT]at ho;simp only[Cmp.cnt]at hc;have hd0:dpt t=0:=by cases t <;> simp[wf]at hw <;> rfl
  exact⟨_,rfl,aZA K v.1 t d (zF (.inl hw.2) (ih h hw.2 ho hs aH (by rw[hd0];simp only[dpt]at hd;omega)))⟩
 |many all l ih=>
  rintro d k us ⟨xs,sv,h,h2,rfl⟩ hw ho hs hc hd;simp[wf]at hw;simp[okT]at ho;simp only[Cmp.cnt]at hc;have hd0:dpt l=0:=by cases l <;> simp[wf]at hw <;> rfl
  have:=wL hw.2 h;exact⟨_,rfl,aVZ K all l xs sv d (ih h hw.2 ho.2 hs aH (by rw[hd0];simp only[dpt]at hd;omega)) hw.2 h2 aH⟩
 |mat tag oct op a b=>
  rintro d k us ⟨va,vb,h1,h2,rfl⟩ hw ho hs hc hd;simp only[okT,decide_eq_true_eq]at ho;exact⟨_,rfl,aY9 K tag oct op va vb a b d ⟨ho.1,ho.2.1⟩ aH h1 h2 (fun x hx=>by have:=hs.1 x hx;omega) (by have:=hs.2.2.1;omega) (fun x hx=>by have:=hs.2.1 x hx;omega) (by have:=hs.2.2.2;omega)⟩
 |exi a=>
  rintro d k us ⟨va,h1,rfl⟩ hw ho hs hc hd;exact⟨_,rfl,aY8 K va a d h1 (fun x hx=>by have:=hs.1 x hx;omega) (by have:=hs.2;omega)⟩
 |siz tag m=>
  intro d k us h hw ho hs hc hd;simp only[okT,decide_eq_true_eq]at ho;exact⟨_,h,aZD K tag m d hg ho hs⟩
 |tnil=>intro d k us h _ _ _ _ _;exact h
 |cnil=>intro d k us h _ _ _ _ _;exact h
 |bnil=>intro d k us h _ _ _ _ _;exact h
 |tcons t l ih1 ih2=>
  rintro d k us ⟨v,xs,h1,h2,rfl⟩ hw ho hs hc hd;simp[wf]at hw;simp[okT]at ho;simp only[Cmp.cnt]at hc;have hd0:dpt t=0:=by cases t <;> simp[wf]at hw <;> rfl
  have hd1:dpt l=0:=by cases l <;> simp[wf]at hw <;> rfl
  simp only[dpt]at hd;exact⟨v,xs,rfl,zF (.inl hw.2.1) (ih1 h1 hw.2.1 ho.1 hs.1 aH aH),ih2 h2 hw.2.2 ho.2 hs.2 aH aH⟩
 |plain op=>intro d k us h hw ho _ _ _;exact⟨_,h,aSX K op d⟩
 |act kd a p=>
  intro d k us h hw ho hs _ _;simp only[okT,decide_eq_true_eq]at ho;exact⟨_,h,aY7 K kd a p d ho (Nat.le_trans hs hn)⟩
 |set_ m v t=>
  intro d k us h hw ho hs _ _;simp only[okT,decide_eq_true_eq]at ho;exact⟨_,h,aZC K m v t d ho (Nat.le_trans hs.1 hn) (Nat.le_trans hs.2 hn)⟩
 |iff bs ih=>
  rintro d k us ⟨xs,sv,h1,h2,rfl⟩ hw ho hs hc hd;simp[wf]at hw;simp only[okT]at ho;simp only[Cmp.cnt]at hc;simp only[dpt]at hd;have:=wL hw.2 h1;exact⟨_,rfl,bAP K bs xs sv d (ih h1 hw.2 ho hs aH hd) hw.2 h2 aH aH⟩
 |ccons t l ih1 ih2=>
  rintro d k us ⟨v,xs,h1,h2,rfl⟩ hw ho hs hc hd;simp[wf]at hw;simp[okT]at ho;simp only[Cmp.cnt]at hc;simp only[dpt]at hd;exact⟨v,xs,rfl,zF (.inr hw.2.1) (ih1 h1 hw.2.1 ho.1 hs.1 aH aH),ih2 h2 hw.2.2 ho.2 hs.2 aH aH⟩
 |bcons t b l ih1 ih2 ih3=>
  rintro d k us ⟨v,ys,sv,xs,h1,hi,h2,h3,h4,rfl⟩ hw ho hs hc hd;simp[wf]at hw;simp[okT]at ho;simp only[Cmp.cnt]at hc;simp only[dpt]at hd;have hd0:dpt t=0:=by cases t <;> simp[wf]at hw <;> rfl
  have:=wL hw.2.2.1 h2;exact⟨v,sv,xs,rfl,zF (.inl hw.2.1) (ih1 h1 hw.2.1 ho.1 hs.1 aH aH),aFL K b ys sv.1 (d+1) (ih2 h2 hw.2.2.1 ho.2.1 hs.2.1 aH aH) hw.2.2.1 h3 aH aH,ih3 h4 hw.2.2.2 ho.2.2 hs.2.2 aH aH⟩
 |belse b l ih1 ih2=>
  rintro d k us ⟨ys,sv,xs,h2,h3,h4,rfl⟩ hw ho hs hc hd;simp[wf]at hw;simp[okT]at ho;simp only[Cmp.cnt]at hc;simp only[dpt]at hd;have:=wL hw.2.1 h2;exact⟨sv,xs,rfl,aFL K b ys sv.1 (d+1) (ih1 h2 hw.2.1 ho.1 hs.1 aH aH) hw.2.1 h3 aH aH,ih2 h4 hw.2.2 ho.2.2 hs.2 aH aH⟩
end Go.Proofs
end
section
namespace Go.Syn
open Go.Cmp Go.Proofs
theorem aAP(d:Nat):(indC d).length=2*d:=by rw[aAQ,List.length_replicate]
theorem vZ{n:Nat}{l:List aJ}(hn:n≤1000)(h:∀x∈l,x.length≤n)(hl:l.length≤2*n+1):(lY l).length≤4010006:=by
 have h1:=aNT h;have h2:l.length*(2*n+4)≤2001*2004:=Nat.mul_le_mul aH aH;omega
theorem aZB{n:Nat}(hn:n≤1000):∀ {t:Tree} {d:Nat} {f:Bool},sOk n t→d+dpt t≤64→
  ((wf t 0=true∨wf t 2=true)→(prn t d f).length+1000≤10000000*cnt t)∧((wf t 1=true∨wf t 3=true∨wf t 4=true)→(prn t d f).length≤10000000*cnt t):=by
 intro t;induction t with
 |const b=>intro d f _ _;refine⟨fun _=>?_,fun h=>by simp[wf]at h⟩;simp only[prn,cnt];split <;> simp
 |not_ t ih=>
  intro d f hs hd;refine⟨fun h=>?_,fun h=>by simp[wf]at h⟩
  simp[wf]at h;have hd0:dpt t=0:=by cases t <;> simp[wf]at h <;> rfl
  simp only[dpt]at hd;have:=(ih (d:=d) (f:=true) hs aH).1 (.inl h);simp only[prn,cnt,List.length_append,List.length_cons,List.length_nil];omega
 |many all l ih=>
  intro d f hs hd;refine⟨fun h=>?_,fun h=>by simp[wf]at h⟩
  simp[wf]at h;have hd0:dpt l=0:=by cases l <;> simp[wf]at h <;> rfl
  simp only[dpt]at hd;have:=(ih (d:=d) (f:=true) hs aH).2 (.inl h);have hh:(if all=true then [97,108,108,111,102,32,40]else [97,110,121,111,102,32,40]:aJ).length=7:=by split <;> rfl
  simp only[prn,cnt,List.length_append,List.length_cons,List.length_nil,hh];omega
 |mat tag oct op a b=>
  intro d f hs hd;refine⟨fun h=>?_,fun h=>by simp[wf]at h⟩
  have h1:=vZ hn hs.1 hs.2.2.1;have h2:=vZ hn hs.2.1 hs.2.2.2;have h3:(nL op).length≤8:=by unfold nL;split;decide;split;decide;split <;> decide
  have h4:(tM tag).length≤10:=by unfold tM;split;decide;split <;> decide
  have h5:(if oct=true then tG else []).length≤22:=by split <;> decide
  simp only[prn,cnt,List.length_append,List.length_cons,List.length_nil];omega
 |exi a=>
  intro d f hs hd;refine⟨fun h=>?_,fun h=>by simp[wf]at h⟩
  have h1:=vZ hn hs.1 hs.2;simp only[prn,cnt,List.length_append,List.length_cons,List.length_nil];omega
 |siz tag m=>
  intro d f hs hd;refine⟨fun h=>?_,fun h=>by simp[wf]at h⟩
  have h1:=Lib.itoa_length_le m (by have:=hs.1;omega) (by have:=hs.2;omega);have h2:(qC tag).length≤5:=by unfold qC;split;decide;split <;> decide
  simp only[prn,cnt,List.length_append,List.length_cons,List.length_nil];omega
 |tnil=>intro d f _ _;refine⟨fun h=>by simp[wf]at h,fun _=>by simp[prn]⟩
 |cnil=>intro d f _ _;refine⟨fun h=>by simp[wf]at h,fun _=>by simp[prn]⟩
 |bnil=>intro d f _ _;refine⟨fun h=>by simp[wf]at h,fun _=>by simp[prn]⟩
 |tcons t l ih1 ih2=>
  intro d f hs hd;refine⟨fun h=>by simp[wf]at h,fun h=>?_⟩
  simp[wf]at h;have hd0:dpt t=0:=by cases t <;> simp[wf]at h <;> rfl
  have hd1:dpt l=0:=by cases l <;> simp[wf]at h <;> rfl
  simp only[dpt]at hd;have h1:=(ih1 (d:=d) (f:=true) hs.1 aH).1 (.inl h.1);have h2:=(ih2 (d:=d) (f:=false) hs.2 aH).2 (.inl h.2);have h3:(if f=true then []else [44,32]:aJ).length≤2:=by split <;> simp
  simp only[prn,cnt,List.length_append];omega
 |plain op=>intro d f _ _;refine⟨fun _=>?_,fun h=>by simp[wf]at h⟩;simp only[prn,cnt];split <;> simp
 |act k a p=>
  intro d f hs _;refine⟨fun _=>?_,fun h=>by simp[wf]at h⟩
  have h1:=n4 a;have h0:a.length≤n:=hs;have h2:(qP k).length≤9:=by unfold qP;split;decide;split;decide;split <;> decide
  simp only[prn,cnt];split
  ·simp
  ·simp only[List.length_append,List.length_singleton];omega
 |set_ m v t=>
  intro d f hs _;refine⟨fun _=>?_,fun h=>by simp[wf]at h⟩
  have h1:=n4 m;have h2:=n4 v;have h3:=hs.1;have h4:=hs.2;have h5:(rC t).length≤8:=by unfold rC;split;decide;split;decide;split <;> decide
  simp only[prn,cnt,List.length_append,List.length_cons,List.length_nil];omega
 |iff bs ih=>
  intro d f hs hd;refine⟨fun h=>?_,fun h=>by simp[wf]at h⟩
  simp[wf]at h;simp only[dpt]at hd;have:=(ih (d:=d) (f:=true) hs hd).2 (.inr (.inr h));simp only[prn,cnt];omega
 |ccons c l ih1 ih2=>
  intro d f hs hd;refine⟨fun h=>by simp[wf]at h,fun h=>?_⟩
  simp[wf]at h;simp only[dpt]at hd;have h1:=(ih1 (d:=d) (f:=true) hs.1 aH).1 (.inr h.1);have h2:=(ih2 (d:=d) (f:=true) hs.2 aH).2 (.inr (.inl h.2));simp only[prn,cnt,List.length_append,List.length_cons,List.length_nil,aAP];omega
 |bcons t b l ih1 ih2 ih3=>
  intro d f hs hd;refine⟨fun h=>by simp[wf]at h,fun h=>?_⟩
  simp[wf]at h;have hd0:dpt t=0:=by cases t <;> simp[wf]at h <;> rfl
  simp only[dpt]at hd;have h1:=(ih1 (d:=d) (f:=true) hs.1 aH).1 (.inl h.1);have h2:=(ih2 (d:=d+1) (f:=true) hs.2.1 aH).2 (.inr (.inl h.2.1));have h3:=(ih3 (d:=d) (f:=false) hs.2.2 aH).2 (.inr (.inr h.2.2));have h4:(if f=true then [105,102,32]else [32,101,108,115,105,102,32]:aJ).length≤7:=by split <;> simp
  simp only[prn,cnt,List.length_append,List.length_cons,List.length_nil,aAP];omega
 |belse b l ih1 ih2=>
  intro d f hs hd;refine⟨fun h=>by simp[wf]at h,fun h=>?_⟩
  simp[wf]at h;simp only[dpt]at hd;have h2:=(ih1 (d:=d+1) (f:=true) hs.1 aH).2 (.inr (.inl h.1));have h3:=(ih2 (d:=d) (f:=false) hs.2 aH).2 (.inr (.inr h.2));simp only[prn,cnt,List.length_append,List.length_cons,List.length_nil,aAP];omega
end Go.Syn
end
section
attribute [local irreducible] Go.SL.T Go.SL.OL Go.SL.D Go.SL.DL Go.SL.Ev Go.SL.Ef Go.SL.EfS
set_option maxRecDepth 4000
namespace Go.Proofs
open Go Go.SL Go.Syn
structure TextFit (r:List aJ×Tree):Prop where
 wf:wf r.2 3=true
 ok:okT r.2=true
 strs:sOk 600 r.2
 cnt:Cmp.cnt r.2≤1201
 dpt:dpt r.2≤7
 needs:r.1.length≤1201
 need:∀x∈r.1,x.length≤600
theorem aDU{r:List aJ×Tree}(h:TextFit r):(prn r.2 0 true).length≤12010000000∧(lY r.1).length≤4010006∧(oV r).length≤12020000000:=by
 have h1:=(aZB (n:=600) (by decide) (d:=0) (f:=true) h.strs (by have:=h.dpt;omega)).2 (.inr (.inl h.wf));have h2:=vZ (n:=600) (by decide) h.need h.needs;have h3:=h.cnt;refine⟨by omega,h2,?_⟩
 unfold oV;split <;> simp only[List.length_append,List.length_cons,List.length_nil] <;> omega
theorem aWW(tb:Nat)(r:List aJ×Tree)(K:Hl)(hg:Glob K)(hf:TextFit r)(hat:ScriptAt K tb r.1 r.2):Sp Tryz.prog 41 [ptr tb 6] K [] (Ret fun v K' L'=>v=str (oV r)∧L'=[]):=by
 obtain⟨l,nv,bv,ys,fz,hb,hl6,hl7,hnv,hbv,hrep,_⟩:=hat.at_;have htl:=aDU hf;have hpa:=aV0 hg (n:=600) (by decide) (d:=0) hrep hf.wf hf.ok hf.strs (by have:=hf.cnt;omega) (by have:=hf.dpt;omega);have hyl:=wL hf.wf hrep;have hbd:=aFL K r.2 ys bv 0 hpa hf.wf hbv (by have:=hf.cnt;omega) (by decide);have hnl:=hf.needs;obtain⟨na,nn0,nc,rfl⟩:=hnv.isSlice;obtain⟨ba,bn,bc,rfl⟩:=hbv.isSlice;refine aZ Tryz.func41 rfl Tryz.ntmps41 rfl rfl fun F w=>?_
 refine zz7 ?_;refine aA (cR tb134 tb134f .nil) rfl ?_;refine zz1 ?_;rintro _ K _ ⟨b5,rfl,rfl,rfl⟩ -;refine zz3 ?_;refine gG (fun(K3:Hl)=>K.le K3) (fun _=>[(0,ptr tb 6),(3,ptr b5)]) (fun K3=>K3) (fun _=>[pbl b5 (0:Nat) (if r.1=[]then []else [114,101,113,117,105,114,101,32]++lY r.1++[59,10])]) ?_ ?_
 ·
  refine aI ?_;refine t8 (iF (aSV b5 (0:Nat))) ?_;refine zz4 ?_;refine aA (aL ts39 rfl (.known hb) hl6) rfl ?_;refine aA (bX (k:=bC 9) rfl Tryz.underlying39 rfl (.known hnv)) rfl ?_;refine zz3 ?_;refine bG 11 rfl (fun h11=>?_) (fun h11=>?_)
  ·
   have hne:r.1≠[]:=(by intro h;rw[h]at h11;simp at h11);refine zz5 ?_;refine aA (aL ts39 rfl (.known hb) hl6) rfl ?_;refine aY rfl rfl (wI _ r.1 _ hnv (fun x hx=>by have:=hf.need x hx;omega) aH) .nil rfl ?_;rintro _ K2 _ ⟨rfl,rfl⟩ le2;refine ol_s (a6 (z0:=[(str []),(str []),(str [])]) bS tz9 rfl rfl rfl rfl (.cons rfl rfl rfl (.cons .nil) (.cons rfl rfl rfl (.skip (.cons .nil)) (.cons rfl rfl rfl (.skip (.skip (.cons .nil))) .nil)))) rfl ?_;rintro _ K _ ⟨b18,rfl,rfl,rfl⟩ -;refine aY rfl rfl (eO b5 b18 3 (0:Nat) [] [[114,101,113,117,105,114,101,32],lY r.1,[59,10]] _ _ _ rfl rfl gBV (by simp)) (.cons .here (.cons .here .nil)) rfl ?_;rintro _ K18 _ ⟨rfl,rfl⟩ le18;refine aF ?_
   first
    |exact gA8
    |exact gBI
  ·
   have hee:r.1=[]:=List.length_eq_zero_iff.1 aH;refine aW ?_
   first
    |exact gA8
    |exact gBI
 ·
  intro K3 le3;have hb:=le3 _ _ hb;refine zz6 ?_;refine aA (aL aBX rfl (.known hb) hl7) rfl ?_;refine aY rfl rfl (hbd b5 _ _ le3 (by split <;> simp <;> omega)) (.cons .here .nil) rfl ?_;rintro _ K4 _ ⟨rfl,rfl⟩ le4;refine zz7 ?_;refine aY rfl rfl (aFN b5 (0:Nat) _ (by rw[List.length_append];split <;> simp <;> omega) _) (.cons .here .nil) rfl ?_;rintro _ K _ ⟨rfl,rfl,rfl⟩ -;refine zz4 ?_;refine bJ rfl rfl (Hl.le_trans le3 le4) ?_;exact⟨_,rfl,rfl,rfl⟩
theorem aT0(b:Nat)(r:List aJ×Tree)(K:Hl)(hg:Glob K)(hf:TextFit r)(hat:u6 K b r):Sp Tryz.prog 24 [ptr b] K [] (Ret fun v K' L'=>v=str (oV r)∧L'=[]):=by
 obtain⟨tb,cv,vs,fz,hb,hs,_,_⟩:=hat;refine aZ Tryz.func24 rfl Tryz.ntmps24 rfl rfl fun F w=>?_
 refine zz10 ?_;refine aA (aL ts87 rfl (.known hb) rfl) rfl ?_;refine aY rfl rfl (aWW tb r _ hg hf hs) .nil rfl ?_;rintro _ K2 _ ⟨rfl,rfl⟩ le2;refine zz4 ?_;refine bJ rfl rfl le2 ?_;exact⟨_,rfl,rfl,rfl⟩
end Go.Proofs
end
section
namespace Go.Say
open Go.Syn Go.Mach Go.Cmp
structure Co where
 acts:List fT
 keep:Bool
 vars:List (aJ×aJ)
 parts:List aJ
def Co.ms(c:Co)(pc:Nat):MS:=⟨c.acts,c.keep,c.vars,c.parts,[],pc⟩
def matO(tag:Int)(oct:Bool)(op:Int)(a b:List aJ):Ins:=⟨op,0,tag,oct,a,b,0⟩
def matR(nm:Bool)(m:Msg)(o:Ins)(c:Co):Option (List aJ):=iE o (gC (dC nm c.vars c.parts) m o) (o.b.map (dC nm c.vars c.parts))
def mat(nm:Bool)(m:Msg)(o:Ins)(c:Co):Bool×Co:=
 match matR nm m o c with
 |some ps=>(true,if o.tag=3∧nm=true then {c with parts:=ps}else c)
 |none=>(false,c)
section
variable(nm:Bool)(m:Msg)
mutual
def holds:Tree→Co→Bool×Co
 | .const b,c=>(b,c)
 | .not_ t,c=>(!(holds t c).1,(holds t c).2)
 | .many all l,c=>pN all l c
 | .mat tag oct op a b,c=>mat nm m (matO tag oct op a b) c
 | .exi a,c=>(mY m (a.map (dC nm c.vars c.parts)),c)
 | .siz tag n,c=>(decide (tag=1∧n < m.size∨tag=2∧m.size < n),c)
 |_,c=>(true,c)
def pN(all:Bool):Tree→Co→Bool×Co
 | .tcons t l,c=>if (holds t c).1=all then pN all l (holds t c).2 else holds t c
 |_,c=>(all,c)
end
def actX(k:Int)(arg:aJ):fT:=(k,if k=4 then arg.take 48 else arg)
def addX(x:fT)(p:Int)(c:Co):Res Co:=
 if x∈c.acts then .ok {c with keep:=false}
 else if ∃b∈c.acts,x.1=4∨b.1=4 then .error (10,p)
 else if c.acts.length=6 then .error (11,p)
 else .ok {c with keep:=false,acts:=c.acts++[x]}
def act(k:Int)(arg:aJ)(p:Int)(c:Co):Res Co:=
 if k=2∧zX arg=false then .error (8,p)
 else if k=3∧lJ arg=false then .error (9,p)
 else addX (actX k arg) p c
def rP(k:Int)(a:aJ)(c:Co):aJ:=if k=1 then []else dC nm c.vars c.parts a
def setV(t:Int)(v:aJ):aJ:=(if t=1 then cN v else if t=2 then aE4 v else if t=3 then Lib.itoa v.length else v).take 48
mutual
def run:Tree→Co→Res (Bool×Co)
 | .ccons x l,c=>match cmd x c with
  | .error e=>.error e
  | .ok r=>if r.1=true then .ok r else run l r.2
 |_,c=>.ok (false,c)
def cmd:Tree→Co→Res (Bool×Co)
 | .plain op,c=>if op=14 then .ok (true,c)else .ok (false,{c with keep:=false})
 | .act k a p,c=>match act k (rP nm k a c) p c with
  | .error e=>.error e
  | .ok d=>.ok (false,d)
 | .set_ n v t,c=>.ok (false,{c with vars:=vput c.vars n (setV t (dC nm c.vars c.parts v))})
 | .iff bs,c=>brs bs c
 |_,c=>.ok (false,c)
def brs:Tree→Co→Res (Bool×Co)
 | .bcons t b l,c=>if (holds nm m t c).1=true then run b (holds nm m t c).2 else brs l (holds nm m t c).2
 | .belse b _,c=>run b c
 |_,c=>.ok (false,c)
end
end
def start:Co:=⟨[],true,[],[]⟩
def done(c:Co):List fT:=if c.keep=true then c.acts++[(1,[])]else c.acts
def out(r:Res (Bool×Co)):List fT×Option (Int×Int):=match r with
 | .error e=>([(1,[])],some e)
 | .ok r=>(done r.2,none)
section
variable{nm:Bool}{m:Msg}{C:List Ins}
def fin(nm:Bool)(m:Msg)(C:List Ins)(s:MS):List fT×Option (Int×Int):=((loop nm m C (C.length+1 - s.pc) 0 s).acts,(loop nm m C (C.length+1 - s.pc) 0 s).err)
theorem aHJ:∀(f g st st':Nat) (s:MS),s.pc≤C.length→C.length < f+s.pc→C.length < g+s.pc→
  ((loop nm m C f st s).acts,(loop nm m C f st s).err)=((loop nm m C g st' s).acts,(loop nm m C g st' s).err)
 |0,g,st,st',s,h,h1,h2=>by omega
 |f+1,0,st,st',s,h,h1,h2=>by omega
 |f+1,g+1,st,st',s,h,h1,h2=>by
  unfold loop;split
  ·rfl
  ·rename_i o ho;have hi:s.pc < C.length:=by
    rcases Nat.lt_or_ge s.pc C.length with h'|h'
    ·exact h'
    ·rw[List.getElem?_eq_none h']at ho;cases ho
   split
   ·rfl
   ·split
    ·rfl
    ·rename_i t ht;have:=zM ht hi;exact aHJ f g _ _ _ gCU gCU gCU
theorem aVF{s:MS}(h:s.pc=C.length):fin nm m C s=(if s.keep=true then s.acts++[(1,[])]else s.acts,none):=by
 unfold fin;rw[show C.length+1 - s.pc=0+1 from by omega];unfold loop;rw[List.getElem?_eq_none aH]
theorem aRQ{s:MS}{o:Ins}(ho:C[s.pc]?=some o)(h:o.op=14):fin nm m C s=(if s.keep=true then s.acts++[(1,[])]else s.acts,none):=by
 have hi:s.pc < C.length:=by
  rcases Nat.lt_or_ge s.pc C.length with h'|h'
  ·exact h'
  ·rw[List.getElem?_eq_none h']at ho;cases ho
 unfold fin;rw[show C.length+1 - s.pc=(C.length - s.pc)+1 from by omega];unfold loop;rw[ho];simp only[h,if_true]
theorem aVG{s:MS}{o:Ins}{e:Int×Int}(ho:C[s.pc]?=some o)(h:o.op≠14)(hs:Mach.step nm m C.length o s=.error e):fin nm m C s=([(1,[])],some e):=by
 have hi:s.pc < C.length:=by
  rcases Nat.lt_or_ge s.pc C.length with h'|h'
  ·exact h'
  ·rw[List.getElem?_eq_none h']at ho;cases ho
 unfold fin;rw[show C.length+1 - s.pc=(C.length - s.pc)+1 from by omega];unfold loop;rw[ho];simp only[if_neg h,hs]
theorem pS{s t:MS}{o:Ins}(ho:C[s.pc]?=some o)(h:o.op≠14)(hs:Mach.step nm m C.length o s=.ok t):fin nm m C s=fin nm m C {t with pc:=t.pc+1}:=by
 have hi:s.pc < C.length:=by
  rcases Nat.lt_or_ge s.pc C.length with h'|h'
  ·exact h'
  ·rw[List.getElem?_eq_none h']at ho;cases ho
 have hp:=zM hs hi;unfold fin;rw[show C.length+1 - s.pc=(C.length - s.pc)+1 from by omega,loop];rw[ho];simp only[if_neg h,hs];exact aHJ _ _ _ _ _ gCU gCU gCU
theorem aHB{c:Co}{i T:Nat}(ho:C[i]?=some {jmp 3 with n:=(T:Int) - 1 - i})(h1:i+1≤T)(h2:T≤C.length):fin nm m C (c.ms i)=fin nm m C (c.ms T):=by
 have hs:Mach.step nm m C.length {jmp 3 with n:=(T:Int) - 1 - i} (c.ms i)=.ok {c.ms i with pc:=i+(((T:Int) - 1 - i).toNat)}:=by
  unfold Mach.step jump;simp only[jmp,Co.ms];rw[if_neg (by decide),if_neg (by decide),if_pos trivial,if_pos aH];rfl
 rw[pS ho (by simp[jmp]) hs]
 congr 1
 simp only[Co.ms]
 congr 1
 omega
theorem aAL{c d:Co}{o:Ins}{b tn:Bool}{i T:Nat}(ho:C[i]?=some o)(hop:o.op≠14)(hs:Mach.step nm m C.length o (c.ms i)=.ok {d.ms i with stack:=[b]})
  (hj:C[i+1]?=some {jmp (if tn=true then 4 else 5)with n:=(T:Int) - 1 - (i+1:Nat)}) (h1:i+2≤T) (h2:T≤C.length):fin nm m C (c.ms i)=fin nm m C (d.ms (if b=tn then T else i+2)):=by
 rw[pS ho hop hs];have hs2:Mach.step nm m C.length {jmp (if tn=true then 4 else 5)with n:=(T:Int) - 1 - (i+1:Nat)} {d.ms i with stack:=[b],pc:=i+1}=.ok (d.ms (if b=tn then i+1+(((T:Int) - 1 - (i+1:Nat)).toNat)else i+1)):=by
  cases tn
  ·unfold Mach.step pop jump;simp only[jmp,Co.ms,if_false];cases b <;> simp <;> omega
  ·unfold Mach.step pop jump;simp only[jmp,Co.ms,if_true];cases b <;> simp <;> omega
 have e:{({d.ms i with stack:=[b]}:MS)with pc:=({d.ms i with stack:=[b]}:MS).pc+1}={d.ms i with stack:=[b],pc:=i+1}:=rfl;rw[e,pS (o:={jmp (if tn=true then 4 else 5)with n:=(T:Int) - 1 - (i+1:Nat)}) hj (by cases tn <;> simp[jmp]) hs2]
 congr 1
 simp only[Co.ms]
 congr 1
 split <;> omega
end
end Go.Say
end
section
namespace Go.Say
open Go.Syn Go.Mach Go.Cmp
theorem aHC(n:Int):∀(ps:List Nat) (o:List Ins) (i:Nat),(ps.foldl (fun o k=>setN o k (n - 1 - k)) o)[i]?=if i∈ps then (o[i]?).map (fun x=>{x with n:=n - 1 - i})else o[i]?:=by
 intro ps;induction ps with
 |nil=>intro o i;simp
 |cons k ps ih=>
  intro o i;rw[List.foldl_cons,ih];unfold setN;rw[List.getElem?_modify]
  by_cases h:k=i
  ·subst h
   by_cases h2:k∈ps <;> cases o[k]? <;> simp[h2]
  ·by_cases h2:i∈ps <;> cases o[i]? <;> simp[h2,h,Ne.symm h]
theorem fO(ops:List Ins)(ps:List Nat)(i:Nat):(land ops ps)[i]?=if i∈ps then (ops[i]?).map (fun x=>{x with n:=(ops.length:Int) - 1 - i})else ops[i]?:=aHC _ ps ops i
theorem m7:∀(t:Tree),(∀tn ops,(∀i,i < ops.length→(unl t tn ops).1[i]?=ops[i]?)∧∀k∈(unl t tn ops).2,ops.length≤k)∧
  (∀ all tn ops away here, (∀ i, i < ops.length → (unlL all tn t ops away here).1[i]? = ops[i]?) ∧ (∀ k ∈ (unlL all tn t ops away here).2.1, k ∈ away ∨ ops.length ≤ k) ∧ (∀ k ∈ (unlL all tn t ops away here).2.2, k ∈ here ∨ ops.length ≤ k) ∧
   (∀k∈away,k∈(unlL all tn t ops away here).2.1)∧(∀k∈here,k∈(unlL all tn t ops away here).2.2)):=by
 intro t;have app:∀(ops xs:List Ins) (i:Nat),i < ops.length→(ops++xs)[i]?=ops[i]?:=fun ops xs i h=>List.getElem?_append_left h
 induction t with
 |const b=>
  refine⟨fun tn ops=>?_,fun all tn ops away here=>by simp only[unlL];exact⟨fun _ _=>trivial,fun k h=>.inl h,fun k h=>.inl h,fun k h=>h,fun k h=>h⟩⟩
  simp only[unl];split
  ·exact⟨fun i h=>app _ _ i h,fun k h=>by simp at h;omega⟩
  ·exact⟨fun i h=>rfl,fun k h=>by simp at h⟩
 |not_ t ih=>
  refine⟨fun tn ops=>?_,fun all tn ops away here=>by simp only[unlL];exact⟨fun _ _=>trivial,fun k h=>.inl h,fun k h=>.inl h,fun k h=>h,fun k h=>h⟩⟩
  simp only[unl];exact ih.1 _ _
 |many all l ih=>
  refine⟨fun tn ops=>?_,fun all tn ops away here=>by simp only[unlL];exact⟨fun _ _=>trivial,fun k h=>.inl h,fun k h=>.inl h,fun k h=>h,fun k h=>h⟩⟩
  have h:=ih.2 all tn ops [] [];simp only[unl];refine⟨fun i hi=>?_,fun k hk=>by simpa using h.2.1 k hk⟩
  rw[fO,if_neg (fun hm=>by have:=h.2.2.1 i hm;simp at this;omega)];exact h.1 i hi
 |mat tag oct op a b=>
  refine⟨fun tn ops=>?_,fun all tn ops away here=>by simp only[unlL];exact⟨fun _ _=>trivial,fun k h=>.inl h,fun k h=>.inl h,fun k h=>h,fun k h=>h⟩⟩
  simp only[unl];exact⟨fun i h=>app _ _ i h,fun k h=>by simp at h;omega⟩
 |exi a=>
  refine⟨fun tn ops=>?_,fun all tn ops away here=>by simp only[unlL];exact⟨fun _ _=>trivial,fun k h=>.inl h,fun k h=>.inl h,fun k h=>h,fun k h=>h⟩⟩
  simp only[unl];exact⟨fun i h=>app _ _ i h,fun k h=>by simp at h;omega⟩
 |siz tag n=>
  refine⟨fun tn ops=>?_,fun all tn ops away here=>by simp only[unlL];exact⟨fun _ _=>trivial,fun k h=>.inl h,fun k h=>.inl h,fun k h=>h,fun k h=>h⟩⟩
  simp only[unl];exact⟨fun i h=>app _ _ i h,fun k h=>by simp at h;omega⟩
 |tcons t l ih1 ih2=>
  refine⟨fun tn ops=>by simp[unl],fun all tn ops away here=>?_⟩
  simp only[unlL];split
  ·have l1:=((iU t).1 (!tn) ops).1;have h1:=ih1.1 (!tn) ops;have h2:=ih2.2 all tn (unl t (!tn) ops).1 away (here++(unl t (!tn) ops).2);refine⟨fun i hi=>(h2.1 i aH).trans (h1.1 i hi),fun k hk=>(h2.2.1 k hk).imp_right aH,fun k hk=>?_,h2.2.2.2.1,fun k hk=>h2.2.2.2.2 k (List.mem_append_left _ hk)⟩
   rcases h2.2.2.1 k hk with h|h
   ·rcases List.mem_append.1 h with h|h
    ·exact .inl h
    ·exact .inr (h1.2 k h)
   ·exact .inr aH
  ·have l1:=((iU t).1 tn ops).1;have h1:=ih1.1 tn ops;have h2:=ih2.2 all tn (unl t tn ops).1 (away++(unl t tn ops).2) here;refine⟨fun i hi=>(h2.1 i aH).trans (h1.1 i hi),fun k hk=>?_,fun k hk=>(h2.2.2.1 k hk).imp_right aH,fun k hk=>h2.2.2.2.1 k (List.mem_append_left _ hk),h2.2.2.2.2⟩
   rcases h2.2.1 k hk with h|h
   ·rcases List.mem_append.1 h with h|h
    ·exact .inl h
    ·exact .inr (h1.2 k h)
   ·exact .inr aH
 |_=>
  refine⟨fun tn ops=>by simp[unl],fun all tn ops away here=>by simp only[unlL];exact⟨fun _ _=>trivial,fun k h=>.inl h,fun k h=>.inl h,fun k h=>h,fun k h=>h⟩⟩
def Agr(C new:List Ins)(a:Nat)(ps:List Nat):Prop:=∀i,a≤i→i < new.length→i∉ps→C[i]?=new[i]?
def Jmp(C new:List Ins)(a:Nat)(ps:List Nat)(T:Nat):Prop:=∀k∈ps,a≤k→C[k]?=(new[k]?).map fun o=>{o with n:=(T:Int) - 1 - k}
theorem aZ0(all tn:Bool):∀(t:Tree) ops away here,(∀k∈away,k < ops.length)→(∀k∈here,k < ops.length)→(∀k∈away,k∉here)→∀k∈(unlL all tn t ops away here).2.1,k∉(unlL all tn t ops away here).2.2:=by
 intro t;induction t with
 |tcons t l ih1 ih2=>
  intro ops away here ha hh hd;simp only[unlL];split
  ·have l0:=(iU t).1 (!tn) ops;have p0:=((m7 t).1 (!tn) ops).2;refine ih2 _ _ _ (fun k hk=>by have:=ha k hk;omega) (fun k hk=>?_) (fun k hk hk2=>?_)
   ·rcases List.mem_append.1 hk with h|h
    ·have:=hh k h;omega
    ·exact l0.2.2.2 k h
   ·rcases List.mem_append.1 hk2 with h|h
    ·exact hd k hk h
    ·have:=p0 k h;have:=ha k hk;omega
  ·have l0:=(iU t).1 tn ops;have p0:=((m7 t).1 tn ops).2;refine ih2 _ _ _ (fun k hk=>?_) (fun k hk=>by have:=hh k hk;omega) (fun k hk hk2=>?_)
   ·rcases List.mem_append.1 hk with h|h
    ·have:=ha k h;omega
    ·exact l0.2.2.2 k h
   ·rcases List.mem_append.1 hk with h|h
    ·exact hd k h hk2
    ·have:=p0 k h;have:=hh k hk2;omega
 |_=>intro ops away here ha hh hd;simp only[unlL];exact hd
theorem bAH{a b h:Bool}(hc:a=b)(hx:¬h=a):h=!b:=by cases a <;> cases b <;> cases h <;> simp at*
theorem aXM{a b h:Bool}(hc:a≠b)(hx:¬h=a):h=b:=by cases a <;> cases b <;> cases h <;> simp at*
theorem bAI(b:Bool):¬b=!b:=by cases b <;> simp
theorem aR0{α:Type}{a b:Bool}{x y:α}:(if a=!b then x else y)=if (!a)=b then x else y:=by cases a <;> cases b <;> rfl
section
variable{nm:Bool}{m:Msg}{C:List Ins}
theorem xI{all:Bool}{t l:Tree}{c:Co}(h:(holds nm m t c).1=all):pN nm m all (.tcons t l) c=pN nm m all l (holds nm m t c).2:=by simp only[pN];exact if_pos h
theorem uL{all:Bool}{t l:Tree}{c:Co}(h:¬(holds nm m t c).1=all):pN nm m all (.tcons t l) c=holds nm m t c:=by simp only[pN];exact if_neg h
theorem aTY{tag:Int}{oct:Bool}{op:Int}{a b:List aJ}{c:Co}{i:Nat}(h:1≤tag∧tag≤3∧6≤op∧op≤8):
  Mach.step nm m C.length ⟨op,0,tag,oct,a,b,0⟩ (c.ms i)=.ok {(mat nm m (matO tag oct op a b) c).2.ms i with stack:=[(mat nm m (matO tag oct op a b) c).1]}:=by
 unfold Mach.step;simp only[];rw[if_neg aH,if_neg aH,if_neg aH,if_neg aH,if_neg aH,if_pos aH];unfold matchI;simp only[];rw[if_pos ⟨h.1,h.2.1,by simp[Co.ms]⟩];unfold mat matR matO;simp only[Co.ms];cases iE ⟨op,0,tag,oct,a,b,0⟩ (gC (dC nm c.vars c.parts) m ⟨op,0,tag,oct,a,b,0⟩) (b.map (dC nm c.vars c.parts))with
 |none=>simp[push]
 |some ps=>
  by_cases h3:tag=3∧nm=true
  ·simp[push,h3.1,h3.2]
  ·simp only[];rw[if_neg h3,if_neg h3];simp[push]
theorem aTX{a:List aJ}{c:Co}{i:Nat}:
  Mach.step nm m C.length ⟨9,0,0,false,a,[],0⟩ (c.ms i)=.ok {c.ms i with stack:=[mY m (a.map (dC nm c.vars c.parts))]}:=by
 unfold Mach.step;simp only[];rw[if_neg aH,if_neg aH,if_neg aH,if_neg aH,if_neg aH,if_neg aH,if_pos trivial];simp[push,Co.ms]
theorem aTZ{tag n:Int}{c:Co}{i:Nat}(h:tag=1∨tag=2):
  Mach.step nm m C.length ⟨10,n,tag,false,[],[],0⟩ (c.ms i)=.ok {c.ms i with stack:=[decide (tag=1∧n < m.size∨tag=2∧m.size < n)]}:=by
 unfold Mach.step;simp only[];rw[if_neg aH,if_neg aH,if_neg aH,if_neg aH,if_neg aH,if_neg aH,if_neg aH,if_pos trivial,if_pos h];simp[push,Co.ms]
theorem two{ops:List Ins}{o j:Ins}{T:Nat}(hA:Agr C (ops++[o,j]) ops.length [ops.length+1])(hJ:Jmp C (ops++[o,j]) ops.length [ops.length+1] T):
  C[ops.length]?=some o∧C[ops.length+1]?=some {j with n:=(T:Int) - 1 - (ops.length+1:Nat)}:=by
 constructor
 ·rw[hA ops.length (Nat.le_refl _) (by simp) (by simp)];simp
 ·rw[hJ (ops.length+1) (by simp) aH];simp
theorem aUO : ∀ (t : Tree), okT t = true → (∀ tn ops (T : Nat) (c : Co), wf t 0 = true → Agr C (unl t tn ops).1 ops.length (unl t tn ops).2 → Jmp C (unl t tn ops).1 ops.length (unl t tn ops).2 T → (unl t tn ops).1.length ≤ T → T ≤ C.length →
   fin nm m C (c.ms ops.length)=fin nm m C ((holds nm m t c).2.ms (if (holds nm m t c).1=tn then T else (unl t tn ops).1.length)))∧
  (∀ all tn ops away here (T : Nat) (c : Co), wf t 1 = true → eH t = false → (∀ k ∈ away, k < ops.length) → (∀ k ∈ here, k < ops.length) →
   (∀i,ops.length≤i→i < (unlL all tn t ops away here).1.length→i∉(unlL all tn t ops away here).2.1→i∉(unlL all tn t ops away here).2.2→C[i]?=(unlL all tn t ops away here).1[i]?)→
   Jmp C (unlL all tn t ops away here).1 ops.length (unlL all tn t ops away here).2.1 T→Jmp C (unlL all tn t ops away here).1 ops.length (unlL all tn t ops away here).2.2 (unlL all tn t ops away here).1.length→
   (unlL all tn t ops away here).1.length≤T→T≤C.length→
   fin nm m C (c.ms ops.length)=fin nm m C ((pN nm m all t c).2.ms (if (pN nm m all t c).1=tn then T else (unlL all tn t ops away here).1.length))):=by
 intro t;induction t with
 |const b=>
  intro hok;refine⟨fun tn ops T c hw hA hJ h1 h2=>?_,fun all tn ops away here T c hw=>by simp[wf]at hw⟩
  simp only[unl]at hA hJ h1 ⊢;simp only[holds]
  by_cases hb:b=tn
  ·simp only[if_pos hb]at hA hJ h1 ⊢;simp at h1;exact aHB (by rw[hJ ops.length (by simp) (Nat.le_refl _)];simp) h1 h2
  ·simp only[if_neg hb]
 |not_ t ih=>
  intro hok;refine⟨fun tn ops T c hw hA hJ h1 h2=>?_,fun all tn ops away here T c hw=>by simp[wf]at hw⟩
  simp only[unl]at hA hJ h1 ⊢;simp only[wf,beq_self_eq_true,Bool.true_and]at hw;rw[(ih hok).1 (!tn) ops T c hw hA hJ h1 h2];simp only[holds];rw[aR0];rfl
 |many all l ih=>
  intro hok;refine⟨fun tn ops T c hw hA hJ h1 h2=>?_,fun all tn ops away here T c hw=>by simp[wf]at hw⟩
  simp only[okT,Bool.and_eq_true,Bool.not_eq_true']at hok;simp only[wf,beq_self_eq_true,Bool.true_and]at hw;simp only[unl]at hA hJ h1 ⊢;rw[cH]at h1 ⊢;have hp:=(m7 l).2 all tn ops [] [];have hdj:∀k,k∈(unlL all tn l ops [] []).2.1→k∉(unlL all tn l ops [] []).2.2:=aZ0 all tn l ops [] [] (by simp) (by simp) (by simp);simp only[holds];refine(ih hok.2).2 all tn ops [] [] T c hw hok.1 (by simp) (by simp) (fun i hi hi2 hn1 hn2=>?_) (fun k hk ha=>?_) (fun k hk ha=>?_) h1 h2
  ·rw[hA i hi (by rw[cH];exact hi2) hn1,fO,if_neg hn2]
  ·rw[hJ k hk ha,fO,if_neg (hdj k hk)]
  ·rw[hA k ha (by rw[cH];exact((iU l).2 all tn ops [] [] (by simp) (by simp)).2.2.2.2.2 k hk) (fun h=>hdj k h hk),fO,if_pos hk]
 |mat tag oct op a b=>
  intro hok;refine⟨fun tn ops T c hw hA hJ h1 h2=>?_,fun all tn ops away here T c hw=>by simp[wf]at hw⟩
  simp only[okT,decide_eq_true_eq]at hok;simp only[unl]at hA hJ h1 ⊢;obtain⟨e1,e2⟩:=two hA hJ;simp only[List.length_append,List.length_cons,List.length_nil]at h1 ⊢;simp only[holds];exact aAL e1 gCU (aTY hok) e2 h1 h2
 |exi a=>
  intro hok;refine⟨fun tn ops T c hw hA hJ h1 h2=>?_,fun all tn ops away here T c hw=>by simp[wf]at hw⟩
  simp only[unl]at hA hJ h1 ⊢;obtain⟨e1,e2⟩:=two hA hJ;simp only[List.length_append,List.length_cons,List.length_nil]at h1 ⊢;simp only[holds];exact aAL e1 (by simp) aTX e2 h1 h2
 |siz tag n=>
  intro hok;refine⟨fun tn ops T c hw hA hJ h1 h2=>?_,fun all tn ops away here T c hw=>by simp[wf]at hw⟩
  simp only[okT,decide_eq_true_eq]at hok;simp only[unl]at hA hJ h1 ⊢;obtain⟨e1,e2⟩:=two hA hJ;simp only[List.length_append,List.length_cons,List.length_nil]at h1 ⊢;simp only[holds];exact aAL e1 (by simp) (aTZ hok) e2 h1 h2
 |tcons t l ih1 ih2=>
  intro hok;refine⟨fun tn ops T c hw=>by simp[wf]at hw,fun all tn ops away here T c hw hn ha hh hA hJ hH h1 h2=>?_⟩
  simp only[okT,Bool.and_eq_true]at hok;simp only[wf,beq_self_eq_true,Bool.true_and,Bool.and_eq_true]at hw;simp only[unlL]at hA hJ hH h1 ⊢
  by_cases hc:all=tn∧eH l=false
  ·simp only[if_pos hc]at hA hJ hH h1 ⊢;have l0:=(iU t).1 (!tn) ops;have p0:=(m7 t).1 (!tn) ops;have p1:=(m7 l).2 all tn (unl t (!tn) ops).1 away (here++(unl t (!tn) ops).2);have hh':∀k∈here++(unl t (!tn) ops).2,k < (unl t (!tn) ops).1.length:=fun k hk=>by
    rcases List.mem_append.1 hk with h|h
    ·have:=hh k h;omega
    ·exact l0.2.2.2 k h
   have ha':∀k∈away,k < (unl t (!tn) ops).1.length:=fun k hk=>by have:=ha k hk;omega
   have l1 := (iU l).2 all tn (unl t (!tn) ops).1 away (here ++ (unl t (!tn) ops).2) ha' hh';have e1 := (ih1 hok.1).1 (!tn) ops (unlL all tn l (unl t (!tn) ops).1 away (here ++ (unl t (!tn) ops).2)).1.length c hw.1 (fun i hi hi2 hn1 => by
     rw [hA i hi aH (fun h => by
       rcases p1.2.1 i h with h|h
       ·have:=ha i h;omega
       ·omega) (fun h => by
       rcases p1.2.2.1 i h with h|h
       ·rcases List.mem_append.1 h with h|h
        ·have:=hh i h;omega
        ·exact hn1 h
       ·omega)]
     exact p1.1 i hi2) (fun k hk hk2 => by
     rw[hH k (p1.2.2.2.2 k (List.mem_append_right _ hk)) hk2,p1.1 k (l0.2.2.2 k hk)]) l1.1 aH
   rw[e1]
   by_cases hx:(holds nm m t c).1=all
   ·rw[if_neg (by rw[hx,hc.1];exact bAI tn),xI hx];exact(ih2 hok.2).2 all tn _ away _ T _ hw.2 hc.2 ha' hh' (fun i hi hi2 hn1 hn2=>hA i aH hi2 hn1 hn2) (fun k hk hk2=>hJ k hk aH) (fun k hk hk2=>hH k hk aH) h1 h2
   ·rw[uL hx,if_pos (bAH hc.1 hx),if_neg (by rw[←hc.1];exact hx)]
  ·simp only[if_neg hc]at hA hJ hH h1 ⊢;have l0:=(iU t).1 tn ops;have p0:=(m7 t).1 tn ops;have p1:=(m7 l).2 all tn (unl t tn ops).1 (away++(unl t tn ops).2) here;have ha':∀k∈away++(unl t tn ops).2,k < (unl t tn ops).1.length:=fun k hk=>by
    rcases List.mem_append.1 hk with h|h
    ·have:=ha k h;omega
    ·exact l0.2.2.2 k h
   have hh':∀k∈here,k < (unl t tn ops).1.length:=fun k hk=>by have:=hh k hk;omega
   have l1 := (iU l).2 all tn (unl t tn ops).1 (away ++ (unl t tn ops).2) here ha' hh';have e1 := (ih1 hok.1).1 tn ops T c hw.1 (fun i hi hi2 hn1 => by
     rw [hA i hi aH (fun h => by
       rcases p1.2.1 i h with h|h
       ·rcases List.mem_append.1 h with h|h
        ·have:=ha i h;omega
        ·exact hn1 h
       ·omega) (fun h => by
       rcases p1.2.2.1 i h with h|h
       ·have:=hh i h;omega
       ·omega)]
     exact p1.1 i hi2) (fun k hk hk2 => by
     rw[hJ k (p1.2.2.2.1 k (List.mem_append_right _ hk)) hk2,p1.1 k (l0.2.2.2 k hk)]) aH h2
   rw[e1]
   by_cases hn2:eH l=true
   ·have el:l=.tnil:=by cases l <;> simp[wf,eH]at hw hn2;rfl
    subst el;simp only[unlL]
    by_cases hx:(holds nm m t c).1=all
    ·rw[xI hx];simp only[pN];rw[hx];rfl
    ·rw[uL hx]
   ·have hat:all≠tn:=fun h=>hc ⟨h,by simpa using hn2⟩
    by_cases hx:(holds nm m t c).1=all
    ·rw[if_neg (by rw[hx];exact hat),xI hx];exact(ih2 hok.2).2 all tn _ _ here T _ hw.2 (by simpa using hn2) ha' hh' (fun i hi hi2 hn1 hn2=>hA i aH hi2 hn1 hn2) (fun k hk hk2=>hJ k hk aH) (fun k hk hk2=>hH k hk aH) h1 h2
    ·rw[uL hx,if_pos (aXM hat hx),if_pos (aXM hat hx)]
 |_=>intro hok;exact⟨fun tn ops T c hw=>by simp[wf]at hw,fun all tn ops away here T c hw=>by simp[wf,eH]at hw ⊢⟩
theorem s9:∀(t:Tree),(∀ops,∀i,i < ops.length→(body t ops)[i]?=ops[i]?)∧(∀ops,∀i,i < ops.length→(cmdI t ops)[i]?=ops[i]?)∧(∀ops out,∀i,i < ops.length→i∉out→(cI t ops out)[i]?=ops[i]?):=by
 intro t;have app:∀(ops xs:List Ins) (i:Nat),i < ops.length→(ops++xs)[i]?=ops[i]?:=fun ops xs i h=>List.getElem?_append_left h
 have ld:∀(ops:List Ins) (out:List Nat) i,i∉out→(land ops out)[i]?=ops[i]?:=fun ops out i h=>by rw[fO,if_neg h]
 induction t with
 |plain op=>exact⟨fun ops i h=>by simp[body],fun ops i h=>app _ _ i h,fun ops out i h hn=>ld _ _ _ hn⟩
 |act k a p=>exact⟨fun ops i h=>by simp[body],fun ops i h=>app _ _ i h,fun ops out i h hn=>ld _ _ _ hn⟩
 |set_ n v t=>exact⟨fun ops i h=>by simp[body],fun ops i h=>app _ _ i h,fun ops out i h hn=>ld _ _ _ hn⟩
 |iff bs ih=>exact⟨fun ops i h=>by simp[body],fun ops i h=>by simp only[cmdI];exact ih.2.2 ops [] i h (by simp),fun ops out i h hn=>ld _ _ _ hn⟩
 |ccons c l ih1 ih2=>
  refine⟨fun ops i h=>?_,fun ops i h=>by simp[cmdI],fun ops out i h hn=>ld _ _ _ hn⟩
  have:=((jW c).2.1 ops).1;simp only[body];rw[ih2.1 _ i aH,ih1.2.1 ops i h]
 |belse b l ih1 ih2=>
  refine⟨fun ops i h=>by simp[body],fun ops i h=>by simp[cmdI],fun ops out i h hn=>?_⟩
  simp only[cI];rw[ld _ _ _ hn,ih1.1 ops i h]
 |bcons t b l ih1 ih2 ih3=>
  refine⟨fun ops i h=>by simp[body],fun ops i h=>by simp[cmdI],fun ops out i h hn=>?_⟩
  have h0:=(iU t).1 false ops;have p0:=(m7 t).1 false ops;have h1:=((jW b).1 (unl t false ops).1).1;have hn2:i∉(unl t false ops).2:=fun hk=>by have:=p0.2 i hk;omega
  simp only[cI];split
  ·rw[ih3.2.2 _ _ i (by rw[cH];omega) hn,ld _ _ _ hn2,ih2.1 _ i aH,p0.1 i h]
  ·rw[ih3.2.2 _ _ i (by rw[cH];simp;omega) (by simp;exact⟨hn,by omega⟩),ld _ _ _ hn2,app _ _ i aH,ih2.1 _ i aH,p0.1 i h]
 |_=>exact⟨fun ops i h=>by simp[body],fun ops i h=>by simp[cmdI],fun ops out i h hn=>ld _ _ _ hn⟩
theorem aU1:∀(t:Tree),wf t 4=true→∀ops out,(∀k∈out,k < ops.length)→∀k∈out,(cI t ops out)[k]?=(ops[k]?).map fun o=>{o with n:=((cI t ops out).length:Int) - 1 - k}:=by
 intro t;induction t with
 |bnil=>intro hw ops out ho k hk;simp only[cI];rw[fO,if_pos hk,cH]
 |belse b l ih1 ih2=>
  intro hw ops out ho k hk;simp only[cI];rw[fO,if_pos hk,cH,(s9 b).1 ops k (ho k hk)]
 |bcons t b l ih1 ih2 ih3=>
  intro hw ops out ho k hk;simp only[wf,beq_self_eq_true,Bool.true_and,Bool.and_eq_true]at hw;have h0:=(iU t).1 false ops;have p0:=(m7 t).1 false ops;have h1:=((jW b).1 (unl t false ops).1).1;have hn2:k∉(unl t false ops).2:=fun hq=>by have:=p0.2 k hq;have:=ho k hk;omega
  have hk2:=ho k hk;simp only[cI];split
  ·rw[ih3 hw.2.2 _ out (fun q hq=>by rw[cH];have:=ho q hq;omega) k hk,fO,if_neg hn2,(s9 b).1 _ k aH,p0.1 k hk2]
  ·rw [ih3 hw.2.2 _ _ (fun q hq => by
    rw[cH,List.length_append,List.length_singleton];rcases List.mem_append.1 hq with h|h
    ·have:=ho q h;omega
    ·simp at h;omega) k (List.mem_append_left _ hk),fO,if_neg hn2,List.getElem?_append_left aH,(s9 b).1 _ k aH,p0.1 k hk2]
 |_=>intro hw;simp[wf]at hw
theorem aV5(k:Int)(a:aJ)(p:Int)(c:Co)(i n:Nat)(h:1≤k∧k≤4):Mach.step nm m n ⟨11,0,k,false,if k=1 then []else [a],[],p⟩ (c.ms i)=match act k (rP nm k a c) p c with
  | .error e=>.error e
  | .ok d=>.ok (d.ms i):=by
 unfold Mach.step;simp only[];rw[if_neg (by decide),if_neg (by decide),if_neg (by decide),if_neg (by decide),if_neg (by decide),if_neg (by decide),if_neg (by decide),if_neg (by decide),if_pos trivial];unfold actI act addX;simp only[];have e1:actA nm ⟨11,0,k,false,if k=1 then []else [a],[],p⟩ (c.ms i)=rP nm k a c:=by
  unfold actA rP;simp only[Co.ms]
  by_cases hk:k=1
  ·rw[if_pos hk,if_pos hk]
  ·rw[if_neg hk,if_neg hk,if_neg hk];rfl
 rw[e1,if_pos (by by_cases hk:k=1;exact .inl hk;exact .inr ⟨by omega,by omega,by rw[if_neg hk];simp⟩)]
 generalize rP nm k a c=x
 have e2:actV ⟨11,0,k,false,if k=1 then []else [a],[],p⟩ x=actX k x:=rfl;rw[e2]
 generalize actX k x=X
 have ea:(c.ms i).acts=c.acts:=rfl;rw[ea]
 by_cases h1:k=2∧zX x=false
 ·rw[if_pos h1,if_pos h1] <;> rfl
 rw[if_neg h1,if_neg h1]
 by_cases h2:k=3∧lJ x=false
 ·rw[if_pos h2,if_pos h2] <;> rfl
 rw[if_neg h2,if_neg h2]
 by_cases h3:X∈c.acts
 ·rw[if_pos h3,if_pos h3] <;> rfl
 rw[if_neg h3,if_neg h3]
 by_cases h4:∃b∈c.acts,X.1=4∨b.1=4
 ·rw[if_pos h4,if_pos h4] <;> rfl
 rw[if_neg h4,if_neg h4]
 by_cases h5:c.acts.length=6
 ·rw[if_pos h5,if_pos h5] <;> rfl
 ·rw[if_neg h5,if_neg h5] <;> rfl
theorem aV7(x v:aJ)(t:Int)(c:Co)(i n:Nat)(h:0≤t∧t≤3):Mach.step nm m n ⟨12,0,t,false,[x],[v],0⟩ (c.ms i)=.ok (({c with vars:=vput c.vars x (setV t (dC nm c.vars c.parts v))}:Co).ms i):=by
 unfold Mach.step;simp only[];rw[if_neg (by decide),if_neg (by decide),if_neg (by decide),if_neg (by decide),if_neg (by decide),if_neg (by decide),if_neg (by decide),if_neg (by decide),if_neg (by decide),if_pos trivial];unfold setI setV;simp only[];rw[if_pos h];rfl
def goOn(nm:Bool)(m:Msg)(C:List Ins)(T:Nat):Res (Bool×Co)→List fT×Option (Int×Int)
 | .error e=>([(1,[])],some e)
 | .ok r=>if r.1=true then (done r.2,none)else fin nm m C (r.2.ms T)
theorem last{ops:List Ins}{o:Ins}(hA:Agr C (ops++[o]) ops.length []):C[ops.length]?=some o:=by
 rw[hA ops.length (Nat.le_refl _) (by simp) (by simp)];simp
theorem aO8:∀(t:Tree),okT t=true→(∀ops c,wf t 3=true→Agr C (body t ops) ops.length []→(body t ops).length≤C.length→fin nm m C (c.ms ops.length)=goOn nm m C (body t ops).length (Say.run nm m t c))∧
  (∀ops c,wf t 2=true→Agr C (cmdI t ops) ops.length []→(cmdI t ops).length≤C.length→fin nm m C (c.ms ops.length)=goOn nm m C (cmdI t ops).length (Say.cmd nm m t c))∧
  (∀ops out c,wf t 4=true→(∀k∈out,k < ops.length)→Agr C (cI t ops out) ops.length []→(cI t ops out).length≤C.length→fin nm m C (c.ms ops.length)=goOn nm m C (cI t ops out).length (Say.brs nm m t c)):=by
 intro t;induction t with
 |plain op=>
  intro hok;refine⟨fun ops c hw=>by simp[wf]at hw,fun ops c hw hA hl=>?_,fun ops out c hw=>by simp[wf]at hw⟩
  simp only[okT,decide_eq_true_eq]at hok;simp only[cmdI]at hA hl ⊢;have e:=last hA;simp only[Say.cmd];rcases hok with rfl|rfl
  ·rw[if_neg (by decide)];rw[pS (t:={c.ms ops.length with keep:=false}) e (by simp[jmp]) (by unfold Mach.step;simp[jmp])];simp only[goOn,List.length_append,List.length_singleton];rfl
  ·rw[if_pos rfl,aRQ e rfl];simp only[goOn,if_true];rfl
 |act k a p=>
  intro hok;refine⟨fun ops c hw=>by simp[wf]at hw,fun ops c hw hA hl=>?_,fun ops out c hw=>by simp[wf]at hw⟩
  simp only[okT,decide_eq_true_eq]at hok;simp only[cmdI]at hA hl ⊢;have e:=last hA;have hs:=aV5 (nm:=nm) (m:=m) k a p c ops.length C.length hok;simp only[Say.cmd];cases hx:act k (rP nm k a c) p c with
  |error e1=>
   rw[hx]at hs;rw[aVG e (by simp) hs];rfl
  |ok d=>
   rw[hx]at hs;rw[pS e (by simp) hs];simp only[goOn,List.length_append,List.length_singleton];rfl
 |set_ n v tg=>
  intro hok;refine⟨fun ops c hw=>by simp[wf]at hw,fun ops c hw hA hl=>?_,fun ops out c hw=>by simp[wf]at hw⟩
  simp only[okT,decide_eq_true_eq]at hok;simp only[cmdI]at hA hl ⊢;have e:=last hA;rw[pS e (by simp) (aV7 n v tg c ops.length C.length hok)];simp only[Say.cmd,goOn,List.length_append,List.length_singleton];rfl
 |iff bs ih=>
  intro hok;refine⟨fun ops c hw=>by simp[wf]at hw,fun ops c hw hA hl=>?_,fun ops out c hw=>by simp[wf]at hw⟩
  simp only[wf,beq_self_eq_true,Bool.true_and]at hw;simp only[cmdI]at hA hl ⊢;rw[(ih hok).2.2 ops [] c hw (by simp) hA hl]
  rfl
 |cnil=>
  intro hok;refine⟨fun ops c hw hA hl=>?_,fun ops c hw=>by simp[wf]at hw,fun ops out c hw=>by simp[wf]at hw⟩
  simp[body,Say.run,goOn]
 |ccons x l ih1 ih2=>
  intro hok;refine⟨fun ops c hw hA hl=>?_,fun ops c hw=>by simp[wf]at hw,fun ops out c hw=>by simp[wf]at hw⟩
  simp only[okT,Bool.and_eq_true]at hok;simp only[wf,beq_self_eq_true,Bool.true_and,Bool.and_eq_true]at hw;simp only[body]at hA hl ⊢;have l1:=(jW x).2.1 ops;have l2:=(jW l).1 (cmdI x ops);have p2:=(s9 l).1 (cmdI x ops);rw[(ih1 hok.1).2.1 ops c hw.1 (fun i hi hi2 _=>by rw[hA i hi aH (by simp),p2 i hi2]) aH];simp only[Say.run];cases hx:Say.cmd nm m x c with
  |error e=>rfl
  |ok r=>
   obtain⟨st,d⟩:=r;cases st with
   |true=>rfl
   |false=>
    simp only[goOn,Bool.false_eq_true,if_false];rw[(ih2 hok.2).1 _ d hw.2 (fun i hi hi2 _=>hA i aH hi2 (by simp)) hl]
    rfl
 |bnil=>
  intro hok;refine⟨fun ops c hw=>by simp[wf]at hw,fun ops c hw=>by simp[wf]at hw,fun ops out c hw ho hA hl=>?_⟩
  simp only[cI,cH,Say.brs,goOn,Bool.false_eq_true,if_false]
 |belse b l ih1 ih2=>
  intro hok;refine⟨fun ops c hw=>by simp[wf]at hw,fun ops c hw=>by simp[wf]at hw,fun ops out c hw ho hA hl=>?_⟩
  simp only[okT,Bool.and_eq_true]at hok;simp only[wf,beq_self_eq_true,Bool.true_and,Bool.and_eq_true]at hw;simp only[cI]at hA hl ⊢;rw[cH]at hl ⊢;simp only[Say.brs];exact(ih1 hok.1).1 ops c hw.1 (fun i hi hi2 _=>by rw[hA i hi (by rw[cH];exact hi2) (by simp),fO,if_neg (fun h=>by have:=ho i h;omega)]) hl
 |bcons t b l ih1 ih2 ih3=>
  intro hok;refine⟨fun ops c hw=>by simp[wf]at hw,fun ops c hw=>by simp[wf]at hw,fun ops out c hw ho hA hl=>?_⟩
  simp only[okT,Bool.and_eq_true]at hok;simp only[wf,beq_self_eq_true,Bool.true_and,Bool.and_eq_true]at hw;have h0:=(iU t).1 false ops;have p0:=(m7 t).1 false ops;have h1:=(jW b).1 (unl t false ops).1;have p1:=(s9 b).1 (unl t false ops).1;have hou:∀i,ops.length≤i→i∉out:=fun i hi h=>by have:=ho i h;omega
  have hup:∀i,(unl t false ops).1.length≤i→i∉(unl t false ops).2:=fun i hi h=>by have:=h0.2.2.2 i h;omega
  simp only[cI]at hA hl ⊢;simp only[Say.brs]
  by_cases hn:eH l=true
  ·have el:l=.bnil:=by cases l <;> simp[wf,eH]at hw hn;rfl
   subst el;simp only[if_pos hn]at hA hl ⊢;simp only[cI,cH]at hA hl ⊢;have hget:∀i,ops.length≤i→i < (body b (unl t false ops).1).length→C[i]?=(land (body b (unl t false ops).1) (unl t false ops).2)[i]?:=fun i hi hi2=>by
    rw[hA i hi (by rw[cH,cH];exact hi2) (by simp),fO _ out,if_neg (hou i hi)]
   rw [(aUO t hok.1).1 false ops (body b (unl t false ops).1).length c hw.1 (fun i hi hi2 hi3 => by rw [hget i hi aH, fO, if_neg hi3, p1 i hi2])
    (fun k hk hk2=>by have:=h0.2.2.2 k hk;rw[hget k hk2 aH,fO,if_pos hk,p1 k this]) h1.1 hl]
   cases hh:(holds nm m t c).1 with
   |true=>
    simp only[Bool.true_eq_false,if_false,if_true];exact(ih2 hok.2.1).1 _ _ hw.2.1 (fun i hi hi2 _=>by rw[hget i aH hi2,fO,if_neg (hup i hi)]) hl
   |false=>simp only[if_true,Bool.false_eq_true,if_false,Say.brs,goOn]
  ·simp only[if_neg hn]at hA hl ⊢;have l3:=(jW l).2.2 (land (body b (unl t false ops).1++[jmp 3]) (unl t false ops).2) (out++[(body b (unl t false ops).1).length]);rw[cH,List.length_append,List.length_singleton]at l3;have ho2:∀k∈out++[(body b (unl t false ops).1).length],k < (land (body b (unl t false ops).1++[jmp 3]) (unl t false ops).2).length:=fun q hq=>by
    rw[cH,List.length_append,List.length_singleton];rcases List.mem_append.1 hq with h|h
    ·have:=ho q h;omega
    ·simp at h;omega
   have hget:∀i,ops.length≤i→i < (body b (unl t false ops).1).length→C[i]?=(land (body b (unl t false ops).1++[jmp 3]) (unl t false ops).2)[i]?:=fun i hi hi2=>by
    rw[hA i hi aH (by simp),(s9 l).2.2 _ _ i (by rw[cH];simp;omega) (by simp;exact⟨hou i hi,by omega⟩)]
   have hj := aU1 l hw.2.2 _ _ ho2 (body b (unl t false ops).1).length (by simp);rw [fO, if_neg (hup _ h1.1), List.getElem?_append_right (Nat.le_refl _)] at hj;simp only [Nat.sub_self, List.getElem?_cons_zero, Option.map_some] at hj;rw [(aUO t hok.1).1 false ops ((body b (unl t false ops).1).length + 1) c hw.1 (fun i hi hi2 hi3 => by rw [hget i hi aH, fO, if_neg hi3, List.getElem?_append_left aH, p1 i hi2])
    (fun k hk hk2 => by
     have:=h0.2.2.2 k hk;rw[hget k hk2 aH,fO,if_pos hk,List.getElem?_append_left aH,p1 k this,List.length_append,List.length_singleton]) aH aH]
   cases hh:(holds nm m t c).1 with
   |true=>
    simp only[Bool.true_eq_false,if_false,if_true];rw[(ih2 hok.2.1).1 _ _ hw.2.1 (fun i hi hi2 _=>by rw[hget i aH hi2,fO,if_neg (hup i hi),List.getElem?_append_left hi2]) aH];cases Say.run nm m b (holds nm m t c).2 with
    |error e=>rfl
    |ok r=>
     obtain⟨sp,d⟩:=r;cases sp with
     |true=>rfl
     |false=>
      simp only[goOn,Bool.false_eq_true,if_false];exact aHB (by rw[hA _ aH aH (by simp),hj]) aH hl
   |false=>
    simp only[if_true,Bool.false_eq_true,if_false];have:=(ih3 hok.2.2).2.2 _ _ (holds nm m t c).2 hw.2.2 ho2 (fun i hi hi2 _=>by rw[cH]at hi;simp at hi;exact hA i aH hi2 (by simp)) hl;rw[cH,List.length_append,List.length_singleton]at this;exact this
 |_=>intro hok;exact⟨fun ops c hw=>by simp[wf]at hw,fun ops c hw=>by simp[wf]at hw,fun ops out c hw=>by simp[wf]at hw⟩
theorem aUM:∀(t:Tree),(∀tn ops,(unl t tn ops).1.length≤ops.length+ilen t)∧(∀all tn ops away here,(unlL all tn t ops away here).1.length≤ops.length+ilen t):=by
 intro t;induction t with
 |const b=>refine⟨fun tn ops=>?_,fun all tn ops away here=>by simp[unlL]⟩;simp only[unl];split <;> simp[ilen]
 |not_ t ih=>exact⟨fun tn ops=>by simp only[unl,ilen];exact ih.1 _ _,fun all tn ops away here=>by simp[unlL]⟩
 |many all l ih=>exact⟨fun tn ops=>by simp only[unl,ilen,cH];exact ih.2 _ _ _ _ _,fun all tn ops away here=>by simp[unlL]⟩
 |mat tag oct op a b=>exact⟨fun tn ops=>by simp[unl,ilen],fun all tn ops away here=>by simp[unlL]⟩
 |exi a=>exact⟨fun tn ops=>by simp[unl,ilen],fun all tn ops away here=>by simp[unlL]⟩
 |siz tag n=>exact⟨fun tn ops=>by simp[unl,ilen],fun all tn ops away here=>by simp[unlL]⟩
 |tcons t l ih1 ih2=>
  refine⟨fun tn ops=>by simp[unl],fun all tn ops away here=>?_⟩
  simp only[unlL,ilen];split
  ·have h1:=ih1.1 (!tn) ops;have h2:=ih2.2 all tn (unl t (!tn) ops).1 away (here++(unl t (!tn) ops).2);omega
  ·have h1:=ih1.1 tn ops;have h2:=ih2.2 all tn (unl t tn ops).1 (away++(unl t tn ops).2) here;omega
 |_=>exact⟨fun tn ops=>by simp[unl],fun all tn ops away here=>by simp[unlL]⟩
theorem aMU:∀(t:Tree),(∀ops,(body t ops).length≤ops.length+ilen t)∧(∀ops,(cmdI t ops).length≤ops.length+ilen t)∧(∀ops out,(cI t ops out).length≤ops.length+ilen t):=by
 intro t;induction t with
 |plain op=>exact⟨fun ops=>by simp[body],fun ops=>by simp[cmdI,ilen],fun ops out=>by simp[cI,cH]⟩
 |act k a p=>exact⟨fun ops=>by simp[body],fun ops=>by simp[cmdI,ilen],fun ops out=>by simp[cI,cH]⟩
 |set_ n v t=>exact⟨fun ops=>by simp[body],fun ops=>by simp[cmdI,ilen],fun ops out=>by simp[cI,cH]⟩
 |iff bs ih=>exact⟨fun ops=>by simp[body],fun ops=>ih.2.2 ops [],fun ops out=>by simp[cI,cH]⟩
 |ccons c l ih1 ih2=>
  refine⟨fun ops=>?_,fun ops=>by simp[cmdI],fun ops out=>by simp[cI,cH]⟩
  have h1:=ih1.2.1 ops;have h2:=ih2.1 (cmdI c ops);simp only[body,ilen];omega
 |belse b l ih1 ih2=>
  refine⟨fun ops=>by simp[body],fun ops=>by simp[cmdI],fun ops out=>?_⟩
  have h1:=ih1.1 ops;simp only[cI,ilen,cH];omega
 |bcons t b l ih1 ih2 ih3=>
  refine⟨fun ops=>by simp[body],fun ops=>by simp[cmdI],fun ops out=>?_⟩
  have h0:=(aUM t).1 false ops;have h1:=ih2.1 (unl t false ops).1;simp only[cI,ilen];split
  ·have h2:=ih3.2.2 (land (body b (unl t false ops).1) (unl t false ops).2) out;rw[cH]at h2;omega
  ·have h2:=ih3.2.2 (land (body b (unl t false ops).1++[jmp 3]) (unl t false ops).2) (out++[(body b (unl t false ops).1).length]);rw[cH]at h2;simp only[List.length_append,List.length_singleton]at h2;omega
 |_=>exact⟨fun ops=>by simp[body],fun ops=>by simp[cmdI],fun ops out=>by simp[cI,cH]⟩
theorem aU6{t:Tree}(h3:wf t 3=true)(hok:okT t=true)(hl:(script t).length≤400):((Mach.run nm (script t) m).acts,(Mach.run nm (script t) m).err)=out (Say.run nm m t start):=by
 unfold Mach.run;rw[if_neg aH];have:=(aO8 (nm:=nm) (m:=m) (C:=script t) t hok).1 [] start h3 (fun i _ _ _=>rfl) (Nat.le_refl _);have e:(Co.ms start ([]:List Ins).length)=Mach.start:=rfl;rw[e]at this;refine Eq.trans ?_ (this.trans ?_)
 ·rfl
 ·cases Say.run nm m t start with
  |error e=>rfl
  |ok r=>
   obtain⟨sp,d⟩:=r;cases sp with
   |true=>rfl
   |false=>
    simp only[goOn,Bool.false_eq_true,if_false,out];exact aVF rfl
theorem aKP{s:aJ}{r:List aJ×Tree}(h:eE s=.ok r)(hs:s.length≤600):(script r.2).length≤300∧((Mach.run nm (script r.2) m).acts,(Mach.run nm (script r.2) m).err)=out (Say.run nm m r.2 start):=by
 have hf:=pX h;have hl:=(aMU r.2).1 [];have hl:(script r.2).length≤0+ilen r.2:=hl;exact⟨by omega,aU6 hf.1 hf.2.2.2.1 aH⟩
end
end Go.Say
end
section
namespace Go.Syn
section
variable{s t b w:aJ}{a:Nat}{c:UInt8}
theorem g9(h:s.drop a=c::t):s[a]?=some c∧a < s.length∧s.drop (a+1)=t:=by
 have h1:(s.drop a)[0]?=some c:=by rw[h];rfl
 rw[List.getElem?_drop,Nat.add_zero]at h1;refine⟨h1,?_,?_⟩
 ·rcases Nat.lt_or_ge a s.length with h'|h'
  ·exact h'
  ·rw[List.getElem?_eq_none h']at h1;cases h1
 ·rw[←List.drop_drop,h];rfl
theorem vM(h:s.drop a=b++t):s.drop (a+b.length)=t:=by
 rw[←List.drop_drop,h,List.drop_left]
theorem aRF(h:s.drop a=t)(h0:t≠[]):s.length=a+t.length:=by
 have:=congrArg List.length h;rw[List.length_drop]at this;have:0 < t.length:=List.length_pos_iff.2 h0;omega
def gN(c:UInt8):Bool:=decide (c.toNat=32∨c.toNat=9∨c.toNat=13∨c.toNat=10)
def qX(c:UInt8):Bool:=decide (¬(c.toNat=32∨c.toNat=9∨c.toNat=13∨c.toNat=10∨c.toNat=35∨c.toNat=47))
theorem aPK(h:s.drop a=c::t)(hc:qX c=true):skip s a=.ok a:=by
 obtain⟨h1,h2,_⟩:=g9 h;unfold skip;rw[show s.length+1 - a=(s.length - a)+1 from by omega];exact pE h1 (by simpa[qX]using hc)
theorem aK0(h:s.drop a=c::t)(hc:gN c=true):skip s a=skip s (a+1):=by
 obtain⟨h1,h2,_⟩:=g9 h;unfold skip;rw[show s.length+1 - a=(s.length+1 - (a+1))+1 from by omega];exact j6 h1 (by simpa[gN]using hc)
theorem sR:∀ {b:aJ} {a:Nat},s.drop a=b++t→(∀c∈b,gN c=true)→skip s a=skip s (a+b.length)
 | [],a,h,_=>rfl
 |c::b,a,h,hb=>by
  rw[aK0 h (hb c (by simp)),sR (b:=b) (g9 h).2.2 (fun c hc=>hb c (by simp[hc]))]
  congr 1;simp;omega
theorem aTS(h:s.length≤a):skip s a=.ok a:=by
 unfold skip;rcases Nat.lt_or_ge s.length a with h'|h'
 ·rw[show s.length+1 - a=0 from by omega];rfl
 ·rw[show s.length+1 - a=0+1 from by omega];exact tK h
theorem oO(h:s.drop a=b++c::t)(hb:∀c∈b,gN c=true)(hc:qX c=true):next s a=kI s (a+b.length) c:=by
 have h2:=vM h;unfold next;rw[sR h hb,aPK h2 hc];simp only[(g9 h2).1]
theorem aSG(h:s.drop a=b)(hb:∀c∈b,gN c=true)(ha:a≤s.length):next s a=.ok (s.length,⟨0,[],0,s.length⟩):=by
 have hl:a+b.length=s.length:=by have:=congrArg List.length h;rw[List.length_drop]at this;omega
 unfold next;rw[sR (t:=[]) (by rw[h,List.append_nil]) hb,hl,aTS (Nat.le_refl _)];simp
theorem m6{p:UInt8→Bool}:∀ {w t:aJ},(∀c∈w,p c=true)→(∀c,t.head?=some c→p c=false)→(w++t).takeWhile p=w
 | [],t,_,ht=>by
  cases t with
  |nil=>rfl
  |cons c t=>rw[List.nil_append,List.takeWhile_cons,ht c rfl];rfl
 |c::w,t,hw,ht=>by
  rw[List.cons_append,List.takeWhile_cons,hw c (by simp),m6 (fun x hx=>hw x (by simp[hx])) ht];rfl
def esc(w:aJ):aJ:=w.flatMap fun c=>if c.toNat=34∨c.toNat=92 then [92,c]else [c]
theorem nM{wat:Int}:∀ {w:aJ} {a f:Nat} {acc:aJ},s.drop a=esc w++34::t→w.length < f→fG s wat f a acc=.ok (a+(esc w).length+1,acc++w)
 | [],a,f,acc,h,hf=>by
  obtain⟨f,rfl⟩:∃g,f=g+1:=⟨f - 1,by omega⟩;obtain⟨h1,h2,_⟩:=g9 (show s.drop a=34::t from h);rw[yV h2 (by rw[h1];rfl)];simp[esc]
 |c::w,a,f,acc,h,hf=>by
  obtain⟨f,rfl⟩:∃g,f=g+1:=⟨f - 1,by omega⟩;have hf':w.length < f:=by simpa using hf
  by_cases hc:c.toNat=34∨c.toNat=92
  ·have e:esc (c::w)=92::c::esc w:=by unfold esc;rw[List.flatMap_cons,if_pos hc];rfl
   rw[e]at h ⊢;obtain⟨h1,h2,h3⟩:=g9 (show s.drop a=92::(c::esc w++34::t)from h);obtain⟨h4,h5,h6⟩:=g9 (show s.drop (a+1)=c::(esc w++34::t)from h3);rw[nC (fun h0=>absurd h0.2 (by rw[h1];decide)) (by rw[h1];rfl) aH,h4,nM (w:=w) (a:=a+2) (by rw[show a+2=a+1+1 from rfl,h6]) hf'];simp;omega
  ·have e:esc (c::w)=c::esc w:=by unfold esc;rw[List.flatMap_cons,if_neg hc];rfl
   rw[e]at h ⊢;obtain⟨h1,h2,h3⟩:=g9 (show s.drop a=c::(esc w++34::t)from h);rw[l5 (by rw[h1];simp only[Option.getD_some];omega) (by rw[h1];simp only[Option.getD_some];omega) aH,h1,nM (w:=w) (a:=a+1) h3 hf'];simp;omega
end
inductive Tk where
 |sg (c:UInt8)
 |nm (w:aJ)
 |tg (w:aJ)
 |tx (w:aJ)
 |nu (n:Nat)
def Tk.body:Tk→aJ
 | .sg c=>[c]
 | .nm w=>w
 | .tg w=>58::w
 | .tx w=>34::(esc w++[34])
 | .nu n=>Lib.decDigits n
def Tk.word:Tk→Nat→Word
 | .sg c,a=>⟨5,[c],0,a⟩
 | .nm w,a=>⟨1,cN w,0,a⟩
 | .tg w,a=>⟨2,cN w,0,a⟩
 | .tx w,a=>⟨3,w,0,a⟩
 | .nu n,a=>⟨4,[],n,a⟩
def yS:aJ→Bool
 | []=>false
 |c::w=>gK c&&w.all dI
def Tk.good:Tk→Bool
 | .sg c=>cP c
 | .nm w=>yS w
 | .tg w=>yS w
 | .tx _=>true
 | .nu n=>decide (n≤2147483647)
def Tk.sep:Tk→aJ→Prop
 | .nm _,t=>∀c,t.head?=some c→dI c=false
 | .tg _,t=>∀c,t.head?=some c→dI c=false
 | .nu _,t=>∀c,t.head?=some c→dI c=false
 |_,_=>True
theorem aKX{c:UInt8}(h:cP c=true):qX c=true:=by
 unfold cP at h;unfold qX;simp at h ⊢;omega
def aAW(c:UInt8):Bool:=!gK c||(qX c&&(!cP c&&(decide (c.toNat≠34)&&decide (c.toNat≠58))))
theorem aKJ:∀n:Fin 256,aAW (UInt8.ofNat n.val)=true:=by decide+kernel
theorem aFE(c:UInt8)(h:gK c=true):qX c=true∧cP c=false∧c.toNat≠34∧c.toNat≠58:=by
 have:=aKJ ⟨c.toNat,c.toNat_lt⟩;simp only[UInt8.ofNat_toNat]at this;unfold aAW at this;rw[h]at this
 simpa using this
theorem aLU:∀w:aJ,w.length≤(esc w).length
 | []=>Nat.le_refl _
 |c::w=>by
  have ih:=aLU w;unfold esc at ih ⊢;rw[List.flatMap_cons];rw[List.length_append];split <;> simp only[List.length_cons,List.length_nil] <;> omega
theorem aHR{w:aJ}(h:yS w=true):∃c r,w=c::r∧gK c=true∧∀x∈w,dI x=true:=by
 cases w with
 |nil=>cases h
 |cons c r=>
  simp only[yS,Bool.and_eq_true,List.all_eq_true]at h;refine⟨c,r,rfl,h.1,fun x hx=>?_⟩
  rcases List.mem_cons.1 hx with rfl|hx
  ·simp[dI,h.1]
  ·exact h.2 x hx
def aLO(c:UInt8):Bool:=!dX c||(dI c&&(qX c&&(!cP c&&(!gK c&&(decide (c.toNat≠34)&&decide (c.toNat≠58))))))
theorem aVA:∀n:Fin 256,aLO (UInt8.ofNat n.val)=true:=by decide+kernel
theorem aM2(c:UInt8)(h:dX c=true):dI c=true∧qX c=true∧cP c=false∧gK c=false∧c.toNat≠34∧c.toNat≠58:=by
 have:=aVA ⟨c.toNat,c.toNat_lt⟩;simp only[UInt8.ofNat_toNat]at this;unfold aLO at this;rw[h]at this
 simpa using this
theorem aEO:∀n:Fin 10,dX (UInt8.ofNat (48+n.val))=true∧(UInt8.ofNat (48+n.val)).toNat - 48=n.val:=by decide+kernel
theorem aQ0:∀(n:Nat),∀c∈Lib.decDigits n,dX c=true:=by
 intro n;induction n using Nat.strongRecOn with
 |_ n ih=>
  intro c hc;rw[Lib.decDigits]at hc;split at hc
  ·rename_i h;rw[List.mem_singleton.1 hc];exact(aEO ⟨n,h⟩).1
  ·rename_i h;rcases List.mem_append.1 hc with hc|hc
   ·exact ih (n / 10) aH c hc
   ·rw[List.mem_singleton.1 hc];exact(aEO ⟨n % 10,by omega⟩).1
theorem aYJ:∀(n:Nat),n≤2147483647→fE (Lib.decDigits n)=(n:Int):=by
 intro n;induction n using Nat.strongRecOn with
 |_ n ih=>
  intro hn;rw[Lib.decDigits];split
  ·rename_i h;have:=(aEO ⟨n,h⟩).2;simp only at this;simp only[fE,List.foldl_cons,List.foldl_nil,vJ];rw[this];rw[if_neg aH];omega
  ·rename_i h;have h1:=ih (n / 10) aH aH;have:=(aEO ⟨n % 10,by omega⟩).2;simp only at this;unfold fE at h1 ⊢;rw[List.foldl_append,h1];simp only[List.foldl_cons,List.foldl_nil,vJ];rw[this,if_neg aH];omega
theorem aU9(n:Nat):∃c r,Lib.decDigits n=c::r∧dX c=true:=by
 cases hd:Lib.decDigits n with
 |nil=>rw[Lib.decDigits]at hd;split at hd <;> simp at hd
 |cons c r=>exact⟨c,r,rfl,aQ0 n c (by rw[hd];simp)⟩
def aR4(c:UInt8):Bool:=dI c||(!dX c&&(decide (c.toNat≠77)&&(decide (c.toNat≠109)&&(decide (c.toNat≠75)&&decide (c.toNat≠107)))))
theorem aYZ:∀n:Fin 256,aR4 (UInt8.ofNat n.val)=true:=by decide+kernel
theorem aR5(c:UInt8)(h:dI c=false):dX c=false∧c.toNat≠77∧c.toNat≠109∧c.toNat≠75∧c.toNat≠107:=by
 have:=aYZ ⟨c.toNat,c.toNat_lt⟩;simp only[UInt8.ofNat_toNat]at this;unfold aR4 at this;rw[h]at this
 simpa using this
theorem aHV{s t:aJ}{a n:Nat}{wat:Int}(h:s.drop a=Lib.decDigits n++t)(hn:n≤2147483647)(ht:∀c,t.head?=some c→dI c=false):pP s a wat=.ok (a+(Lib.decDigits n).length,(n:Int)):=by
 have e:dA s a=Lib.decDigits n:=by
  unfold dA;rw[h];exact m6 (aQ0 n) (fun c hc=>(aR5 c (ht c hc)).1)
 have h2:=vM h;have hw:dI ((s[a+(Lib.decDigits n).length]?).getD 0)=false:=by
  cases t with
  |nil=>
   have:s.length≤a+(Lib.decDigits n).length:=by
    have:=congrArg List.length h2;rw[List.length_drop]at this;simp at this;omega
   rw[List.getElem?_eq_none this];rfl
  |cons c t=>rw[(g9 h2).1];exact ht c rfl
 have hk:=aR5 _ hw;have ec:numC s a=((s[a+(Lib.decDigits n).length]?).getD 0).toNat:=by unfold numC;rw[e]
 have ea:numA s a=a+(Lib.decDigits n).length:=by
  unfold numA;rw[if_neg (by rw[ec];omega),e]
 have en:numN s a=(n:Int):=by
  unfold numN;rw[if_neg (by rw[ec];omega),if_neg (by rw[ec];omega),e,aYJ n hn]
 unfold pP;rw[ea,en,if_neg (by rw[hw];simp),if_neg aH]
theorem aVU{s t b:aJ}{a:Nat}{tk:Tk}(h:s.drop a=b++(tk.body++t))(hb:∀c∈b,gN c=true)(hg:tk.good=true)(hs:tk.sep t):
  next s a=.ok (a+b.length+tk.body.length,tk.word (a+b.length))∧s.drop (a+b.length+tk.body.length)=t:=by
 have h2:=vM h;have h3:=vM h2;refine⟨?_,h3⟩
 cases tk with
 |sg c=>
  rw[oO (t:=t) h hb (aKX hg)];unfold kI;rw[if_pos (show cP c=true from hg)];rfl
 |nm w=>
  obtain⟨c,r,rfl,hl,hw⟩:=aHR hg;obtain⟨q1,q2,q3,q4⟩:=aFE c hl;rw[oO (t:=r++t) h hb q1];unfold kI;rw[if_neg (by simp[q2]),if_neg q3,if_neg q4,if_pos hl];have e:kP s (a+b.length)=c::r:=by
   unfold kP;rw[h2];exact m6 hw hs
  rw[e];rfl
 |tg w=>
  obtain⟨c,r,rfl,hl,hw⟩:=aHR hg;obtain⟨h4,h5,h6⟩:=g9 (show s.drop (a+b.length)=58::(c::r++t)from h2);rw[oO (c:=58) (t:=c::r++t) h hb (by decide)];unfold kI;rw[if_neg (by decide),if_neg (by decide),if_pos (by decide)];have e:kP s (a+b.length+1)=c::r:=by
   unfold kP;rw[h6];exact m6 hw hs
  rw[if_pos (by rw[(g9 (show s.drop (a+b.length+1)=c::(r++t)from h6)).1];exact hl),e];simp[Tk.body,Tk.word];omega
 |tx w=>
  have h2':s.drop (a+b.length)=34::(esc w++34::t):=by rw[h2];simp[Tk.body]
  obtain⟨h4,h5,h6⟩:=g9 h2';rw[oO (c:=34) (t:=esc w++34::t) (by rw[h];simp[Tk.body]) hb (by decide)];unfold kI;rw[if_neg (by decide),if_pos (by decide)];have hle:=aLU w;have hl:=aRF h6 (by simp);simp at hl;have e:quoted s (a+b.length) ((a+b.length:Nat):Int)=.ok (a+b.length+1+(esc w).length+1,w):=by
   unfold quoted;rw[nM h6 aH];rfl
  rw[e];simp[Tk.body,Tk.word];omega
 |nu n=>
  obtain⟨c,r,e1,e2⟩:=aU9 n;obtain⟨q1,q2,q3,q4,q5,q6⟩:=aM2 c e2;have hg':n≤2147483647:=by simpa[Tk.good]using hg
  rw[oO (c:=c) (t:=r++t) (by rw[h];simp[Tk.body,e1]) hb q2];unfold kI;rw[if_neg (by simp[q3]),if_neg q5,if_neg q6,if_neg (by simp[q4]),if_pos e2,aHV (n:=n) (t:=t) h2 hg' hs]
  rfl
end Go.Syn
end
section
namespace Go.Syn
abbrev Wd:=Nat×aJ×Int
def Word.wd(w:Word):Wd:=(w.kind,w.s,w.n)
abbrev wTx(w:aJ):Wd:=(3,w,0)
abbrev wSg(c:UInt8):Wd:=(5,[c],0)
abbrev wNm(w:aJ):Wd:=(1,w,0)
abbrev wTg(w:aJ):Wd:=(2,w,0)
abbrev wNu(n:Int):Wd:=(4,[],n)
def Path(s:aJ):St→List Wd→St→Prop
 |st,[],st'=>st'=st
 |st,w::ws,st'=>st.2.kind≠0∧st.2.wd=w∧∃q,next s st.1=.ok q∧Path s q ws st'
theorem jZ{s:aJ}{u v:List Wd}{st st':St}:Path s st (u++v) st'↔∃q,Path s st u q∧Path s q v st':=by
 induction u generalizing st with
 |nil=>simp[Path]
 |cons w u ih=>
  constructor
  ·rintro⟨h1,h2,q,h3,h4⟩;obtain⟨q2,h5,h6⟩:=ih.1 h4;exact⟨q2,⟨h1,h2,q,h3,h5⟩,h6⟩
  ·rintro⟨q2,⟨h1,h2,q,h3,h5⟩,h6⟩;exact⟨h1,h2,q,h3,ih.2 ⟨q2,h5,h6⟩⟩
theorem jU{s:aJ}{u:List Wd}{st st':St}(ha:st.1≤s.length)(h:Path s st u st'):mu s st'+u.length≤mu s st∧st'.1≤s.length:=by
 induction u generalizing st with
 |nil=>have:st'=st:=h;subst this;exact⟨Nat.le_refl _,ha⟩
 |cons w u ih=>
  obtain⟨h1,h2,q,h3,h4⟩:=h;obtain⟨m1,m2⟩:=fC ha h1 h3;have:=ih m2 h4;simp only[List.length_cons];exact⟨by omega,this.2⟩
section
variable{s:aJ}{st st':St}{ws:List Wd}{c:UInt8}{w:aJ}{n:Int}
theorem nY{x:Word}{k:Nat}{t:aJ}{n:Int}(h:x.wd=(k,t,n)):x.kind=k∧x.s=t∧x.n=n:=by
 cases x;simp[Word.wd]at h;exact h
theorem aEQ(h:Path s st (wSg c::ws) st'):∃q,eat s st [c]=.ok (true,q)∧Path s q ws st':=by
 obtain⟨_,h2,q,h3,h4⟩:=h;obtain⟨e1,e2,_⟩:=nY h2;exact⟨q,by unfold eat;rw[if_pos ⟨e1,e2⟩,h3],h4⟩
theorem aJX(h:¬(st.2.kind=5∧st.2.s=[c])):eat s st [c]=.ok (false,st):=by unfold eat;rw[if_neg h]
theorem kX(h:Path s st (wSg c::ws) st'):∃q,sign s st [c]=.ok q∧Path s q ws st':=by
 obtain⟨_,h2,q,h3,h4⟩:=h;obtain⟨e1,e2,_⟩:=nY h2;exact⟨q,by unfold sign take;rw[if_neg (by simp[e1,e2]),h3],h4⟩
theorem wS{k:Nat}{t:aJ}{n:Int}{texts:List aJ}(ht:texts=[]∨t∈texts)(h:Path s st ((k,t,n)::ws) st'):∃q,take s st k texts=.ok (st.2,q)∧st.2.wd=(k,t,n)∧Path s q ws st':=by
 obtain⟨_,h2,q,h3,h4⟩:=h;obtain⟨e1,e2,_⟩:=nY h2;refine⟨q,?_,h2,h4⟩
 unfold take;rw[if_neg (by rw[e1,e2];rcases ht with rfl|ht <;> simp[*]),h3]
theorem nJ{ff:aJ→Int}(hf:ff w=0)(h:Path s st (wTx w::ws) st'):∃q,text s st ff=.ok (w,q)∧Path s q ws st':=by
 obtain⟨q,h1,h2,h3⟩:=wS (texts:=[]) (.inl rfl) h;obtain⟨e1,e2,_⟩:=nY h2;refine⟨q,?_,h3⟩
 unfold text;rw[if_neg (by rw[e2];exact fun h=>h.2 hf),h1];simp only[e2]
end
inductive GList:List Wd→List aJ→Prop where
 |one (w:aJ):GList [wTx w] [w]
 |many (w:aJ) (ws:List aJ):GList (wSg 91::wTx w::(ws.flatMap (fun x=>[wSg 44,wTx x])++[wSg 93])) (w::ws)
theorem dO{s:aJ}{st st':St}{w:Wd}{ws:List Wd}(h:Path s st (w::ws) st'):st.2.kind=w.1∧st.2.s=w.2.1:=by
 obtain⟨k,t,n⟩:=w;obtain⟨e1,e2,_⟩:=nY h.2.1;exact⟨e1,e2⟩
theorem aC1{s:aJ}{ff:aJ→Int}:∀(ws:List aJ) (f:Nat) (st st':St) (acc:List aJ),ws.length < f→(∀x∈ws,ff x=0)→
  Path s st (ws.flatMap (fun x=>[wSg 44,wTx x])++[wSg 93]) st'→lZ s ff f st acc=.ok (acc++ws,st')
 | [],f,st,st',acc,hf,_,h=>by
  obtain⟨f,rfl⟩:∃g,f=g+1:=⟨f - 1,by omega⟩;have h:Path s st [wSg 93] st':=h;obtain⟨e1,e2⟩:=dO h;obtain⟨q,h1,h2⟩:=kX h;unfold lZ;rw[aJX (by rw[e2];simp)];simp only[Bool.false_eq_true,if_false];rw[h1];have:st'=q:=h2;rw[this,List.append_nil]
 |w::ws,f,st,st',acc,hf,hg,h=>by
  obtain⟨f,rfl⟩:∃g,f=g+1:=⟨f - 1,by omega⟩;have h:Path s st (wSg 44::wTx w::(ws.flatMap (fun x=>[wSg 44,wTx x])++[wSg 93])) st':=h;obtain⟨q,h1,h2⟩:=aEQ h;obtain⟨q2,h3,h4⟩:=nJ (ff:=ff) (hg w (by simp)) h2;unfold lZ;rw[h1];simp only[if_true];rw[h3];simp only[];rw[aC1 ws f q2 st' _ (by simpa using hf) (fun x hx=>hg x (by simp[hx])) h4];simp
theorem wC{s:aJ}{ff:aJ→Int}{u:List Wd}{l:List aJ}{st st':St}(hu:GList u l)(hg:∀x∈l,ff x=0)(ha:st.1≤s.length)(h:Path s st u st'):list s st ff=.ok (l,st'):=by
 cases hu with
 |one w=>
  obtain⟨e1,e2⟩:=dO h;obtain⟨q,h1,h2⟩:=nJ (ff:=ff) (hg w (by simp)) h;have:st'=q:=h2;subst this;unfold list;rw[aJX (by rw[e1];simp)];simp only[];rw[h1];simp
 |many w ws=>
  obtain⟨q,h1,h2⟩:=aEQ h;obtain⟨q2,h3,h4⟩:=nJ (ff:=ff) (hg w (by simp)) h2;have m0:q.1≤s.length:=(rW ha h1).1;have m1:q2.1≤s.length:=(iR (r:=(w,q2)) m0 h3).2;have m2:=jU m1 h4;have hx:∀l:List aJ,l.length≤(l.flatMap (fun x=>[wSg 44,wTx x])).length:=by
   intro l;induction l with
   |nil=>simp
   |cons x l ih=>rw[List.flatMap_cons,List.length_append];simp only[List.length_cons,List.length_nil];omega
  have hx1:=hx ws;rw[List.length_append]at m2;unfold list;rw[h1];simp only[];rw[h3];simp only[if_true];rw[aC1 ws _ q2 st' _ aH (fun x hx=>hg x (by simp[hx])) h4];simp
theorem eS{s:aJ}{st st':St}{w:Wd}{ws:List Wd}(ha:st.1≤s.length)(h:Path s st (w::ws) st'):∃q,next s st.1=.ok q∧q.1≤s.length∧Path s q ws st':=by
 obtain⟨h1,h2,q,h3,h4⟩:=h;exact⟨q,h3,(fC ha h1 h3).2,h4⟩
inductive GTags:How→List Wd→How→Prop where
 |nil (h:How):GTags h [] h
 |tag (h h':How) (x:aJ) (i:Nat) (u:List Wd):h.tag=0→i < 3→cQ dE x=i→GTags ⟨h.cmp,1+(i:Int),h.oct⟩ u h'→GTags h (wTg x::u) h'
 |cmp (h h':How) (x:aJ) (u:List Wd):h.cmp=false→x∈[eB,fJ]→GTags ⟨true,h.tag,decide (x=eB)⟩ u h'→GTags h (wTg iJ::wTx x::u) h'
theorem aPU{s:aJ}{h h':How}{u:List Wd}(hu:GTags h u h'):∀(f:Nat) (st st':St),u.length < f→st.1≤s.length→Path s st u st'→st'.2.kind≠2→eG s f h st=.ok (h',st'):=by
 induction hu with
 |nil h=>
  intro f st st' hf ha hp hk;obtain⟨f,rfl⟩:∃g,f=g+1:=⟨f - 1,by omega⟩;have:st'=st:=hp;subst this;unfold eG;rw[if_neg hk]
 |tag h h' x i u ht hi hx _ ih=>
  intro f st st' hf ha hp hk;obtain⟨f,rfl⟩:∃g,f=g+1:=⟨f - 1,by omega⟩;obtain⟨e1,e2⟩:=dO hp;obtain⟨q,h1,h2,h3⟩:=eS ha hp;unfold eG;rw[if_pos e1,e2,hx,if_neg aH,if_neg (by rintro(⟨h,_⟩|⟨_,h⟩);omega;exact h ht),if_pos aH,h1];simp only[];exact ih f q st' (by simpa using hf) h2 h3 hk
 |cmp h h' x u hc hx _ ih=>
  intro f st st' hf ha hp hk;obtain⟨f,rfl⟩:∃g,f=g+1:=⟨f - 1,by omega⟩;obtain⟨e1,e2⟩:=dO hp;obtain⟨q,h1,h2,h3⟩:=eS ha hp;obtain⟨q2,h4,h5⟩:=nJ (ff:=oneOf 7 [eB,fJ]) (by unfold oneOf;rw[if_pos hx]) h3;have m1:q2.1≤s.length:=(iR (r:=(x,q2)) h2 h4).2;have e3:cQ dE iJ=3:=by decide
  unfold eG;rw[if_pos e1,e2,e3,if_neg (by decide),if_neg (by rw[hc];simp),if_neg (by decide),h1];simp only[];rw[h4];simp only[];exact ih f q2 st' (by simp at hf;omega) m1 h5 hk
inductive GTest (needs:List aJ):Nat→List Wd→Tree→Prop where
 |tru (n:Nat):GTest needs (n+1) [wNm nO] (.const true)
 |fls (n:Nat):GTest needs (n+1) [wNm lD] (.const false)
 |not_ (n:Nat) (u:List Wd) (t:Tree):GTest needs n u t→GTest needs (n+1) (wNm aD8::u) (.not_ t)
 |many (n:Nat) (all:Bool) (u:List Wd) (t:Tree) (us:List (List Wd×Tree)):GTest needs n u t→(∀p,p∈us→GTest needs n p.1 p.2)→
   GTest needs (n+1) (wNm (if all=true then nW else nX)::wSg 40::(u++(us.flatMap (fun p=>wSg 44::p.1)++[wSg 41]))) (.many all (us.foldl (fun l p=>l.snocT p.2) (.tcons t .tnil)))
 |mat (n:Nat) (word:aJ) (op:Int) (ext:aJ) (u v w:List Wd) (h:How) (a b:List aJ):(word,op,ext)∈[(oY,(6:Int),([]:aJ)),(e8,7,e8),(o0,8,dN)]→
   (ext≠[]→ext∈needs)→GTags ⟨false,0,false⟩ u h→GList v a→(∀x∈a,nB op x=0)→GList w b→
   GTest needs (n+1) (wNm word::(u++(v++w))) (.mat (if 1>h.tag then 1 else h.tag) h.oct op a b)
 |exi (n:Nat) (v:List Wd) (a:List aJ):GList v a→GTest needs (n+1) (wNm qK::v) (.exi a)
 |siz (n:Nat) (x:aJ) (k:Int):x∈[oZ,jE]→0≤k∧k≤2147483647→GTest needs (n+1) [wNm rH,wTg x,wNu k] (.siz (if x=jE then 2 else 1) k)
theorem aRU{u:List Wd}{l:List aJ}(h:GList u l):∃w r,u=w::r∧w.1≠2:=by
 cases h with
 |one w=>exact⟨_,_,rfl,by simp⟩
 |many w ws=>exact⟨_,_,rfl,by simp⟩
theorem aC5{s:aJ}{T:St→Res (Tree×St)}:∀(us:List (List Wd×Tree)) (f:Nat) (acc:Tree) (st st':St),us.length < f→st.1≤s.length→
  (∀p,p∈us→∀st st',st.1≤s.length→Path s st p.1 st'→T st=.ok (p.2,st'))→Path s st (us.flatMap (fun p=>wSg 44::p.1)++[wSg 41]) st'→
  nA s T f acc st=.ok (us.foldl (fun l p=>l.snocT p.2) acc,st')
 | [],f,acc,st,st',hf,ha,_,h=>by
  obtain⟨f,rfl⟩:∃g,f=g+1:=⟨f - 1,by omega⟩;have h:Path s st [wSg 41] st':=h;obtain⟨e1,e2⟩:=dO h;obtain⟨q,h1,h2⟩:=kX h;have:st'=q:=h2;subst this;unfold nA;rw[aJX (by rw[e2];simp)];simp only[Bool.false_eq_true,if_false];rw[h1];rfl
 |p::us,f,acc,st,st',hf,ha,hT,h=>by
  obtain⟨f,rfl⟩:∃g,f=g+1:=⟨f - 1,by omega⟩;have h:Path s st (wSg 44::(p.1++(us.flatMap (fun p=>wSg 44::p.1)++[wSg 41]))) st':=by
   have:=h;rw[List.flatMap_cons]at this;simpa using this
  obtain⟨q,h1,h2⟩:=aEQ h;have m0:q.1≤s.length:=(rW ha h1).1;obtain⟨q2,h3,h4⟩:=jZ.1 h2;have m1:=(jU m0 h3).2;unfold nA;rw[h1];simp only[if_true];rw[hT p (by simp) q q2 m0 h3];simp only[];exact aC5 us f _ q2 st' (by simpa using hf) m1 (fun x hx=>hT x (by simp[hx])) h4
theorem aT7{s:aJ}{needs:List aJ}{n:Nat}{u:List Wd}{t:Tree}(h:GTest needs n u t):∀st st',st.1≤s.length→Path s st u st'→test s needs n st=.ok (t,st'):=by
 induction h with
 |tru n=>
  intro st st' ha hp;obtain⟨e1,e2⟩:=dO hp;obtain⟨q,h1,h2,h3⟩:=eS ha hp;have:st'=q:=h3;subst this;unfold test mE;rw[if_pos e1,e2]
  simp only[if_true,kJ,h1]
 |fls n=>
  intro st st' ha hp;obtain⟨e1,e2⟩:=dO hp;obtain⟨q,h1,h2,h3⟩:=eS ha hp;have:st'=q:=h3;subst this;unfold test mE;rw[if_pos e1,e2]
  rw[if_neg (by decide),if_pos rfl];simp only[kJ,h1]
 |not_ n u t _ ih=>
  intro st st' ha hp;obtain⟨e1,e2⟩:=dO hp;obtain⟨q,h1,h2,h3⟩:=eS ha hp;unfold test mE;rw[if_pos e1,e2]
  rw[if_neg (by decide),if_neg (by decide),if_pos rfl];simp only[notC,h1];rw[ih q st' h2 h3]
 |many n all u t us _ _ ih1 ih2=>
  intro st st' ha hp;obtain⟨e1,e2⟩:=dO hp;obtain⟨q,h1,h2,h3⟩:=eS ha hp;obtain⟨q1,h4,h5⟩:=kX h3;have m1:=(tJ h2 h4).2;obtain⟨q2,h6,h7⟩:=jZ.1 h5;have m2:=(jU m1 h6).2;have m3:=jU m2 h7;have hx:∀l:List (List Wd×Tree),l.length≤(l.flatMap (fun p=>wSg 44::p.1)).length:=by
   intro l;induction l with
   |nil=>simp
   |cons x l ih=>rw[List.flatMap_cons,List.length_append];simp only[List.length_cons];omega
  have hx1:=hx us;rw[List.length_append]at m3;have key:mC s (test s needs n) all st=.ok (.many all (us.foldl (fun l p=>l.snocT p.2) (.tcons t .tnil)),st'):=by
   unfold mC;rw[h1];simp only[];rw[h4];simp only[];rw[ih1 q1 q2 m1 h6];simp only[];rw[aC5 us _ _ q2 st' aH m2 (fun p hp=>ih2 p hp) h7]
   rfl
  unfold test mE;rw[if_pos e1,e2]
  cases all with
  |true=>
   simp only[if_true];rw[if_neg (by decide),if_neg (by decide),if_neg (by decide)];exact key
  |false=>
   simp only[Bool.false_eq_true,if_false];rw[if_neg (by decide),if_neg (by decide),if_neg (by decide),if_neg (by decide),if_pos trivial];exact key
 |mat n word op ext u v w h a b hw hn ht ga hf gb=>
  intro st st' ha hp;obtain⟨e1,e2⟩:=dO hp;obtain⟨q,h1,h2,h3⟩:=eS ha hp;obtain⟨q1,h4,h5⟩:=jZ.1 h3;have m1:=jU h2 h4;obtain⟨q2,h6,h7⟩:=jZ.1 h5;have m2:=(jU m1.2 h6).2;obtain⟨y,r,rfl,hy⟩:=aRU ga;have hk:q1.2.kind≠2:=by rw[(dO h6).1];exact hy
  have key:jC s needs op ext st=.ok (.mat (if 1>h.tag then 1 else h.tag) h.oct op a b,st'):=by
   unfold jC;rw[if_neg (by rintro⟨q1,q2⟩;exact q2 (hn q1)),h1];simp only[];rw[aPU ht _ q q1 aH h2 h4 hk];unfold l4;simp only[];rw[wC ga hf m1.2 h6];simp only[];rw[wC gb (fun _ _=>rfl) m2 h7]
  unfold test mE;rw[if_pos e1,e2]
  simp only[List.mem_cons,List.not_mem_nil,or_false,Prod.mk.injEq]at hw;rcases hw with ⟨rfl,rfl,rfl⟩|⟨rfl,rfl,rfl⟩|⟨rfl,rfl,rfl⟩
  ·rw[if_neg (by decide),if_neg (by decide),if_neg (by decide),if_neg (by decide),if_neg (by decide),if_pos rfl];exact key
  ·rw[if_neg (by decide),if_neg (by decide),if_neg (by decide),if_neg (by decide),if_neg (by decide),if_neg (by decide),if_pos rfl];exact key
  ·rw[if_neg (by decide),if_neg (by decide),if_neg (by decide),if_neg (by decide),if_neg (by decide),if_neg (by decide),if_neg (by decide),if_pos rfl];exact key
 |exi n v a ga=>
  intro st st' ha hp;obtain⟨e1,e2⟩:=dO hp;obtain⟨q,h1,h2,h3⟩:=eS ha hp;unfold test mE;rw[if_pos e1,e2]
  rw[if_neg (by decide),if_neg (by decide),if_neg (by decide),if_neg (by decide),if_neg (by decide),if_neg (by decide),if_neg (by decide),if_neg (by decide),if_pos rfl];simp only[lA,h1];rw[wC ga (fun _ _=>rfl) h2 h3]
 |siz n x k hx _=>
  intro st st' ha hp;obtain⟨e1,e2⟩:=dO hp;obtain⟨q,h1,h2,h3⟩:=eS ha hp;obtain⟨q1,h4,e3,h5⟩:=wS (texts:=[oZ,jE]) (.inr hx) h3;obtain⟨q2,h6,e4,h7⟩:=wS (texts:=[]) (.inl rfl) h5;have:st'=q2:=h7;subst this;unfold test mE;rw[if_pos e1,e2]
  rw[if_neg (by decide),if_neg (by decide),if_neg (by decide),if_neg (by decide),if_neg (by decide),if_neg (by decide),if_neg (by decide),if_neg (by decide),if_neg (by decide),if_pos rfl];simp only[oT,h1];rw[h4];simp only[];rw[h6];simp only[(nY e3).2.1,(nY e4).2.2]
end Go.Syn
end
section
namespace Go.Syn
def dB:Tree→Tree
 | .act k a _=>.act k a 0
 | .iff bs=>.iff (dB bs)
 | .ccons c l=>.ccons (dB c) (dB l)
 | .bcons t b l=>.bcons t (dB b) (dB l)
 | .belse b l=>.belse (dB b) (dB l)
 |t=>t
theorem yX(x:Tree):∀l:Tree,dB (l.snocC x)=(dB l).snocC (dB x):=by
 intro l;induction l with
 |ccons c l _ ih=>simp only[Tree.snocC,dB,ih]
 |_=>simp[Tree.snocC,dB]
theorem pF(o:Option Tree)(x:Tree):∀l:Tree,dB (l.snocB o x)=(dB l).snocB o (dB x):=by
 intro l;induction l with
 |bcons t b l _ _ ih=>simp only[Tree.snocB,dB,ih]
 |belse b l _ ih=>simp only[Tree.snocB,dB,ih]
 |_=>cases o <;> simp[Tree.snocB,mkB,dB]
structure Br where
 ut:List Wd
 t:Tree
 ub:List Wd
 b:Tree
def Br.words(p:Br):List Wd:=wNm mB::(p.ut++(wSg 123::(p.ub++[wSg 125])))
def lL:Option (List Wd×Tree)→List Wd
 |none=>[]
 |some p=>wNm mA::wSg 123::(p.1++[wSg 125])
def endB(acc:Tree):Option (List Wd×Tree)→Tree
 |none=>.iff acc
 |some p=>.iff (acc.snocB none p.2)
inductive GCmd (needs:List aJ) (n:Nat) (B:List Wd→Tree→Prop):List Wd→Tree→Prop where
 |simple (word:aJ) (c:Tree):(word=pQ∧c=.act 1 [] 0)∨(word=gM∧c=.plain 13)∨(word=mV∧c=.plain 14)→GCmd needs n B [wNm word,wSg 59] c
 |act (word:aJ) (kind:Int) (ext arg:aJ):(word=e9∧kind=2∧ext=e9)∨(word=kB∧kind=3∧ext=[])∨(word=gS∧kind=4∧ext=gS)→
   (ext≠[]→ext∈needs)→GCmd needs n B [wNm word,wTx arg,wSg 59] (.act kind arg 0)
 |set0 (name value:aJ):dN∈needs→named name=true→GCmd needs n B [wNm y6,wTx name,wTx value,wSg 59] (.set_ (cN name) value 0)
 |set1 (x name value:aJ) (i:Nat):dN∈needs→named name=true→i < 3→cQ [iS,iT,gH] x=i→GCmd needs n B [wNm y6,wTg x,wTx name,wTx value,wSg 59] (.set_ (cN name) value (1+(i:Int)))
 |iff (ut:List Wd) (t:Tree) (ub:List Wd) (b:Tree) (brs:List Br) (els:Option (List Wd×Tree)):GTest needs n ut t→B ub b→(∀p,p∈brs→GTest needs n p.ut p.t∧B p.ub p.b)→(∀p,els=some p→B p.1 p.2)→
   GCmd needs n B (wNm txIf::(ut++(wSg 123::(ub++(wSg 125::(brs.flatMap Br.words++lL els)))))) (endB (brs.foldl (fun l p=>l.snocB (some p.t) p.b) (.bcons t b .bnil)) els)
def n9(needs:List aJ):Nat→List Wd→Tree→Prop
 |0=>fun u t=>u=[]∧t=.cnil
 |n+1=>fun u t=>∃cs:List (List Wd×Tree),(∀p,p∈cs→GCmd needs n (n9 needs n) p.1 p.2)∧u=cs.flatMap (·.1)∧t=cs.foldl (fun l p=>l.snocC p.2) .cnil
def aFK(st:St):Prop:=¬(st.2.kind=1∧(st.2.s=mB∨st.2.s=mA))
theorem qY{needs:List aJ}{n:Nat}{B:List Wd→Tree→Prop}{u:List Wd}{c:Tree}(h:GCmd needs n B u c):∃w r,u=wNm w::r∧w≠mB∧w≠mA:=by
 cases h with
 |simple word c h=>rcases h with ⟨rfl,rfl⟩|⟨rfl,rfl⟩|⟨rfl,rfl⟩ <;> exact⟨_,_,rfl,by decide,by decide⟩
 |act word kind ext arg h _=>rcases h with ⟨rfl,_,_⟩|⟨rfl,_,_⟩|⟨rfl,_,_⟩ <;> exact⟨_,_,rfl,by decide,by decide⟩
 |set0=>exact⟨_,_,rfl,by decide,by decide⟩
 |set1=>exact⟨_,_,rfl,by decide,by decide⟩
 |iff=>exact⟨_,_,rfl,by decide,by decide⟩
section
variable{s:aJ}{needs:List aJ}{n:Nat}{B:List Wd→Tree→Prop}{T Bf:St→Res (Tree×St)}
theorem zW(hB:∀u t,B u t→∀st st',st.1≤s.length→Path s st u st'→st'.2.kind≠1→∃t',Bf st=.ok (t',st')∧dB t'=t){u:List Wd}{t:Tree}{ws:List Wd}{st st':St}
  (hu:B u t) (ha:st.1≤s.length) (h:Path s st (wSg 123::(u++(wSg 125::ws))) st'):∃t' q,lS s Bf st=.ok (t',q)∧dB t'=t∧q.1≤s.length∧Path s q ws st':=by
 obtain⟨q,h1,h2⟩:=kX h;have m1:=(tJ ha h1).2;obtain⟨q2,h3,h4⟩:=jZ.1 h2;have m2:=(jU m1 h3).2;obtain⟨t',h5,h6⟩:=hB u t hu q q2 m1 h3 (by rw[(dO h4).1];simp);obtain⟨q3,h7,h8⟩:=kX h4;refine⟨t',q3,?_,h6,(tJ m2 h7).2,h8⟩
 unfold lS;rw[h1];simp only[];rw[h5];simp only[];rw[h7]
theorem aCV(hT:∀u t,GTest needs n u t→∀st st',st.1≤s.length→Path s st u st'→T st=.ok (t,st'))(hB:∀u t,B u t→∀st st',st.1≤s.length→Path s st u st'→st'.2.kind≠1→∃t',Bf st=.ok (t',st')∧dB t'=t)
  {els:Option (List Wd×Tree)} (he:∀p,els=some p→B p.1 p.2):∀(brs:List Br) (f:Nat) (acc acc0:Tree) (st st':St),brs.length < f→(∀p,p∈brs→GTest needs n p.ut p.t∧B p.ub p.b)→st.1≤s.length→dB acc=acc0→
  Path s st (brs.flatMap Br.words++lL els) st'→aFK st'→∃c',eM s T Bf f acc st=.ok (c',st')∧dB c'=endB (brs.foldl (fun l p=>l.snocB (some p.t) p.b) acc0) els
 | [],f,acc,acc0,st,st',hf,_,ha,hacc,h,hn=>by
  obtain⟨f,rfl⟩:∃g,f=g+1:=⟨f - 1,by omega⟩;have h:Path s st (lL els) st':=h;unfold eM;cases els with
  |none=>
   have:st'=st:=h;subst this;rw[if_neg fun h=>hn ⟨h.1,.inl h.2⟩];unfold iA;rw[if_neg fun h=>hn ⟨h.1,.inr h.2⟩];exact⟨_,rfl,by simp only[dB,hacc,List.foldl_nil,endB]⟩
  |some p=>
   have h:Path s st (wNm mA::wSg 123::(p.1++[wSg 125])) st':=h;obtain⟨e1,e2⟩:=dO h;obtain⟨q,h1,h2,h3⟩:=eS ha h;obtain⟨b',q2,h4,h5,_,h6⟩:=zW hB (he p rfl) h2 h3;have:st'=q2:=h6;subst this;rw[if_neg (by rw[e2];exact fun h=>absurd h.2 (by decide))];unfold iA;rw[if_pos ⟨e1,e2⟩,h1];simp only[];rw[h4];exact⟨_,rfl,by simp only[dB,pF,hacc,h5,List.foldl_nil,endB]⟩
 |p::brs,f,acc,acc0,st,st',hf,hb,ha,hacc,h,hn=>by
  obtain⟨f,rfl⟩:∃g,f=g+1:=⟨f - 1,by omega⟩;have h:Path s st (wNm mB::(p.ut++(wSg 123::(p.ub++(wSg 125::(brs.flatMap Br.words++lL els)))))) st':=by
   have:=h;rw[List.flatMap_cons]at this;simpa[Br.words]using this
  obtain⟨e1,e2⟩:=dO h;obtain⟨q,h1,h2,h3⟩:=eS ha h;obtain⟨q2,h4,h5⟩:=jZ.1 h3;have m2:=(jU h2 h4).2;obtain⟨g1,g2⟩:=hb p (by simp);obtain⟨b',q3,h6,h7,m3,h8⟩:=zW hB g2 m2 h5;unfold eM;rw[if_pos ⟨e1,e2⟩,h1];simp only[];rw[hT _ _ g1 q q2 h2 h4];simp only[];rw[h6];simp only[];exact aCV hT hB he brs f _ _ q3 st' (by simpa using hf) (fun x hx=>hb x (by simp[hx])) m3 (by rw[pF,hacc,h7]) h8 hn
theorem aEB:∀l:List Br,l.length≤(l.flatMap Br.words).length
 | []=>Nat.le_refl _
 |p::l=>by
  have:=aEB l;rw[List.flatMap_cons,List.length_append];simp only[Br.words,List.length_cons];omega
theorem aU3(hT:∀u t,GTest needs n u t→∀st st',st.1≤s.length→Path s st u st'→T st=.ok (t,st'))(hB:∀u t,B u t→∀st st',st.1≤s.length→Path s st u st'→st'.2.kind≠1→∃t',Bf st=.ok (t',st')∧dB t'=t)
  {u:List Wd} {c:Tree} (h:GCmd needs n B u c) {st st':St} (ha:st.1≤s.length) (hp:Path s st u st') (hn:aFK st'):∃c',cmdD s needs T Bf st=some (.ok (c',st'))∧dB c'=c:=by
 cases h with
 |simple word c h=>
  obtain⟨e1,e2⟩:=dO hp;obtain⟨q,h1,h2,h3⟩:=eS ha hp;obtain⟨q2,h4,h5⟩:=kX h3;have:st'=q2:=h5;subst this;have key:∀x:Tree,iG s x st=.ok (x,st'):=fun x=>by unfold iG;rw[h1];simp only[];rw[h4]
  unfold cmdD;rw[e2];rcases h with ⟨rfl,rfl⟩|⟨rfl,rfl⟩|⟨rfl,rfl⟩
  ·simp only[if_true,key];exact⟨_,rfl,rfl⟩
  ·simp only[show (gM=pQ)=False from by decide,if_false,if_true,key];exact⟨_,rfl,rfl⟩
  ·simp only[show (mV=pQ)=False from by decide,show (mV=gM)=False from by decide,if_false,if_true,key];exact⟨_,rfl,rfl⟩
 |act word kind ext arg h hx=>
  obtain⟨e1,e2⟩:=dO hp;obtain⟨q,h1,h2,h3⟩:=eS ha hp;obtain⟨q1,h4,e4,h5⟩:=wS (texts:=[]) (.inl rfl) h3;obtain⟨q2,h6,h7⟩:=kX h5;have:st'=q2:=h7;subst this;have key:∀x:Int,actC s needs kind ext x st=.ok (.act kind arg x,st'):=fun x=>by
   unfold actC;rw[if_neg (by rintro⟨q1,q2⟩;exact q2 (hx q1)),h1];simp only[];rw[h4];simp only[];rw[h6];simp only[(nY e4).2.1]
  unfold cmdD;rw[e2];rcases h with ⟨rfl,rfl,rfl⟩|⟨rfl,rfl,rfl⟩|⟨rfl,rfl,rfl⟩
  ·rw[if_neg (by decide),if_neg (by decide),if_neg (by decide),if_pos rfl,key];exact⟨_,rfl,rfl⟩
  ·rw[if_neg (by decide),if_neg (by decide),if_neg (by decide),if_neg (by decide),if_pos rfl,key];exact⟨_,rfl,rfl⟩
  ·rw[if_neg (by decide),if_neg (by decide),if_neg (by decide),if_neg (by decide),if_neg (by decide),if_pos rfl,key];exact⟨_,rfl,rfl⟩
 |set0 name value hv hname=>
  obtain⟨e1,e2⟩:=dO hp;obtain⟨q,h1,h2,h3⟩:=eS ha hp;obtain⟨e3,_⟩:=dO h3;obtain⟨q1,h4,h5⟩:=nJ (ff:=fun x=>if named x=true then 0 else 7) (by rw[if_pos hname]) h3;obtain⟨q2,h6,h7⟩:=nJ (ff:=fun _=>0) rfl h5;obtain⟨q3,h8,h9⟩:=kX h7;have:st'=q3:=h9;subst this;have key:setC s needs st=.ok (⟨cN name,value,0⟩,st'):=by
   unfold setC jD;rw[if_pos hv,h1];simp only[];rw[if_neg (by rw[e3];simp)];unfold lC;simp only[];rw[h4];simp only[];rw[h6];simp only[];rw[h8]
  unfold cmdD qB;rw[e2,if_neg (by decide),if_neg (by decide),if_neg (by decide),if_neg (by decide),if_neg (by decide),if_neg (by decide),if_pos rfl,key];exact⟨_,rfl,rfl⟩
 |set1 x name value i hv hname hi hx=>
  obtain⟨e1,e2⟩:=dO hp;obtain⟨q,h1,h2,h3⟩:=eS ha hp;obtain⟨e3,e4⟩:=dO h3;obtain⟨q0,h10,h11,h12⟩:=eS h2 h3;obtain⟨q1,h4,h5⟩:=nJ (ff:=fun x=>if named x=true then 0 else 7) (by rw[if_pos hname]) h12;obtain⟨q2,h6,h7⟩:=nJ (ff:=fun _=>0) rfl h5;obtain⟨q3,h8,h9⟩:=kX h7;have:st'=q3:=h9;subst this;have key:setC s needs st=.ok (⟨cN name,value,1+(i:Int)⟩,st'):=by
   unfold setC jD;rw[if_pos hv,h1];simp only[];rw[if_pos e3,e4,hx,if_neg aH,h10];unfold lC;simp only[];rw[h4];simp only[];rw[h6];simp only[];rw[h8]
  unfold cmdD qB;rw[e2,if_neg (by decide),if_neg (by decide),if_neg (by decide),if_neg (by decide),if_neg (by decide),if_neg (by decide),if_pos rfl,key];exact⟨_,rfl,rfl⟩
 |iff ut t ub b brs els gt gb gbrs gels=>
  obtain⟨e1,e2⟩:=dO hp;obtain⟨q,h1,h2,h3⟩:=eS ha hp;obtain⟨q2,h4,h5⟩:=jZ.1 h3;have m2:=(jU h2 h4).2;obtain⟨b',q3,h6,h7,m3,h8⟩:=zW hB gb m2 h5;have m4:=jU m3 h8;have hl:=aEB brs;rw[List.length_append]at m4;obtain⟨c',h9,h10⟩:=aCV hT hB gels brs (mu s q3+1) (.bcons t b' .bnil) (.bcons t b .bnil) q3 st' aH gbrs m3 (by simp only[dB,h7]) h8 hn;have key:ifC s T Bf st=.ok (c',st'):=by
   unfold ifC;rw[h1];simp only[];rw[hT _ _ gt q q2 h2 h4];simp only[];rw[h6];simp only[];exact h9
  unfold cmdD;rw[e2,if_neg (by decide),if_neg (by decide),if_neg (by decide),if_neg (by decide),if_neg (by decide),if_neg (by decide),if_neg (by decide),if_pos rfl,key];exact⟨_,rfl,h10⟩
theorem zU(hT:∀u t,GTest needs n u t→∀st st',st.1≤s.length→Path s st u st'→T st=.ok (t,st'))(hB:∀u t,B u t→∀st st',st.1≤s.length→Path s st u st'→st'.2.kind≠1→∃t',Bf st=.ok (t',st')∧dB t'=t):
  ∀(cs:List (List Wd×Tree)) (f:Nat) (acc acc0:Tree) (st st':St),cs.length < f→(∀p,p∈cs→GCmd needs n B p.1 p.2)→st.1≤s.length→dB acc=acc0→Path s st (cs.flatMap (·.1)) st'→st'.2.kind≠1→
  ∃t',gW s (cmdD s needs T Bf) f acc st=.ok (t',st')∧dB t'=cs.foldl (fun l p=>l.snocC p.2) acc0
 | [],f,acc,acc0,st,st',hf,_,ha,hacc,h,hk=>by
  obtain⟨f,rfl⟩:∃g,f=g+1:=⟨f - 1,by omega⟩;have:st'=st:=h;subst this;unfold gW;rw[if_neg hk];exact⟨_,rfl,hacc⟩
 |p::cs,f,acc,acc0,st,st',hf,hc,ha,hacc,h,hk=>by
  obtain⟨f,rfl⟩:∃g,f=g+1:=⟨f - 1,by omega⟩;rw[List.flatMap_cons]at h;obtain⟨q,h1,h2⟩:=jZ.1 h;have m1:=(jU ha h1).2;have hn:aFK q:=by
   cases cs with
   |nil=>have:st'=q:=h2;subst this;exact fun h=>hk h.1
   |cons p2 cs=>
    obtain⟨w,r,e,w1,w2⟩:=qY (hc p2 (by simp));rw[List.flatMap_cons,e]at h2;have e2:=(dO h2).2;rintro⟨_,h|h⟩
    ·exact w1 (e2.symm.trans h)
    ·exact w2 (e2.symm.trans h)
  obtain⟨c',h3,h4⟩:=aU3 hT hB (hc p (by simp)) ha h1 hn;have hk1:st.2.kind=1:=by
   obtain⟨w,r,e,_,_⟩:=qY (hc p (by simp));rw[e]at h1;exact(dO h1).1
  unfold gW;rw[if_pos hk1,h3];simp only[];obtain⟨t',h5,h6⟩:=zU hT hB cs f _ _ q st' (by simpa using hf) (fun x hx=>hc x (by simp[hx])) m1 (show dB (acc.snocC c')=_ from rfl) h2 hk;exact⟨t',h5,by rw[h6,yX,hacc,h4];rfl⟩
end
theorem aGV{needs:List aJ}{n:Nat}{B:List Wd→Tree→Prop}:∀l:List (List Wd×Tree),(∀p,p∈l→GCmd needs n B p.1 p.2)→l.length≤(l.flatMap (·.1)).length
 | [],_=>Nat.le_refl _
 |p::l,h=>by
  have:=aGV l fun x hx=>h x (by simp[hx])
  obtain⟨w,r,e,_,_⟩:=qY (h p (by simp));rw[List.flatMap_cons,List.length_append,e];simp only[List.length_cons];omega
theorem aCM{s:aJ}{needs:List aJ}:∀(n:Nat) (u:List Wd) (t:Tree),n9 needs n u t→∀st st',st.1≤s.length→Path s st u st'→st'.2.kind≠1→∃t',block s needs n st=.ok (t',st')∧dB t'=t
 |0,u,t,h,st,st',ha,hp,hk=>by
  obtain⟨rfl,rfl⟩:=h;have:st'=st:=hp;subst this;unfold block;rw[if_neg hk];exact⟨_,rfl,rfl⟩
 |n+1,u,t,h,st,st',ha,hp,hk=>by
  obtain⟨cs,hc,rfl,rfl⟩:=h;have m:=jU ha hp;have hl:=aGV cs hc;unfold block;exact zU (fun u t h=>aT7 h) (aCM n) cs _ _ _ st st' aH hc ha rfl hp hk
inductive GReq:List aJ→List Wd→List aJ→Prop where
 |nil (ns:List aJ):GReq ns [] ns
 |cons (ns ns':List aJ) (u v:List Wd) (l:List aJ):GList u l→(∀x∈l,x∈oX)→GReq (eX ns l) v ns'→GReq ns (wNm fB::(u++(wSg 59::v))) ns'
theorem aTC{s:aJ}{ns ns':List aJ}{u:List Wd}(hu:GReq ns u ns'):∀(f:Nat) (st st':St),u.length < f→st.1≤s.length→Path s st u st'→¬(st'.2.kind=1∧st'.2.s=fB)→reqF s f ns st=.ok (ns',st'):=by
 induction hu with
 |nil ns=>
  intro f st st' hf ha hp hk;obtain⟨f,rfl⟩:∃g,f=g+1:=⟨f - 1,by omega⟩;have:st'=st:=hp;subst this;unfold reqF;rw[if_neg hk]
 |cons ns ns' u v l hl hx _ ih=>
  intro f st st' hf ha hp hk;obtain⟨f,rfl⟩:∃g,f=g+1:=⟨f - 1,by omega⟩;obtain⟨e1,e2⟩:=dO hp;obtain⟨q,h1,h2,h3⟩:=eS ha hp;obtain⟨q1,h4,h5⟩:=jZ.1 h3;have m1:=(jU h2 h4).2;obtain⟨q2,h6,h7⟩:=kX h5;have m2:=(tJ m1 h6).2;unfold reqF;rw[if_pos ⟨e1,e2⟩,h1];simp only[];rw[wC hl (fun x hx'=>by unfold oneOf;rw[if_pos (hx x hx')]) h2 h4];simp only[];rw[h6];simp only[];exact ih f q2 st' (by simp at hf;omega) m2 h7 hk
theorem aOQ{s:aJ}{ns:List aJ}{u v:List Wd}{t:Tree}{st st':St}(h0:next s 0=.ok st)(hr:GReq [] u ns)(hb:n9 ns 7 v t)(hp:Path s st (u++v) st')(he:st'.2.kind=0)(hv:∀w r,v=w::r→w≠wNm fB):
  ∃t',eE s=.ok (ns,t')∧dB t'=t:=by
 have ha:=(rA (Nat.zero_le _) h0).2.1;obtain⟨q,h1,h2⟩:=jZ.1 hp;have m1:=jU ha h1;have hk:¬(q.2.kind=1∧q.2.s=fB):=by
  cases v with
  |nil=>have:st'=q:=h2;subst this;rw[he];simp
  |cons w r=>
   obtain⟨k,x,m⟩:=w;rintro⟨a1,a2⟩;obtain⟨b1,b2,b3⟩:=nY h2.2.1;have hm:m=0:=by
    obtain⟨cs,hc,e,_⟩:=hb;cases cs with
    |nil=>cases e
    |cons p cs=>
     obtain⟨w',r',e',_,_⟩:=qY (hc p (by simp));rw[List.flatMap_cons,e']at e;simp at e;exact e.1.2.2
   exact hv _ _ rfl (by rw[hm,←b1,←b2,a1,a2])
 obtain⟨t',h3,h4⟩:=aCM 7 v t hb q st' m1.2 h2 (by rw[he];simp);refine⟨t',?_,h4⟩
 unfold eE;rw[h0];simp only[];rw[aTC hr _ st q aH ha h1 hk];unfold f9;simp only[];rw[h3];simp only[];rw[if_pos he]
end Go.Syn
end
section
namespace Go.Syn
def Tk.wd:Tk→Wd
 | .sg c=>wSg c
 | .nm w=>wNm (cN w)
 | .tg w=>wTg (cN w)
 | .tx w=>wTx w
 | .nu n=>wNu n
theorem Tk.word_wd(t:Tk)(a:Nat):(t.word a).wd=t.wd∧(t.word a).kind≠0:=by
 cases t <;> simp[Tk.word,Tk.wd,Word.wd]
def rend:List (aJ×Tk)→aJ→aJ
 | [],e=>e
 |x::r,e=>x.1++(x.2.body++rend r e)
def f7:List (aJ×Tk)→Bool
 | []=>true
 |(_::_,_)::_=>true
 |([],.nm _)::_=>false
 |([],.nu _)::_=>false
 |([],_)::_=>true
def dR:List (aJ×Tk)→Bool
 | []=>true
 |(b,.sg c)::r=>b.all gN&&(cP c&&dR r)
 |(b,.nm w)::r=>b.all gN&&(yS w&&(f7 r&&dR r))
 |(b,.tg w)::r=>b.all gN&&(yS w&&(f7 r&&dR r))
 |(b,.tx _)::r=>b.all gN&&dR r
 |(b,.nu n)::r=>b.all gN&&(decide (n≤2147483647)&&(f7 r&&dR r))
def aJF(c:UInt8):Bool:=!(gN c||cP c)||!dI c
theorem aGC:∀n:Fin 256,aJF (UInt8.ofNat n.val)=true:=by decide+kernel
theorem aBA{c:UInt8}(h:gN c=true∨cP c=true):dI c=false:=by
 have:=aGC ⟨c.toNat,c.toNat_lt⟩;simp only[UInt8.ofNat_toNat]at this;unfold aJF at this;rcases h with h|h <;> rw[h]at this <;> simpa using this
theorem aCY{b:aJ}{tk:Tk}{r:List (aJ×Tk)}(h:dR ((b,tk)::r)=true):(∀c∈b,gN c=true)∧tk.good=true∧dR r=true:=by
 cases tk <;> simp only[dR,Bool.and_eq_true,List.all_eq_true]at h
 ·exact⟨h.1,h.2.1,h.2.2⟩
 ·exact⟨h.1,h.2.1,h.2.2.2⟩
 ·exact⟨h.1,h.2.1,h.2.2.2⟩
 ·exact⟨h.1,rfl,h.2⟩
 ·exact⟨h.1,h.2.1,h.2.2.2⟩
theorem w8{r:List (aJ×Tk)}{e:aJ}(hc:f7 r=true)(hg:dR r=true)(he:∀c∈e,gN c=true):∀c,(rend r e).head?=some c→dI c=false:=by
 intro c h;cases r with
 |nil=>
  cases e with
  |nil=>cases h
  |cons x e=>simp[rend]at h;subst h;exact aBA (.inl (he x (by simp)))
 |cons x r=>
  obtain⟨b,tk⟩:=x;obtain⟨g1,g2,_⟩:=aCY hg;cases b with
  |cons x b=>simp[rend]at h;subst h;exact aBA (.inl (g1 x (by simp)))
  |nil=>
   cases tk with
   |sg d=>simp[rend,Tk.body]at h;subst h;exact aBA (.inr g2)
   |nm w=>cases hc
   |tg w=>simp[rend,Tk.body]at h;subst h;decide
   |tx w=>simp[rend,Tk.body]at h;subst h;decide
   |nu n=>cases hc
theorem aRW{b:aJ}{tk:Tk}{r:List (aJ×Tk)}{e:aJ}(h:dR ((b,tk)::r)=true)(he:∀c∈e,gN c=true):tk.sep (rend r e):=by
 cases tk with
 |sg c=>trivial
 |tx w=>trivial
 |nm w=>simp only[dR,Bool.and_eq_true]at h;exact w8 h.2.2.1 h.2.2.2 he
 |tg w=>simp only[dR,Bool.and_eq_true]at h;exact w8 h.2.2.1 h.2.2.2 he
 |nu w=>simp only[dR,Bool.and_eq_true]at h;exact w8 h.2.2.1 h.2.2.2 he
theorem aDE{s e:aJ}(he:∀c∈e,gN c=true):∀(ts:List (aJ×Tk)) (a:Nat),a≤s.length→dR ts=true→s.drop a=rend ts e→
  ∃st st',next s a=.ok st∧Path s st (ts.map fun x=>x.2.wd) st'∧st'.2.kind=0
 | [],a,ha,_,h=>⟨_,_,aSG h he ha,rfl,rfl⟩
 |(b,tk)::r,a,ha,hg,h=>by
  obtain⟨g1,g2,g3⟩:=aCY hg;obtain⟨h1,h2⟩:=aVU h g1 g2 (aRW hg he);obtain⟨w1,w2⟩:=Tk.word_wd tk (a+b.length);obtain⟨q,st',h3,h4,h5⟩:=aDE he r (a+b.length+tk.body.length) (rA ha h1).2.1 g3 h2;exact⟨_,st',h1,⟨w2,w1,q,h3,h4⟩,h5⟩
theorem uX{s e:aJ}{ts us:List (aJ×Tk)}{ns:List aJ}{t:Tree}(he:∀c∈e,gN c=true)(hg:dR (ts++us)=true)(hs:s=rend (ts++us) e)(hr:GReq [] (ts.map fun x=>x.2.wd) ns)(hb:n9 ns 7 (us.map fun x=>x.2.wd) t)
  (hv:∀w r,us.map (fun x=>x.2.wd)=w::r→w≠wNm fB):∃t',eE s=.ok (ns,t')∧dB t'=t:=by
 obtain⟨st,st',h1,h2,h3⟩:=aDE (s:=s) he (ts++us) 0 (Nat.zero_le _) hg (by rw[hs];rfl);rw[List.map_append]at h2;exact aOQ h1 hr hb h2 h3 hv
end Go.Syn
end

/-
  What the proof stands on, part 24: the logic of walks, the walks through the functions, the plain laws. Conditions: as each theorem says. (Merged and shortened by a program.)
-/
import Derived.Laws.MakeOwn
import Derived.Lib.MakeNoZero
import Derived.Laws.CopyRow
import Derived.Laws.LoneSync
import Derived.Test.YthopmddkpdehiaaGreatDoorK9
import Derived.Test.YthopmddkpdehiaaGreatDoorK15
import Derived.Test.YthopmddkpdehiaaGreatDoorK17
import Derived.Test.YthopmddkpdehiaaGreatDoorK22
import Derived.Test.YthopmddkpdehiaaGreatDoorK23
set_option linter.unusedVariables false
set_option linter.unusedSimpArgs false
set_option maxRecDepth 4000
set_option maxHeartbeats 1000000
namespace Go
theorem gB1{p:Prop}(h:p:=by simp only;omega):p:=h
theorem gB5{p:Prop}(h:p:=by have:olds.length=4:=rfl;omega):p:=h
theorem gBV{p:Prop}(h:p:=by rw[hel];exact congrArg (fun x:Nat=>some (i64 (x:Int))) (congrArg (s.length+ ·) (aSC s).symm)):p:=h
end Go
section
namespace Go.SL
section
variable{E:Env}{ops:Array Oper}{eff stg:List Nat}{S:List Asn}{r:List Nat}{fr:Fr}{K:Hl}{M L:List Asn}{Q:Post}{i:Nat}{o:Oper}
theorem yW{d:Nat}{ty:TypeId}{pos:String}{aft:Array Edge}{g:Option (Nat×Bool)}{fv:Operand}{xs:List Operand}{ats:Array TypeId}{f:FuncId}{caps:Array Value}{vs:List Value}{v:Value}
  (ho:ops[i]?=some ⟨some d,.call ⟨.value fv,xs.toArray,ats⟩,ty,pos,aft,g⟩) (hg:GOk ops fr ⟨some d,.call ⟨.value fv,xs.toArray,ats⟩,ty,pos,aft,g⟩ true) (hg0:stg.contains i=false) (he:eff.contains i=false)
  (hf:fr.ev fv=some (.func (.func f) #[] caps)) (hx:fr.evs xs=some vs) (hs:∀K',K.le K'→Sp E.P f (vs++caps.toList) K' [] (Val v K')) (hn:Nat.blt d E.n=true)
  (h:DL E ops eff stg S r ((d,v)::fr) K M Q):DL E ops eff stg S (i::r) fr K M Q:=by
 intro a fo;unfold DX;simp only[ho,hg.wanted fo,if_true,hg0,he,Bool.false_eq_true,if_false];refine⟨v,fun K1 M' w le j=>?_,h _ (fo.put hn v)⟩
 obtain⟨F',i1,back⟩:=In.hide (L:=[]) (N:=S++M') j;refine .inr (.inr (.inl ⟨f,_,w,vH hf hx (hs K1 le) fo w,((hs K1 le).2 F' w i1).mono fun e w' ⟨K',L',⟨q1,q2,q3⟩,le',j'⟩=>?_⟩))
 subst q1;subst q2;subst q3
 exact⟨rfl,back j'⟩
theorem aQ7{P:Program}{f:FuncId}{args:List Value}{K:Hl}{v:Value}(h:Sp P f args K [] (Ret fun r K' L'=>r=v∧L'=[])):Sp P f args K [] (Val v K):=
 ⟨h.1,fun F w i=>(h.2 F w i).mono fun e w' ⟨K',L',⟨r,h1,h2,h3⟩,le,j⟩=>by subst h1;subst h2;subst h3;exact⟨K,[],⟨rfl,rfl,rfl⟩,Hl.le_refl _,j.weaken le⟩⟩
end
end Go.SL
end
section
namespace Go.Proofs
open Go.Shelf
def Tryz.lays212_ren:Go.Shelf.Ren:=⟨fun|212=>200|263=>276|264=>277|n=>n,fun|46=>257|51=>350|146=>402|53=>345|148=>404|n=>n,fun|n=>n⟩
theorem Tryz.lays212 : Go.Proofs.Lays.n212 Tryz.prog Tryz.lays212_ren := {
 mixed:=by kernel_rfl
 f212:=Tryz.func200.trans (congrArg some bJ)
 f263:=Tryz.func276.trans (congrArg some bJ)
 f264:=Tryz.func277.trans (congrArg some bJ)
 t46:=Tryz.underlying257
 a46:=Tryz.isAgg257
 z46:=Tryz.sizeOf257
 v46:=Tryz.zeroValue257
 t51:=Tryz.underlying350
 a51:=Tryz.isAgg350
 z51:=Tryz.sizeOf350
 v51:=Tryz.zeroValue350
 t53:=Tryz.underlying345
 a53:=Tryz.isAgg345
 z53:=Tryz.sizeOf345
 v53:=Tryz.zeroValue345
 t146:=Tryz.underlying402
 a146:=Tryz.isAgg402
 z146:=Tryz.sizeOf402
 v146:=Tryz.zeroValue402
 t148:=Tryz.underlying404
 a148:=Tryz.isAgg404
 z148:=Tryz.sizeOf404
 v148:=Tryz.zeroValue404}
open Go.RowKit Go.Lib in
theorem Tryz.bits_Mul(x y:Nat)(hx:x < 18446744073709551616)(hy:y < 18446744073709551616)(w:World):
  Calls Tryz.prog 200 #[.int .u64 x,.int .u64 y] w fun e w'=>e=.returned (.tuple #[.int .u64 ((x*y / 18446744073709551616:Nat):Int),.int .u64 ((x*y % 18446744073709551616:Nat):Int)])∧w'=w:=Any.bits_Mul Tryz.lays212 x y hx hy w
end Go.Proofs
end
section
namespace Go.SL
theorem aTK(v:Value)(hv:v.cells= #[v])(n:Nat):madeCells v.cells n=(List.replicate n v).toArray:=by
 unfold madeCells;rw[hv]
 apply Array.ext
 ·simp
 intro i h1 h2;simp[Nat.mod_one]
theorem aDT{α:Type}(k:El α){x0:α}{v:Value}(h:k.enc x0=[v]):∀n,k.cs (List.replicate n x0)=List.replicate n v
 |0=>rfl
 |n+1=>by
  have:=aDT k h n;simp only[El.cs,List.replicate_succ,List.flatMap_cons,h]at this ⊢;rw[this];rfl
section
variable{E:Env}{fr:Fr}{K:Hl}{L L' M:List Asn}{dst:Option Tmp}{ty:TypeId}{pos:String}{aft:Array Edge}{g:Option (Nat×Bool)}{x y:Operand}{t t2 t' bytes:Nat}{α:Type}{k:El α}{v u:Value}{xs ys:List α}{n m j:Nat}
theorem bNY{x0:α}{kl kc:IntKind}{vl vc:Int}(hok:elOk E.P t k.e k.sz bytes=true)(hz:gH E.P k.e=some v)(hv:v.cells= #[v])(he:k.enc x0=[v])(hx:fr.ev x=some (.int kl vl))(hy:fr.ev y=some (.int kc vc))(h1:vl=n)(h2:vc=n)(hb:bytes*n≤281474976710656)(h63:n≤9223372036854775807):
  EfS E fr K L ⟨dst,.makeSlice t x y,ty,pos,aft,g⟩ (fun r K' L'=>∃b,r=.slice (some ⟨b,0,none⟩) n n∧K'=K∧L'=sl false k (.slice (some ⟨b,0,none⟩) n n) (List.replicate n x0)::L):=by
 subst h1 h2;intro a w f q;obtain⟨i,z,e1,e2,e3,e4,e5,e6⟩:=aFU hok;have hzz:z=v:=by
  unfold gH at hz;rw[e2]at hz
  simpa[e5]using hz
 subst hzz;have hs1:k.sz=1:=by have:=k.len x0;rw[he]at this;exact this.symm
 have hr:=run_make (P:=E.P) w t k.e i z e1 e2 e5 kl kc n n aI (Int.le_refl _) (by rw[e4,←Int.natCast_mul];omega) aI;simp only[Int.toNat_natCast]at hr;rw[aTK z hv,e3,hs1,Nat.mul_one]at hr;refine⟨.slice (some ⟨w.heap.size,0,none⟩) n n,_,K,_,.inl ?_,⟨_,rfl,rfl,rfl⟩,Hl.le_refl _,(q.alloc (aZ (List.replicate n z) k.e)).imp fun h hh=>?_⟩
 ·simp only[execOp,f.ev hx,f.ev hy];exact eR hr
 obtain⟨aa,l,ha,hl,hd,he2⟩:=hh;refine⟨aa,l,?_,hl,hd,he2⟩
 refine .inr ⟨w.heap.size,n,[],(0,0),by simp,(fun h=>by cases h),by simp,by simp,.inl (Nat.le_refl _),?_⟩
 rw[List.append_nil,aDT k he];exact ha
theorem bNX{kl kc:IntKind}{vl vc:Int}(hok:elOk E.P t k.e k.sz bytes=true)(hz:gH E.P k.e=some v)(hv:v.cells= #[v])(hs1:k.sz=1)(hx:fr.ev x=some (.int kl vl))(hy:fr.ev y=some (.int kc vc))(h1:vl=0)(h2:vc=n)(hb:bytes*n≤281474976710656)(h63:n≤9223372036854775807):
  EfS E fr K L ⟨dst,.makeSlice t x y,ty,pos,aft,g⟩ (fun r K' L'=>K'=K∧L'=sl false k r []::L∧r.oneCell'=true):=by
 subst h1 h2;intro a w f q;obtain⟨i,z,e1,e2,e3,e4,e5,e6⟩:=aFU hok;have hzz:z=v:=by
  unfold gH at hz;rw[e2]at hz
  simpa[e5]using hz
 subst hzz;have hr:=run_make (P:=E.P) w t k.e i z e1 e2 e5 kl kc 0 n (Int.le_refl _) aI (by rw[e4,←Int.natCast_mul];omega) aI;simp only[Int.toNat_natCast,Int.toNat_zero]at hr;rw[aTK z hv,e3,hs1,Nat.mul_one]at hr;refine⟨.slice (some ⟨w.heap.size,0,none⟩) 0 n,_,K,_,.inl ?_,⟨rfl,rfl,rfl⟩,Hl.le_refl _,(q.alloc (aZ (List.replicate n z) k.e)).imp fun h hh=>?_⟩
 ·simp only[execOp,f.ev hx,f.ev hy];exact eR hr
 obtain⟨aa,l,ha,hl,hd,he2⟩:=hh;refine⟨aa,l,?_,hl,hd,he2⟩
 refine .inr ⟨w.heap.size,n,List.replicate n z,(0,0),by simp,(fun h=>by cases h),by simp,by simp[hs1],.inl (Nat.le_refl _),?_⟩
 simpa[El.cs,pt]using ha
theorem bJ1{zf:Bool}(hu:E.P.underlying t=some (.slice k.e))(hsz:(E.P.info? k.e).map (·.size)=some k.sz)(hx:fr.ev x=some (rX v j k.sz))(hy:fr.ev y=some u)(hT:Fnd (sl zf k v xs) (sl zf k v (xs.take j++ys++xs.drop (j+ys.length))) L L')
  (hs:SeesSl k K L u ys) (h0:ys≠[]) (hfit:j+ys.length≤xs.length):
  EfS E fr K L ⟨dst,.call ⟨.builtin .copy,#[x,y],#[t,t2]⟩,ty,pos,aft,g⟩ (fun r K' L''=>r=i64 ys.length∧K'=K∧L''=L'):=by
 intro a w f q;have hS:=hs.at q;obtain⟨M,m1,m2⟩:=hT.split;have hyp:0 < ys.length:=List.length_pos_iff.2 h0;rcases(q.imp m1).slCases with ⟨rfl,rfl,_⟩|⟨b,cap,junk,fz,rfl,hz,hcap,hjk,hf,q0⟩
 ·rw[List.length_nil]at hfit;omega
 have hcj:cap≠j:=by omega
 have hx':fr.ev x=some (.slice (some ⟨b,j*k.sz,none⟩) (xs.length - j) (cap - j)):=by
  rw[hx];simp only[rX,if_neg hcj,Option.map];congr 3
  unfold Addr.add;split
  ·rename_i h;rw[h]
  simp
 have e:Array.map a.eval #[x,y]= #[.slice (some ⟨b,j*k.sz,none⟩) (xs.length - j) (cap - j),u]:=by simp[f.ev hx',f.ev hy]
 have hle:(j+ys.length)*k.sz≤xs.length*k.sz:=Nat.mul_le_mul_right _ hfit;have hle2:xs.length*k.sz≤cap*k.sz:=Nat.mul_le_mul_right _ hcap;rw[Nat.add_mul]at hle;have hcl:(k.cs ys).length=ys.length*k.sz:=k.cs_length ys;have hcx:(k.cs xs).length=xs.length*k.sz:=k.cs_length xs;obtain⟨w',r1,r2,r3,r4,r5⟩:=t7 (P:=E.P) (b:=b) (k.cs ys) (j*k.sz) 0 w (k.cs xs++junk) q0.piece gAU (fun i hi=>hf.at aI) (k.cs_one ys);refine⟨i64 ys.length,w',K,_,.inl ?_,⟨rfl,rfl,rfl⟩,Hl.le_refl _,?_⟩
 ·simp only[execOp,resolve,e,bind,pure,Sem.bind,invoke,builtin];refine eR ?_;have hsrc:=dE (k:=k) (t2:=t) hu hS;have hc:=hsrc.cells w.drawn;have hlen:=hsrc.len;cases hq:E.P.info? k.e with
  |none=>simp[hq]at hsz
  |some i=>
   have hi:i.size=k.sz:=by simpa[hq]using hsz
   have hmin:Nat.min ys.length (xs.length - j)=ys.length:=Nat.min_eq_left aI;simp[Builtin.copy_,run_underlying hu,hlen,sizeOf,typeInfo,hq,hi,hmin,hc,r1,goInt]
 have jj:=q0.write r2 (by simpa using r3) r4;rw[←r5]at jj;refine jj.imp fun h hh=>m2 h ?_
 obtain⟨aa,l,ha,hl,hd,he⟩:=hh;refine⟨aa,l,?_,hl,hd,he⟩
 have e1:(xs.take j++ys++xs.drop (j+ys.length)).length=xs.length:=by rw[List.length_append,List.length_append,List.length_take,List.length_drop];omega
 refine .inr ⟨b,cap,junk,fz,by rw[e1],?_,by rw[e1];exact hcap,by rw[e1];exact hjk,hf,?_⟩
 ·intro _ h2;have:=congrArg List.length h2;rw[e1,List.length_nil]at this;omega
 have e2:(k.cs xs++junk).take (j*k.sz)=k.cs (xs.take j):=by rw[List.take_append_of_le_length (by rw[k.cs_length];omega),k.cs_take]
 have e3:(k.cs xs++junk).drop (j*k.sz+(k.cs ys).length)=k.cs (xs.drop (j+ys.length))++junk:=by
  rw[hcl,←Nat.add_mul,List.drop_append_of_le_length (by rw[k.cs_length,Nat.add_mul];omega),k.cs_drop]
 rw[e2,e3]at ha;rw[k.cs_append,k.cs_append,List.append_assoc]
 simpa[pt,List.append_assoc]using ha
theorem aD1{P:Program}(w:World){e:TypeId}{a:Option Addr}{n c:Nat}(hu:P.underlying t=some (.slice e)):(Op.equal t (.slice a n c) (.slice none 0 0)).run P w=.ok a.isNone w:=by
 have h:∀d:Nat,(Op.equalIn (d+1) t (.slice a n c) (.slice none 0 0)).run P w=.ok a.isNone w:=fun d=>by cases a <;> simp[Op.equalIn,run_underlying hu]
 exact h 9999
theorem aSQ{e:TypeId}{a:Option Addr}{n c:Nat}(hu:E.P.underlying t=some (.slice e))(hx:fr.ev x=some (.slice a n c)):Ev E fr K L ⟨dst,.binOp .eql t x (.const (.slice none 0 0)) t',ty,pos,aft,g⟩ (.bool a.isNone):=
 gT hx (v:=.slice none 0 0) rfl (fun w=>by unfold eqGuard;first|rfl|simp) fun w=>by
  simp only[binOp];rw[aV (aD1 w hu)];rfl
theorem uL{e:TypeId}{a:Option Addr}{n c:Nat}(hu:E.P.underlying t=some (.slice e))(hx:fr.ev x=some (.slice a n c)):Ev E fr K L ⟨dst,.binOp .neq t x (.const (.slice none 0 0)) t',ty,pos,aft,g⟩ (.bool a.isSome):=
 gT hx (v:=.slice none 0 0) rfl (fun w=>by unfold eqGuard;first|rfl|simp) fun w=>by
  simp only[binOp];rw[aV (aD1 w hu)];cases a <;> rfl
theorem aJU{kk:IntKind}{mv:Int}{lo:Operand}{e sz:TypeId}{a:Option Addr}{c:Nat}(ht:jS E.P t e sz=true)(hx:fr.ev x=some (.slice a n c))(hh:fr.ev lo=some (.int kk mv))(hmv:mv=(m:Int))(hm:m≤n):
  Ev E fr K L ⟨dst,.slice t x (some lo) none none,ty,pos,aft,g⟩ (rX (.slice a n c) m sz):=fun ac w f j=>by
 subst hmv;obtain⟨inf,h1,h2,h3⟩:=pC ht;simp only[execOp,f.ev hx,f.ev hh,Option.map];refine eR ?_;have hu:(underlying t).run E.P w=.ok (.slice e) w:=by simp only[underlying,program,bind,Sem.bind,pure,Sem.run,h1]
 have hsz:(sizeOf e).run E.P w=.ok inf.size w:=by simp only[sizeOf,typeInfo,program,bind,Sem.bind,pure,Sem.run,h2]
 unfold Instr.sliceAt;rw[aV hu];simp only[Instr.slice];rw[aV hu];simp only[];have hb:(Instr.sliceBounds true n c (some (.int kk m)) none none).run E.P w=.ok (m,n,c) w:=by
  simp[Instr.sliceBounds,Instr.sliceBound,asIntOf,bind,Sem.bind,pure,Sem.run,hm]
 rw[aV hb];simp only[];rw[aV hsz];simp only[rX,h3,pure,Sem.run]
theorem wY{ats:Array TypeId}{e:TypeId}{a:Option Addr}{n c:Nat}(ha:ats[0]?=some t)(hu:E.P.underlying t=some (.slice e))(hx:fr.ev x=some (.slice a n c)):
  Ev E fr K L ⟨dst,.call ⟨.builtin .len,#[x],ats⟩,ty,pos,aft,g⟩ (i64 n):=fun ac w f j=>by
 have e:Array.map ac.eval #[x]= #[.slice a n c]:=by simp[f.ev hx]
 simp only[execOp,resolve,e,bind,pure,Sem.bind,invoke,builtin];simp[Builtin.len_,ha,underlying,program,bind,Sem.bind,pure,Sem.run,hu,goInt]
theorem aJP{ats:Array TypeId}{e:TypeId}{a:Option Addr}{n c:Nat}(ha:ats[0]?=some t)(hu:E.P.underlying t=some (.slice e))(hx:fr.ev x=some (.slice a n c)):
  Ev E fr K L ⟨dst,.call ⟨.builtin .cap,#[x],ats⟩,ty,pos,aft,g⟩ (i64 c):=fun ac w f j=>by
 have e:Array.map ac.eval #[x]= #[.slice a n c]:=by simp[f.ev hx]
 simp only[execOp,resolve,e,bind,pure,Sem.bind,invoke,builtin];simp[Builtin.cap_,ha,underlying,program,bind,Sem.bind,pure,Sem.run,hu,goInt]
theorem aPV{kk:IntKind}{mv:Int}{hi:Operand}{e sz:TypeId}{a:Option Addr}{c:Nat}(ht:jS E.P t e sz=true)(hx:fr.ev x=some (.slice a n c))(hh:fr.ev hi=some (.int kk mv))(hmv:mv=(m:Int))(hm:m≤c):
  Ev E fr K L ⟨dst,.slice t x none (some hi) none,ty,pos,aft,g⟩ (.slice a m c):=fun ac w f j=>by
 subst hmv;obtain⟨inf,h1,h2,h3⟩:=pC ht;simp only[execOp,f.ev hx,f.ev hh,Option.map];refine eR ?_;have hu:(underlying t).run E.P w=.ok (.slice e) w:=by simp only[underlying,program,bind,Sem.bind,pure,Sem.run,h1]
 have hsz:(sizeOf e).run E.P w=.ok inf.size w:=by simp only[sizeOf,typeInfo,program,bind,Sem.bind,pure,Sem.run,h2]
 unfold Instr.sliceAt;rw[aV hu];simp only[Instr.slice];rw[aV hu];simp only[];have hb:(Instr.sliceBounds true n c none (some (.int kk m)) none).run E.P w=.ok (0,m,c) w:=by
  simp[Instr.sliceBounds,Instr.sliceBound,asIntOf,bind,Sem.bind,pure,Sem.run,hm]
 rw[aV hb];simp only[];rw[aV hsz];cases a with
 |none=>by_cases hc:c=0 <;> simp[hc,pure,Sem.run,Addr.add]
 |some a=>by_cases hc:c=0 <;> simp[hc,pure,Sem.run,Addr.add]
theorem bUD{fv:Operand}{os:List Operand}{ats ps:Array TypeId}{f:FuncId}{fn:Func}{e:TypeId}(hf:fr.ev fv=some (.func (.func f) #[] #[]))(hos:fr.evs os=some [i64 n])
  (h1:E.P.funcs[f]?=some fn) (h2:(fn.name== "runtime.NumGoroutine")=false) (h3:fn.body.isNone=true) (h4:Extern.findNext fn=none) (h5:Extern.find fn=some (Extern.BytealgMakeNoZero.makeNoZero ps #[t])) (ht:E.P.underlying t=some (.slice e)) (hn:n≤281474976710656):
  EfS E fr K L ⟨dst,.call ⟨.value fv,os.toArray,ats⟩,ty,pos,aft,g⟩ (fun r K' L'=>∃(b:Nat) (cs:List Value),n≤cs.length∧r=.slice (some ⟨b,0,none⟩) n cs.length∧K'=K∧L'=pt b (aZ cs e)::L):=
 aHY hf hos h1 h2 h3 h4 h5 fun w i=>by
  obtain⟨cs,hr,hle,_⟩:=Lib.run_makeNoZero (P:=E.P) w ps t e ht n hn;refine⟨_,_,K,_,hr,⟨w.heap.size,cs.toList,by simpa using hle,by simp,rfl,rfl⟩,Hl.le_refl _,?_⟩
  have j:=(i.drew (w.drawn+1+1)).alloc (aZ cs.toList e);have e1:(Obj.cells cs e)=aZ cs.toList e:=by unfold aZ;simp
  rw[e1];exact j
theorem aWY{e:TypeId}{a:Addr}{c:Nat}(hu:E.P.underlying t=some (.slice e))(hs:((E.P.info? e).map (·.size)).isSome=true)(hx:fr.ev x=some (.slice (some a) n c))(hy:fr.ev y=some (.slice none 0 0)):
  Ev E fr K L ⟨dst,.call ⟨.builtin .copy,#[x,y],#[t,t2]⟩,ty,pos,aft,g⟩ (i64 0):=fun ac w f j=>by
 have e:Array.map ac.eval #[x,y]= #[.slice (some a) n c,.slice none 0 0]:=by simp[f.ev hx,f.ev hy]
 simp only[execOp,resolve,e,bind,pure,Sem.bind,invoke,builtin];exact eR (run_copy_nil E.P w t t2 ty _ a n c hu hs)
theorem aFS{o:Oper}{ob:Obj}{f:Nat→Value}{N:Value→Hl→List Asn→Prop}(h:EfS E fr K L o N)(hN:∀v K' L',N v K' L'→∃b,v=f b∧K'=K∧L'=pt b ob::L):EfS E fr K L o (fun v K' L'=>∃b,v=f b∧K' b=some ob∧L'=L):=fun a w fo j=>by
 obtain⟨u,w',K',L',hr,hn,le,j'⟩:=h a w fo j;obtain⟨b,h1,rfl,rfl⟩:=hN _ _ _ hn;obtain⟨le2,hk,j2⟩:=j'.settle;exact⟨u,w',_,L,hr,⟨b,h1,hk,rfl⟩,Hl.le_trans le le2,j2⟩
end
def aVY(P:Program)(U n T:Nat):Bool:=
 match P.info? T with
 |some j=>j.size !=0&&n !=0&&liesAt P P.depth U (n / P.cellsOf U) 0 T 1
 |none=>false
section
variable{E:Env}{fr:Fr}{K:Hl}{L L':List Asn}{Q:Post}{dst:Option Tmp}{ty:TypeId}{pos:String}{aft:Array Edge}{g:Option (Nat×Bool)}{x y:Operand}{t t2 t' s e b n:Nat}{T U:TypeId}{v:Value}
theorem aMJ{l:List Value}{fz:Nat×Nat}(hs:E.P.underlying t=some (.pointer T))(hd:E.P.underlying t2=some .unsafePointer)(hx:fr.ev x=some (ptr b))(hS:Sees K L b (aZ l U fz))(hT:aVY E.P U l.length T=true):
  Ev E fr K L ⟨dst,.convert t t2 x,ty,pos,aft,g⟩ (ptr b):=fun a w f j=>by
 simp only[execOp,f.ev hx];refine eR ?_;unfold aVY at hT;cases hi:E.P.info? T with
 |none=>simp[hi]at hT
 |some inf=>
  simp[hi]at hT;have hp:0 < l.length:=by
   rcases Nat.eq_zero_or_pos l.length with h|h
   ·exact absurd (List.length_eq_zero_iff.1 h) hT.1.2
   exact h
  exact Lib.run_to_unsafe w ⟨b,0,none⟩ hs hd hi (by have:=hT.1.1;omega) (zT (hS.at j)) hp
theorem aH8{l:List Value}{fz:Nat×Nat}(hs:E.P.underlying t=some .unsafePointer)(hd:E.P.underlying t2=some (.pointer T))(hx:fr.ev x=some (ptr b))(hS:Sees K L b (aZ l U fz))(hT:aVY E.P U l.length T=true):
  Ev E fr K L ⟨dst,.convert t t2 x,ty,pos,aft,g⟩ (ptr b):=fun a w f j=>by
 simp only[execOp,f.ev hx];refine eR ?_;unfold aVY at hT;cases hi:E.P.info? T with
 |none=>simp[hi]at hT
 |some inf=>
  simp[hi]at hT;exact Lib.run_from_unsafe w ⟨b,0,none⟩ hs hd hi (zT (hS.at j)) hT.2
end
section
variable{E:Env}{fr:Fr}{K:Hl}{L L':List Asn}{Q:Post}{dst:Option Tmp}{ty:TypeId}{pos:String}{aft:Array Edge}{g:Option (Nat×Bool)}{ops:Array Oper}{rest:List Oper}{v x:Value}{b o:Nat}
theorem aM2{fv:Operand}{os:List Operand}{vs:List Value}{ats:Array TypeId}{f:FuncId}{a:Act}{w w':World}{r:Value}(fo:FrOk E.n E.ds fr a)(hf:fr.ev fv=some (.func (.func f) #[] #[]))(hos:fr.evs os=some vs)
  (hr:(callFunc f vs.toArray).run E.P w=.ok (.value r) w'):(execOp a.eval ⟨dst,.call ⟨.value fv,os.toArray,ats⟩,ty,pos,aft,g⟩).run E.P w=.ok (.value r) w':=by
 have e1:Array.map a.eval os.toArray=vs.toArray:=by simp[fo.evs hos]
 simp only[execOp,resolve,e1,fo.ev hf,Deferred.ofValue,bind,pure,Sem.bind,invoke,List.append_toArray];simp only[List.nil_append,List.append_nil];exact hr
theorem sZ{fv:Operand}{os:List Operand}{vs:List Value}{ats:Array TypeId}{f:FuncId}(hf:fr.ev fv=some (.func (.func f) #[] #[]))(hos:fr.evs os=some vs)(hr:∀w,In E.w0 E.F K L w→(callFunc f vs.toArray).run E.P w=.ok (.value v) w):
  Ev E fr K L ⟨dst,.call ⟨.value fv,os.toArray,ats⟩,ty,pos,aft,g⟩ v:=fun a w fo j=>aM2 fo hf hos (hr w j)
theorem aGE{fv:Operand}{os:List Operand}{vs:List Value}{ats:Array TypeId}{f:FuncId}{l l':List Value}{u:TypeId}{fz:Nat×Nat}(hf:fr.ev fv=some (.func (.func f) #[] #[]))(hos:fr.evs os=some vs)
  (hr:∀w:World,w.heap[b]?=some (aZ l u fz)→(callFunc f vs.toArray).run E.P w=.ok (.value v) (w.setCell ⟨b,o,none⟩ x))
  (hs:Fnd (pt b (aZ l u fz)) (pt b (aZ l' u fz)) L L') (hset:SetAt l o x l'):
  EfS E fr K L ⟨dst,.call ⟨.value fv,os.toArray,ats⟩,ty,pos,aft,g⟩ (fun r K' L''=>r=v∧K'=K∧L''=L'):=by
 intro a w fo j;have hb:=j.mem hs;obtain⟨rfl,ho'⟩:=hset.eq;obtain⟨s1,s2,s3⟩:=sG (o:=o) x hb;exact⟨_,_,_,_,.inl (aM2 fo hf hos (hr w hb)),⟨rfl,rfl,rfl⟩,Hl.le_refl _,j.writeAt hs s1 s2 s3⟩
theorem aD5{t t2 T:TypeId}{y:Operand}{l:List Value}{u:TypeId}{fz:Nat×Nat}{c:Value}(hs:E.P.underlying t=some (.pointer T))(hd:E.P.underlying t2=some .unsafePointer)(hsz:(E.P.info? T).map (fun i=>decide (i.size=0))=some false)(hx:fr.ev y=some (ptr b o))(hS:Sees K L b (aZ l u fz))(hl:l[o]?=some c):
  Ev E fr K L ⟨dst,.convert t t2 y,ty,pos,aft,g⟩ (ptr b o):=fun a w f j=>by
 simp only[execOp,f.ev hx];refine eR ?_;exact run_convert_to_unsafe hs hd hsz (mI (hS.at j) hl)
theorem aFX{w:World}{l:List Value}{u:TypeId}(h:w.heap[b]?=some (aZ l u)):w.frozen? ⟨b,o,none⟩=false:=by
 simp only[World.frozen?,h];simp
theorem aPP{P:Program}{f:FuncId}{r:Value}(hb:∃fn,P.funcs[f]?=some fn∧(fn.name== "runtime.NumGoroutine")=false∧fn.body.isSome=true):aDB P (.func (.func f) #[r] #[]) f [r]:=by
 intro w;obtain⟨fn,h1,h2,h3⟩:=hb;simp only[Deferred.ofValue,bind,pure,Sem.bind,invoke];have:=yY (vs:= #[r]) h1 h2 h3 w
 simpa using this
abbrev dfa(f:FuncId)(args:List Value):Deferred:={target:=.fn (.func f) #[],args:=args.toArray}
theorem aN0{fv:Operand}{os:List Operand}{vs:List Value}{ats:Array TypeId}{f:FuncId}(hf:fr.ev fv=some (.func (.func f) #[] #[]))(hos:fr.evs os=some vs)
  (h:OL ⟨E.P,E.n,dfa f vs::E.ds,E.w0,E.F⟩ ops rest fr K L Q):OL E ops (⟨none,.defer ⟨.value fv,os.toArray,ats⟩,ty,pos,aft,none⟩::rest) fr K L Q:=by
 intro a w f1 i;refine wpList_plain rfl fun k hk=>?_;unfold Oper.wp;have e1:Array.map a.eval os.toArray=vs.toArray:=by simp[f1.evs hos]
 have:(execOp a.eval ⟨none,.defer ⟨.value fv,os.toArray,ats⟩,ty,pos,aft,none⟩).run E.P w=.ok (.defer (dfa f vs)) w:=by
  simp only[execOp,resolve,e1,f1.ev hf,Deferred.ofValue,bind,pure,Sem.bind];simp[Sem.run,dfa]
 rw[this];refine hk _ _ (h _ _ ⟨?_,f1.size,fun k v e=>f1.get k v e⟩ i)
 show dfa f vs::a.defers=_
 rw[f1.defers]
end
theorem aU2{P:Program}{f:FuncId}{fn:Func}{c:Code}{args:List Value}{n:Nat}{K:Hl}{L:List Asn}{R:Ending→Hl→List Asn→Prop}{u:FrameMode}
  (hf:P.funcs[f]?=some fn) (hb:fn.body=some c) (hn:fn.ntmps=n) (hl:Nat.ble args.length n=true) (hname:(fn.name== "runtime.NumGoroutine")=false)
  (h:∀(F:Hl) (w:World),T ⟨P,n,[],w,F⟩ c (Fr.init 0 args n) K L (yK P fn w F K R)):SpD P f args K L u fun e u'' K' L'=>u''=u∧R e K' L':=by
 refine⟨⟨fn,hf,hname,by simp[hb]⟩,fun F w i=>callsD_of_wpS hf hb fun c0 cs hu=>?_⟩
 have hlen:args.length≤n:=Nat.le_of_ble_eq_true hl;have f0:FrOk n [] (Fr.init 0 args n) {tmps:=args.toArray++Array.replicate (fn.ntmps - args.toArray.size) undef,defers:=[]}:=by
  refine⟨rfl,by simp[hn];omega,?_⟩
  intro k v e;obtain⟨_,h2⟩:=zI e;have hk:k < args.length:=by
   rcases Nat.lt_or_ge k args.length with h|h
   ·exact h
   simp[List.getElem?_eq_none h]at h2
  show (args.toArray++Array.replicate _ _)[k]?=some v
  rw[Array.getElem?_append_left gCE]
  simpa using h2
 refine wpS_of_wp (Code.wp_mono ?_ (h F w _ _ f0 i))
 intro e a' w' q;cases e with
 |normal=>obtain⟨h1,v,h2,K',L',h3,h4,h5⟩:=q;exact⟨h1,_,rfl,v,h2,K',L',⟨hu,h3⟩,h4,h5⟩
 |ret=>obtain⟨h1,v,h2,K',L',h3,h4,h5⟩:=q;exact⟨h1,_,rfl,v,h2,K',L',⟨hu,h3⟩,h4,h5⟩
 |panic ch=>obtain⟨h1,K',L',h3,h4,h5⟩:=q;exact⟨h1,_,rfl,K',L',⟨hu,h3⟩,h4,h5⟩
 |exit id=>exact q.elim
 |goto l=>exact q.elim
 |outgrown=>obtain⟨K',L',h3,h4,h5⟩:=q;exact⟨_,K',L',⟨hu,h3⟩,h4,h5⟩
section
variable{P:Program}{fn:Func}{n:Nat}{w0:World}{F K0 K:Hl}{fr:Fr}{L L1 L2:List Asn}{R:Ending→Hl→List Asn→Prop}{x:Exit}
theorem aHQ{f:FuncId}{vs:List Value}{ds:List Deferred}{u:FrameMode}{N:Hl→List Asn→Prop}{RW:Ending→World→Prop}{tmps:Array Value}{w:World}(i:In w0 F K L w)(hu:u≠.run)(hL:Tks L1 L L2)
  (hs:SpD P f vs K L1 u fun e u'' K' L'=>u''=u∧((∃v,e=.returned v)∧N K' L'))
  (next:∀K' L' w',N K' L'→K.le K'→In w0 F K' (L'++L2) w'→Leaves P fn tmps RW ds (settle u) w'):Leaves P fn tmps RW (dfa f vs::ds) u w:=by
 obtain⟨F',i1,back⟩:=(i.imp hL.sat).hide;obtain⟨⟨g,g1,g2,g3⟩,hs⟩:=hs;refine leaves_cons hu (f:=f) (args:=vs.toArray) ?_ ((hs F' w i1).mono fun e u' w' ⟨K',L',r,le,j⟩=>?_)
 ·have:=yY (vs:=vs.toArray) g1 g2 g3 w;simp only[invoke]
  simpa using this
 obtain⟨rfl,⟨v,rfl⟩,hn⟩:=r;exact next K' L' w' hn le (back j)
theorem bGK{f1 f2:FuncId}{vs1 vs2:List Value}{M1:List Asn}{N1 N2:Hl→List Asn→Prop}(hw:Way x .returning)(hr:fn.results= #[])(hL:Tks L1 L M1)(hs1:SpD P f1 vs1 K L1 .returning fun e u'' K' L'=>u''=.returning∧((∃v,e=.returned v)∧N1 K' L'))
  (h2:∀K' L',N1 K' L'→K.le K'→∃L2 M2,Tks L2 (L'++M1) M2∧SpD P f2 vs2 K' L2 .returning (fun e u'' K'' L''=>u''=.returning∧((∃v,e=.returned v)∧N2 K'' L''))∧∀K'' L'',N2 K'' L''→K'.le K''→R (.returned (.tuple #[])) K'' (L''++M2)∧K0.le K''):
  D ⟨P,n,[dfa f1 vs1,dfa f2 vs2],w0,F⟩ x fr K L (aDA P fn w0 F K0 R):=fun a w fo i=>by
 refine hw.post ?_;rw[fo.defers];refine aHQ i hw.ne hL hs1 fun K' L' w' hn le j=>?_;obtain⟨L2,M2,t2,s2,fin⟩:=h2 K' L' hn le;refine aHQ j (by simp[settle]) t2 (by simpa[settle]using s2) fun K'' L'' w'' hn2 le2 j2=>?_;obtain⟨r,l0⟩:=fin K'' L'' hn2 le2;exact⟨_,results_none hr _ _ _,K'',_,r,l0,j2⟩
end
end Go.SL
end
section
namespace Go.SL
open Go.MapKept
abbrev EntI:=Int×Value×Nat
def entI(p:EntI):MapEntry:={key:=i64 p.1,val:=p.2.1,born:=p.2.2}
abbrev mapI(es:List EntI)(c:Nat):Obj:=.map (es.map entI).toArray c
def xH(k:Int):List EntI→Nat→Option (Nat×Value)
 | [],_=>none
 |e::es,i=>if k=e.1 then some (i,e.2.1)else xH k es (i+1)
def bIM(es:List EntI)(k:Int):Option Value:=(es.find? fun e=>decide (k=e.1)).map (·.2.1)
theorem aHK(k:Int):∀(es:List EntI) (i:Nat),Instr.findNow (.int .i64) (i64 k) (es.map entI) i=some (xH k es i):=by
 intro es;induction es with
 |nil=>intro i;rfl
 |cons e es ih=>
  intro i;simp only[List.map_cons,Instr.findNow,entI,Instr.sameNow,xH];rw[show ((k==e.1):Bool)=decide (k=e.1)from rfl]
  by_cases h:k=e.1
  ·simp[h]
  simp only[decide_eq_false h,if_neg h];exact ih _
theorem aXS(k:Int):∀(es:List EntI) (i:Nat),(xH k es i).map (·.2)=bIM es k:=by
 intro es;induction es with
 |nil=>intro i;rfl
 |cons e es ih=>
  intro i;unfold xH bIM
  by_cases h:k=e.1
  ·simp[h]
  rw[if_neg h,List.find?_cons,decide_eq_false h];exact ih _
section
variable{E:Env}{fr:Fr}{K:Hl}{L L':List Asn}{Q:Post}{dst:Option Tmp}{ty:TypeId}{pos:String}{aft:Array Edge}{g:Option (Nat×Bool)}{x y m:Operand}{t t' kt et b c:Nat}{v z:Value}{k:Int}{es:List EntI}
theorem aYE:EfS E fr K L ⟨dst,.makeMap t none,ty,pos,aft,g⟩ (fun u K' L'=>∃b,u=.map (some b)∧K'=K∧L'=pt b (mapI [] 0)::L):=qT
theorem aIB{P:Program}{w:World}(hm:P.underlying t=some (.map kt et))(hk:P.underlying kt=some (.int .i64))(hb:w.heap[b]?=some (mapI es c))(hn:es.any (fun e=>decide (k=e.1))=false):
  (Instr.mapUpdate t (.map (some b)) (i64 k) v).run P w=.ok () {w with heap:=w.heap.setIfInBounds b (mapI (es++[(k,v,c)]) (c+1))}:=by
 have hf:xH k es 0=none:=by
  have:∀(es:List EntI) (i:Nat),es.any (fun e=>decide (k=e.1))=false→xH k es i=none:=by
   intro es;induction es with
   |nil=>intro i h;rfl
   |cons e es ih=>
    intro i h;rw[List.any_cons,Bool.or_eq_false_iff]at h;unfold xH;rw[if_neg (by simpa using h.1)];exact ih _ h.2
  exact this es 0 hn
 have h1:(Instr.checkKey false 10000 kt (i64 k)).run P w=.ok () w:=run_checkKey hk (d:=.int .i64) (k:=i64 k) rfl _ 9999;have h2:=run_findKey (w:=w) (kt:=kt) hk (aHK k es 0);unfold Instr.mapUpdate;rw[aV (run_underlying hm w)];simp only[]
 show ((getObj b)>>=fun _=>_).run P w=_
 rw[aV (MapKept.run_getObj_map hb)];simp only[];rw[aV h1]
 show ((Instr.findKey kt (i64 k) (es.map entI))>>=fun _=>_).run P w=_
 rw[aV h2,hf]
 show (setObj b _).run P w=_
 rw[MapKept.run_setObj_map _ hb];have e1:(es.map entI).toArray.push {key:=i64 k,val:=v,born:=c}=((es++[(k,v,c)]).map entI).toArray:=by simp[entI]
 rw[e1]
theorem aGF(hm:E.P.underlying t=some (.map kt et))(hk:E.P.underlying kt=some (.int .i64))(hx:fr.ev m=some (.map (some b)))(hy:fr.ev x=some (i64 k))(hv:fr.ev y=some v)(hn:es.any (fun e=>decide (k=e.1))=false)
  (hF:Fnd (pt b (mapI es c)) (pt b (mapI (es++[(k,v,c)]) (c+1))) L L'):EfS E fr K L ⟨dst,.insert t m x y,ty,pos,aft,g⟩ (fun _ K' L''=>K'=K∧L''=L'):=by
 intro a w f j;have hb:=j.mem hF;have hr:(execOp a.eval ⟨dst,.insert t m x y,ty,pos,aft,g⟩).run E.P w=.ok .skip {w with heap:=w.heap.setIfInBounds b (mapI (es++[(k,v,c)]) (c+1))}:=by
  simp only[execOp,f.ev hx,f.ev hy,f.ev hv];rw[aV (aIB hm hk hb hn)];rfl
 have hs:=MapKept.heap_set (o':=mapI (es++[(k,v,c)]) (c+1)) hb;exact⟨_,_,_,_,.inr ⟨hr,rfl⟩,⟨rfl,rfl⟩,Hl.le_refl _,j.writeAt hF (by simp) hs.1 hs.2⟩
end
section
variable{E:Env}{fr:Fr}{K:Hl}{L L':List Asn}{Q:Post}{dst:Option Tmp}{ty:TypeId}{pos:String}{aft:Array Edge}{g:Option (Nat×Bool)}{x y m:Operand}{t t' kt et b c:Nat}{v z:Value}{k:Int}{es:List EntI}
theorem aSR(hm:E.P.underlying t=some (.map kt et))(hk:E.P.underlying kt=some (.int .i64))(hz:gH E.P et=some z)(hx:fr.ev x=some (.map (some b)))(hy:fr.ev y=some (i64 k))(hs:Sees K L b (mapI es c)):
  Ev E fr K L ⟨dst,.lookup t x y false,ty,pos,aft,g⟩ ((bIM es k).getD z):=fun a w f j=>by
 simp only[execOp,f.ev hx,f.ev hy];refine eR ?_;have hb:=hs.at j;have h1:(Instr.checkKey (es.map entI).toArray.isEmpty 10000 kt (i64 k)).run E.P w=.ok () w:=run_checkKey hk (d:=.int .i64) (k:=i64 k) rfl _ 9999;have h2:=run_findKey (w:=w) (kt:=kt) hk (aHK k es 0);have h3:(zeroValue et).run E.P w=.ok z w:=by
  unfold gH at hz;cases hi:E.P.info? et with
  |none=>simp[hi]at hz
  |some inf=>simp[hi]at hz;simp only[zeroValue,typeInfo,program,bind,Sem.bind,pure,Sem.run,hi,hz]
 have h4:=aXS k es 0;unfold Instr.lookup;rw[aV (run_underlying hm w)];simp only[]
 show ((getObj b)>>=fun _=>_).run E.P w=_
 rw[aV (MapKept.run_getObj_map hb)];simp only[];rw[aV (vS _ _),aV h1]
 show ((Instr.findKey kt (i64 k) (es.map entI))>>=fun _=>_).run E.P w=_
 rw[aV h2,←h4];cases xH k es 0 with
 |some p=>rfl
 |none=>
  show ((zeroValue et)>>=fun _=>_).run E.P w=_
  rw[aV h3];rfl
end
end Go.SL
end
section
namespace Go.Syn
def dpt:Tree→Nat
 | .iff bs=>dpt bs
 | .ccons c l=>max (dpt c) (dpt l)
 | .bcons _ b l=>max (dpt b+1) (dpt l)
 | .belse b l=>max (dpt b+1) (dpt l)
 |_=>0
theorem bEL{m:Nat}{t:Tree}(ht:dpt t≤m):∀ {l:Tree},dpt l≤m→dpt (l.snocC t)≤m:=by
 intro l;induction l <;> grind [dpt,Tree.snocC]
theorem aOJ{m:Nat}{o:Option Tree}{b:Tree}(hb:dpt b+1≤m):∀ {l:Tree},dpt l≤m→dpt (l.snocB o b)≤m:=by
 intro l;have hm:dpt (mkB o b .bnil)≤m:=by cases o <;> simp only[mkB,dpt] <;> omega
 induction l with
 |bcons x y l ih1 ih2 ih3=>grind [dpt,Tree.snocB]
 |belse y l ih1 ih2=>grind [dpt,Tree.snocB]
 |_=>intro _;exact hm
variable{s:aJ}
def DptA(m:Nat)(T:St→Res (Tree×St)):Prop:=∀st r,T st=.ok r→dpt r.1≤m
theorem aFJ{m:Nat}{B:St→Res (Tree×St)}(hB:DptA m B):DptA m (bodyC s B):=by
 grind [bodyC,DptA]
theorem aWV{m:Nat}{T B:St→Res (Tree×St)}(hB:DptA m B):∀ {f:Nat} {acc:Tree} {st:St} {r:Tree×St},dpt acc≤m+1→iV s T B f acc st=.ok r→dpt r.1≤m+1:=by
 intro f;induction f with
 |zero=>intro acc st r _ e;cases e
 |succ f ih=>
  intro acc st r ha e;simp only[iV]at e;split at e
  ·split at e
   ·cases e
   split at e
   ·cases e
   split at e
   ·cases e
   rename_i b hb;have:=aFJ hB _ _ hb;exact ih (aOJ aI ha) e
  unfold nH at e;split at e
  ·split at e
   ·cases e
   split at e
   ·cases e
   rename_i b hb;have:=aFJ hB _ _ hb;cases e
   exact aOJ aI ha
  cases e;exact ha
theorem bF8{m:Nat}{needs:List aJ}{T B:St→Res (Tree×St)}(hB:DptA m B){st:St}{r:Tree×St}(e:cmdD s needs T B st=some (.ok r)):dpt r.1≤m+1:=by
 have simple:∀ {c:Tree},dpt c=0→lG s c st=.ok r→dpt r.1≤m+1:=by
  intro c hc e;unfold lG at e;split at e
  ·cases e
  split at e
  ·cases e
  cases e
  show dpt c≤_
  omega
 have acting:∀ {k:Int} {x:aJ} {p:Int},actC s needs k x p st=.ok r→dpt r.1≤m+1:=by
  intro k x p e;unfold actC at e;split at e
  ·cases e
  split at e
  ·cases e
  split at e
  ·cases e
  split at e
  ·cases e
  cases e
  exact Nat.zero_le _
 unfold cmdD at e;simp only[]at e;split at e
 ·exact simple rfl gAK
 split at e
 ·exact simple rfl gAK
 split at e
 ·exact simple rfl gAK
 split at e
 ·exact acting gAK
 split at e
 ·exact acting gAK
 split at e
 ·exact acting gAK
 split at e
 ·grind [yF,DptA,cmdD,dpt]
 split at e
 ·have e:ifC s T B st=.ok r:=by simpa using e
  unfold ifC at e;split at e
  ·cases e
  split at e
  ·cases e
  split at e
  ·cases e
  rename_i b hb;have:=aFJ hB _ _ hb;exact aWV hB (by simp only[dpt];omega) e
 cases e
theorem aWC{m:Nat}{C:St→Option (Res (Tree×St))}(hC:∀ {st r},C st=some (.ok r)→dpt r.1≤m):∀ {f:Nat} {acc:Tree} {st:St} {r:Tree×St},dpt acc≤m→kI s C f acc st=.ok r→dpt r.1≤m:=by
 intro f;induction f with
 |zero=>intro acc st r _ e;cases e
 |succ f ih=>
  intro acc st r ha e;simp only[kI]at e;split at e <;> grind [kI,bEL]
theorem aMV{needs:List aJ}:∀n,DptA n (block s needs n)
 |0=>by intro st r e;simp only[block]at e;split at e <;> cases e;exact Nat.zero_le _
 |n+1=>by
  intro st r e;simp only[block]at e;exact aWC (fun h=>bF8 (aMV n) h) (Nat.zero_le _) e
theorem bDH{r:List aJ×Tree}(h:eD s=.ok r):dpt r.2≤7:=by
 unfold eD at h;split at h
 ·cases h
 unfold jL at h;split at h
 ·cases h
 split at h
 ·cases h
 rename_i b hb;split at h
 ·cases h;exact aMV 7 _ _ hb
 cases h
def WOk(w:Word):Prop:=(w.kind=4→w.s=[])∧(w.kind≠4→w.n=0)∧(0≤w.n∧w.n≤2147483647)
section
variable{s:aJ}
theorem zP{a:Nat}{r:St}(h:next s a=.ok r):WOk r.2:=by
 have hn:=aTV h
 suffices h:(r.2.kind=4→r.2.s=[])∧(r.2.kind≠4→r.2.n=0)from ⟨h.1,h.2,hn⟩
 unfold next at h;split at h
 ·cases h
 split at h
 ·cases h;exact⟨fun h=>rfl,fun _=>rfl⟩
 unfold mT at h;split at h
 ·cases h;exact⟨fun h=>by simp at h,fun _=>rfl⟩
 split at h
 ·split at h
  ·cases h
  cases h;exact⟨fun h=>by simp at h,fun _=>rfl⟩
 split at h
 ·split at h
  ·cases h;exact⟨fun h=>by simp at h,fun _=>rfl⟩
  cases h
 split at h
 ·cases h;exact⟨fun h=>by simp at h,fun _=>rfl⟩
 split at h
 ·split at h
  ·cases h
  cases h;exact⟨fun _=>rfl,fun h=>by simp at h⟩
 cases h
theorem bQD{w:Word}{k:Nat}(h:WOk w)(hk:w.kind=k)(h4:k≠4):w.wd=(k,w.s,0):=by
 have:=h.2.1 aI;unfold Word.wd;rw[hk,this]
theorem zQ{st q:St}{k:Nat}(h:WOk st.2)(hk:st.2.kind=k)(h4:k≠4)(h0:k≠0)(hq:next s st.1=.ok q):Path s st [(k,st.2.s,0)] q∧WOk q.2:=⟨⟨by omega,bQD h hk h4,q,hq,rfl⟩,zP hq⟩
theorem aE6{st:St}{k:Nat}{texts:List aJ}{r:Word×St}(hw:WOk st.2)(h4:k≠4)(h0:k≠0)(h:take s st k texts=.ok r):Path s st [(k,r.1.s,0)] r.2∧WOk r.2.2∧(texts=[]∨r.1.s∈texts):=by
 obtain⟨e1,e2⟩:=aAA h;unfold take at h;split at h
 ·cases h
 rename_i hn;have hk:st.2.kind=k:=Classical.byContradiction fun h=>hn (.inl h)
 have ht:texts=[]∨st.2.s∈texts:=by
  by_cases h1:texts=[]
  ·exact .inl h1
  exact .inr (Classical.byContradiction fun h=>hn (.inr ⟨h1,h⟩))
 obtain⟨p1,p2⟩:=zQ hw hk h4 h0 e2;rw[e1];exact⟨p1,p2,ht⟩
theorem bET{st:St}{r:Word×St}(hw:WOk st.2)(h:take s st 4 []=.ok r):Path s st [wNu r.1.n] r.2∧WOk r.2.2∧0≤r.1.n∧r.1.n≤2147483647:=by
 obtain⟨e1,e2⟩:=aAA h;unfold take at h;split at h
 ·cases h
 rename_i hn;have hk:st.2.kind=4:=Classical.byContradiction fun h=>hn (.inl h)
 rw[e1];refine⟨⟨by omega,?_,r.2,e2,rfl⟩,zP e2,hw.2.2⟩
 unfold Word.wd;rw[hk,hw.1 hk]
theorem oO{st q:St}{c:UInt8}(hw:WOk st.2)(h:sign s st [c]=.ok q):Path s st [wSg c] q∧WOk q.2:=by
 unfold sign at h;split at h
 ·cases h
 rename_i r hr;cases h
 obtain⟨p1,p2,p3⟩:=aE6 hw (by decide) (by decide) hr;rcases p3 with h|h
 ·cases h
 simp at h;rw[h]at p1;exact⟨p1,p2⟩
theorem aDY{st:St}{c:UInt8}{r:Bool×St}(hw:WOk st.2)(h:eat s st [c]=.ok r):(r.1=true∧Path s st [wSg c] r.2∧WOk r.2.2)∨(r.1=false∧r.2=st):=by
 unfold eat at h;split at h
 ·rename_i hk;split at h
  ·cases h
  rename_i q hq;cases h
  obtain⟨p1,p2⟩:=zQ hw hk.1 (by decide) (by decide) hq;rw[hk.2]at p1;exact .inl ⟨rfl,p1,p2⟩
 cases h;exact .inr ⟨rfl,rfl⟩
theorem rP{st:St}{ff:aJ→Int}{r:aJ×St}(hw:WOk st.2)(h:text s st ff=.ok r):Path s st [wTx r.1] r.2∧WOk r.2.2∧ff r.1=0:=by
 unfold text at h;split at h
 ·cases h
 rename_i hn;split at h
 ·cases h
 rename_i x hx;cases h
 obtain⟨p1,p2,_⟩:=aE6 hw (by decide) (by decide) hx;obtain⟨e1,_⟩:=aAA hx;refine⟨p1,p2,?_⟩
 have hk:st.2.kind=3:=(eU p1).1;simp only[];rw[e1];exact Classical.byContradiction fun h=>hn ⟨hk,h⟩
theorem dX{st q r:St}{u v:List Wd}(h1:Path s st u q)(h2:Path s q v r):Path s st (u++v) r:=jB.2 ⟨q,h1,h2⟩
theorem bCK{ff:aJ→Int}:∀ {f:Nat} {st:St} {acc:List aJ} {r:List aJ×St},WOk st.2→pY s ff f st acc=.ok r→
  ∃ws,r.1=acc++ws∧(∀x∈ws,ff x=0)∧Path s st (ws.flatMap (fun x=>[wSg 44,wTx x])++[wSg 93]) r.2∧WOk r.2.2:=by
 intro f;induction f with
 |zero=>intro st acc r _ h;cases h
 |succ f ih=>
  intro st acc r hw h;simp only[pY]at h;split at h
  ·cases h
  rename_i q hq;split at h
  ·rename_i ht;split at h
   ·cases h
   rename_i x hx;rcases aDY hw hq with ⟨_,p1,p2⟩|⟨e,_⟩
   ·obtain⟨p3,p4,p5⟩:=rP p2 hx;obtain⟨ws,e1,e2,e3,e4⟩:=ih p4 h;refine⟨x.1::ws,by rw[e1];simp,fun y hy=>?_,?_,e4⟩
    ·rcases List.mem_cons.1 hy with rfl|hy
     ·exact p5
     exact e2 y hy
    have:=dX p1 (dX p3 e3)
    simpa using this
   rw[e]at ht;cases ht
  rename_i ht;split at h
  ·cases h
  rename_i y hy;cases h
  rcases aDY hw hq with ⟨e,_⟩|⟨_,e⟩
  ·exact absurd e ht
  rw[e]at hy;obtain⟨p1,p2⟩:=oO hw hy;exact⟨[],by simp,by simp,p1,p2⟩
theorem aEG{ff:aJ→Int}{st:St}{r:List aJ×St}(hw:WOk st.2)(h:list s st ff=.ok r):∃u,GList u r.1∧(∀x∈r.1,ff x=0)∧Path s st u r.2∧WOk r.2.2:=by
 unfold list at h;split at h
 ·cases h
 rename_i q hq;split at h
 ·cases h
 rename_i x hx;rcases aDY hw hq with ⟨e,p1,p2⟩|⟨e,e2⟩
 ·obtain⟨p3,p4,p5⟩:=rP p2 hx;rw[if_pos e]at h;obtain⟨ws,e1,e2,e3,e4⟩:=bCK p4 h;refine⟨_,?_,?_,dX p1 (dX p3 e3),e4⟩
  ·rw[e1];exact GList.many x.1 ws
  intro y hy;rw[e1]at hy;rcases List.mem_append.1 hy with hy|hy
  ·simp at hy;rw[hy];exact p5
  exact e2 y hy
 rw[e2]at hx;obtain⟨p3,p4,p5⟩:=rP hw hx;rw[if_neg (by rw[e];simp)]at h;cases h
 exact⟨_,GList.one x.1,by simpa using p5,p3,p4⟩
theorem bEO:∀ {f:Nat} {h:How} {st:St} {r:How×St},WOk st.2→iL s f h st=.ok r→∃u,GTags h u r.1∧Path s st u r.2∧WOk r.2.2:=by
 intro f;induction f with
 |zero=>intro h st r _ e;cases e
 |succ f ih=>
  intro h st r hw e;simp only[iL]at e;split at e
  ·rename_i hk;split at e
   ·cases e
   rename_i hne;split at e
   ·cases e
   rename_i hnc;have hlt:=sM eG st.2.s;have hl4:(eG.length:Int)=4:=rfl;split at e
   ·rename_i h3;split at e
    ·cases e
    rename_i q hq;obtain⟨p1,p2⟩:=zQ hw hk (by decide) (by decide) hq;obtain⟨u,g,p3,p4⟩:=ih p2 e;obtain⟨i,hi⟩:∃i:Nat,dR eG st.2.s=i:=⟨(dR eG st.2.s).toNat,by omega⟩;rw[hi]at g;exact⟨_,GTags.tag h r.1 st.2.s i u (Classical.byContradiction fun hh=>hnc (.inr ⟨h3,hh⟩)) aI hi g,dX p1 p3,p4⟩
   rename_i h3;split at e
   ·cases e
   rename_i q hq;split at e
   ·cases e
   rename_i x hx;obtain⟨p1,p2⟩:=zQ hw hk (by decide) (by decide) hq;obtain⟨p3,p4,p5⟩:=rP p2 hx;obtain⟨u,g,p6,p7⟩:=ih p4 e;have hs3:dR eG st.2.s=3:=by omega
   have hw3:st.2.s=lJ:=by
    unfold dR at hs3;cases hf:eG.findIdx? (fun y=>decide (st.2.s=y))with
    |none=>rw[hf]at hs3;simp at hs3
    |some i=>
     rw[hf]at hs3;have hi:i=3:=by simp only[]at hs3;omega
     subst hi;rw[List.findIdx?_eq_some_iff_getElem]at hf;obtain⟨_,h1,_⟩:=hf
     simpa[eG]using of_decide_eq_true h1
   rw[hw3]at p1;have hx5:x.1∈[gY,jH]:=by
    unfold oneOf at p5;split at p5
    ·assumption
    cases p5
   exact⟨_,GTags.cmp h r.1 x.1 u (by cases hc:h.cmp with|false=>rfl|true=>exact absurd (.inl ⟨hs3,hc⟩) hnc) hx5 g,dX p1 (dX p3 p6),p7⟩
  cases e;exact⟨[],GTags.nil h,rfl,hw⟩
end
section
variable{s:aJ}{needs:List aJ}
def Snd(s:aJ)(P:List Wd→Tree→Prop)(T:St→Res (Tree×St)):Prop:=∀st r,WOk st.2→T st=.ok r→∃u,P u r.1∧Path s st u r.2∧WOk r.2.2
theorem aCR{n:Nat}{word:aJ}{op:Int}{ext:aJ}(hm:(word,op,ext)∈[(oT,(6:Int),([]:aJ)),(fF,7,fF),(uG,8,dB)]){st:St}{r:Tree×St}(hw:WOk st.2)(hk:st.2.kind=1)(hs:st.2.s=word)(e:mN s needs op ext st=.ok r):
  ∃u,GTest needs (n+1) u r.1∧Path s st u r.2∧WOk r.2.2:=by
 unfold mN at e;split at e
 ·cases e
 rename_i hx;split at e
 ·cases e
 rename_i q hq;obtain⟨p1,p2⟩:=zQ hw hk (by decide) (by decide) hq;unfold pZ at e;split at e
 ·cases e
 rename_i h hh;obtain⟨u,g,p3,p4⟩:=bEO p2 hh;split at e
 ·cases e
 rename_i a ha;obtain⟨v,ga,fa,p5,p6⟩:=aEG p4 ha;split at e
 ·cases e
 rename_i b hb;obtain⟨w,gb,_,p7,p8⟩:=aEG p6 hb;cases e
 rw[hs]at p1;exact⟨_,GTest.mat n word op ext u v w h.1 a.1 b.1 hm (fun he=>Classical.byContradiction fun hn=>hx ⟨he,hn⟩) g ga fa gb,dX p1 (dX p3 (dX p5 p7)),p8⟩
theorem bC2{n:Nat}{T:St→Res (Tree×St)}(hT:Snd s (GTest needs n) T):∀ {f:Nat} {acc:Tree} {st:St} {r:Tree×St},WOk st.2→rK s T f acc st=.ok r→
  ∃us:List (List Wd×Tree),(∀p,p∈us→GTest needs n p.1 p.2)∧r.1=us.foldl (fun l p=>l.snocT p.2) acc∧Path s st (us.flatMap (fun p=>wSg 44::p.1)++[wSg 41]) r.2∧WOk r.2.2:=by
 intro f;induction f with
 |zero=>intro acc st r _ e;cases e
 |succ f ih=>
  intro acc st r hw e;simp only[rK]at e;split at e
  ·cases e
  rename_i q hq;split at e
  ·rename_i ht;split at e
   ·cases e
   rename_i t hht;rcases aDY hw hq with ⟨_,p1,p2⟩|⟨e0,_⟩
   ·obtain⟨u,g,p3,p4⟩:=hT _ _ p2 hht;obtain⟨us,g2,e1,p5,p6⟩:=ih p4 e;refine⟨(u,t.1)::us,fun p hp=>?_,e1,?_,p6⟩
    ·rcases List.mem_cons.1 hp with rfl|hp
     ·exact g
     exact g2 p hp
    have:=dX p1 (dX p3 p5)
    simpa using this
   rw[e0]at ht;cases ht
  rename_i ht;split at e
  ·cases e
  rename_i y hy;cases e
  rcases aDY hw hq with ⟨e0,_⟩|⟨_,e0⟩
  ·exact absurd e0 ht
  rw[e0]at hy;obtain⟨p1,p2⟩:=oO hw hy;exact⟨[],by simp,rfl,p1,p2⟩
theorem aVH:∀n,Snd s (GTest needs n) (test s needs n)
 |0=>by intro st r _ e;simp only[test]at e;split at e <;> cases e
 |n+1=>by
  intro st r hw e;have hT:=aVH n;simp only[test]at e;split at e
  ·rename_i hk;split at e
   ·rename_i x hx;subst e;have base:∀ {q:St},next s st.1=.ok q→∀ {w:aJ},st.2.s=w→Path s st [wNm w] q∧WOk q.2:=fun hq w hs=>by
     have:=zQ hw hk (by decide) (by decide) hq;rw[hs]at this;exact this
    have hconst:∀ {b:Bool},st.2.s=(if b=true then rZ else lT)→oI s b st=.ok r→∃u,GTest needs (n+1) u r.1∧Path s st u r.2∧WOk r.2.2:=by
     intro b hs e;unfold oI at e;split at e
     ·cases e
     rename_i q hq;cases e
     obtain⟨p1,p2⟩:=base hq hs;cases b
     ·exact⟨_,GTest.fls n,p1,p2⟩
     exact⟨_,GTest.tru n,p1,p2⟩
    have hmany:∀ {all:Bool},st.2.s=(if all=true then nC else nD)→qH s (test s needs n) all st=.ok r→∃u,GTest needs (n+1) u r.1∧Path s st u r.2∧WOk r.2.2:=by
     intro all hs e;unfold qH at e;split at e
     ·cases e
     rename_i q hq;split at e
     ·cases e
     rename_i y hy;split at e
     ·cases e
     rename_i t ht;unfold aA8 at e;split at e
     ·cases e
     rename_i l hl;cases e
     obtain⟨p1,p2⟩:=base hq hs;obtain⟨p3,p4⟩:=oO p2 hy;obtain⟨u,g,p5,p6⟩:=hT _ _ p4 ht;obtain⟨us,g2,e1,p7,p8⟩:=bC2 hT p6 hl;refine⟨_,?_,dX p1 (dX p3 (dX p5 p7)),p8⟩
     simp only[];rw[e1];exact GTest.many n all u t.1 us g g2
    unfold qI at hx;simp only[]at hx;split at hx
    ·rename_i hs;exact hconst (b:=true) hs gBE
    split at hx
    ·rename_i hs;exact hconst (b:=false) hs gBE
    split at hx
    ·rename_i hs;have e:notC s (test s needs n) st=.ok r:=by simpa using hx
     unfold notC at e;split at e
     ·cases e
     rename_i q hq;split at e
     ·cases e
     rename_i t ht;cases e
     obtain⟨p1,p2⟩:=base hq hs;obtain⟨u,g,p3,p4⟩:=hT _ _ p2 ht;exact⟨_,GTest.not_ n u t.1 g,dX p1 p3,p4⟩
    split at hx
    ·rename_i hs;exact hmany (all:=true) hs gBE
    split at hx
    ·rename_i hs;exact hmany (all:=false) hs gBE
    split at hx
    ·rename_i hs;exact aCR (word:=oT) (op:=6) (ext:=[]) (by simp) hw hk hs gBE
    split at hx
    ·rename_i hs;exact aCR (word:=fF) (op:=7) (ext:=fF) (by simp) hw hk hs gBE
    split at hx
    ·rename_i hs;exact aCR (word:=uG) (op:=8) (ext:=dB) (by simp) hw hk hs gBE
    split at hx
    ·rename_i hs;have e:oU s st=.ok r:=by simpa using hx
     unfold oU at e;split at e
     ·cases e
     rename_i q hq;split at e
     ·cases e
     rename_i a ha;cases e
     obtain⟨p1,p2⟩:=base hq hs;obtain⟨v,ga,_,p3,p4⟩:=aEG p2 ha;exact⟨_,GTest.exi n v a.1 ga,dX p1 p3,p4⟩
    split at hx
    ·rename_i hs;have e:tY s st=.ok r:=by simpa using hx
     unfold tY at e;split at e
     ·cases e
     rename_i q hq;split at e
     ·cases e
     rename_i y hy;split at e
     ·cases e
     rename_i z hz;cases e
     obtain⟨p1,p2⟩:=base hq hs;obtain⟨p3,p4,p5⟩:=aE6 p2 (by decide) (by decide) hy;obtain⟨p6,p7,p8⟩:=bET p4 hz;rcases p5 with h|h
     ·cases h
     exact⟨_,GTest.siz n y.1.s z.1.n h p8,dX p1 (dX p3 p6),p7⟩
    cases hx
   cases e
  cases e
def SndB(s:aJ)(P:List Wd→Tree→Prop)(T:St→Res (Tree×St)):Prop:=∀st r,WOk st.2→T st=.ok r→∃u,P u (dJ r.1)∧Path s st u r.2∧WOk r.2.2
theorem aFL{P:List Wd→Tree→Prop}{B:St→Res (Tree×St)}(hB:SndB s P B){st:St}{r:Tree×St}(hw:WOk st.2)(e:bodyC s B st=.ok r):∃u,P u (dJ r.1)∧Path s st (wSg 123::(u++[wSg 125])) r.2∧WOk r.2.2:=by
 unfold bodyC at e;split at e
 ·cases e
 rename_i q hq;split at e
 ·cases e
 rename_i b hb;split at e
 ·cases e
 rename_i y hy;cases e
 obtain⟨p1,p2⟩:=oO hw hq;obtain⟨u,g,p3,p4⟩:=hB _ _ p2 hb;obtain⟨p5,p6⟩:=oO p4 hy;exact⟨u,g,dX p1 (dX p3 p5),p6⟩
theorem aWX{n:Nat}{P:List Wd→Tree→Prop}{T B:St→Res (Tree×St)}(hT:Snd s (GTest needs n) T)(hB:SndB s P B):∀ {f:Nat} {acc:Tree} {st:St} {r:Tree×St},WOk st.2→iV s T B f acc st=.ok r→
  ∃(brs:List Br) (els:Option (List Wd×Tree)),(∀p,p∈brs→GTest needs n p.ut p.t∧P p.ub p.b)∧(∀p,els=some p→P p.1 p.2)∧dJ r.1=endB (brs.foldl (fun l p=>l.snocB (some p.t) p.b) (dJ acc)) els∧Path s st (brs.flatMap Br.words++kQ els) r.2∧WOk r.2.2:=by
 intro f;induction f with
 |zero=>intro acc st r _ e;cases e
 |succ f ih=>
  intro acc st r hw e;simp only[iV]at e;split at e
  ·rename_i hk;split at e
   ·cases e
   rename_i q hq;split at e
   ·cases e
   rename_i t ht;split at e
   ·cases e
   rename_i b hb;obtain⟨p1,p2⟩:=zQ hw hk.1 (by decide) (by decide) hq;rw[hk.2]at p1;obtain⟨ut,gt,p3,p4⟩:=hT _ _ p2 ht;obtain⟨ub,gb,p5,p6⟩:=aFL hB p4 hb;obtain⟨brs,els,g1,g2,e1,p7,p8⟩:=ih p6 e;refine⟨⟨ut,t.1,ub,dJ b.1⟩::brs,els,fun p hp=>?_,g2,?_,?_,p8⟩
   ·rcases List.mem_cons.1 hp with rfl|hp
    ·exact⟨gt,gb⟩
    exact g1 p hp
   ·rw[e1,uW];rfl
   have:=dX p1 (dX p3 (dX p5 p7))
   simpa[Br.words]using this
  unfold nH at e;split at e
  ·rename_i hk;split at e
   ·cases e
   rename_i q hq;split at e
   ·cases e
   rename_i b hb;cases e
   obtain⟨p1,p2⟩:=zQ hw hk.1 (by decide) (by decide) hq;rw[hk.2]at p1;obtain⟨ub,gb,p5,p6⟩:=aFL hB p2 hb;exact⟨[],some (ub,dJ b.1),by simp,fun p hp=>by cases hp;exact gb,by simp only[dJ,uW,List.foldl_nil,endB],(by simpa[kQ]using dX p1 p5),p6⟩
  cases e
  exact⟨[],none,(by simp),(fun p (hp:none=some p)=>by cases hp),rfl,rfl,hw⟩
theorem bGA{n:Nat}{P:List Wd→Tree→Prop}{T B:St→Res (Tree×St)}(hT:Snd s (GTest needs n) T)(hB:SndB s P B){st:St}{r:Tree×St}(hw:WOk st.2)(hk:st.2.kind=1)(e:cmdD s needs T B st=some (.ok r)):∃u,GCmd needs n P u (dJ r.1)∧Path s st u r.2∧WOk r.2.2:=by
 have base:∀ {q:St},next s st.1=.ok q→∀ {w:aJ},st.2.s=w→Path s st [wNm w] q∧WOk q.2:=fun hq w hs=>by
  have:=zQ hw hk (by decide) (by decide) hq;rw[hs]at this;exact this
 have simple:∀ {w:aJ} {c:Tree},st.2.s=w→((w=vG∧dJ c=.act 1 [] 0)∨(w=kS∧dJ c=.plain 13)∨(w=mP∧dJ c=.plain 14))→lG s c st=.ok r→∃u,GCmd needs n P u (dJ r.1)∧Path s st u r.2∧WOk r.2.2:=by
  intro w c hs hc e;unfold lG at e;split at e
  ·cases e
  rename_i q hq;split at e
  ·cases e
  rename_i y hy;cases e
  obtain⟨p1,p2⟩:=base hq hs;obtain⟨p3,p4⟩:=oO p2 hy;exact⟨_,GCmd.simple w _ hc,dX p1 p3,p4⟩
 have acting:∀ {w:aJ} {k:Int} {x:aJ} {p:Int},st.2.s=w→((w=fG∧k=2∧x=fG)∨(w=nU∧k=3∧x=[])∨(w=eW∧k=4∧x=eW))→actC s needs k x p st=.ok r→∃u,GCmd needs n P u (dJ r.1)∧Path s st u r.2∧WOk r.2.2:=by
  intro w k x p hs hc e;unfold actC at e;split at e
  ·cases e
  rename_i hx;split at e
  ·cases e
  rename_i q hq;split at e
  ·cases e
  rename_i y hy;split at e
  ·cases e
  rename_i z hz;cases e
  obtain⟨p1,p2⟩:=base hq hs;obtain⟨p3,p4,_⟩:=aE6 p2 (by decide) (by decide) hy;obtain⟨p5,p6⟩:=oO p4 hz;exact⟨_,GCmd.act w k x y.1.s hc (fun he=>Classical.byContradiction fun hn=>hx ⟨he,hn⟩),dX p1 (dX p3 p5),p6⟩
 unfold cmdD at e;simp only[]at e;split at e
 ·rename_i hs;exact simple hs (.inl ⟨rfl,rfl⟩) gAK
 split at e
 ·rename_i hs;exact simple hs (.inr (.inl ⟨rfl,rfl⟩)) gAK
 split at e
 ·rename_i hs;exact simple hs (.inr (.inr ⟨rfl,rfl⟩)) gAK
 split at e
 ·rename_i hs;exact acting hs (.inl ⟨rfl,rfl,rfl⟩) gAK
 split at e
 ·rename_i hs;exact acting hs (.inr (.inl ⟨rfl,rfl,rfl⟩)) gAK
 split at e
 ·rename_i hs;exact acting hs (.inr (.inr ⟨rfl,rfl,rfl⟩)) gAK
 split at e
 ·rename_i hs;have e:yF s needs st=.ok r:=by simpa using e
  unfold yF at e;split at e
  ·cases e
  rename_i c hc;cases e
  unfold setC at hc;split at hc
  ·rename_i hv;split at hc
   ·cases hc
   rename_i q hq;obtain⟨p1,p2⟩:=base hq hs;split at hc
   ·cases hc
   rename_i t ht;unfold oX at hc;split at hc
   ·cases hc
   rename_i nm hnm;split at hc
   ·cases hc
   rename_i vl hvl;split at hc
   ·cases hc
   rename_i y hy;cases hc
   have hn1:∀ {x:aJ},(if named x=true then (0:Int)else 7)=0→named x=true:=by
    intro x h;split at h
    ·assumption
    cases h
   unfold pB at ht;split at ht
   ·rename_i hk2;split at ht
    ·cases ht
    rename_i hne;split at ht
    ·cases ht
    rename_i q2 hq2;cases ht
    obtain⟨p3,p4⟩:=zQ p2 hk2 (by decide) (by decide) hq2;obtain⟨p5,p6,p7⟩:=rP p4 hnm;obtain⟨p8,p9,_⟩:=rP p6 hvl;obtain⟨p10,p11⟩:=oO p9 hy;have hlt:=sM [mO,mR,kV] q.2.s;simp only[List.length_cons,List.length_nil]at hlt;obtain⟨i,hi⟩:∃i:Nat,dR [mO,mR,kV] q.2.s=i:=⟨(dR [mO,mR,kV] q.2.s).toNat,by omega⟩;refine⟨_,?_,dX p1 (dX p3 (dX p5 (dX p8 p10))),p11⟩
    simp only[dJ];rw[hi];exact GCmd.set1 q.2.s nm.1 vl.1 i hv (hn1 p7) aI hi
   cases ht
   obtain⟨p5,p6,p7⟩:=rP p2 hnm;obtain⟨p8,p9,_⟩:=rP p6 hvl;obtain⟨p10,p11⟩:=oO p9 hy;exact⟨_,GCmd.set0 nm.1 vl.1 hv (hn1 p7),dX p1 (dX p5 (dX p8 p10)),p11⟩
  cases hc
 split at e
 ·rename_i hs;have e:ifC s T B st=.ok r:=by simpa using e
  unfold ifC at e;split at e
  ·cases e
  rename_i q hq;split at e
  ·cases e
  rename_i t ht;split at e
  ·cases e
  rename_i b hb;obtain⟨p1,p2⟩:=base hq hs;obtain⟨ut,gt,p3,p4⟩:=hT _ _ p2 ht;obtain⟨ub,gb,p5,p6⟩:=aFL hB p4 hb;obtain⟨brs,els,g1,g2,e1,p7,p8⟩:=aWX hT hB p6 e;refine⟨_,by rw[e1];exact GCmd.iff ut t.1 ub (dJ b.1) brs els gt gb g1 g2,?_,p8⟩
  have:=dX p1 (dX p3 (dX p5 p7))
  simpa using this
 cases e
theorem aWE{n:Nat}{P:List Wd→Tree→Prop}{C:St→Option (Res (Tree×St))}(hC:∀ {st r},WOk st.2→st.2.kind=1→C st=some (.ok r)→∃u,GCmd needs n P u (dJ r.1)∧Path s st u r.2∧WOk r.2.2):
  ∀ {f:Nat} {acc:Tree} {st:St} {r:Tree×St},WOk st.2→kI s C f acc st=.ok r→∃cs:List (List Wd×Tree),(∀p,p∈cs→GCmd needs n P p.1 p.2)∧dJ r.1=cs.foldl (fun l p=>l.snocC p.2) (dJ acc)∧Path s st (cs.flatMap (·.1)) r.2∧WOk r.2.2:=by
 intro f;induction f with
 |zero=>intro acc st r _ e;cases e
 |succ f ih=>
  intro acc st r hw e;simp only[kI]at e;split at e
  ·rename_i hk;split at e
   ·cases e
   ·cases e
   rename_i c hc;obtain⟨u,g,p1,p2⟩:=hC hw hk hc;obtain⟨cs,g2,e1,p3,p4⟩:=ih p2 e;refine⟨(u,dJ c.1)::cs,fun p hp=>?_,?_,?_,p4⟩
   ·rcases List.mem_cons.1 hp with rfl|hp
    ·exact g
    exact g2 p hp
   ·rw[e1,aH1];rfl
   rw[List.flatMap_cons];exact dX p1 p3
  cases e;exact⟨[],by simp,rfl,rfl,hw⟩
theorem aMW:∀n,SndB s (fZ needs n) (block s needs n)
 |0=>by intro st r hw e;simp only[block]at e;split at e <;> cases e;exact⟨[],⟨rfl,rfl⟩,rfl,hw⟩
 |n+1=>by
  intro st r hw e;simp only[block]at e;obtain⟨cs,g,e1,p1,p2⟩:=aWE (needs:=needs) (n:=n) (P:=fZ needs n) (fun h1 h2 h3=>bGA (aVH n) (aMW n) h1 h2 h3) hw e;exact⟨_,⟨cs,g,rfl,e1⟩,p1,p2⟩
theorem bJW:∀ {f:Nat} {ns:List aJ} {st:St} {r:List aJ×St},WOk st.2→reqF s f ns st=.ok r→∃u,GReq ns u r.1∧Path s st u r.2∧WOk r.2.2:=by
 intro f;induction f with
 |zero=>intro ns st r _ e;cases e
 |succ f ih=>
  intro ns st r hw e;simp only[reqF]at e;split at e
  ·rename_i hk;split at e
   ·cases e
   rename_i q hq;split at e
   ·cases e
   rename_i l hl;split at e
   ·cases e
   rename_i y hy;obtain⟨p1,p2⟩:=zQ hw hk.1 (by decide) (by decide) hq;rw[hk.2]at p1;obtain⟨u,g,gf,p3,p4⟩:=aEG p2 hl;obtain⟨p5,p6⟩:=oO p4 hy;obtain⟨v,g2,p7,p8⟩:=ih p6 e;refine⟨_,GReq.cons ns r.1 u v l.1 g (fun x hx=>?_) g2,dX p1 (dX p3 (dX p5 p7)),p8⟩
   have:=gf x hx;unfold oneOf at this;split at this
   ·assumption
   cases this
  cases e;exact⟨[],GReq.nil ns,rfl,hw⟩
theorem vQ{r:List aJ×Tree}(h:eD s=.ok r):∃st st' u v,next s 0=.ok st∧GReq [] u r.1∧fZ r.1 7 v (dJ r.2)∧Path s st (u++v) st'∧st'.2.kind=0:=by
 unfold eD at h;split at h
 ·cases h
 rename_i q hq;unfold jL at h;split at h
 ·cases h
 rename_i n hn;split at h
 ·cases h
 rename_i b hb;split at h
 ·rename_i hk;cases h
  obtain⟨u,g,p1,p2⟩:=bJW (zP hq) hn;obtain⟨v,g2,p3,p4⟩:=aMW 7 _ _ p2 hb;exact⟨q,_,u,v,hq,g,g2,dX p1 p3,hk⟩
 cases h
end
end Go.Syn
end

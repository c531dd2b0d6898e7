/-
  What the proof stands on, part 14: the logic of walks, the walks through the functions, the plain laws. Conditions: as each theorem says. (Merged and shortened by a program.)
-/
import Derived.Laws.LoneSync
import Derived.Test.YthopmddkpdehiabGreatDoorK8
import Derived.Test.YthopmddkpdehiabGreatDoorK9
import Derived.Test.YthopmddkpdehiabGreatDoorK13
set_option linter.unusedVariables false
set_option linter.unusedSimpArgs false
set_option linter.defProp false
set_option maxRecDepth 4000
set_option maxHeartbeats 1000000
namespace Go
def gA6{p:Prop}(h:p:=by refine aQ (.cons (.there .here) (.cons .here .nil)) ?_;exact a8 _ (Hl.le_trans le15 le16) (.cons 1 Y (.cons 5 Y (.cons 7 Y (.cons 8 Y (.cons 9 Y .nil))))) Y (by simp only[xE,hzi,if_true,if_false,Bool.false_eq_true,List.flatten_cons,List.flatten_nil,List.append_nil,List.append_assoc];exact fun _ h=>h)):p:=h
def gB3{p:Prop}(h:p:=by refine aQ (.cons (.there (.there .here)) (.cons .here .nil)) ?_;exact a8 _ (Hl.le_refl _) (.cons 1 Y (.cons 2 Y .nil)) Y (by rw[if_neg (by rw[h18];simp)];simp only[List.flatten_cons,List.flatten_nil,List.append_nil];exact fun _ h=>h)):p:=h
def gB5{p:Prop}(h:p:=by refine aQ (.cons (.there (.there .here)) (.cons .here .nil)) ?_;exact a8 K3 le3 (.cons 1 Y (.cons 2 Y .nil)) Y (by rw[if_pos h18];simp only[List.flatten_cons,List.flatten_nil,List.append_nil];exact fun _ h=>h)):p:=h
def gB7{p:Prop}(h:p:=by exact a8 _ (Hl.le_trans le2 le18) (.cons 0 Y (.cons 3 Y .nil)) Y (by rw[if_neg hne];simp only[List.flatten_cons,List.flatten_nil,List.append_nil,List.nil_append,List.append_assoc];exact fun _ h=>h)):p:=h
def gBC{p:Prop}(h:p:=by refine aQ (.cons (.there .here) (.cons .here .nil)) ?_;exact a8 _ ⟨by assumption,by omega⟩ (.cons 1 Y (.cons 2 Y .nil)) Y (by rw[show k=4 by omega];exact fun _ h=>h)):p:=h
def gBD{p:Prop}(h:p:=by refine aQ (.cons (.there .here) (.cons .here .nil)) ?_;exact a8 _ ⟨by assumption,by omega⟩ (.cons 1 Y (.cons 2 Y .nil)) Y (by rw[show k=3 by omega];exact fun _ h=>h)):p:=h
def gBE{p:Prop}(h:p:=by refine aQ (.cons (.there .here) (.cons .here .nil)) ?_;exact a8 _ ⟨by assumption,by omega⟩ (.cons 1 Y (.cons 2 Y .nil)) Y (by rw[show k=2 by omega];exact fun _ h=>h)):p:=h
def gBJ{p:Prop}(h:p:=by rw[show tag=2 from htg.resolve_left h88,nY];exact⟨Y,Y,Y⟩):p:=h
def gBL{p:Prop}(h:p:=by refine aQ (.cons (.there .here) (.cons .here .nil)) ?_;exact a8 _ le15 (.cons 1 Y (.cons 5 Y (.cons 7 Y (.cons 8 Y (.cons 9 Y .nil))))) Y (by simp only[xE,List.flatten_cons,List.flatten_nil,List.append_nil];exact fun _ h=>h)):p:=h
def gBT{p:Prop}(h:p:=by refine aQ (.cons (.there .here) (.cons .here .nil)) ?_;exact a8 _ le25 (.cons 1 Y (.cons 2 Y (.cons 5 Y (.cons 15 Y (.cons 16 Y (.cons 17 Y .nil)))))) Y (by rw[show sepB i=[44,32]from by obtain⟨j,rfl⟩:∃j,i=j+1:=⟨i - 1,by omega⟩;rfl];simp only[List.flatten_cons,List.flatten_nil,List.append_nil];exact fun _ h=>h)):p:=h
def gBU{p:Prop}(h:p:=by rw[show tag=1 from h88,nX];exact⟨Y,Y,Y⟩):p:=h
def gC2{p:Prop}(h:p:=by first|(simp only[List.length_append,List.length_cons,List.length_nil];omega)|omega):p:=h
def gCA{p:Prop}(h:p:=by exact a8 () trivial (.cons 0 Y (.cons 1 Y (.cons 4 Y (.cons 5 (by rw[hel];exact congrArg (fun x:Nat=>some (i64 (x:Int))) (congrArg (s.length+ ·) (aOE s).symm)) aS)))) Y (fun _ h=>h)):p:=h
def gCF{p:Prop}(h:p:=by rw[hfin];exact⟨Y,Y,Y⟩):p:=h
def gCI{p:Prop}(h:p:=by rw[hw1];exact⟨Y,Y,Y⟩):p:=h
def gCT{p:Prop}(h:p:=by exact a8 () trivial (.cons 0 Y (.cons 1 Y (.cons 4 Y (.cons 5 (by rw[hel];rfl) aS)))) Y (fun _ h=>h)):p:=h
def gCW{p:Prop}(h:p:=by exact a8 _ (Hl.le_refl _) (.cons 0 Y (.cons 3 Y .nil)) Y (by rw[if_pos hee];exact fun _ h=>h)):p:=h
def gEF{p:Prop}(h:p:=by rw[p5 hc,hq,←List.append_assoc];exact congrArg (fun x=>some (str x)) (by rw[hc1,List.append_assoc];rfl)):p:=h
def gEH{p:Prop}(h:p:=by first|(obtain⟨l,xs,h1,h2,h3⟩:=Say.sh_many (all:=true) hsh h34;exact⟨true,l,xs,h1,h34,h2,h3⟩)|(obtain⟨l,xs,h1,h2,h3⟩:=Say.sh_many (all:=false) hsh h34;exact⟨false,l,xs,h1,h34,h2,h3⟩)):p:=h
def gET{p:Prop}(h:p:=by rw[p5 hc,hq,←List.append_assoc];exact congrArg (fun x=>some (str x)) (by rw[hc1])):p:=h
def gF0{p:Prop}(h:p:=by rw[show sepB i=[]from by rw[show i=0 by omega];rfl,List.append_nil];exact fun _ h=>h):p:=h
def gF1{p:Prop}(h:p:=by unfold octT;rw[if_neg (by first|exact h100|(rw[h100];decide)),List.append_nil];rfl):p:=h
def gF2{p:Prop}(h:p:=by unfold aCT;rw[if_neg (by first|exact h114|(rw[h114];decide)),List.append_nil];rfl):p:=h
def gF3{p:Prop}(h:p:=by unfold aAA;rw[if_neg (by first|exact h107|(rw[h107];decide)),List.append_nil];rfl):p:=h
def gFE{p:Prop}(h:p:=by rw[show prn (.iff bs) d true=prn bs d true from rfl,hpi,show wd=[105,102]from h34];simp only[List.append_assoc]):p:=h
def gFH{p:Prop}(h:p:=by rw[if_neg (by rw[h7];simp)];simp only[List.flatten_cons,List.flatten_nil,List.append_nil];exact fun _ h=>h):p:=h
def gFQ{p:Prop}(h:p:=by first|(rw[Say.sh_const (c:=true) hsh h16,h16];rfl)|(rw[Say.sh_const (c:=false) hsh h16,h16];rfl)):p:=h
def gFR{p:Prop}(h:p:=by rw[if_pos h7];simp only[List.flatten_cons,List.flatten_nil,List.append_nil];exact fun _ h=>h):p:=h
def gFY{p:Prop}(h:p:=by have:olds.length=4:=rfl;omega):p:=h
end Go
section
namespace Go.SL
section
variable{E:Env}{ops:Array Oper}{eff stg:List Nat}{S:List Asn}{r:List Nat}{fr:Fr}{K:Hl}{M L:List Asn}{Q:Post}{i:Nat}{o:Oper}
def wZ{d:Nat}{ty:TypeId}{pos:String}{aft:Array Edge}{g:Option (Nat×Bool)}{fv:Operand}{xs:List Operand}{ats:Array TypeId}{f:FuncId}{caps:Array Value}{vs:List Value}{v:Value}
  (ho:ops[i]?=some ⟨some d,.call ⟨.value fv,xs.toArray,ats⟩,ty,pos,aft,g⟩) (hg:GOk ops fr ⟨some d,.call ⟨.value fv,xs.toArray,ats⟩,ty,pos,aft,g⟩ true) (hg0:stg.contains i=false) (he:eff.contains i=false)
  (hf:fr.ev fv=some (.func (.func f) #[] caps)) (hx:fr.evs xs=some vs) (hs:∀K',K.le K'→Sp E.P f (vs++caps.toList) K' [] (Val v K')) (hn:Nat.blt d E.n=true)
  (h:DL E ops eff stg S r ((d,v)::fr) K M Q):DL E ops eff stg S (i::r) fr K M Q:=by
 intro a fo;unfold DX;simp only[ho,hg.wanted fo,if_true,hg0,he,Bool.false_eq_true,if_false];refine⟨v,fun K1 M' w le j=>?_,h _ (fo.put hn v)⟩
 obtain⟨F',i1,back⟩:=In.hide (L:=[]) (N:=S++M') j;refine .inr (.inr (.inl ⟨f,_,w,uS hf hx (hs K1 le) fo w,((hs K1 le).2 F' w i1).mono fun e w' ⟨K',L',⟨q1,q2,q3⟩,le',j'⟩=>?_⟩))
 subst q1;subst q2;subst q3
 exact⟨Y,back j'⟩
def aNC{P:Program}{f:FuncId}{args:List Value}{K:Hl}{v:Value}(h:Sp P f args K [] (Ret fun r K' L'=>r=v∧L'=[])):Sp P f args K [] (Val v K):=
 ⟨h.1,fun F w i=>(h.2 F w i).mono fun e w' ⟨K',L',⟨r,h1,h2,h3⟩,le,j⟩=>by subst h1;subst h2;subst h3;exact⟨K,[],⟨Y,Y,Y⟩,Hl.le_refl _,j.weaken le⟩⟩
end
end Go.SL
end
section
namespace Go.Proofs
open Go.Shelf
def Tryz.lays212_ren:Go.Shelf.Ren:=⟨fun|212=>144|263=>204|264=>205|n=>n,fun|46=>249|51=>304|146=>318|53=>320|148=>321|n=>n,fun|n=>n⟩
def Tryz.lays212 : Go.Proofs.Lays.n212 x3 Tryz.lays212_ren := {
 mixed:=cY
 f212:=Tryz.func144.trans (xAE some cY)
 f263:=Tryz.func204.trans (xAE some cY)
 f264:=Tryz.func205.trans (xAE some cY)
 t46:=Tryz.underlying249
 a46:=Tryz.isAgg249
 z46:=Tryz.sizeOf249
 v46:=Tryz.zeroValue249
 t51:=Tryz.underlying304
 a51:=Tryz.isAgg304
 z51:=Tryz.sizeOf304
 v51:=Tryz.zeroValue304
 t53:=Tryz.underlying320
 a53:=Tryz.isAgg320
 z53:=Tryz.sizeOf320
 v53:=Tryz.zeroValue320
 t146:=Tryz.underlying318
 a146:=Tryz.isAgg318
 z146:=Tryz.sizeOf318
 v146:=Tryz.zeroValue318
 t148:=Tryz.underlying321
 a148:=Tryz.isAgg321
 z148:=Tryz.sizeOf321
 v148:=Tryz.zeroValue321}
open Go.RowKit Go.Lib in
def Tryz.bits_Mul(x y:Nat)(hx:x < 18446744073709551616)(hy:y < 18446744073709551616)(w:World):
  Calls x3 144 #[.int .u64 x,.int .u64 y] w fun e w'=>e=.returned (.tuple #[.int .u64 ((x*y / 18446744073709551616:Nat):Int),.int .u64 ((x*y % 18446744073709551616:Nat):Int)])∧w'=w:=Any.bits_Mul Tryz.lays212 x y hx hy w
end Go.Proofs
end
section
namespace Go.SL
section
variable{E:Env}{fr:Fr}{K:Hl}{L:List Asn}{dst:Option Tmp}{ty:TypeId}{pos:String}{aft:Array Edge}{g:Option (Nat×Bool)}{x y:Operand}{t e:TypeId}{n b:Nat}{k:IntKind}
def aZ9{P:Program}(h:fP P e=true):∃inf,P.info? e=some inf∧inf.size=1:=by
 unfold fP at h;split at h
 ·cases h
 ·cases h
 ·rename_i i h1 h2;exact⟨_,‹P.info? e=some _›,by simpa using h⟩
 cases h
def jB{j:Nat}{jv:Int}(hu:E.P.underlying t=some (.array n e))(he:fP E.P e=true)(hx:fr.ev x=some (ptr b))(hy:fr.ev y=some (.int k jv))(hjv:jv=(j:Int))(hj:j < n):
  Ev E fr K L ⟨dst,.indexAddr t x y,ty,pos,aft,g⟩ (ptr b j):=fun a w f i=>by
 subst hjv;obtain⟨inf,h2,h3⟩:=aZ9 he;simp only[execOp,f.ev hx,f.ev hy];refine fO ?_;unfold Instr.indexAt;simp[asIntOf,underlying,program,bind,Sem.bind,pure,Sem.run,hu,hj,sizeOf,typeInfo,h2,h3,Instr.sureAddr,lI]
end
section
variable{E:Env}{fr:Fr}{K:Hl}{L L':List Asn}{Q:Post}{dst:Option Tmp}{ty:TypeId}{pos:String}{aft:Array Edge}{g:Option (Nat×Bool)}{x y:Operand}{t:TypeId}{α:Type}{k:El α}{v u:Value}{xs ys:List α}{c0:Code}{x0:Exit}{m:Nat}
def aFE{kk:IntKind}{mv:Int}{lo:Operand}(ht:i8 E.P t k.e k.sz=true)(hx:fr.ev x=some v)(hs:SeesSl k K L v xs)(hh:fr.ev lo=some (.int kk mv))(hmv:mv=(m:Int))(hm:m≤xs.length):
  Ev E fr K L ⟨dst,.slice t x (some lo) none none,ty,pos,aft,g⟩ (pL v m k.sz):=fun a w f j=>by
 subst hmv;obtain⟨inf,h1,h2,h3⟩:=nH ht;simp only[execOp,f.ev hx,f.ev hh,Option.map];refine fO ?_;have hu:(underlying t).run E.P w=.ok (.slice k.e) w:=by simp only[underlying,program,bind,Sem.bind,pure,Sem.run,h1]
 have hsz:(sizeOf k.e).run E.P w=.ok inf.size w:=by simp only[sizeOf,typeInfo,program,bind,Sem.bind,pure,Sem.run,h2]
 have key:∀(a:Option Addr) (n c:Nat),m≤n→(Instr.sliceAt t (.slice a n c) (some (.int kk m)) none none).run E.P w=.ok (pL (.slice a n c) m k.sz) w:=by
  intro a n c hc;unfold Instr.sliceAt;rw[bJ hu];simp only[Instr.slice];rw[bJ hu];simp only[];have hb:(Instr.sliceBounds true n c (some (.int kk m)) none none).run E.P w=.ok (m,n,c) w:=by
   simp[Instr.sliceBounds,Instr.sliceBound,asIntOf,bind,Sem.bind,pure,Sem.run,hc]
  rw[bJ hb];simp only[];rw[bJ hsz];simp only[pL,h3,pure,Sem.run]
 rcases hs.at j with ⟨a0,c,rfl,rfl⟩|⟨b,off,cap,cells,fz,rfl,⟨u0,h4⟩,h5⟩
 ·exact key a0 0 c (by simpa using hm)
 exact key _ _ _ hm
end
section
variable{E:Env}{fr:Fr}{K:Hl}{L L' M:List Asn}{dst:Option Tmp}{ty:TypeId}{pos:String}{aft:Array Edge}{g:Option (Nat×Bool)}{x y:Operand}{t t2 t' bytes:Nat}{α:Type}{k:El α}{v u:Value}{xs ys:List α}{n m j:Nat}
def bJO{kl kc:IntKind}{vl vc:Int}(hok:elOk E.P t k.e k.sz bytes=true)(hz:iK E.P k.e=some v)(hv:v.cells= #[v])(hs1:k.sz=1)(hx:fr.ev x=some (.int kl vl))(hy:fr.ev y=some (.int kc vc))(h1:vl=0)(h2:vc=n)(hb:bytes*n≤281474976710656)(h63:n≤9223372036854775807):
  EfS E fr K L ⟨dst,.makeSlice t x y,ty,pos,aft,g⟩ (fun r K' L'=>K'=K∧L'=sl false k r []::L∧r.oneCell'=true):=by
 subst h1 h2;intro a w f q;obtain⟨i,z,e1,e2,e3,e4,e5,e6⟩:=aDB hok;have hzz:z=v:=by
  unfold iK at hz;rw[e2]at hz
  simpa[e5]using hz
 subst hzz;have hr:=run_make (P:=E.P) w t k.e i z e1 e2 e5 kl kc 0 n (Int.le_refl _) aH (by rw[e4,←Int.natCast_mul];omega) aH;simp only[Int.toNat_natCast,Int.toNat_zero]at hr;rw[aPD z hv,e3,hs1,Nat.mul_one]at hr;refine⟨.slice (some ⟨w.heap.size,0,none⟩) 0 n,_,K,_,.inl ?_,⟨Y,Y,Y⟩,xAB _,(q.alloc (bL (List.replicate n z) k.e)).imp fun h hh=>?_⟩
 ·simp only[execOp,f.ev hx,f.ev hy];exact fO hr
 obtain⟨aa,l,ha,hl,hd,he2⟩:=hh;refine⟨aa,l,?_,hl,hd,he2⟩
 refine .inr ⟨w.heap.size,n,List.replicate n z,(0,0),by simp,(fun h=>by cases h),by simp,by simp[hs1],.inl (xAA _),?_⟩
 simpa[El.cs,pt]using ha
def bFY{zf:Bool}(hu:E.P.underlying t=some (.slice k.e))(hsz:(E.P.info? k.e).map (·.size)=some k.sz)(hx:fr.ev x=some (pL v j k.sz))(hy:fr.ev y=some u)(hT:Fnd (sl zf k v xs) (sl zf k v (xs.take j++ys++xs.drop (j+ys.length))) L L')
  (hs:SeesSl k K L u ys) (h0:ys≠[]) (hfit:j+ys.length≤xs.length):
  EfS E fr K L ⟨dst,.call ⟨.builtin .copy,#[x,y],#[t,t2]⟩,ty,pos,aft,g⟩ (fun r K' L''=>r=i64 ys.length∧K'=K∧L''=L'):=by
 intro a w f q;have hS:=hs.at q;obtain⟨M,m1,m2⟩:=hT.split;have hyp:0 < ys.length:=List.length_pos_iff.2 h0;rcases(q.imp m1).slCases with ⟨rfl,rfl,_⟩|⟨b,cap,junk,fz,rfl,hz,hcap,hjk,hf,q0⟩
 ·rw[List.length_nil]at hfit;omega
 have hcj:cap≠j:=by omega
 have hx':fr.ev x=some (.slice (some ⟨b,j*k.sz,none⟩) (xs.length - j) (cap - j)):=by
  rw[hx];simp only[pL,if_neg hcj,Option.map];congr 3
  unfold Addr.add;split
  ·rename_i h;rw[h]
  simp
 have e:Array.map a.eval #[x,y]= #[.slice (some ⟨b,j*k.sz,none⟩) (xs.length - j) (cap - j),u]:=by simp[f.ev hx',f.ev hy]
 have hle:(j+ys.length)*k.sz≤xs.length*k.sz:=xAW _ hfit;have hle2:xs.length*k.sz≤cap*k.sz:=xAW _ hcap;rw[Nat.add_mul]at hle;have hcl:(k.cs ys).length=ys.length*k.sz:=k.cs_length ys;have hcx:(k.cs xs).length=xs.length*k.sz:=k.cs_length xs;obtain⟨w',r1,r2,r3,r4,r5⟩:=tI (P:=E.P) (b:=b) (k.cs ys) (j*k.sz) 0 w (k.cs xs++junk) q0.piece gES (fun i hi=>hf.at aH) (k.cs_one ys);refine⟨i64 ys.length,w',K,_,.inl ?_,⟨Y,Y,Y⟩,xAB _,?_⟩
 ·simp only[execOp,resolve,e,bind,pure,Sem.bind,invoke,builtin];refine fO ?_;have hsrc:=dJ (k:=k) (t2:=t) hu hS;have hc:=hsrc.cells w.drawn;have hlen:=hsrc.len;cases hq:E.P.info? k.e with
  |none=>simp[hq]at hsz
  |some i=>
   have hi:i.size=k.sz:=by simpa[hq]using hsz
   have hmin:Nat.min ys.length (xs.length - j)=ys.length:=Nat.min_eq_left aH;simp[Builtin.copy_,run_underlying hu,hlen,sizeOf,typeInfo,hq,hi,hmin,hc,r1,goInt]
 have jj:=q0.write r2 (by simpa using r3) r4;rw[←r5]at jj;refine jj.imp fun h hh=>m2 h ?_
 obtain⟨aa,l,ha,hl,hd,he⟩:=hh;refine⟨aa,l,?_,hl,hd,he⟩
 have e1:(xs.take j++ys++xs.drop (j+ys.length)).length=xs.length:=by rw[xAF,xAF,xA4,xBA];omega
 refine .inr ⟨b,cap,junk,fz,by rw[e1],?_,by rw[e1];exact hcap,by rw[e1];exact hjk,hf,?_⟩
 ·intro _ h2;have:=xAE List.length h2;rw[e1,List.length_nil]at this;omega
 have e2:(k.cs xs++junk).take (j*k.sz)=k.cs (xs.take j):=by rw[List.take_append_of_le_length (by rw[k.cs_length];omega),k.cs_take]
 have e3:(k.cs xs++junk).drop (j*k.sz+(k.cs ys).length)=k.cs (xs.drop (j+ys.length))++junk:=by
  rw[hcl,←Nat.add_mul,List.drop_append_of_le_length (by rw[k.cs_length,Nat.add_mul];omega),k.cs_drop]
 rw[e2,e3]at ha;rw[k.cs_append,k.cs_append,xA0]
 simpa[pt,List.append_assoc]using ha
def aOO{e:TypeId}{a:Option Addr}{n c:Nat}(hu:E.P.underlying t=some (.slice e))(hx:fr.ev x=some (.slice a n c)):Ev E fr K L ⟨dst,.binOp .eql t x (.const (.slice none 0 0)) t',ty,pos,aft,g⟩ (.bool a.isNone):=
 jN hx (v:=.slice none 0 0) rfl (fun w=>by unfold eqGuard;first|rfl|simp) fun w=>by
  simp only[binOp];rw[bJ (aBS w hu)];rfl
def aGT{kk:IntKind}{mv:Int}{lo:Operand}{e sz:TypeId}{a:Option Addr}{c:Nat}(ht:i8 E.P t e sz=true)(hx:fr.ev x=some (.slice a n c))(hh:fr.ev lo=some (.int kk mv))(hmv:mv=(m:Int))(hm:m≤n):
  Ev E fr K L ⟨dst,.slice t x (some lo) none none,ty,pos,aft,g⟩ (pL (.slice a n c) m sz):=fun ac w f j=>by
 subst hmv;obtain⟨inf,h1,h2,h3⟩:=nH ht;simp only[execOp,f.ev hx,f.ev hh,Option.map];refine fO ?_;have hu:(underlying t).run E.P w=.ok (.slice e) w:=by simp only[underlying,program,bind,Sem.bind,pure,Sem.run,h1]
 have hsz:(sizeOf e).run E.P w=.ok inf.size w:=by simp only[sizeOf,typeInfo,program,bind,Sem.bind,pure,Sem.run,h2]
 unfold Instr.sliceAt;rw[bJ hu];simp only[Instr.slice];rw[bJ hu];simp only[];have hb:(Instr.sliceBounds true n c (some (.int kk m)) none none).run E.P w=.ok (m,n,c) w:=by
  simp[Instr.sliceBounds,Instr.sliceBound,asIntOf,bind,Sem.bind,pure,Sem.run,hm]
 rw[bJ hb];simp only[];rw[bJ hsz];simp only[pL,h3,pure,Sem.run]
def vU{ats:Array TypeId}{e:TypeId}{a:Option Addr}{n c:Nat}(ha:ats[0]?=some t)(hu:E.P.underlying t=some (.slice e))(hx:fr.ev x=some (.slice a n c)):
  Ev E fr K L ⟨dst,.call ⟨.builtin .len,#[x],ats⟩,ty,pos,aft,g⟩ (i64 n):=fun ac w f j=>by
 have e:Array.map ac.eval #[x]= #[.slice a n c]:=by simp[f.ev hx]
 simp only[execOp,resolve,e,bind,pure,Sem.bind,invoke,builtin];simp[Builtin.len_,ha,underlying,program,bind,Sem.bind,pure,Sem.run,hu,goInt]
def aGO{ats:Array TypeId}{e:TypeId}{a:Option Addr}{n c:Nat}(ha:ats[0]?=some t)(hu:E.P.underlying t=some (.slice e))(hx:fr.ev x=some (.slice a n c)):
  Ev E fr K L ⟨dst,.call ⟨.builtin .cap,#[x],ats⟩,ty,pos,aft,g⟩ (i64 c):=fun ac w f j=>by
 have e:Array.map ac.eval #[x]= #[.slice a n c]:=by simp[f.ev hx]
 simp only[execOp,resolve,e,bind,pure,Sem.bind,invoke,builtin];simp[Builtin.cap_,ha,underlying,program,bind,Sem.bind,pure,Sem.run,hu,goInt]
def aMA{kk:IntKind}{mv:Int}{hi:Operand}{e sz:TypeId}{a:Option Addr}{c:Nat}(ht:i8 E.P t e sz=true)(hx:fr.ev x=some (.slice a n c))(hh:fr.ev hi=some (.int kk mv))(hmv:mv=(m:Int))(hm:m≤c):
  Ev E fr K L ⟨dst,.slice t x none (some hi) none,ty,pos,aft,g⟩ (.slice a m c):=fun ac w f j=>by
 subst hmv;obtain⟨inf,h1,h2,h3⟩:=nH ht;simp only[execOp,f.ev hx,f.ev hh,Option.map];refine fO ?_;have hu:(underlying t).run E.P w=.ok (.slice e) w:=by simp only[underlying,program,bind,Sem.bind,pure,Sem.run,h1]
 have hsz:(sizeOf e).run E.P w=.ok inf.size w:=by simp only[sizeOf,typeInfo,program,bind,Sem.bind,pure,Sem.run,h2]
 unfold Instr.sliceAt;rw[bJ hu];simp only[Instr.slice];rw[bJ hu];simp only[];have hb:(Instr.sliceBounds true n c none (some (.int kk m)) none).run E.P w=.ok (0,m,c) w:=by
  simp[Instr.sliceBounds,Instr.sliceBound,asIntOf,bind,Sem.bind,pure,Sem.run,hm]
 rw[bJ hb];simp only[];rw[bJ hsz];cases a with
 |none=>by_cases hc:c=0 <;> simp[hc,pure,Sem.run,Addr.add]
 |some a=>by_cases hc:c=0 <;> simp[hc,pure,Sem.run,Addr.add]
def bOX{fv:Operand}{os:List Operand}{ats ps:Array TypeId}{f:FuncId}{fn:Func}{e:TypeId}(hf:fr.ev fv=some (.func (.func f) #[] #[]))(hos:fr.evs os=some [i64 n])
  (h1:E.P.funcs[f]?=some fn) (h2:(fn.name== "runtime.NumGoroutine")=false) (h3:fn.body.isNone=true) (h4:Extern.findNext fn=none) (h5:Extern.find fn=some (Extern.BytealgMakeNoZero.makeNoZero ps #[t])) (ht:E.P.underlying t=some (.slice e)) (hn:n≤281474976710656):
  EfS E fr K L ⟨dst,.call ⟨.value fv,os.toArray,ats⟩,ty,pos,aft,g⟩ (fun r K' L'=>∃(b:Nat) (cs:List Value),n≤cs.length∧r=.slice (some ⟨b,0,none⟩) n cs.length∧K'=K∧L'=pt b (bL cs e)::L):=
 aE0 hf hos h1 h2 h3 h4 h5 fun w i=>by
  obtain⟨cs,hr,hle,_⟩:=Lib.run_makeNoZero (P:=E.P) w ps t e ht n hn;refine⟨_,_,K,_,hr,⟨w.heap.size,cs.toList,by simpa using hle,by simp,rfl,rfl⟩,xAB _,?_⟩
  have j:=(i.drew (w.drawn+1+1)).alloc (bL cs.toList e);have e1:(Obj.cells cs e)=bL cs.toList e:=by unfold bL;simp
  rw[e1];exact j
def aSL{e:TypeId}{a:Addr}{c:Nat}(hu:E.P.underlying t=some (.slice e))(hs:((E.P.info? e).map (·.size)).isSome=true)(hx:fr.ev x=some (.slice (some a) n c))(hy:fr.ev y=some (.slice none 0 0)):
  Ev E fr K L ⟨dst,.call ⟨.builtin .copy,#[x,y],#[t,t2]⟩,ty,pos,aft,g⟩ (i64 0):=fun ac w f j=>by
 have e:Array.map ac.eval #[x,y]= #[.slice (some a) n c,.slice none 0 0]:=by simp[f.ev hx,f.ev hy]
 simp only[execOp,resolve,e,bind,pure,Sem.bind,invoke,builtin];exact fO (run_copy_nil E.P w t t2 ty _ a n c hu hs)
def aDA{o:Oper}{ob:Obj}{f:Nat→Value}{N:Value→Hl→List Asn→Prop}(h:EfS E fr K L o N)(hN:∀v K' L',N v K' L'→∃b,v=f b∧K'=K∧L'=pt b ob::L):EfS E fr K L o (fun v K' L'=>∃b,v=f b∧K' b=some ob∧L'=L):=fun a w fo j=>by
 obtain⟨u,w',K',L',hr,hn,le,j'⟩:=h a w fo j;obtain⟨b,h1,rfl,rfl⟩:=hN _ _ _ hn;obtain⟨le2,hk,j2⟩:=j'.settle;exact⟨u,w',_,L,hr,⟨b,h1,hk,Y⟩,x6 le le2,j2⟩
end
def aVE(P:Program)(fv:Value)(f:FuncId)(vs:List Value):Prop:=∀w,(do let d ←Deferred.ofValue fv #[];invoke d.target d.args).run P w=.ok (.enter f vs.toArray) w
section
variable{E:Env}{fr:Fr}{K:Hl}{L L1 L2:List Asn}{Q:Post}{ops:Array Oper}{rest:List Oper}{ty:TypeId}{pos:String}{aft:Array Edge}
def bEH{d:Nat}{fv:Operand}{ats:Array TypeId}{x:Value}{f:FuncId}{vs:List Value}{N:Value→Hl→List Asn→Prop}(hf:fr.ev fv=some x)(he:aVE E.P x f vs)(hs:Sp E.P f vs K L1 (Ret N))(hL:Tks L1 L L2)(hd:Nat.blt d E.n=true)
  (h:∀v K' L',N v K' L'→K.le K'→OL E ops rest ((d,v)::fr) K' (L'++L2) Q):OL E ops (⟨some d,.call ⟨.value fv,#[],ats⟩,ty,pos,aft,none⟩::rest) fr K L Q:=
 aKD (aOK (N := fun v K' L'' => ∃ L', L'' = L' ++ L2 ∧ N v K' L') (fun a w fo => by
  have:=he w
  simpa[execOp,resolve,fo.ev hf,bind,pure,Sem.bind]using this) hL hs (fun v K' L' ⟨u,e,n⟩=>by cases e;exact⟨L',Y,n⟩) (fun ch K' L' ⟨u,e,n⟩=>by cases e) (fun K' L' ⟨u,e,n⟩=>by cases e)) hd
  (fun v K' L'' ⟨L',e,n⟩ le=>by subst e;exact h v K' L' n le)
end
def bAS{P:Program}{f:FuncId}{args:List Value}{K:Hl}{b:Nat}{o:Obj}{L:List Asn}{R:Ending→Hl→List Asn→Prop}(hb:∃fn,P.funcs[f]?=some fn∧(fn.name== "runtime.NumGoroutine")=false∧fn.body.isSome=true)
  (h:∀K',K.le K'→K' b=some o→Sp P f args K' L R):Sp P f args K (pt b o::L) R:=
 ⟨hb, fun F w i => by
  obtain⟨h1,h2,h3⟩:=i.settle;exact((h _ h1 h2).2 F w h3).mono fun e w' ⟨K',L',r,le,j⟩=>⟨K',L',r,x6 h1 le,j⟩⟩
def aRI(P:Program)(U n T:Nat):Bool:=
 match P.info? T with
 |some j=>j.size !=0&&n !=0&&liesAt P P.depth U (n / P.cellsOf U) 0 T 1
 |none=>false
section
variable{E:Env}{fr:Fr}{K:Hl}{L L':List Asn}{Q:Post}{dst:Option Tmp}{ty:TypeId}{pos:String}{aft:Array Edge}{g:Option (Nat×Bool)}{x y:Operand}{t t2 t' s e b n:Nat}{T U:TypeId}{v:Value}
def aJA{l:List Value}{fz:Nat×Nat}(hs:E.P.underlying t=some (.pointer T))(hd:E.P.underlying t2=some .unsafePointer)(hx:fr.ev x=some (ptr b))(hS:Sees K L b (bL l U fz))(hT:aRI E.P U l.length T=true):
  Ev E fr K L ⟨dst,.convert t t2 x,ty,pos,aft,g⟩ (ptr b):=fun a w f j=>by
 simp only[execOp,f.ev hx];refine fO ?_;unfold aRI at hT;cases hi:E.P.info? T with
 |none=>simp[hi]at hT
 |some inf=>
  simp[hi]at hT;have hp:0 < l.length:=by
   rcases Nat.eq_zero_or_pos l.length with h|h
   ·exact absurd (xA9.1 h) hT.1.2
   exact h
  exact Lib.run_to_unsafe w ⟨b,0,none⟩ hs hd hi (by have:=hT.1.1;omega) (xY (hS.at j)) hp
def aFD{l:List Value}{fz:Nat×Nat}(hs:E.P.underlying t=some .unsafePointer)(hd:E.P.underlying t2=some (.pointer T))(hx:fr.ev x=some (ptr b))(hS:Sees K L b (bL l U fz))(hT:aRI E.P U l.length T=true):
  Ev E fr K L ⟨dst,.convert t t2 x,ty,pos,aft,g⟩ (ptr b):=fun a w f j=>by
 simp only[execOp,f.ev hx];refine fO ?_;unfold aRI at hT;cases hi:E.P.info? T with
 |none=>simp[hi]at hT
 |some inf=>
  simp[hi]at hT;exact Lib.run_from_unsafe w ⟨b,0,none⟩ hs hd hi (xY (hS.at j)) hT.2
end
section
variable{E:Env}{fr:Fr}{K:Hl}{L L':List Asn}{Q:Post}{dst:Option Tmp}{ty:TypeId}{pos:String}{aft:Array Edge}{g:Option (Nat×Bool)}{ops:Array Oper}{rest:List Oper}{v x:Value}{b o:Nat}
def aJR{fv:Operand}{os:List Operand}{vs:List Value}{ats:Array TypeId}{f:FuncId}{a:Act}{w w':World}{r:Value}(fo:FrOk E.n E.ds fr a)(hf:fr.ev fv=some (.func (.func f) #[] #[]))(hos:fr.evs os=some vs)
  (hr:(callFunc f vs.toArray).run E.P w=.ok (.value r) w'):(execOp a.eval ⟨dst,.call ⟨.value fv,os.toArray,ats⟩,ty,pos,aft,g⟩).run E.P w=.ok (.value r) w':=by
 have e1:Array.map a.eval os.toArray=vs.toArray:=by simp[fo.evs hos]
 simp only[execOp,resolve,e1,fo.ev hf,Deferred.ofValue,bind,pure,Sem.bind,invoke,List.append_toArray];simp only[List.nil_append,List.append_nil];exact hr
def sV{fv:Operand}{os:List Operand}{vs:List Value}{ats:Array TypeId}{f:FuncId}(hf:fr.ev fv=some (.func (.func f) #[] #[]))(hos:fr.evs os=some vs)(hr:∀w,In E.w0 E.F K L w→(callFunc f vs.toArray).run E.P w=.ok (.value v) w):
  Ev E fr K L ⟨dst,.call ⟨.value fv,os.toArray,ats⟩,ty,pos,aft,g⟩ v:=fun a w fo j=>aJR fo hf hos (hr w j)
def aDX{fv:Operand}{os:List Operand}{vs:List Value}{ats:Array TypeId}{f:FuncId}{l l':List Value}{u:TypeId}{fz:Nat×Nat}(hf:fr.ev fv=some (.func (.func f) #[] #[]))(hos:fr.evs os=some vs)
  (hr:∀w:World,w.heap[b]?=some (bL l u fz)→(callFunc f vs.toArray).run E.P w=.ok (.value v) (w.setCell ⟨b,o,none⟩ x))
  (hs:Fnd (pt b (bL l u fz)) (pt b (bL l' u fz)) L L') (hset:SetAt l o x l'):
  EfS E fr K L ⟨dst,.call ⟨.value fv,os.toArray,ats⟩,ty,pos,aft,g⟩ (fun r K' L''=>r=v∧K'=K∧L''=L'):=by
 intro a w fo j;have hb:=j.mem hs;obtain⟨rfl,ho'⟩:=hset.eq;obtain⟨s1,s2,s3⟩:=sA (o:=o) x hb;exact⟨_,_,_,_,.inl (aJR fo hf hos (hr w hb)),⟨Y,Y,Y⟩,xAB _,j.writeAt hs s1 s2 s3⟩
def aBX{t t2 T:TypeId}{y:Operand}{l:List Value}{u:TypeId}{fz:Nat×Nat}{c:Value}(hs:E.P.underlying t=some (.pointer T))(hd:E.P.underlying t2=some .unsafePointer)(hsz:(E.P.info? T).map (fun i=>decide (i.size=0))=some false)(hx:fr.ev y=some (ptr b o))(hS:Sees K L b (bL l u fz))(hl:l[o]?=some c):
  Ev E fr K L ⟨dst,.convert t t2 y,ty,pos,aft,g⟩ (ptr b o):=fun a w f j=>by
 simp only[execOp,f.ev hx];refine fO ?_;exact run_convert_to_unsafe hs hd hsz (oH (hS.at j) hl)
def aDE{w:World}{l:List Value}{u:TypeId}(h:w.heap[b]?=some (bL l u)):w.frozen? ⟨b,o,none⟩=false:=by
 simp only[World.frozen?,h];simp
def aL1{P:Program}{f:FuncId}{r:Value}(hb:∃fn,P.funcs[f]?=some fn∧(fn.name== "runtime.NumGoroutine")=false∧fn.body.isSome=true):aVE P (.func (.func f) #[r] #[]) f [r]:=by
 intro w;obtain⟨fn,h1,h2,h3⟩:=hb;simp only[Deferred.ofValue,bind,pure,Sem.bind,invoke];have:=aDC (vs:= #[r]) h1 h2 h3 w
 simpa using this
abbrev dfa(f:FuncId)(args:List Value):Deferred:={target:=.fn (.func f) #[],args:=args.toArray}
def aKC{fv:Operand}{os:List Operand}{vs:List Value}{ats:Array TypeId}{f:FuncId}(hf:fr.ev fv=some (.func (.func f) #[] #[]))(hos:fr.evs os=some vs)
  (h:OL ⟨E.P,E.n,dfa f vs::E.ds,E.w0,E.F⟩ ops rest fr K L Q):OL E ops (⟨none,.defer ⟨.value fv,os.toArray,ats⟩,ty,pos,aft,none⟩::rest) fr K L Q:=by
 intro a w f1 i;refine wpList_plain Y fun k hk=>?_;unfold Oper.wp;have e1:Array.map a.eval os.toArray=vs.toArray:=by simp[f1.evs hos]
 have:(execOp a.eval ⟨none,.defer ⟨.value fv,os.toArray,ats⟩,ty,pos,aft,none⟩).run E.P w=.ok (.defer (dfa f vs)) w:=by
  simp only[execOp,resolve,e1,f1.ev hf,Deferred.ofValue,bind,pure,Sem.bind];simp[Sem.run,dfa]
 rw[this];refine hk _ _ (h _ _ ⟨?_,f1.size,fun k v e=>f1.get k v e⟩ i)
 show dfa f vs::a.defers=_
 rw[f1.defers]
end
def aQS{P:Program}{f:FuncId}{fn:Func}{c:Code}{args:List Value}{n:Nat}{K:Hl}{L:List Asn}{R:Ending→Hl→List Asn→Prop}{u:FrameMode}
  (hf:P.funcs[f]?=some fn) (hb:fn.body=some c) (hn:fn.ntmps=n) (hl:Nat.ble args.length n=true) (hname:(fn.name== "runtime.NumGoroutine")=false)
  (h:∀(F:Hl) (w:World),T ⟨P,n,[],w,F⟩ c (Fr.init 0 args n) K L (wO P fn w F K R)):SpD P f args K L u fun e u'' K' L'=>u''=u∧R e K' L':=by
 refine⟨⟨fn,hf,hname,by simp[hb]⟩,fun F w i=>callsD_of_wpS hf hb fun c0 cs hu=>?_⟩
 have hlen:args.length≤n:=xBB hl;have f0:FrOk n [] (Fr.init 0 args n) {tmps:=args.toArray++Array.replicate (fn.ntmps - args.toArray.size) undef,defers:=[]}:=by
  refine⟨Y,by simp[hn];omega,?_⟩
  intro k v e;obtain⟨_,h2⟩:=xJ e;have hk:k < args.length:=by
   rcases xAC k args.length with h|h
   ·exact h
   simp[List.getElem?_eq_none h]at h2
  show (args.toArray++Array.replicate _ _)[k]?=some v
  rw[Array.getElem?_append_left gGD]
  simpa using h2
 refine wpS_of_wp (Code.wp_mono ?_ (h F w _ _ f0 i))
 intro e a' w' q;cases e with
 |normal=>obtain⟨h1,v,h2,K',L',h3,h4,h5⟩:=q;exact⟨h1,_,Y,v,h2,K',L',⟨hu,h3⟩,h4,h5⟩
 |ret=>obtain⟨h1,v,h2,K',L',h3,h4,h5⟩:=q;exact⟨h1,_,Y,v,h2,K',L',⟨hu,h3⟩,h4,h5⟩
 |panic ch=>obtain⟨h1,K',L',h3,h4,h5⟩:=q;exact⟨h1,_,Y,K',L',⟨hu,h3⟩,h4,h5⟩
 |exit id=>exact q.elim
 |goto l=>exact q.elim
 |outgrown=>obtain⟨K',L',h3,h4,h5⟩:=q;exact⟨_,K',L',⟨hu,h3⟩,h4,h5⟩
section
variable{P:Program}{fn:Func}{n:Nat}{w0:World}{F K0 K:Hl}{fr:Fr}{L L1 L2:List Asn}{R:Ending→Hl→List Asn→Prop}{x:Exit}
def aES{f:FuncId}{vs:List Value}{ds:List Deferred}{u:FrameMode}{N:Hl→List Asn→Prop}{RW:Ending→World→Prop}{tmps:Array Value}{w:World}(i:In w0 F K L w)(hu:u≠.run)(hL:Tks L1 L L2)
  (hs:SpD P f vs K L1 u fun e u'' K' L'=>u''=u∧((∃v,e=.returned v)∧N K' L'))
  (next:∀K' L' w',N K' L'→K.le K'→In w0 F K' (L'++L2) w'→Leaves P fn tmps RW ds (settle u) w'):Leaves P fn tmps RW (dfa f vs::ds) u w:=by
 obtain⟨F',i1,back⟩:=(i.imp hL.sat).hide;obtain⟨⟨g,g1,g2,g3⟩,hs⟩:=hs;refine leaves_cons hu (f:=f) (args:=vs.toArray) ?_ ((hs F' w i1).mono fun e u' w' ⟨K',L',r,le,j⟩=>?_)
 ·have:=aDC (vs:=vs.toArray) g1 g2 g3 w;simp only[invoke]
  simpa using this
 obtain⟨rfl,⟨v,rfl⟩,hn⟩:=r;exact next K' L' w' hn le (back j)
def bCJ{f1 f2:FuncId}{vs1 vs2:List Value}{M1:List Asn}{N1 N2:Hl→List Asn→Prop}(hw:Way x .returning)(hr:fn.results= #[])(hL:Tks L1 L M1)(hs1:SpD P f1 vs1 K L1 .returning fun e u'' K' L'=>u''=.returning∧((∃v,e=.returned v)∧N1 K' L'))
  (h2:∀K' L',N1 K' L'→K.le K'→∃L2 M2,Tks L2 (L'++M1) M2∧SpD P f2 vs2 K' L2 .returning (fun e u'' K'' L''=>u''=.returning∧((∃v,e=.returned v)∧N2 K'' L''))∧∀K'' L'',N2 K'' L''→K'.le K''→R (.returned (.tuple #[])) K'' (L''++M2)∧K0.le K''):
  D ⟨P,n,[dfa f1 vs1,dfa f2 vs2],w0,F⟩ x fr K L (aBA P fn w0 F K0 R):=fun a w fo i=>by
 refine hw.post ?_;rw[fo.defers];refine aES i hw.ne hL hs1 fun K' L' w' hn le j=>?_;obtain⟨L2,M2,t2,s2,fin⟩:=h2 K' L' hn le;refine aES j (by simp[settle]) t2 (by simpa[settle]using s2) fun K'' L'' w'' hn2 le2 j2=>?_;obtain⟨r,l0⟩:=fin K'' L'' hn2 le2;exact⟨_,results_none hr _ _ _,K'',_,r,l0,j2⟩
end
end Go.SL
end
section
namespace Go.Syn
def dpt:Tree→Nat
 | .iff bs=>dpt bs
 | .ccons c l=>max (dpt c) (dpt l)
 | .bcons _ b l=>max (dpt b+1) (dpt l)
 | .belse b l=>max (dpt b+1) (dpt l)
 |_=>0
def bAR{m:Nat}{t:Tree}(ht:dpt t≤m):∀ {l:Tree},dpt l≤m→dpt (l.snocC t)≤m:=by
 intro l;induction l with
 |ccons x l ih1 ih2=>intro h;simp only[dpt]at h;have:=ih2 aH;simp only[Tree.snocC,dpt];omega
 |_=>intro _;simp only[Tree.snocC,dpt];omega
def aKS{m:Nat}{o:Option Tree}{b:Tree}(hb:dpt b+1≤m):∀ {l:Tree},dpt l≤m→dpt (l.snocB o b)≤m:=by
 intro l;have hm:dpt (mkB o b .bnil)≤m:=by cases o <;> simp only[mkB,dpt] <;> omega
 induction l with
 |bcons x y l ih1 ih2 ih3=>intro h;simp only[dpt]at h;have:=ih3 aH;simp only[Tree.snocB,dpt];omega
 |belse y l ih1 ih2=>intro h;simp only[dpt]at h;have:=ih2 aH;simp only[Tree.snocB,dpt];omega
 |_=>intro _;exact hm
variable{s:aP}
def DptA(m:Nat)(T:St→Res (Tree×St)):Prop:=∀st r,T st=.ok r→dpt r.1≤m
def aC4{m:Nat}{B:St→Res (Tree×St)}(hB:DptA m B):DptA m (kV s B):=by
 intro st r e;unfold kV at e;split at e
 ·cases e
 split at e
 ·cases e
 rename_i b hb;split at e
 ·cases e
 cases e
 exact hB _ b hb
def aSJ{m:Nat}{T B:St→Res (Tree×St)}(hB:DptA m B):∀ {f:Nat} {acc:Tree} {st:St} {r:Tree×St},dpt acc≤m+1→hO s T B f acc st=.ok r→dpt r.1≤m+1:=by
 intro f;induction f with
 |zero=>intro acc st r _ e;cases e
 |succ f ih=>
  intro acc st r ha e;simp only[hO]at e;split at e
  ·split at e
   ·cases e
   split at e
   ·cases e
   split at e
   ·cases e
   rename_i b hb;have:=aC4 hB _ _ hb;exact ih (aKS aH ha) e
  unfold lC at e;split at e
  ·split at e
   ·cases e
   split at e
   ·cases e
   rename_i b hb;have:=aC4 hB _ _ hb;cases e
   exact aKS aH ha
  cases e;exact ha
def bB8{m:Nat}{needs:List aP}{T B:St→Res (Tree×St)}(hB:DptA m B){st:St}{r:Tree×St}(e:cmdD s needs T B st=some (.ok r)):dpt r.1≤m+1:=by
 have simple:∀ {c:Tree},dpt c=0→lJ s c st=.ok r→dpt r.1≤m+1:=by
  intro c hc e;unfold lJ at e;split at e
  ·cases e
  split at e
  ·cases e
  cases e
  show dpt c≤_
  omega
 have acting:∀ {k:Int} {x:aP} {p:Int},actC s needs k x p st=.ok r→dpt r.1≤m+1:=by
  intro k x p e;unfold actC at e;split at e
  ·cases e
  split at e
  ·cases e
  split at e
  ·cases e
  split at e
  ·cases e
  cases e
  exact x9 _
 unfold cmdD at e;simp only[]at e;split at e
 ·exact simple Y gDL
 split at e
 ·exact simple Y gDL
 split at e
 ·exact simple Y gDL
 split at e
 ·exact acting gDL
 split at e
 ·exact acting gDL
 split at e
 ·exact acting gDL
 split at e
 ·have e:rC s needs st=.ok r:=by simpa using e
  unfold rC at e;split at e
  ·cases e
  cases e;exact x9 _
 split at e
 ·have e:ifC s T B st=.ok r:=by simpa using e
  unfold ifC at e;split at e
  ·cases e
  split at e
  ·cases e
  split at e
  ·cases e
  rename_i b hb;have:=aC4 hB _ _ hb;exact aSJ hB (by simp only[dpt];omega) e
 cases e
def aRW{m:Nat}{C:St→Option (Res (Tree×St))}(hC:∀ {st r},C st=some (.ok r)→dpt r.1≤m):∀ {f:Nat} {acc:Tree} {st:St} {r:Tree×St},dpt acc≤m→kQ s C f acc st=.ok r→dpt r.1≤m:=by
 intro f;induction f with
 |zero=>intro acc st r _ e;cases e
 |succ f ih=>
  intro acc st r ha e;simp only[kQ]at e;split at e
  ·split at e
   ·cases e
   ·cases e
   rename_i c hc;exact ih (bAR (hC hc) ha) e
  cases e;exact ha
def aJP{needs:List aP}:∀n,DptA n (block s needs n)
 |0=>by intro st r e;simp only[block]at e;split at e <;> cases e;exact x9 _
 |n+1=>by
  intro st r e;simp only[block]at e;exact aRW (fun h=>bB8 (aJP n) h) (x9 _) e
def aZK{r:List aP×Tree}(h:gN s=.ok r):dpt r.2≤7:=by
 unfold gN at h;split at h
 ·cases h
 unfold jP at h;split at h
 ·cases h
 split at h
 ·cases h
 rename_i b hb;split at h
 ·cases h;exact aJP 7 _ _ hb
 cases h
end Go.Syn
end
section
namespace Go.SL
open Go.MapKept
abbrev EntI:=Int×Value×Nat
def entI(p:EntI):MapEntry:={key:=i64 p.1,val:=p.2.1,born:=p.2.2}
abbrev mapI(es:List EntI)(c:Nat):Obj:=.map (es.map entI).toArray c
def wE(k:Int):List EntI→Nat→Option (Nat×Value)
 | [],_=>none
 |e::es,i=>if k=e.1 then some (i,e.2.1)else wE k es (i+1)
def bD1(es:List EntI)(k:Int):Option Value:=(es.find? fun e=>decide (k=e.1)).map (·.2.1)
def aEQ(k:Int):∀(es:List EntI) (i:Nat),Instr.findNow (.int .i64) (i64 k) (es.map entI) i=some (wE k es i):=by
 intro es;induction es with
 |nil=>intro i;rfl
 |cons e es ih=>
  intro i;simp only[List.map_cons,Instr.findNow,entI,Instr.sameNow,wE];rw[show ((k==e.1):Bool)=decide (k=e.1)from rfl]
  by_cases h:k=e.1
  ·simp[h]
  simp only[decide_eq_false h,if_neg h];exact ih _
def aS8(k:Int):∀(es:List EntI) (i:Nat),(wE k es i).map (·.2)=bD1 es k:=by
 intro es;induction es with
 |nil=>intro i;rfl
 |cons e es ih=>
  intro i;unfold wE bD1
  by_cases h:k=e.1
  ·simp[h]
  rw[x5 h,List.find?_cons,xAJ h];exact ih _
section
variable{E:Env}{fr:Fr}{K:Hl}{L L':List Asn}{Q:Post}{dst:Option Tmp}{ty:TypeId}{pos:String}{aft:Array Edge}{g:Option (Nat×Bool)}{x y m:Operand}{t t' kt et b c:Nat}{v z:Value}{k:Int}{es:List EntI}
def aT5:EfS E fr K L ⟨dst,.makeMap t none,ty,pos,aft,g⟩ (fun u K' L'=>∃b,u=.map (some b)∧K'=K∧L'=pt b (mapI [] 0)::L):=uZ
def aFL{P:Program}{w:World}(hm:P.underlying t=some (.map kt et))(hk:P.underlying kt=some (.int .i64))(hb:w.heap[b]?=some (mapI es c))(hn:es.any (fun e=>decide (k=e.1))=false):
  (Instr.mapUpdate t (.map (some b)) (i64 k) v).run P w=.ok () {w with heap:=w.heap.setIfInBounds b (mapI (es++[(k,v,c)]) (c+1))}:=by
 have hf:wE k es 0=none:=by
  have:∀(es:List EntI) (i:Nat),es.any (fun e=>decide (k=e.1))=false→wE k es i=none:=by
   intro es;induction es with
   |nil=>intro i h;rfl
   |cons e es ih=>
    intro i h;rw[List.any_cons,Bool.or_eq_false_iff]at h;unfold wE;rw[x5 (by simpa using h.1)];exact ih _ h.2
  exact this es 0 hn
 have h1:(Instr.checkKey false 10000 kt (i64 k)).run P w=.ok () w:=run_checkKey hk (d:=.int .i64) (k:=i64 k) rfl _ 9999;have h2:=run_findKey (w:=w) (kt:=kt) hk (aEQ k es 0);unfold Instr.mapUpdate;rw[bJ (run_underlying hm w)];simp only[]
 show ((getObj b)>>=fun _=>_).run P w=_
 rw[bJ (MapKept.run_getObj_map hb)];simp only[];rw[bJ h1]
 show ((Instr.findKey kt (i64 k) (es.map entI))>>=fun _=>_).run P w=_
 rw[bJ h2,hf]
 show (setObj b _).run P w=_
 rw[MapKept.run_setObj_map _ hb];have e1:(es.map entI).toArray.push {key:=i64 k,val:=v,born:=c}=((es++[(k,v,c)]).map entI).toArray:=by simp[entI]
 rw[e1]
def aDY(hm:E.P.underlying t=some (.map kt et))(hk:E.P.underlying kt=some (.int .i64))(hx:fr.ev m=some (.map (some b)))(hy:fr.ev x=some (i64 k))(hv:fr.ev y=some v)(hn:es.any (fun e=>decide (k=e.1))=false)
  (hF:Fnd (pt b (mapI es c)) (pt b (mapI (es++[(k,v,c)]) (c+1))) L L'):EfS E fr K L ⟨dst,.insert t m x y,ty,pos,aft,g⟩ (fun _ K' L''=>K'=K∧L''=L'):=by
 intro a w f j;have hb:=j.mem hF;have hr:(execOp a.eval ⟨dst,.insert t m x y,ty,pos,aft,g⟩).run E.P w=.ok .skip {w with heap:=w.heap.setIfInBounds b (mapI (es++[(k,v,c)]) (c+1))}:=by
  simp only[execOp,f.ev hx,f.ev hy,f.ev hv];rw[bJ (aFL hm hk hb hn)];rfl
 have hs:=MapKept.heap_set (o':=mapI (es++[(k,v,c)]) (c+1)) hb;exact⟨_,_,_,_,.inr ⟨hr,Y⟩,⟨Y,Y⟩,xAB _,j.writeAt hF (by simp) hs.1 hs.2⟩
end
section
variable{E:Env}{fr:Fr}{K:Hl}{L L':List Asn}{Q:Post}{dst:Option Tmp}{ty:TypeId}{pos:String}{aft:Array Edge}{g:Option (Nat×Bool)}{x y m:Operand}{t t' kt et b c:Nat}{v z:Value}{k:Int}{es:List EntI}
def aOP(hm:E.P.underlying t=some (.map kt et))(hk:E.P.underlying kt=some (.int .i64))(hz:iK E.P et=some z)(hx:fr.ev x=some (.map (some b)))(hy:fr.ev y=some (i64 k))(hs:Sees K L b (mapI es c)):
  Ev E fr K L ⟨dst,.lookup t x y false,ty,pos,aft,g⟩ ((bD1 es k).getD z):=fun a w f j=>by
 simp only[execOp,f.ev hx,f.ev hy];refine fO ?_;have hb:=hs.at j;have h1:(Instr.checkKey (es.map entI).toArray.isEmpty 10000 kt (i64 k)).run E.P w=.ok () w:=run_checkKey hk (d:=.int .i64) (k:=i64 k) rfl _ 9999;have h2:=run_findKey (w:=w) (kt:=kt) hk (aEQ k es 0);have h3:(zeroValue et).run E.P w=.ok z w:=by
  unfold iK at hz;cases hi:E.P.info? et with
  |none=>simp[hi]at hz
  |some inf=>simp[hi]at hz;simp only[zeroValue,typeInfo,program,bind,Sem.bind,pure,Sem.run,hi,hz]
 have h4:=aS8 k es 0;unfold Instr.lookup;rw[bJ (run_underlying hm w)];simp only[]
 show ((getObj b)>>=fun _=>_).run E.P w=_
 rw[bJ (MapKept.run_getObj_map hb)];simp only[];rw[bJ (uY _ _),bJ h1]
 show ((Instr.findKey kt (i64 k) (es.map entI))>>=fun _=>_).run E.P w=_
 rw[bJ h2,←h4];cases wE k es 0 with
 |some p=>rfl
 |none=>
  show ((zeroValue et)>>=fun _=>_).run E.P w=_
  rw[bJ h3];rfl
end
end Go.SL
end

/-
  What the proof stands on, part 2: the logic of walks, the walks through the functions, the plain laws. Conditions: as each theorem says. (Merged and shortened by a program.)
-/
import Derived.Lib.ConvBytes
import Derived.Laws.BytesString
import Derived.Lib.Builder
import Derived.Lib.UnsafeStr
import Derived.Laws.Externs
import Derived.MapKept
import Derived.Recover
import Derived.Test.YthopmddkpdehiabGreatDoorProg
import Derived.Lib.Index
import Derived.Test.YthopmddkpdehiabGreatDoorK1
set_option linter.unusedVariables false
set_option linter.unusedSimpArgs false
set_option linter.defProp false
set_option maxRecDepth 4000
set_option maxHeartbeats 1000000
section
namespace Go.SL
inductive Spl:List Value→Nat→List Value→List Value→Prop where
 |nil {l:List Value}:Spl l 0 [] l
 |cons {a c:Value} {l cs l':List Value}:Spl l 0 cs l'→Spl (a::l) 0 (c::cs) (c::l')
 |skip {a:Value} {l cs l':List Value} {n:Nat}:Spl l n cs l'→Spl (a::l) (n+1) cs (a::l')
def Spl.eq{l cs l':List Value}{n:Nat}(h:Spl l n cs l'):l'=l.take n++cs++l.drop (n+cs.length)∧n+cs.length≤l.length:=by
 induction h with
 |nil=>simp
 |cons _ ih=>obtain⟨h1,h2⟩:=ih;simp at h1 h2 ⊢;exact⟨h1,h2⟩
 | @skip a l cs l' n _ ih=>
  obtain⟨h1,h2⟩:=ih;have:n+1+cs.length=(n+cs.length)+1:=by omega
  rw[this];simp at h1 h2 ⊢;exact⟨h1,h2⟩
def fT(P:Program)(t:TypeId):Option (List Value×List (Nat×Nat)):=
 match P.underlying t,P.info? t with
 |some (.struct fs),some i=>match i.zero with
  |some z=>some (z.cells.toList,fs.toList.map fun f=>(f.offset,match P.info? f.type with|some ti=>ti.size|none=>0))
  |none=>none
 |_,_=>none
inductive Fill (fr:Fr) (place:Nat→Option (Nat×Nat)):List Value→List (Nat×Operand)→List Value→Prop where
 |nil {z:List Value}:Fill fr place z [] z
 |cons {i off:Nat} {x:Operand} {v:Value} {cs z z' out:List Value} {rest:List (Nat×Operand)}:fr.ev x=some v→v.cells=cs.toArray→place i=some (off,cs.length)→Spl z off cs z'→Fill fr place z' rest out→Fill fr place z ((i,x)::rest) out
def aX4(off:Nat):∀(cs:List Value) (j:Nat) (z:Array Value),off+j+cs.length≤z.size→
  (cs.zipIdx j).foldl (fun(a:Array Value) (p:Value×Nat)=>a.setIfInBounds (off+p.2) p.1) z=(z.toList.take (off+j)++cs++z.toList.drop (off+j+cs.length)).toArray:=by
 intro cs;induction cs with
 |nil=>intro j z h;simp
 |cons c cs ih=>
  intro j z h;simp only[List.zipIdx_cons,List.foldl_cons];rw[ih (j+1) _ (by simp at h ⊢;omega)];simp at h
  congr 1
  have e1:off+(j+1)=off+j+1:=by omega
  have e2:off+(j+1)+cs.length=off+j+(c::cs).length:=by simp;omega
  rw[e2,e1];simp only[Array.toList_setIfInBounds];rw[List.take_set,List.drop_set_of_lt (by simp)];rw[xAN (by simpa using (by omega:off+j < z.size))];rw[List.set_append_right _ _ gC7];simp;have:off+j - min (off+j) z.size=0:=by omega
  rw[this];simp
def aVU{fr:Fr}{place:Nat→Option (Nat×Nat)}{z out:List Value}{parts:List (Nat×Operand)}(h:Fill fr place z parts out){n:Nat}{ds:List Deferred}{a:Act}(f:FrOk n ds fr a):
  Instr.fill place z.toArray (parts.map fun p=>(p.1,a.eval p.2))=some out.toArray:=by
 induction h with
 |nil=>rfl
 | @cons i off x v cs z z' out rest h1 h2 h3 h4 _ ih=>
  obtain⟨e1,e2⟩:=h4.eq;simp only[List.map_cons,f.ev h1,Instr.fill];simp only[h3,h2,List.size_toArray];rw[x5 gC7];have hz:(cs.toArray.zipIdx.foldl (fun(a:Array Value) (p:Value×Nat)=>a.setIfInBounds (off+p.2) p.1) z.toArray)=z'.toArray:=by
   rw[←Array.foldl_toList];have:=aX4 off cs 0 z.toArray (by simpa using e2);simp at this ⊢;rw[this,e1];simp
  have hz':(cs.toArray.zipIdx.foldl (fun cs (x:Value×Nat)=>match x with|(c,j)=>cs.setIfInBounds (off+j) c) z.toArray)=z'.toArray:=hz;rw[hz'];exact ih
section
variable{E:Env}{fr:Fr}{K:Hl}{L L':List Asn}{Q:Post}{dst:Option Tmp}{ty:TypeId}{pos:String}{aft:Array Edge}{g:Option (Nat×Bool)}{x y:Operand}{t t' s e sz i off b:Nat}{α:Type}{k:El α}{v u:Value}{xs:List α}
def aPE{P:Program}(w:World):∀(fs:List Field),(∀f∈fs,∃ti,P.info? f.type=some ti)→
  (fs.mapM (fun f=>do pure (f.offset,←sizeOf f.type):Field→Sem (Nat×Nat))).run P w=.ok (fs.map fun f=>(f.offset,match P.info? f.type with|some ti=>ti.size|none=>0)) w:=by
 intro fs;induction fs with
 |nil=>intro _;rfl
 |cons f fs ih=>
  intro h;obtain⟨ti,hti⟩:=h f (List.mem_cons_self ..);rw[List.mapM_cons];have h1:((do pure (f.offset,←sizeOf f.type)):Sem (Nat×Nat)).run P w=.ok (f.offset,ti.size) w:=by
   simp only[sizeOf,typeInfo,program,bind,Sem.bind,pure,Sem.run,hti]
  rw[bJ h1,bJ (ih fun g hg=>h g (List.mem_cons_of_mem _ hg))];simp[pure,Sem.run,hti]
def fR(P:Program)(t:TypeId):Bool:=
 match P.underlying t with
 |some (.struct fs)=>fs.toList.all fun f=>(P.info? f.type).isSome
 |_=>false
def aXC{P:Program}{z out:List Value}{places:List (Nat×Nat)}{parts:List (Nat×Value)}(hb:fT P t=some (z,places))(hf:fR P t=true)
  (h:Instr.fill (places.toArray[·]?) z.toArray parts=some out.toArray) (w:World):(Instr.build t parts.toArray).run P w=.ok (.agg out.toArray) w:=by
 unfold fT at hb;unfold fR at hf;cases hu:P.underlying t with
 |none=>simp[hu]at hb
 |some d=>
  cases d <;> simp[hu]at hb
  rename_i fs;cases hi:P.info? t with
  |none=>simp[hi]at hb
  |some ti=>
   cases hz:ti.zero with
   |none=>simp[hi,hz]at hb
   |some zv=>
    simp[hi,hz]at hb;obtain⟨rfl,rfl⟩:=hb;simp only[hu,List.all_eq_true]at hf;have hm:=aPE (P:=P) w fs.toList (fun f hfm=>by have:=hf f hfm;cases hx:P.info? f.type with|none=>simp[hx]at this|some ti=>exact⟨ti,Y⟩);unfold Instr.build;have h1:(zeroValue t).run P w=.ok zv w:=by simp only[zeroValue,typeInfo,program,bind,Sem.bind,pure,Sem.run,hi,hz]
    rw[bJ h1];have h2:(underlying t).run P w=.ok (.struct fs) w:=by simp only[underlying,program,bind,Sem.bind,pure,Sem.run,hu]
    simp only[];rw[bJ h2];simp only[];have h3:(fs.mapM (fun f=>do pure (f.offset,←sizeOf f.type):Field→Sem (Nat×Nat))).run P w=.ok (fs.toList.map fun f=>(f.offset,match P.info? f.type with|some ti=>ti.size|none=>0)).toArray w:=by
     rw[Array.mapM_eq_mapM_toList]
     show (Functor.map _ _:Sem _).run P w=_
     simp only[Functor.map]
     show (Sem.bind _ _).run P w=_
     have:=bJ (P:=P) (f:=fun l=>(pure l.toArray:Sem (Array (Nat×Nat)))) hm;exact this
    rw[bJ h3];have h4:zv.cells.toList.toArray=zv.cells:=by simp
    rw[h4]at h;simp only[h]
    rfl
def dG{z out:List Value}{places:List (Nat×Nat)}{parts:List (Nat×Operand)}(hb:fT E.P t=some (z,places))(hf:fR E.P t=true)(h:Fill fr (places.toArray[·]?) z parts out):
  Ev E fr K L ⟨dst,.build t parts.toArray,ty,pos,aft,g⟩ (.agg out.toArray):=fun a w f j=>by
 have e:Array.map (fun(p:Nat×Operand)=>(p.1,a.eval p.2)) parts.toArray=(parts.map fun p=>(p.1,a.eval p.2)).toArray:=by simp
 simp only[execOp];refine fO ?_;have:=aXC hb hf (aVU h f) w;rw[←e]at this;exact this
def oC{fs:Array Field}{fl:Field}{cs:List Value}{c:Value}(hu:E.P.underlying t=some (.struct fs))(hi:fs[i]?=some fl)(hs:fP E.P fl.type=true)(hx:fr.ev x=some (.agg cs.toArray))(hc:cs[fl.offset]?=some c):
  Ev E fr K L ⟨dst,.field t x i,ty,pos,aft,g⟩ c:=fun a w f j=>by
 simp only[execOp,f.ev hx];refine fO ?_;unfold Instr.field;have h2:(underlying t).run E.P w=.ok (.struct fs) w:=by simp only[underlying,program,bind,Sem.bind,pure,Sem.run,hu]
 rw[bJ h2];simp only[hi];have h3:(asAgg (.agg cs.toArray)).run E.P w=.ok cs.toArray w:=rfl;rw[bJ h3];unfold part;rw[bJ (rB hs w).1];simp[hc,pure,Sem.run]
def tI{P:Program}{u:TypeId}{fz:Nat×Nat}:∀(cs:List Value) (o k:Nat) (w:World) (l:List Value),w.heap[b]?=some (bL l u fz)→o+k+cs.length≤l.length→
  (∀j,j < cs.length→(fz.1≤o+k+j&&o+k+j < fz.2)=false)→(∀c∈cs,c.oneCell'=true)→
  ∃w',(storeCells ⟨b,o,none⟩ cs k).run P w=.ok () w'∧w'.heap.size=w.heap.size∧w'.heap[b]?=some (bL (l.take (o+k)++cs++l.drop (o+k+cs.length)) u fz)∧(∀z,z≠b→w'.heap[z]?=w.heap[z]?)∧w'={w with heap:=w'.heap}:=by
 intro cs;induction cs with
 |nil=>intro o k w l h _ _ _;exact⟨w,Y,Y,by simpa using h,fun _ _=>rfl,rfl⟩
 |cons c cs ih=>
  intro o k w l h hl hf h1;simp at hl;have hs:=aD3 (P:=P) h (o:=o+k) aH (by simpa using hf 0 (by simp)) (h1 c (List.mem_cons_self ..));obtain⟨s1,s2,s3⟩:=sA (o:=o+k) c h;have hf':∀j,j < cs.length→(fz.1≤o+(k+1)+j&&o+(k+1)+j < fz.2)=false:=by
   intro j hj;have:=hf (j+1) gC7;have e:o+(k+1)+j=o+k+(j+1):=by omega
   rw[e];exact this
  obtain⟨w',r1,r2,r3,r4,r5⟩:=ih o (k+1) (w.setCell ⟨b,o+k,none⟩ c) (l.set (o+k) c) s2 gC7 hf' (fun c' hc=>h1 c' (List.mem_cons_of_mem _ hc));refine⟨w',?_,r2.trans s1,?_,fun z hz=>(r4 z hz).trans (s3 z hz),?_⟩
  ·simp only[storeCells,lI];rw[bJ hs];exact r1
  ·rw[r3]
   congr 2
   have e1:o+(k+1)=o+k+1:=by omega
   rw[e1,List.take_set,List.drop_set_of_lt aH,xAN aH,List.set_append_right _ _ gC7];have:o+k - (List.take (o+k) l).length=0:=by simp;omega
   rw[this];simp
   congr 1;omega
  rw[r5];rfl
def cX{o n:Nat}{l l' cs:List Value}{u:TypeId}{fz:Nat×Nat}(ht:aggB E.P t n=true)(hx:fr.ev x=some (ptr b o))(hy:fr.ev y=some (.agg cs.toArray))(hn:cs.length=n)
  (hs:Fnd (pt b (bL l u fz)) (pt b (bL l' u fz)) L L') (h1:∀c∈cs,c.oneCell'=true) (hspl:Spl l o cs l') (hf:∀j,j < n→(fz.1≤o+j&&o+j < fz.2)=false):
  EfS E fr K L ⟨dst,.store t x y,ty,pos,aft,g⟩ (fun _ K' L''=>K'=K∧L''=L'):=by
 intro a w f j;have hb:=j.mem hs;obtain⟨e1,e2⟩:=hspl.eq;obtain⟨w',r1,r2,r3,r4,r5⟩:=tI (P:=E.P) cs o 0 w l hb (by simpa using e2) (fun i hi=>by simpa using hf i (hn▸hi)) h1;have hr:(execOp a.eval ⟨dst,.store t x y,ty,pos,aft,g⟩).run E.P w=.ok .skip w':=by
  simp only[execOp,f.ev hx,f.ev hy];have:(Instr.storeAt t (ptr b o) (.agg cs.toArray)).run E.P w=.ok () w':=by
   show (storeVar t _ _).run E.P w=_
   unfold storeVar;rw[bJ (aBD ht w).2];have hne:¬((Value.agg cs.toArray).cells.size≠n):=by simp[Value.cells,hn]
   rw[x5 hne];exact r1
  rw[bJ this];rfl
 refine⟨_,_,_,_,.inr ⟨hr,Y⟩,⟨Y,Y⟩,Hl.le_refl _,?_⟩
 rw[r5];refine j.writeAt hs r2 ?_ r4
 rw[r3,e1];simp
def fE{d:TypeDesc}(hu:E.P.underlying t=some d)(hd:∀ms,d≠.interface ms)(hx:fr.ev x=some v):Ev E fr K L ⟨dst,.makeInterface t x,ty,pos,aft,g⟩ (.iface t v):=fun a w f j=>by
 simp only[execOp,f.ev hx];refine fO ?_;unfold Instr.makeInterface;have h2:(underlying t).run E.P w=.ok d w:=by simp only[underlying,program,bind,Sem.bind,pure,Sem.run,hu]
 rw[bJ h2];cases d <;> first|rfl|exact absurd Y (hd _)
def bO{vs:List Value}(hx:fr.ev x=some (.tuple vs.toArray))(hi:vs[i]?=some v):Ev E fr K L ⟨dst,.extract x i,ty,pos,aft,g⟩ v:=fun a w f j=>by
 simp only[execOp,f.ev hx];refine fO ?_;simp[Instr.extract,hi,pure,Sem.run]
def lR{fn:Fn}{fs cs:List Operand}{vf vc:List Value}(hf:fr.evs fs=some vf)(hc:fr.evs cs=some vc):Ev E fr K L ⟨dst,.makeFunc fn fs.toArray cs.toArray,ty,pos,aft,g⟩ (.func fn vf.toArray vc.toArray):=fun a w f j=>by
 have e1:Array.map a.eval fs.toArray=vf.toArray:=by simp[f.evs hf]
 have e2:Array.map a.eval cs.toArray=vc.toArray:=by simp[f.evs hc]
 simp only[execOp,e1,e2]
 rfl
def jX{d:TypeDesc}{xt at_:TypeId}(hu:E.P.underlying at_=some d)(hd:∀ms,d≠.interface ms)(hx:fr.ev x=some (.iface at_ v)):
  Ev E fr K L ⟨dst,.typeAssert x xt at_ true,ty,pos,aft,g⟩ (.tuple #[v,.bool true]):=fun a w f j=>by
 simp only[execOp,f.ev hx];refine fO ?_;unfold Instr.typeAssert;have h2:(underlying at_).run E.P w=.ok d w:=by simp only[underlying,program,bind,Sem.bind,pure,Sem.run,hu]
 rw[bJ h2];cases d <;> first|(simp[pure,Sem.run];done)|exact absurd Y (hd _)
def aON{d:TypeDesc}{xt at_ u:TypeId}{inf:TypeInfo}{z:Value}(hu:E.P.underlying at_=some d)(hd:∀ms,d≠.interface ms)(hne:Nat.beq u at_=false)(hi:E.P.info? at_=some inf)(hz:inf.zero=some z)(hx:fr.ev x=some (.iface u v)):
  Ev E fr K L ⟨dst,.typeAssert x xt at_ true,ty,pos,aft,g⟩ (.tuple #[z,.bool false]):=fun a w f j=>by
 simp only[execOp,f.ev hx];refine fO ?_;unfold Instr.typeAssert;have h2:(underlying at_).run E.P w=.ok d w:=by simp only[underlying,program,bind,Sem.bind,pure,Sem.run,hu]
 rw[bJ h2];have h1:(zeroValue at_).run E.P w=.ok z w:=by simp only[zeroValue,typeInfo,program,bind,Sem.bind,pure,Sem.run,hi,hz]
 cases d <;> first|(simp only[if_neg (bN0 hne),if_true];rw[bJ h1];rfl)|exact absurd Y (hd _)
def iK(P:Program)(t:TypeId):Option Value:=(P.info? t).bind (·.zero)
def fG{d:TypeDesc}{xt at_ u:TypeId}{z:Value}(hu:E.P.underlying at_=some d)(hd:∀ms,d≠.interface ms)(hne:Nat.beq u at_=false)(hz:iK E.P at_=some z)(hx:fr.ev x=some (.iface u v)):
  Ev E fr K L ⟨dst,.typeAssert x xt at_ true,ty,pos,aft,g⟩ (.tuple #[z,.bool false]):=by
 unfold iK at hz;cases hi:E.P.info? at_ with
 |none=>simp[hi]at hz
 |some inf=>simp[hi]at hz;exact aON hu hd hne hi hz hx
def aJ0{P:Program}(d:Nat){p q:Bool}(hu:P.underlying t=some .bool)(w:World):(Op.equalIn (d+1) t (.bool p) (.bool q)).run P w=.ok (p==q) w:=by
 simp only[Op.equalIn,underlying,program,bind,Sem.bind,pure,Sem.run,hu]
def bC7{P:Program}(d:Nat){el:TypeId}{pa:Option Addr}(hu:P.underlying t=some (.pointer el))(w:World):(Op.equalIn (d+1) t (.pointer pa) (.pointer none)).run P w=.ok pa.isNone w:=by
 cases pa <;> simp only[Op.equalIn,underlying,program,bind,Sem.bind,pure,Sem.run,hu,Option.isNone]
def aBT{p q:Bool}(hu:E.P.underlying t=some .bool)(hx:fr.ev x=some (.bool p))(hy:fr.ev y=some (.bool q)):Ev E fr K L ⟨dst,.binOp .neq t x y t',ty,pos,aft,g⟩ (.bool (!(p==q))):=
 jN hx hy (fun w=>rfl) fun w=>by
  have h:(Op.equal t (.bool p) (.bool q)).run E.P w=.ok (p==q) w:=aJ0 9999 hu w
  show (do pure (Value.bool (!(←Op.equal t (.bool p) (.bool q)))):Sem Value).run E.P w=_
  rw[bJ h];rfl
def aVO{P:Program}{el:TypeId}{pa:Option Addr}(hu:P.underlying t=some (.pointer el))(w:World):(Op.equal t (.pointer pa) (.pointer none)).run P w=.ok pa.isNone w:=bC7 9999 hu w
def nA{el:TypeId}{pa:Option Addr}(hu:E.P.underlying t=some (.pointer el))(hx:fr.ev x=some (.pointer pa))(hy:fr.ev y=some (.pointer none)):Ev E fr K L ⟨dst,.binOp .eql t x y t',ty,pos,aft,g⟩ (.bool pa.isNone):=
 jN hx hy (fun w=>rfl) fun w=>by
  show (do pure (Value.bool (←Op.equal t (.pointer pa) (.pointer none))):Sem Value).run E.P w=_
  rw[bJ (aVO hu w)];rfl
def aAJ{el:TypeId}{pa:Option Addr}(hu:E.P.underlying t=some (.pointer el))(hx:fr.ev x=some (.pointer pa))(hy:fr.ev y=some (.pointer none)):Ev E fr K L ⟨dst,.binOp .neq t x y t',ty,pos,aft,g⟩ (.bool (!pa.isNone)):=
 jN hx hy (fun w=>rfl) fun w=>by
  show (do pure (Value.bool (!(←Op.equal t (.pointer pa) (.pointer none)))):Sem Value).run E.P w=_
  rw[bJ (aVO hu w)];rfl
def or8(c d:UInt8):IntKind.u8.wrap (BitVec.toNat (BitVec.ofInt 8 (c.toNat:Int)|||BitVec.ofInt 8 (d.toNat:Int)):Int)=((c|||d).toNat:Int):=by
 have h:∀c:UInt8,BitVec.ofInt 8 (c.toNat:Int)=c.toBitVec:=fun c=>by apply BitVec.eq_of_toNat_eq;simp
 rw[h,h];have:(c.toBitVec|||d.toBitVec)=(c|||d).toBitVec:=by simp
 rw[this];have hlt:=(c|||d).toNat_lt;unfold IntKind.wrap IntKind.bits IntKind.signed;simp only[Bool.false_and,Bool.false_eq_true,if_false]
 show (((c|||d).toNat:Int)) % 2 ^ 8=_
 omega
def aL6(c d:UInt8)(hx:fr.ev x=some (.int .u8 c.toNat))(hy:fr.ev y=some (.int .u8 d.toNat)):Ev E fr K L ⟨dst,.binOp .or t x y t',ty,pos,aft,g⟩ (.int .u8 (c|||d).toNat):=
 jN hx hy lP fun w=>by
  have:=or8 c d;simp only[binOp,Op.intBits,ne_eq,not_true,if_false]
  show Result.ok (Value.int .u8 _) w=_
  rw[←this];rfl
def pZ{kk:IntKind}{m n:Int}{ats:Array TypeId}(hx:fr.ev x=some (.int kk m))(hy:fr.ev y=some (.int kk n)):Ev E fr K L ⟨dst,.call ⟨.builtin .min,#[x,y],ats⟩,ty,pos,aft,g⟩ (.int kk (if n < m then n else m)):=fun a w f j=>by
 have e:Array.map a.eval #[x,y]= #[.int kk m,.int kk n]:=by simp[f.ev hx,f.ev hy]
 simp only[execOp,resolve,e,bind,pure,Sem.bind,invoke,builtin]
 rfl
def bC9{kk:IntKind}{m n:Int}{ats:Array TypeId}(hx:fr.ev x=some (.int kk m))(hy:fr.ev y=some (.int kk n)):Ev E fr K L ⟨dst,.call ⟨.builtin .max,#[x,y],ats⟩,ty,pos,aft,g⟩ (.int kk (if n>m then n else m)):=fun a w f j=>by
 have e:Array.map a.eval #[x,y]= #[.int kk m,.int kk n]:=by simp[f.ev hx,f.ev hy]
 simp only[execOp,resolve,e,bind,pure,Sem.bind,invoke,builtin]
 rfl
end
structure Src (P:Program) (t2:TypeId) (sz m:Nat) (x:Value) (news:List Value) (w:World):Prop where
 has:P.underlying t2=some .string∨∃e',P.underlying t2=some (.slice e')
 len:(Builtin.lenOf x).run P w=.ok m w
 cells:∀d,(Builtin.firstCells sz m x).run P {w with drawn:=d}=.ok news.toArray {w with drawn:=d}
 size:news.length=m*sz
 one:∀u∈news,u.oneCell'=true
section
variable{P:Program}{w:World}{t t2 e b:Nat}{i:TypeInfo}{z x:Value}{m:Nat}{news:List Value}{ty:TypeId}
def aN8(ht:P.underlying t=some (.slice e))(hi:P.info? e=some i){n cap:Nat}{cells:List Value}{fz:Nat×Nat}(hb:w.heap[b]?=some (bL cells e fz))(h:Src P t2 i.size m x news w)
  (hroom:n+m≤cap) (hcap:cap*i.size≤cells.length) (hf:FzOk (cap*i.size) fz):
  ∃w',(Builtin.append_ #[t,t2] ty #[.slice (some ⟨b,0,none⟩) n cap,x]).run P w=.ok (.slice (some ⟨b,0,none⟩) (n+m) cap) w'∧
   w'.heap.size=w.heap.size∧w'.heap[b]?=some (bL (cells.take (n*i.size)++news++cells.drop (n*i.size+news.length)) e fz)∧(∀z,z≠b→w'.heap[z]?=w.heap[z]?)∧w'={w with heap:=w'.heap}:=by
 have hle:n*i.size+news.length≤cap*i.size:=by rw[h.size,←Nat.add_mul];exact xAW _ hroom
 obtain⟨w',r1,r2,r3,r4,r5⟩:=tI (P:=P) (b:=b) news (n*i.size) 0 w cells hb aH (fun j hj=>by have:=hf.at (o:=n*i.size+j) aH;simpa using this) h.one;refine⟨w',?_,r2,by simpa using r3,r4,r5⟩
 have hc:=h.cells w.drawn;have hlen:=h.len;rcases h.has with hd|⟨e',hd⟩ <;> simp[Builtin.append_,run_underlying ht,run_underlying hd,sizeOf,typeInfo,hi,hlen,hroom,hc,lI,r1]
def aBE(ht:P.underlying t=some (.slice e))(hi:P.info? e=some i)(hz:i.zero=some z){base:Option Addr}{n cap:Nat}{olds:List Value}(h:Src P t2 i.size m x news w)
  (hold:∀d,(Builtin.firstCells i.size n (.slice base n cap)).run P {w with drawn:=d}=.ok olds.toArray {w with drawn:=d})
  (hg:cap < n+m) (hby:(n+m)*i.bytes≤140737488355328) (h63:n+m≤9223372036854775807):
  ∃cap' d,n+m≤cap'∧(Builtin.append_ #[t,t2] ty #[.slice base n cap,x]).run P w=
   .ok (.slice (some ⟨w.heap.size,0,none⟩) (n+m) cap') {w with drawn:=d,heap:=w.heap.push (.cells (olds.toArray++(news.toArray++Builtin.zeroCells z.cells (cap' - (n+m)))) e)}:=by
 have hfit:=growslice_fits hg hby;have hti:∀w,(typeInfo e).run P w=.ok i w:=fun w=>by simp only[typeInfo,program,bind,Sem.bind,pure,Sem.run,hi]
 have hzv:∀w,(zeroValue e).run P w=.ok z w:=fun w=>by simp only[zeroValue,typeInfo,program,bind,Sem.bind,pure,Sem.run,hi,hz]
 refine⟨(Question.appendCap (n+m) cap e).cut (w.tape w.drawn (Question.appendCap (n+m) cap e)),w.drawn+1,by simp[Question.cut],?_⟩
 have hlen:=h.len;have hn:¬(n+m≤cap):=by omega
 have h63':¬(9223372036854775807 < ((n:Int)+(m:Int))):=by omega
 have h48':¬(281474976710656 < Builtin.nextslicecap (n+m) cap*i.bytes):=by omega
 have hc:(Builtin.firstCells i.size m x).run P w.drew=.ok news.toArray w.drew:=h.cells (w.drawn+1);have ho:(Builtin.firstCells i.size n (.slice base n cap)).run P w.drew=.ok olds.toArray w.drew:=hold (w.drawn+1);rcases h.has with hd|⟨e',hd⟩ <;> simp[Builtin.append_,run_underlying ht,run_underlying hd,sizeOf,typeInfo,zeroValue,hi,hz,hlen,hn,h63',h48',Question.forced,hc,ho,newRow] <;> rfl
end
def dJ{P:Program}{w:World}{α:Type}{k:El α}{t2 e':TypeId}{v:Value}{xs:List α}(ht:P.underlying t2=some (.slice e'))(h:SlAt k w v xs):Src P t2 k.sz xs.length v (k.cs xs) w:=by
 refine⟨.inr ⟨_,ht⟩,?_,?_,k.cs_length xs,k.cs_one xs⟩
 ·rcases h with ⟨a0,c,rfl,rfl⟩|⟨b,off,cap,cells,fz,rfl,⟨u0,h2⟩,h3⟩ <;> rfl
 intro d;rcases h with ⟨a0,c,rfl,rfl⟩|⟨b,off,cap,cells,fz,rfl,⟨u0,h2⟩,h3⟩
 ·cases a0 with
  |none=>rfl
  |some a=>simp[Builtin.firstCells,loadCells,loadCellsFrom,El.cs,pure,Sem.run]
 have:=l8 (P:=P) (w:={w with drawn:=d}) (b:=b) (l:=cells) h2 (xs.length*k.sz) (k.cs xs) off 0 [] (by simpa using h3) (k.cs_length xs)
 simpa[Builtin.firstCells,loadCells]using this
def wW(e:TypeId):El UInt8:={e:=e,sz:=1,enc:=fun c=>[.int .u8 c.toNat],len:=fun _=>rfl,one:=fun _ u h=>by simp at h;subst h;rfl}
def a7(e:TypeId):El (List UInt8):={e:=e,sz:=1,enc:=fun s=>[str s],len:=fun _=>rfl,one:=fun _ u h=>by simp at h;subst h;rfl}
def aC7(e:TypeId)(l:List UInt8):(wW e).cs l=l.map fun c=>.int .u8 c.toNat:=by
 induction l with
 |nil=>rfl
 |cons c l ih=>simp only[El.cs,List.flatMap_cons,List.map_cons]at*;rw[ih];rfl
def elOk(P:Program)(t e sz bytes:Nat):Bool:=
 match P.underlying t,P.info? e with
 |some (.slice e'),some i=>e'==e&&i.size==sz&&i.bytes==bytes&&(match i.zero with|some z=>z.cells.size==sz|none=>false)
 |_,_=>false
def aDB{P:Program}{t e sz bytes:Nat}(h:elOk P t e sz bytes=true):∃i z,P.underlying t=some (.slice e)∧P.info? e=some i∧i.size=sz∧i.bytes=bytes∧i.zero=some z∧z.cells.size=sz:=by
 unfold elOk at h;cases hu:P.underlying t with
 |none=>simp[hu]at h
 |some d=>
  cases hi:P.info? e with
  |none=>cases d <;> simp[hu,hi]at h
  |some i=>
   cases d <;> simp[hu,hi]at h
   obtain⟨⟨⟨rfl,h2⟩,h3⟩,h4⟩:=h;cases hz:i.zero with
   |none=>simp[hz]at h4
   |some z=>simp[hz]at h4;exact⟨i,z,Y,Y,h2,h3,hz,h4⟩
section
variable{E:Env}{fr:Fr}{K:Hl}{L L':List Asn}{Q:Post}{dst:Option Tmp}{ty:TypeId}{pos:String}{aft:Array Edge}{g:Option (Nat×Bool)}{x y:Operand}{t t2 t' s e sz bytes i off b:Nat}{α:Type}{k:El α}{v u:Value}{xs ys:List α}
def In.slCases{w0 w:World}{F:Hl}{M:List Asn}{zf:Bool}(j:In w0 F K (sl zf k v xs::M) w):
  (v=.slice none 0 0∧xs=[]∧In w0 F K M w)∨
  (∃b cap junk fz,v=.slice (some ⟨b,0,none⟩) xs.length cap∧(zf=true→xs≠[])∧xs.length≤cap∧junk.length=(cap - xs.length)*k.sz∧FzOk (cap*k.sz) fz∧In w0 F K (pt b (bL (k.cs xs++junk) k.e fz)::M) w):=by
 obtain⟨h,⟨a,l,ha,hl,hal,rfl⟩,d1,d2,d3,l1,l2,l3⟩:=j.rep;rcases ha with ⟨rfl,rfl,rfl⟩|⟨b,cap,junk,fz,rfl,hz,hc,hj,hf,rfl⟩
 ·exact .inl ⟨Y,Y,j.drop⟩
 exact .inr ⟨b,cap,junk,fz,Y,hz,hc,hj,hf,j.os,j.tape,j.output,j.size,_,⟨_,l,Y,hl,hal,Y⟩,d1,d2,d3,l1,l2,l3⟩
def aCQ{zf:Bool}{cap:Nat}{cells:List Value}{fz:Nat×Nat}(hc:xs.length≤cap)(hcs:cells.take (xs.length*k.sz)=k.cs xs)(hl:cells.length=cap*k.sz)(hf:FzOk (cap*k.sz) fz)(hz:zf=true→xs≠[]):
  ∀h,pt b (bL cells k.e fz) h→sl zf k (.slice (some ⟨b,0,none⟩) xs.length cap) xs h:=by
 rintro h rfl;refine .inr ⟨b,cap,cells.drop (xs.length*k.sz),fz,Y,hz,hc,?_,hf,?_⟩
 ·rw[xBA,hl,Nat.sub_mul]
 rw[←hcs,List.take_append_drop]
def bL7{zf:Bool}:sl zf k (.slice none 0 0) ([]:List α) .emp:=.inl ⟨rfl,rfl,rfl⟩
def fF{zf:Bool}{M:List Asn}{h:Hl}(hM:Sat M h):Sat (sl zf k (.slice none 0 0) ([]:List α)::M) h:=⟨.emp,h,bL7,hM,(Hl.dj_emp h).symm,(Hl.emp_join h).symm⟩
def dQ{zf:Bool}{M:List Asn}(hok:elOk E.P t k.e k.sz bytes=true)(hx:fr.ev x=some v)(hy:fr.ev y=some u)
  (hT:Tk (sl zf k v xs) L M)
  (hsrc:∀w,In E.w0 E.F K L w→Src E.P t2 k.sz ys.length u (k.cs ys) w)
  (hb:(xs.length+ys.length)*bytes≤140737488355328) (h63:xs.length+ys.length≤9223372036854775807):
  EfS E fr K L ⟨dst,.call ⟨.builtin .append,#[x,y],#[t,t2]⟩,ty,pos,aft,g⟩ (fun v' K' L'=>K'=K∧L'=sl zf k v' (xs++ys)::M∧v'.oneCell'=true):=by
 intro a w f j;obtain⟨i,z,h1,h2,h3,h4,h5,h6⟩:=aDB hok;have hS:=hsrc w j;have jM:=j.imp hT.sat;have e:Array.map a.eval #[x,y]= #[v,u]:=by simp[f.ev hx,f.ev hy]
 have run:∀ {v':Value} {w':World},(Builtin.append_ #[t,t2] ty #[v,u]).run E.P w=.ok v' w'→(execOp a.eval ⟨dst,.call ⟨.builtin .append,#[x,y],#[t,t2]⟩,ty,pos,aft,g⟩).run E.P w=.ok (.value v') w':=by
  intro v' w' h;simp only[execOp,resolve,e,bind,pure,Sem.bind,invoke,builtin];exact fO h
 rw[←h3]at hS;have hlen:(k.cs (xs++ys)).length=(xs.length+ys.length)*i.size:=by rw[k.cs_length,h3,xAF]
 have zcl:∀n,(Builtin.zeroCells z.cells n).toList.length=n*i.size:=fun n=>by simp[Builtin.zeroCells,h6,h3]
 have isl:∀(c b':Nat) {w1:World} {cells:List Value} {fz:Nat×Nat},xs.length+ys.length≤c→cells.take ((xs.length+ys.length)*i.size)=k.cs (xs++ys)→cells.length=c*i.size→FzOk (c*i.size) fz→(zf=true→xs++ys≠[])→
   In E.w0 E.F K (pt b' (bL cells k.e fz)::M) w1→In E.w0 E.F K (sl zf k (.slice (some ⟨b',0,none⟩) (xs.length+ys.length) c) (xs++ys)::M) w1:=by
  intro c b' w1 cells fz g1 g2 g3 g4 g5 jj;refine jj.imp (M:=sl zf k (.slice (some ⟨b',0,none⟩) (xs.length+ys.length) c) (xs++ys)::M) fun h hh=>?_;obtain⟨a,l,ha,hl,hd,he⟩:=hh;refine⟨a,l,?_,hl,hd,he⟩
  have:=aCQ (k:=k) (xs:=xs++ys) (zf:=zf) (cap:=c) (cells:=cells) (fz:=fz) (by simpa using g1) (by rw[xAF,←h3];exact g2) (by rw[←h3];exact g3) (by rw[←h3];exact g4) g5 a ha
  simpa using this
 rcases jM.slCases with ⟨rfl,rfl,j0⟩|⟨b,cap,junk,fz,rfl,hzf,hc,hj,hfz,j0⟩
 ·by_cases hy0:ys.length=0
  ·have hys:ys=[]:=xA9.1 hy0;subst hys;refine⟨.slice none 0 0,w,K,_,.inl (run ?_),⟨Y,Y,Y⟩,Hl.le_refl _,jM⟩
   have hlen':=hS.len;have hcs:=hS.cells w.drawn;rcases hS.has with hd|⟨e',hd⟩ <;> simp[Builtin.append_,run_underlying h1,run_underlying hd,sizeOf,typeInfo,h2,hlen',El.cs]at hcs ⊢ <;> simp[hcs]
  obtain⟨cap',d,hcap,hr⟩:=aBE (ty:=ty) h1 h2 h5 (base:=none) (n:=0) (cap:=0) (olds:=[]) hS (fun d=>rfl) aH (by rw[h4];simpa using hb) (by simpa using h63);simp only[Nat.zero_add]at hr hcap;have e2:(Obj.cells ((#[]:Array Value)++((k.cs ys).toArray++Builtin.zeroCells z.cells (cap' - ys.length))) k.e)=bL (k.cs ([]++ys)++(Builtin.zeroCells z.cells (cap' - ys.length)).toList) k.e:=by
   unfold bL;congr 1;apply Array.ext';simp
  rw[e2]at hr;have jj:=(j0.drew d).alloc (bL (k.cs ([]++ys)++(Builtin.zeroCells z.cells (cap' - ys.length)).toList) k.e);have:=isl cap' w.heap.size (by simpa using hcap) (by rw[←hlen,List.take_left])
   (by rw[xAF,k.cs_length,zcl,h3,xBL,←Nat.add_mul];congr 1;omega) (.inl (xAA _)) (fun _=>by intro e;simp at e;exact hy0 (by simp[e])) jj
  simp only[List.length_nil,Nat.zero_add]at this;exact⟨_,_,K,_,.inl (run hr),⟨Y,Y,Y⟩,Hl.le_refl _,this⟩
 have hcells:(k.cs xs++junk).length=cap*i.size:=by rw[xAF,k.cs_length,hj,h3,←Nat.add_mul];congr 1;omega
 by_cases hroom:xs.length+ys.length≤cap
 ·obtain⟨w',r1,r2,r3,r4,r5⟩:=aN8 (ty:=ty) h1 h2 (n:=xs.length) j0.piece hS hroom aH (by rw[h3];exact hfz);refine⟨_,_,K,_,.inl (run r1),⟨Y,Y,Y⟩,Hl.le_refl _,?_⟩
  have jj:=j0.write r2 r3 r4;rw[←r5]at jj;refine isl cap b hroom ?_ ?_ (by rw[h3];exact hfz) (fun hz1=>?_) jj
  ·have e1:(k.cs xs++junk).take (xs.length*i.size)=k.cs xs:=by rw[h3,←k.cs_length,List.take_left]
   rw[e1,←hlen,k.cs_append,List.take_left]
  ·have hys:(k.cs ys).length=ys.length*i.size:=by rw[k.cs_length,h3]
   have hle:(xs.length+ys.length)*i.size≤cap*i.size:=xAW _ hroom;rw[Nat.add_mul]at hle;simp only[List.length_append,List.length_take,List.length_drop]at hcells ⊢;omega
  intro e;have:=hzf hz1;simp at e;exact this e.1
 obtain⟨cap',d,hcap,hr⟩:=aBE (ty:=ty) h1 h2 h5 (base:=some ⟨b,0,none⟩) (n:=xs.length) (cap:=cap) (olds:=k.cs xs) hS
  (fun d => by
   have:=l8 (P:=E.P) (w:={w with drawn:=d}) (b:=b) (l:=k.cs xs++junk) (u:=k.e) (fz:=fz) j0.piece (xs.length*i.size) (k.cs xs) 0 0 [] (by simp only[Nat.add_zero,List.drop_zero];rw[h3,←k.cs_length,List.take_left]) (by rw[k.cs_length,h3])
   simpa[Builtin.firstCells,loadCells]using this) aH (by rw[h4];exact hb) h63
 have e2:(Obj.cells ((k.cs xs).toArray++((k.cs ys).toArray++Builtin.zeroCells z.cells (cap' - (xs.length+ys.length)))) k.e)=bL (k.cs (xs++ys)++(Builtin.zeroCells z.cells (cap' - (xs.length+ys.length))).toList) k.e:=by
  unfold bL;congr 1;apply Array.ext';simp[k.cs_append]
 rw[e2]at hr;have jj:=((j0.drop).drew d).alloc (bL (k.cs (xs++ys)++(Builtin.zeroCells z.cells (cap' - (xs.length+ys.length))).toList) k.e);have:=isl cap' w.heap.size hcap (by rw[←hlen,List.take_left])
  (by rw[xAF,k.cs_length,zcl,h3,xAF,←Nat.add_mul];congr 1;omega) (.inl (xAA _)) (fun hz1=>by intro e;have:=hzf hz1;simp at e;exact this e.1) jj
 exact⟨_,_,K,_,.inl (run hr),⟨Y,Y,Y⟩,Hl.le_refl _,this⟩
end
section
variable{E:Env}{fr:Fr}{K:Hl}{L L':List Asn}{Q:Post}{dst:Option Tmp}{ty:TypeId}{pos:String}{aft:Array Edge}{g:Option (Nat×Bool)}{x y:Operand}{t t2 t' s e sz bytes i off b:Nat}{α:Type}{k:El α}{v u:Value}{xs ys:List α}
def bGA{zf:Bool}{M:List Asn}{w0 w:World}{F:Hl}(hT:Tk (sl zf k v xs) L M)(j:In w0 F K L w):∀a n c,v=.slice a n c→n≤c:=by
 intro a n c hv;rcases(j.imp hT.sat).slCases with ⟨rfl,_,_⟩|⟨b,cap,junk,fz,rfl,_,hc,_⟩
 ·cases hv;exact xAA _
 cases hv;exact hc
def El.cs_set(hsz:k.sz=1){j:Nat}{y0:α}{c:Value}(hc:k.enc y0=[c])(hj:j < xs.length):k.cs (xs.set j y0)=(k.cs xs).set j c:=by
 have enc1:∀(z:α),∃d,k.enc z=[d]:=fun z=>by
  have:=k.len z;rw[hsz]at this
  match h:k.enc z,this with
  | [d],_=>exact⟨d,Y⟩
 induction xs generalizing j with
 |nil=>simp at hj
 |cons z zs ih=>
  obtain⟨d,hd⟩:=enc1 z;cases j with
  |zero=>simp[El.cs,List.flatMap_cons,hd,hc]
  |succ j=>
   have:=ih (j:=j) (by simpa using hj);simp only[El.cs,List.set_cons_succ,List.flatMap_cons,hd,List.cons_append,List.nil_append]at this ⊢;rw[this]
def dU{j:Nat}(ht:dB E.P s i off=true)(hx:fr.ev x=some (nG v (j*k.sz)))(hs:SeesSl k K L v xs)(hj:j < xs.length):Ev E fr K L ⟨dst,.fieldAddr s x i,ty,pos,aft,g⟩ (nG v (j*k.sz+off)):=fun a w f q=>by
 rcases hs.at q with ⟨a0,c,rfl,rfl⟩|⟨b,o,cap,cells,fz,rfl,⟨u0,h4⟩,h5⟩
 ·simp at hj
 have hx':fr.ev x=some (ptr b (o+j*k.sz)):=by rw[hx];simp[nG,lI]
 have:=aD (E:=E) (K:=K) (L:=L) (dst:=dst) (ty:=ty) (pos:=pos) (aft:=aft) (g:=g) ht hx' rfl a w f q;rw[this];simp[nG,lI,Nat.add_assoc]
def fD{j o:Nat}{u:α}{c:Value}(ht:fP E.P t=true)(hx:fr.ev x=some (nG v (j*k.sz+o)))(hs:SeesSl k K L v xs)(hj:xs[j]?=some u)(hc:(k.enc u)[o]?=some c):
  Ev E fr K L ⟨dst,.load t x,ty,pos,aft,g⟩ c:=fun a w f q=>by
 simp only[execOp,f.ev hx];refine fO ?_;have hjl:j < xs.length:=by
  rcases xAC j xs.length with h'|h'
  ·exact h'
  simp[List.getElem?_eq_none h']at hj
 have ho:o < k.sz:=by
  rw[←k.len u];rcases xAC o (k.enc u).length with h'|h'
  ·exact h'
  simp[List.getElem?_eq_none h']at hc
 rcases hs.at q with ⟨a0,c,rfl,rfl⟩|⟨b,off,cap,cells,fz,rfl,⟨u0,h4⟩,h5⟩
 ·simp at hj
 obtain⟨q1,q2⟩:=rB ht w;have hat:=k.cs_at hj (r:=[]);rw[xAL,←h5]at hat
 show (loadVar t (Addr.add ⟨b,off,none⟩ (j*k.sz+o))).run E.P w=_
 rw[lI];unfold loadVar;rw[bJ q1];refine xL h4 ?_;have:=xAE (·[o]?) hat;simp only[List.getElem?_take,List.getElem?_drop,ho,if_true]at this;have hlt:j*k.sz+o < xs.length*k.sz:=by
  have:(j+1)*k.sz≤xs.length*k.sz:=xAW _ hjl;rw[Nat.succ_mul]at this;omega
 rw[x7 hlt,hc]at this;exact this
def jG{zf:Bool}{j:Nat}{y0:α}{c:Value}(ht:fP E.P t=true)(hx:fr.ev x=some (nG v (j*k.sz)))(hy:fr.ev y=some c)(hc:k.enc y0=[c])(h1:c.oneCell'=true)(hj:j < xs.length)
  (hF:Fnd (sl zf k v xs) (sl zf k v (xs.set j y0)) L L'):
  EfS E fr K L ⟨dst,.store t x y,ty,pos,aft,g⟩ (fun _ K' L''=>K'=K∧L''=L'):=by
 intro a w f q;obtain⟨M,m1,m2⟩:=hF.split;have hsz:k.sz=1:=by have:=k.len y0;simpa[hc]using this.symm
 rcases(q.imp m1).slCases with ⟨rfl,rfl,_⟩|⟨b,cap,junk,fz,rfl,hz,hcap,hjk,hf,q0⟩
 ·simp at hj
 have hx':fr.ev x=some (ptr b j):=by rw[hx];simp[nG,lI,hsz]
 have hb:=q0.piece;have hcl:(k.cs xs).length=xs.length:=by rw[k.cs_length,hsz];omega
 have hset:(k.cs xs++junk).set j c=k.cs (xs.set j y0)++junk:=by
  have e0:k.cs (xs.set j y0)=(k.cs xs).set j c:=k.cs_set hsz hc hj;rw[e0,List.set_append_left _ _ (by rw[hcl];exact hj)]
 have hst:=aD3 (P:=E.P) (o:=j) (v:=c) hb (by rw[xAF,hcl];omega) (hf.at (by rw[hsz];omega)) h1;obtain⟨s1,s2,s3⟩:=sA (o:=j) c hb;have hr:(execOp a.eval ⟨dst,.store t x y,ty,pos,aft,g⟩).run E.P w=.ok .skip (w.setCell ⟨b,j,none⟩ c):=by
  simp only[execOp,f.ev hx',f.ev hy];have hcells:c.cells= #[c]:=by cases c <;> simp[Value.oneCell']at h1 <;> rfl
  have:(Instr.storeAt t (ptr b j) c).run E.P w=.ok () (w.setCell ⟨b,j,none⟩ c):=by
   show (storeVar t _ c).run E.P w=_
   unfold storeVar;rw[bJ (rB ht w).2];simp only[hcells];rw[x5 (by simp)];simp only[storeCells,lI,Nat.add_zero]
   show (store _ _>>=fun _=>pure ()).run E.P w=_
   rw[bJ hst];rfl
  rw[bJ this];rfl
 refine⟨_,_,_,_,.inr ⟨hr,Y⟩,⟨Y,Y⟩,Hl.le_refl _,?_⟩
 have q1:=q0.write s1 s2 s3;rw[hset]at q1;refine q1.imp fun h hh=>m2 h ?_
 obtain⟨aa,l,ha,hl,hd,he⟩:=hh;refine⟨aa,l,?_,hl,hd,he⟩
 refine .inr ⟨b,cap,junk,fz,by rw[xBC],?_,by rw[xBC];exact hcap,by rw[xBC];exact hjk,hf,ha⟩
 intro h1 h2;exact hz h1 gEI
def bM{len:Nat}{zc z0 out:List Value}{parts:List (Nat×Operand)}(ht:i8 E.P t e sz=true)(hz:dI E.P e=some zc)(hzl:zc.length=sz)(hlim:Nat.ble (len*sz) 16777216=true)(hpos:Nat.blt 0 (len*sz)=true)
  (hz0:(List.range (len*sz)).map (fun i=>zc.toArray[i % sz]!)=z0) (h:Fill fr (fun i=>some (i*sz,sz)) z0 parts out):
  EfS E fr K L ⟨dst,.buildSlice t len parts.toArray,ty,pos,aft,g⟩ (fun v K' L'=>∃b,v=.slice (some ⟨b,0,none⟩) len len∧K'=K∧L'=pt b (bL out e)::L):=by
 intro a w f j;obtain⟨inf,h1,h2,h3⟩:=nH ht;have e1:Array.map (fun(p:Nat×Operand)=>(p.1,a.eval p.2)) parts.toArray=(parts.map fun p=>(p.1,a.eval p.2)).toArray:=by simp
 have hu:(underlying t).run E.P w=.ok (.slice e) w:=by simp only[underlying,program,bind,Sem.bind,pure,Sem.run,h1]
 have hsz:(sizeOf e).run E.P w=.ok sz w:=by simp only[sizeOf,typeInfo,program,bind,Sem.bind,pure,Sem.run,h2,h3]
 have hlim':len*sz≤16777216:=xBB hlim;have hpos':0 < len*sz:=by simp[Nat.blt]at hpos;omega
 unfold dI at hz;simp only[h2,Option.bind_some]at hz;cases hzv:inf.zero with
 |none=>simp[hzv]at hz
 |some z=>
  simp[hzv]at hz;have hzr:(zeroValue e).run E.P w=.ok z w:=by simp only[zeroValue,typeInfo,program,bind,Sem.bind,pure,Sem.run,h2,hzv]
  have hfill:=aVU h f;have hzz:zc.toArray=z.cells:=by rw[←hz]
  have hr:(Instr.buildSlice t len (parts.map fun p=>(p.1,a.eval p.2)).toArray).run E.P w=.ok (.slice (some ⟨w.heap.size,0,none⟩) len len) {w with heap:=w.heap.push (bL out e)}:=by
   unfold Instr.buildSlice;rw[bJ hu];simp only[];rw[bJ hsz];rw[x5 aH];have hne:¬len*sz=0:=by omega
   have hmap:((Array.range (len*sz)).map fun i=>z.cells[i % z.cells.size]!)=z0.toArray:=by
    have hs:z.cells.size=sz:=by rw[←hzl,←hz];simp
    rw[←hz0,hzz,hs]
    apply Array.ext';simp
   rw[x5 hne,bJ hzr,bJ (uY _ _)];simp only[hmap];rw[hfill]
   rfl
  refine⟨_,_,K,_,.inl ?_,⟨_,Y,Y,Y⟩,Hl.le_refl _,j.alloc _⟩
  simp only[execOp];have:=fO hr;rw[←e1]at this;exact this
end
abbrev elB(e:TypeId):El UInt8:=wW e
def aGM(e:TypeId)(s:List UInt8):(elB e).cs s=s.map fun c=>.int .u8 c.toNat:=aC7 e s
def aI6(w:World)(e:TypeId)(s:ByteArray):
  Lib.bytesWorld w e s={w with drawn:=w.drawn+1,heap:=w.heap.push (.cells (Lib.bytesCells w e s) e ((Lib.bytesCells w e s).size,(Lib.bytesCells w e s).size+1))}:=by
 have hh:(Lib.bytesWorld w e s).heap=w.heap.push (.cells (Lib.bytesCells w e s) e ((Lib.bytesCells w e s).size,(Lib.bytesCells w e s).size+1)):=by
  apply Array.ext_getElem?
  intro i;rcases Nat.lt_trichotomy i w.heap.size with h|h|h
  ·rw[Lib.bytesWorld_at_old w e s i h,Array.getElem?_push,x5 aH]
  ·subst h;rw[Lib.bytesWorld_at_new,Array.getElem?_push,x7 rfl]
  rw[Array.getElem?_eq_none (by rw[Lib.bytesWorld_size];omega),Array.getElem?_eq_none gC7]
 have h2:Lib.bytesWorld w e s={w with drawn:=w.drawn+1,heap:=(Lib.bytesWorld w e s).heap}:=rfl;rw[h2,hh]
section
variable{E:Env}{fr:Fr}{K:Hl}{L L':List Asn}{Q:Post}{dst:Option Tmp}{ty:TypeId}{pos:String}{aft:Array Edge}{g:Option (Nat×Bool)}{x y:Operand}{t t2 t' s e:Nat}{v:Value}{xs ys:List UInt8}
def u1{src:TypeId}{u:TypeDesc}(hs:E.P.underlying src=some u)(hd:E.P.underlying t=some (.slice e))(he:E.P.underlying e=some (.int .u8))(hx:fr.ev x=some (str xs)):
  EfS E fr K L ⟨dst,.convert src t x,ty,pos,aft,g⟩ (fun v K' L'=>K'=K∧L'=sl false (elB e) v xs::L):=by
 intro a w f j;have e1:(⟨xs.toArray⟩:ByteArray).size=xs.length:=by simp[ByteArray.size]
 have hr:(execOp a.eval ⟨dst,.convert src t x,ty,pos,aft,g⟩).run E.P w=.ok (.value (.slice (some ⟨w.heap.size,0,none⟩) xs.length (grownCap w xs.length 0 e))) (Lib.bytesWorld w e ⟨xs.toArray⟩):=by
  simp only[execOp,f.ev hx];have:=Lib.run_convert_string_bytes (P:=E.P) w src t e ⟨xs.toArray⟩ hs hd he;rw[e1]at this;exact fO this
 have hcap:xs.length≤grownCap w xs.length 0 e:=by simp[grownCap,Question.cut]
 have hc:Lib.bytesCells w e ⟨xs.toArray⟩=((elB e).cs xs++List.replicate (grownCap w xs.length 0 e - xs.length) (Value.int .u8 0)).toArray:=by
  apply Array.ext'
  simp[Lib.bytesCells,aGM,e1]
 refine⟨_,_,K,_,.inl hr,⟨Y,Y⟩,Hl.le_refl _,?_⟩
 rw[aI6];have jj:=(j.drew (w.drawn+1)).alloc (.cells (Lib.bytesCells w e ⟨xs.toArray⟩) e ((Lib.bytesCells w e ⟨xs.toArray⟩).size,(Lib.bytesCells w e ⟨xs.toArray⟩).size+1));refine jj.imp fun h hh=>?_;obtain⟨aa,l,ha,hl,hd,he⟩:=hh;have hsz:(Lib.bytesCells w e ⟨xs.toArray⟩).size=grownCap w xs.length 0 e:=by rw[hc];simp[aGM];omega
 refine⟨aa,l,.inr ⟨w.heap.size,grownCap w xs.length 0 e,List.replicate (grownCap w xs.length 0 e - xs.length) (.int .u8 0),(grownCap w xs.length 0 e,grownCap w xs.length 0 e+1),Y,by simp,hcap,by simp[wW],.inr (by simp[wW]),?_⟩,hl,hd,he⟩
 simp only[pt]at ha;rw[ha,hsz,hc];rfl
def aSV(xs:List UInt8):∀acc:ByteArray,(xs.map fun c:UInt8=>(c.toNat:Int)).foldl (fun r n=>r.push (UInt8.ofNat n.toNat)) acc=⟨acc.data++xs.toArray⟩:=by
 induction xs with
 |nil=>intro acc;simp
 |cons c xs ih=>
  intro acc;simp only[List.map_cons,List.foldl_cons];rw[ih];have:UInt8.ofNat ((c.toNat:Int)).toNat=c:=by simp
  rw[this];cases acc
  simp[ByteArray.push]
def gC(hs:E.P.underlying t=some (.slice e))(he:E.P.underlying e=some (.int .u8))(hd:E.P.underlying t2=some .string)(hx:fr.ev x=some v)(h:SeesSl (elB e) K L v xs):
  Ev E fr K L ⟨dst,.convert t t2 x,ty,pos,aft,g⟩ (str xs):=fun a w f j=>by
 simp only[execOp,f.ev hx];refine fO ?_;rcases h.at j with ⟨a0,c,rfl,rfl⟩|⟨b,off,cap,cells,fz,rfl,⟨u0,h2⟩,h3⟩
 ·rw[run_convert_bytes_string w t t2 e a0 0 c hs he hd];cases a0 <;> rfl
 rw[run_convert_bytes_string w t t2 e (some ⟨b,off,none⟩) xs.length cap hs he hd];have hl:(loadCells ⟨b,off,none⟩ xs.length).run E.P w=.ok ((xs.map fun c:UInt8=>(c.toNat:Int)).map (Value.int .u8)).toArray w:=by
  have h3':(cells.drop (off+0)).take xs.length=xs.map fun c=>.int .u8 c.toNat:=by
   rw[Nat.add_zero,←aGM e,←h3];simp[wW]
  have:=l8 (P:=E.P) h2 xs.length _ off 0 [] h3' (by simp);unfold loadCells
  simpa[Function.comp_def]using this
 rw[run_bytesToString w ⟨b,off,none⟩ xs.length cap _ hl,aSV]
 show Result.ok (Value.string ⟨ByteArray.empty.data++xs.toArray⟩) w=_
 have e0:ByteArray.empty.data= #[]:=rfl;rw[e0,Array.empty_append]
def bLQ(m:Int):IntKind.u8.wrap m=m % 256:=by
 unfold IntKind.wrap IntKind.bits IntKind.signed;simp
def aVP(c d:UInt8)(hx:fr.ev x=some (.int .u8 c.toNat))(hy:fr.ev y=some (.int .u8 d.toNat)):Ev E fr K L ⟨dst,.binOp .add t x y t',ty,pos,aft,g⟩ (.int .u8 (c+d).toNat):=by
 have:=aVQ (E:=E) (K:=K) (L:=L) (dst:=dst) (ty:=ty) (pos:=pos) (aft:=aft) (g:=g) (t:=t) (t':=t') hx hy;rw[bLQ]at this;have e1:((c+d).toNat:Int)=((c.toNat:Int)+(d.toNat:Int)) % 256:=by rw[UInt8.toNat_add];omega
 rw[e1];exact this
def aBW{m n:Nat}(hmn:n≤m)(hm:m < 256)(hx:fr.ev x=some (.int .u8 m))(hy:fr.ev y=some (.int .u8 n)):Ev E fr K L ⟨dst,.binOp .sub t x y t',ty,pos,aft,g⟩ (.int .u8 (m - n:Nat)):=by
 have:=aVS (E:=E) (K:=K) (L:=L) (dst:=dst) (ty:=ty) (pos:=pos) (aft:=aft) (g:=g) (t:=t) (t':=t') hx hy;have e1:IntKind.u8.wrap ((m:Int) - (n:Int))=((m - n:Nat):Int):=by rw[bLQ];omega
 rwa [e1]at this
def qZ{k:IntKind}{m:Int}{ds:TypeDesc}(hd:E.P.underlying t2=some (.int .i64))(hs:E.P.underlying t=some ds)(hx:fr.ev x=some (.int k m))(h1: -9223372036854775808≤m)(h2:m≤9223372036854775807):
  Ev E fr K L ⟨dst,.convert t t2 x,ty,pos,aft,g⟩ (i64 m):=by
 have:=q5 (E:=E) (K:=K) (L:=L) (dst:=dst) (ty:=ty) (pos:=pos) (aft:=aft) (g:=g) hd hs hx
 rwa [vH h1 h2]at this
def aL5{k':IntKind}{c:UInt8}(hs:E.P.underlying t=some (.int k'))(hd:E.P.underlying t2=some .string)(hx:fr.ev x=some (.int .u8 c.toNat))(hc:c.toNat < 128):
  Ev E fr K L ⟨dst,.convert t t2 x,ty,pos,aft,g⟩ (str [c]):=fun a w f j=>by
 simp only[execOp,f.ev hx];refine fO ?_;unfold convert;rw[bJ (run_underlying hs w),bJ (run_underlying hd w)]
 show Result.ok (Value.string (Utf8.encode _)) w=_
 have e1:Utf8.encode (c.toNat:Int)=⟨[c].toArray⟩:=by
  unfold Utf8.encode;have hv:Utf8.valid (c.toNat:Int)=true:=by unfold Utf8.valid;simp;omega
  simp only[hv,if_true,Int.toNat_natCast];rw[x7 aH];simp
 rw[e1]
end
def unsB(P:Program)(T n:Nat):Bool:=
 match P.info? T with
 |some j=>j.size==n&&n !=0&&liesAt P P.depth T (n / P.cellsOf T) 0 T 1
 |none=>false
section
variable{E:Env}{fr:Fr}{K:Hl}{L L':List Asn}{Q:Post}{dst:Option Tmp}{ty:TypeId}{pos:String}{aft:Array Edge}{g:Option (Nat×Bool)}{x y:Operand}{t t2 t' s e b n:Nat}{T:TypeId}{v:Value}{xs ys:List UInt8}
def xY{w:World}{l:List Value}{fz:Nat×Nat}(h:w.heap[b]?=some (bL l T fz)):w.shape? b=some (T,l.length):=by
 simp[World.shape?,h]
def aOS{l:List Value}{fz:Nat×Nat}(hs:E.P.underlying t=some (.pointer T))(hd:E.P.underlying t2=some .unsafePointer)(hx:fr.ev x=some (ptr b))(hS:Sees K L b (bL l T fz))(hT:unsB E.P T l.length=true):
  Ev E fr K L ⟨dst,.convert t t2 x,ty,pos,aft,g⟩ (ptr b):=fun a w f j=>by
 simp only[execOp,f.ev hx];refine fO ?_;unfold unsB at hT;cases hi:E.P.info? T with
 |none=>simp[hi]at hT
 |some inf=>
  simp[hi]at hT;have hp:0 < l.length:=by
   rcases Nat.eq_zero_or_pos l.length with h|h
   ·exact absurd (xA9.1 h) hT.1.2
   exact h
  exact Lib.run_to_unsafe w ⟨b,0,none⟩ hs hd hi (by rw[hT.1.1];omega) (xY (hS.at j)) hp
def aI8{l:List Value}{fz:Nat×Nat}(hs:E.P.underlying t=some .unsafePointer)(hd:E.P.underlying t2=some (.pointer T))(hx:fr.ev x=some (ptr b))(hS:Sees K L b (bL l T fz))(hT:unsB E.P T l.length=true):
  Ev E fr K L ⟨dst,.convert t t2 x,ty,pos,aft,g⟩ (ptr b):=fun a w f j=>by
 simp only[execOp,f.ev hx];refine fO ?_;unfold unsB at hT;cases hi:E.P.info? T with
 |none=>simp[hi]at hT
 |some inf=>
  simp[hi]at hT;exact Lib.run_from_unsafe w ⟨b,0,none⟩ hs hd hi (xY (hS.at j)) hT.2
def n8{fv:Operand}{os:List Operand}{vs:List Value}{ats:Array TypeId}{f:FuncId}{fn:Func}{ex:Array Value→Sem Value}(hf:fr.ev fv=some (.func (.func f) #[] #[]))(hos:fr.evs os=some vs)
  (h1:E.P.funcs[f]?=some fn) (h2:(fn.name== "runtime.NumGoroutine")=false) (h3:fn.body.isNone=true) (h4:Extern.findNext fn=none) (h5:Extern.find fn=some ex) (hr:∀w,In E.w0 E.F K L w→(ex vs.toArray).run E.P w=.ok v w):
  Ev E fr K L ⟨dst,.call ⟨.value fv,os.toArray,ats⟩,ty,pos,aft,g⟩ v:=fun a w fo j=>by
 have e1:Array.map a.eval os.toArray=vs.toArray:=by simp[fo.evs hos]
 simp only[execOp,resolve,e1,fo.ev hf,Deferred.ofValue,bind,pure,Sem.bind,invoke,List.append_toArray];simp only[List.nil_append,List.append_nil];rw[run_callFunc_extern h1 h2 h3 h4 h5,hr w j]
 rfl
def aEN{el:TypeId}(hu:E.P.underlying t=some (.pointer el))(hT:unsB E.P el n=true)(hx:fr.ev x=some (ptr b))(hy:fr.ev y=some (ptr b)):Ev E fr K L ⟨dst,.binOp .neq t x y t',ty,pos,aft,g⟩ (.bool false):=
 jN hx hy (fun w=>rfl) fun w=>by
  unfold unsB at hT;cases hi:E.P.info? el with
  |none=>simp[hi]at hT
  |some inf=>exact Lib.run_neq_ptr_same w ⟨b,0,none⟩ hu hi
def aWI:Value→Value
 | .slice a _ _=>.pointer a
 |v=>v
def aBV{ats:Array TypeId}(hx:fr.ev x=some v)(h:Hs (sl true (elB e) v xs) L):
  Ev E fr K L ⟨dst,.call ⟨.builtin .unsafeSliceData,#[x],ats⟩,ty,pos,aft,g⟩ (aWI v):=fun a w f j=>by
 have e1:Array.map a.eval #[x]= #[v]:=by simp[f.ev hx]
 simp only[execOp,resolve,e1,bind,pure,Sem.bind,invoke,builtin];obtain⟨M,m1⟩:=h.split;rcases(j.imp m1).slCases with ⟨rfl,rfl,_⟩|⟨b,cap,junk,fz,rfl,hz,hc,_⟩
 ·rfl
 have h0:xs≠[]:=hz rfl;have hl:0 < xs.length:=List.length_pos_iff.2 h0;have hc0:¬cap=0:=by omega
 show (do pure (Next.value (←Builtin.unsafeSliceData_ ats ty #[.slice (some ⟨b,0,none⟩) xs.length cap])):Sem Next).run E.P w=_
 rw[bJ (Lib.run_unsafeSliceData_row _ _ _ _ _ _ hc0)];rfl
def xX{ats:Array TypeId}{M:List Asn}{pt it:TypeId}(ha:ats= #[pt,it])(hp:E.P.underlying pt=some (.pointer e))(hc:E.P.cellsOf e=1)(h63:xs.length≤9223372036854775807)
  (hx:fr.ev x=some (aWI v)) (hy:fr.ev y=some (i64 xs.length)) (hT:Tk (sl true (elB e) v xs) L M):
  EfS E fr K L ⟨dst,.call ⟨.builtin .unsafeString,#[x,y],ats⟩,ty,pos,aft,g⟩ (fun u K' L'=>u=str xs∧K'=K∧L'=M):=by
 intro a w f j;subst ha;have e1:Array.map a.eval #[x,y]= #[aWI v,i64 xs.length]:=by simp[f.ev hx,f.ev hy]
 rcases(j.imp hT.sat).slCases with ⟨rfl,rfl,j0⟩|⟨b,cap,junk,fz,rfl,hz,hcp,hjk,hfz,j0⟩
 ·refine⟨str [],w,K,M,.inl ?_,⟨Y,Y,Y⟩,Hl.le_refl _,j0⟩
  simp only[execOp,resolve,e1,bind,pure,Sem.bind,invoke,builtin]
  rfl
 have h0 : xs ≠ [] := hz rfl;have hb := j0.piece;have hrun := Lib.run_unsafeString_row (P := E.P) (w := w) pt it ty e hp hc b ((elB e).cs xs ++ junk).length (xY hb) xs h0 (by rw [xAF, aGM, xAS]; omega) h63 (fun i c hi => by
  rw[lI];refine oH hb ?_;rw[aGM,xA5 (by simp;exact(xAG.1 hi).1)];simp[hi])
 refine⟨str xs,w.freeze ⟨b,0,none⟩ xs.length,K,M,.inl ?_,⟨Y,Y,Y⟩,Hl.le_refl _,?_⟩
 ·simp only[execOp,resolve,e1,bind,pure,Sem.bind,invoke,builtin,aWI]
  show (do pure (Next.value (←Builtin.unsafeString_ #[pt,it] ty #[.pointer (some ⟨b,0,none⟩),i64 xs.length])):Sem Next).run E.P w=_
  rw[bJ hrun];rfl
 have hl:¬xs.length=0:=by simpa using h0
 have e2:w.freeze ⟨b,0,none⟩ xs.length={w with heap:=(w.freeze ⟨b,0,none⟩ xs.length).heap}:=by unfold World.freeze;rw[x5 hl]
 rw[e2];have hb':∃o',(w.freeze ⟨b,0,none⟩ xs.length).heap[b]?=some o':=by
  unfold World.freeze;rw[x5 hl]
  exact⟨_,by rw[Array.getElem?_modify,x7 rfl,hb];rfl⟩
 obtain ⟨o', ho'⟩ := hb';exact (j0.write (H := (w.freeze ⟨b, 0, none⟩ xs.length).heap) (by unfold World.freeze; rw [x5 hl]; simp) ho' (fun z hz => by
  unfold World.freeze;rw[x5 hl]
  rw[Array.getElem?_modify,x5 (fun e=>hz e.symm)])).drop
end
def cS{E:Env}{x:Exit}{fr:Fr}{K:Hl}{L L':List Asn}{Q:Post}(k:∀h,Sat L h→Sat L' h)(h:D E x fr K L' Q):D E x fr K L Q:=fun a w f i=>h a w f (i.imp k)
section
variable{E:Env}{c x y:Code}{fr:Fr}{K:Hl}{L:List Asn}{Q:Post}{α β:Type}
def Rnd2(E:Env)(I:α→β→Prop)(fr':α→β→Fr)(K':α→β→Hl)(L':α→β→List Asn)(μ:α→β→Nat)(m:Nat):Act→World→Prop:=
 fun a w=>∃i j,I i j∧μ i j < m∧FrOk E.n E.ds (fr' i j) a∧In E.w0 E.F (K' i j) (L' i j) w
def zN{n1 n2:Act→World→Prop}(h:∀a w,n1 a w→n2 a w):∀e a w,Exit.then n1 Q e a w→Exit.then n2 Q e a w:=by
 intro e a w q;cases e <;> first|exact q|exact h _ _ q
def iR(I:α→β→Prop)(fr':α→β→Fr)(K':α→β→Hl)(L':α→β→List Asn)(μ:α→β→Nat)(i0:α)(j0:β)(h0:I i0 j0)(k:Kp fr (fr' i0 j0))(hK:K' i0 j0=K)(hL:∀h,Sat L h→Sat (L' i0 j0) h)
  (round:∀i j,I i j→T E c (fr' i j) (K' i j) (L' i j) (Exit.then (Rnd2 E I fr' K' L' μ (μ i j)) Q)):T E (.loop c) fr K L Q:=by
 refine eH (fun p:α×β=>I p.1 p.2) (fun p=>fr' p.1 p.2) (fun p=>K' p.1 p.2) (fun p=>L' p.1 p.2) (fun p=>μ p.1 p.2) (i0,j0) h0 k hK hL ?_;rintro⟨i,j⟩ hI a w f w1;refine Code.wp_mono ?_ (round i j hI a w f w1)
 exact zN fun a w ⟨i',j',h1,h2,h3,h4⟩=>⟨(i',j'),h1,h2,h3,h4⟩
def cW{I:α→β→Prop}{fr':α→β→Fr}{K':α→β→Hl}{L':α→β→List Asn}{μ:α→β→Nat}{m:Nat}(i:α)(j:β)(hj:I i j)(hlt:μ i j < m)(k:Kp fr (fr' i j))(hK:K' i j=K)(hL:∀h,Sat L h→Sat (L' i j) h):
  D E .normal fr K L (Exit.then (Rnd2 E I fr' K' L' μ m) Q):=
 fun a w f q=>⟨i,j,hj,hlt,f.keep k,by rw[hK];exact q.imp hL⟩
def Mid2(E:Env)(I:α→β→Prop)(fr:α→β→Fr)(K:α→β→Hl)(L:α→β→List Asn):Act→World→Prop:=fun a w=>∃i j,I i j∧FrOk E.n E.ds (fr i j) a∧In E.w0 E.F (K i j) (L i j) w
def aNF(I:α→β→Prop)(fr':α→β→Fr)(K':α→β→Hl)(L':α→β→List Asn)(h1:T E x fr K L (Exit.then (Mid2 E I fr' K' L') Q))(h2:∀i j,I i j→T E y (fr' i j) (K' i j) (L' i j) Q):
  T E (.seq x y) fr K L Q:=by
 intro a w f i;refine wp_seq (Code.wp_mono (fun e a w q=>?_) (h1 a w f i))
 cases e <;> first|exact q|(obtain⟨i,j,hj,fj,ij⟩:=q;exact h2 i j hj _ _ fj ij)
def eV{I:α→β→Prop}{fr':α→β→Fr}{K':α→β→Hl}{L':α→β→List Asn}(i:α)(j:β)(hi:I i j)(k:Kp fr (fr' i j))(hK:K' i j=K)(hL:∀h,Sat L h→Sat (L' i j) h):
  D E .normal fr K L (Exit.then (Mid2 E I fr' K' L') Q):=fun a w f q=>⟨i,j,hi,f.keep k,by rw[hK];exact q.imp hL⟩
end
end Go.SL
end
section
namespace Go.SL
open Go.MapKept
abbrev Ent:=List UInt8×Value×Nat
def ent(p:Ent):MapEntry:={key:=str p.1,val:=p.2.1,born:=p.2.2}
abbrev mapO(es:List Ent)(c:Nat):Obj:=.map (es.map ent).toArray c
def pT(k:List UInt8):List Ent→Nat→Option (Nat×Value)
 | [],_=>none
 |e::es,i=>if k=e.1 then some (i,e.2.1)else pT k es (i+1)
def mget(es:List Ent)(k:List UInt8):Option Value:=(es.find? fun e=>decide (k=e.1)).map (·.2.1)
def aVI(a b:List UInt8):((⟨a.toArray⟩:ByteArray)==⟨b.toArray⟩)=decide (a=b):=by
 show (a.toArray==b.toArray)=_
 by_cases h:a=b
 ·subst h;simp
 rw[xAJ h,beq_eq_false_iff_ne];intro e;exact h gDL
def tR(k:List UInt8):∀(es:List Ent) (i:Nat),Instr.findNow .string (str k) (es.map ent) i=some (pT k es i):=by
 intro es;induction es with
 |nil=>intro i;rfl
 |cons e es ih=>
  intro i;simp only[List.map_cons,Instr.findNow,ent,Instr.sameNow,pT];rw[aVI]
  by_cases h:k=e.1
  ·simp[h]
  simp only[decide_eq_false h,if_neg h];exact ih _
def y8(k:List UInt8):∀(es:List Ent) (i:Nat),(pT k es i).map (·.2)=mget es k:=by
 intro es;induction es with
 |nil=>intro i;rfl
 |cons e es ih=>
  intro i;unfold pT mget
  by_cases h:k=e.1
  ·simp[h]
  rw[x5 h,List.find?_cons,xAJ h];exact ih _
section
variable{E:Env}{fr:Fr}{K:Hl}{L L':List Asn}{Q:Post}{dst:Option Tmp}{ty:TypeId}{pos:String}{aft:Array Edge}{g:Option (Nat×Bool)}{x y m:Operand}{t t' kt et b c:Nat}{v z:Value}{k:List UInt8}{es:List Ent}
def uZ:EfS E fr K L ⟨dst,.makeMap t none,ty,pos,aft,g⟩ (fun u K' L'=>∃b,u=.map (some b)∧K'=K∧L'=pt b (mapO [] 0)::L):=by
 intro a w f j;have:(execOp a.eval ⟨dst,.makeMap t none,ty,pos,aft,g⟩).run E.P w=.ok (.value (.map (some w.heap.size))) {w with heap:=w.heap.push (mapO [] 0)}:=by
  simp only[execOp];refine fO ?_
  rfl
 exact⟨_,_,K,_,.inl this,⟨_,Y,Y,Y⟩,Hl.le_refl _,j.alloc _⟩
def aGQ(hm:E.P.underlying t=some (.map kt et))(hk:E.P.underlying kt=some .string)(hz:iK E.P et=some z)(hx:fr.ev x=some (.map (some b)))(hy:fr.ev y=some (str k))(hs:Sees K L b (mapO es c)):
  Ev E fr K L ⟨dst,.lookup t x y true,ty,pos,aft,g⟩ (.tuple #[(mget es k).getD z,.bool (mget es k).isSome]):=fun a w f j=>by
 simp only[execOp,f.ev hx,f.ev hy];refine fO ?_;have hb:=hs.at j;have h1:(Instr.checkKey (es.map ent).toArray.isEmpty 10000 kt (str k)).run E.P w=.ok () w:=run_checkKey hk (d:=.string) (k:=str k) trivial _ 9999;have h2:=run_findKey (w:=w) (kt:=kt) hk (tR k es 0);have h3:(zeroValue et).run E.P w=.ok z w:=by
  unfold iK at hz;cases hi:E.P.info? et with
  |none=>simp[hi]at hz
  |some inf=>simp[hi]at hz;simp only[zeroValue,typeInfo,program,bind,Sem.bind,pure,Sem.run,hi,hz]
 have h4:=y8 k es 0;unfold Instr.lookup;rw[bJ (run_underlying hm w)];simp only[]
 show ((getObj b)>>=fun _=>_).run E.P w=_
 rw[bJ (MapKept.run_getObj_map hb)];simp only[];rw[bJ (uY _ _),bJ h1]
 show ((Instr.findKey kt (str k) (es.map ent))>>=fun _=>_).run E.P w=_
 rw[bJ h2,←h4];cases pT k es 0 with
 |some p=>rfl
 |none=>
  show ((zeroValue et)>>=fun _=>_).run E.P w=_
  rw[bJ h3];rfl
def xV{P:Program}{w:World}(hm:P.underlying t=some (.map kt et))(hk:P.underlying kt=some .string)(hb:w.heap[b]?=some (mapO es c))(hn:es.any (fun e=>decide (k=e.1))=false):
  (Instr.mapUpdate t (.map (some b)) (str k) v).run P w=.ok () {w with heap:=w.heap.setIfInBounds b (mapO (es++[(k,v,c)]) (c+1))}:=by
 have hf:pT k es 0=none:=by
  have:∀(es:List Ent) (i:Nat),es.any (fun e=>decide (k=e.1))=false→pT k es i=none:=by
   intro es;induction es with
   |nil=>intro i h;rfl
   |cons e es ih=>
    intro i h;rw[List.any_cons,Bool.or_eq_false_iff]at h;unfold pT;rw[x5 (by simpa using h.1)];exact ih _ h.2
  exact this es 0 hn
 have h1:(Instr.checkKey false 10000 kt (str k)).run P w=.ok () w:=run_checkKey hk (d:=.string) (k:=str k) trivial _ 9999;have h2:=run_findKey (w:=w) (kt:=kt) hk (tR k es 0);unfold Instr.mapUpdate;rw[bJ (run_underlying hm w)];simp only[]
 show ((getObj b)>>=fun _=>_).run P w=_
 rw[bJ (MapKept.run_getObj_map hb)];simp only[];rw[bJ h1]
 show ((Instr.findKey kt (str k) (es.map ent))>>=fun _=>_).run P w=_
 rw[bJ h2,hf]
 show (setObj b _).run P w=_
 rw[MapKept.run_setObj_map _ hb];have e1:(es.map ent).toArray.push {key:=str k,val:=v,born:=c}=((es++[(k,v,c)]).map ent).toArray:=by simp[ent]
 rw[e1]
def j9(hm:E.P.underlying t=some (.map kt et))(hk:E.P.underlying kt=some .string)(hx:fr.ev m=some (.map (some b)))(hy:fr.ev x=some (str k))(hv:fr.ev y=some v)(hn:es.any (fun e=>decide (k=e.1))=false)
  (hF:Fnd (pt b (mapO es c)) (pt b (mapO (es++[(k,v,c)]) (c+1))) L L'):EfS E fr K L ⟨dst,.insert t m x y,ty,pos,aft,g⟩ (fun _ K' L''=>K'=K∧L''=L'):=by
 intro a w f j;have hb:=j.mem hF;have hr:(execOp a.eval ⟨dst,.insert t m x y,ty,pos,aft,g⟩).run E.P w=.ok .skip {w with heap:=w.heap.setIfInBounds b (mapO (es++[(k,v,c)]) (c+1))}:=by
  simp only[execOp,f.ev hx,f.ev hy,f.ev hv];rw[bJ (xV hm hk hb hn)];rfl
 have hs:=MapKept.heap_set (o':=mapO (es++[(k,v,c)]) (c+1)) hb;exact⟨_,_,_,_,.inr ⟨hr,Y⟩,⟨Y,Y⟩,Hl.le_refl _,j.writeAt hF (by simp) hs.1 hs.2⟩
end
def aM0{fn:Func}{t:Tmp}{ty:TypeId}(h:fn.results= #[.cell t ty])(tmps:Array Value)(P:Program)(w:World){ad:Addr}{v:Value}(ha:tmps.getD t undef=.pointer (some ad))(hl:(loadVar ty ad).run P w=.ok v w):
  (results fn tmps).run P w=.ok v w:=by
 have e1:tmps[t]?.getD undef=.pointer (some ad):=by simpa using ha
 simp[results,h,e1,asAddr,Sem.run_bind,Result.andThen,hl]
def pY{P:Program}{fn:Func}{n:Nat}{w0:World}{F K0 K:Hl}{fr:Fr}{L L1 M:List Asn}{R:Ending→Hl→List Asn→Prop}{t b m:Nat}{T u:TypeId}{l vs:List Value}{fz:Nat×Nat}
  (hr:fn.results= #[.cell t T]) (hx:fr.get t=some (ptr b)) (hT:aggB P T m=true) (hs:Sees K L b (bL l u fz)) (hv:l.take m=vs) (hn:vs.length=m) (le:K0.le K) (hL:Tks L1 L M) (h:R (.returned (.agg vs.toArray)) K L1):
  D ⟨P,n,[],w0,F⟩ .ret fr K L (wO P fn w0 F K0 R):=fun a w f i=>by
 refine⟨f.defers,.agg vs.toArray,?_,K,L1,h,le,(i.imp hL.sat).left⟩
 refine aM0 hr _ _ _ (ad:=⟨b,0,none⟩) (by simp[f.get _ _ hx]) ?_;obtain⟨h1,h2⟩:=aBD hT w;unfold loadVar;rw[bJ h1];simp only[if_true];rw[bJ h2];have:=l8 (P:=P) (hs.at i) m vs 0 0 [] (by simpa using hv) hn;simp only[List.nil_append]at this;unfold loadCells;rw[bJ this];rfl
section
variable{E:Env}{c x y:Code}{fr:Fr}{K:Hl}{L:List Asn}{Q:Post}{α β γ:Type}
def Rnd3(E:Env)(I:α→β→γ→Prop)(fr':α→β→γ→Fr)(K':α→β→γ→Hl)(L':α→β→γ→List Asn)(μ:α→β→γ→Nat)(m:Nat):Act→World→Prop:=
 fun a w=>∃i j k,I i j k∧μ i j k < m∧FrOk E.n E.ds (fr' i j k) a∧In E.w0 E.F (K' i j k) (L' i j k) w
def lK(I:α→β→γ→Prop)(fr':α→β→γ→Fr)(K':α→β→γ→Hl)(L':α→β→γ→List Asn)(μ:α→β→γ→Nat)(i0:α)(j0:β)(k0:γ)(h0:I i0 j0 k0)(k:Kp fr (fr' i0 j0 k0))(hK:K' i0 j0 k0=K)(hL:∀h,Sat L h→Sat (L' i0 j0 k0) h)
  (round:∀i j k,I i j k→T E c (fr' i j k) (K' i j k) (L' i j k) (Exit.then (Rnd3 E I fr' K' L' μ (μ i j k)) Q)):T E (.loop c) fr K L Q:=by
 refine eH (fun p:α×β×γ=>I p.1 p.2.1 p.2.2) (fun p=>fr' p.1 p.2.1 p.2.2) (fun p=>K' p.1 p.2.1 p.2.2) (fun p=>L' p.1 p.2.1 p.2.2) (fun p=>μ p.1 p.2.1 p.2.2) (i0,j0,k0) h0 k hK hL ?_;rintro⟨i,j,k⟩ hI a w f w1;refine Code.wp_mono ?_ (round i j k hI a w f w1)
 exact zN fun a w ⟨i',j',k',h1,h2,h3,h4⟩=>⟨(i',j',k'),h1,h2,h3,h4⟩
def eF{I:α→β→γ→Prop}{fr':α→β→γ→Fr}{K':α→β→γ→Hl}{L':α→β→γ→List Asn}{μ:α→β→γ→Nat}{m:Nat}(i:α)(j:β)(l:γ)(hj:I i j l)(hlt:μ i j l < m)(k:Kp fr (fr' i j l))(hK:K' i j l=K)(hL:∀h,Sat L h→Sat (L' i j l) h):
  D E .normal fr K L (Exit.then (Rnd3 E I fr' K' L' μ m) Q):=
 fun a w f q=>⟨i,j,l,hj,hlt,f.keep k,by rw[hK];exact q.imp hL⟩
end
def In.forget{w0 w:World}{F K K1:Hl}{L:List Asn}(le:K.le K1)(i:In w0 F K1 L w):In w0 F K L w:=by
 obtain⟨h,hs,d1,d2,d3,l1,l2,l3⟩:=i.rep;have dd:∀ {k:Hl},K1.dj k→K.dj k:=by
  intro k d x;rcases d x with e|e
  ·left
   cases hk:K x with
   |none=>rfl
   |some o=>rw[le x o hk]at e;cases e
  exact .inr e
 exact⟨i.os,i.tape,i.output,i.size,h,hs,(dd d1.symm).symm,d2,dd d3,l1,Hl.le_trans le l2,l3⟩
def aWJ{P:Program}{f:FuncId}{args:List Value}{K:Hl}{L:List Asn}{R:Ending→List Asn→Prop}(h:Sp P f args K L (fun e _ L'=>R e L')):Sp P f args K L (fun e K' L'=>K'=K∧R e L'):=
 ⟨h.1,fun F w i=>(h.2 F w i).mono fun e w' ⟨K',L',hR,le,j⟩=>⟨K,L',⟨rfl,hR⟩,Hl.le_refl _,j.forget le⟩⟩
def fB{E:Env}{x:Exit}{fr:Fr}{K:Hl}{L:List Asn}{Q:Post}{b:Nat}{o:Obj}(h:∀K',K.le K'→K' b=some o→D E x fr K' L Q):D E x fr K (pt b o::L) Q:=fun a w f i=>let ⟨h1,h2,h3⟩:=i.settle;h _ h1 h2 a w f h3
end Go.SL
end
section
namespace Go.SL
def In.settleSl{α:Type}{z:Bool}{k:El α}{w0 w:World}{F K:Hl}{v:Value}{xs:List α}{L:List Asn}(i:In w0 F K (sl z k v xs::L) w):
  ∃K',K.le K'∧Ksl k K' v xs∧In w0 F K' L w:=by
 obtain⟨h,⟨a,l,ha,hl,hal,rfl⟩,r⟩:=i.rep;rcases ha with ⟨rfl,rfl,rfl⟩|⟨b,cap,junk,fz,rfl,hz,hc,hj,hf,rfl⟩
 ·refine⟨K,Hl.le_refl _,.inl ⟨none,0,Y,Y⟩,⟨i.os,i.tape,i.output,i.size,l,hl,?_⟩⟩
  have e:Hl.join Hl.emp l=l:=by funext x;simp[Hl.join,Hl.emp]
  rw[e]at r;exact r
 have i2:In w0 F K (pt b (bL (k.cs xs++junk) k.e fz)::L) w:=⟨i.os,i.tape,i.output,i.size,_,⟨_,l,rfl,hl,hal,rfl⟩,r⟩;obtain⟨h1,h2,h3⟩:=i2.settle;refine⟨_,h1,.inr ⟨b,0,cap,k.cs xs++junk,fz,Y,⟨_,h2⟩,?_⟩,h3⟩
 rw[xBG,←k.cs_length,List.take_left]
section
variable{E:Env}{c:Code}{ops:Array Oper}{x:Exit}{fr:Fr}{K:Hl}{L:List Asn}{Q:Post}{α:Type}{z:Bool}{k:El α}{v:Value}{xs:List α}
def fZ{l:List Oper}(h:∀K',K.le K'→Ksl k K' v xs→OL E ops l fr K' L Q):OL E ops l fr K (sl z k v xs::L) Q:=fun a w f i=>let ⟨_,h1,h2,h3⟩:=i.settleSl;h _ h1 h2 a w f h3
def gW(h:∀K',K.le K'→Ksl k K' v xs→D E x fr K' L Q):D E x fr K (sl z k v xs::L) Q:=fun a w f i=>let ⟨_,h1,h2,h3⟩:=i.settleSl;h _ h1 h2 a w f h3
end
def Ksl.one{α:Type}{k:El α}{K:Hl}{v:Value}{xs:List α}(h:Ksl k K v xs):v.oneCell'=true:=by
 rcases h with ⟨a0,c,rfl,_⟩|⟨b,off,cap,cells,fz,rfl,_,_⟩ <;> rfl
def Ksl.isSlice{α:Type}{k:El α}{K:Hl}{v:Value}{xs:List α}(h:Ksl k K v xs):∃a n c,v=.slice a n c:=by
 rcases h with ⟨a0,c,rfl,_⟩|⟨b,off,cap,cells,fz,rfl,_,_⟩
 ·exact⟨_,_,_,Y⟩
 exact⟨_,_,_,Y⟩
def o7{E:Env}{x:Exit}{fr:Fr}{K K2:Hl}{L:List Asn}{Q:Post}(le:K.le K2)(h:D E x fr K L Q):D E x fr K2 L Q:=fun a w f i=>h a w f (i.forget le)
def eL{α:Type}(k:El α){L:List Asn}:∀h,Sat L h→Sat (sl false k (.slice none 0 0) []::L) h:=fun h hh=>
 ⟨Hl.emp,h,.inl ⟨rfl,rfl,rfl⟩,hh,fun _=>.inl rfl,by funext x;simp[Hl.join,Hl.emp]⟩
abbrev Cell:={v:Value//v.oneCell'=true}
def cC(e:TypeId):El Cell:={e:=e,sz:=1,enc:=fun c=>[c.1],len:=fun _=>rfl,one:=fun c u h=>by simp at h;subst h;exact c.2}
def dT(e:TypeId):El (Cell×Cell):={e:=e,sz:=2,enc:=fun c=>[c.1.1,c.2.1],len:=fun _=>rfl,one:=fun c u h=>by simp at h;rcases h with rfl|rfl;exact c.1.2;exact c.2.2}
section
variable{E:Env}{c x y:Code}{fr:Fr}{K:Hl}{L:List Asn}{Q:Post}{α β γ δ:Type}
def Rnd4(E:Env)(I:α→β→γ→δ→Prop)(fr':α→β→γ→δ→Fr)(K':α→β→γ→δ→Hl)(L':α→β→γ→δ→List Asn)(μ:α→β→γ→δ→Nat)(m:Nat):Act→World→Prop:=
 fun a w=>∃i j k l,I i j k l∧μ i j k l < m∧FrOk E.n E.ds (fr' i j k l) a∧In E.w0 E.F (K' i j k l) (L' i j k l) w
def nZ(I:α→β→γ→δ→Prop)(fr':α→β→γ→δ→Fr)(K':α→β→γ→δ→Hl)(L':α→β→γ→δ→List Asn)(μ:α→β→γ→δ→Nat)(i0:α)(j0:β)(k0:γ)(l0:δ)(h0:I i0 j0 k0 l0)(k:Kp fr (fr' i0 j0 k0 l0))(hK:K' i0 j0 k0 l0=K)(hL:∀h,Sat L h→Sat (L' i0 j0 k0 l0) h)
  (round:∀i j k l,I i j k l→T E c (fr' i j k l) (K' i j k l) (L' i j k l) (Exit.then (Rnd4 E I fr' K' L' μ (μ i j k l)) Q)):T E (.loop c) fr K L Q:=by
 refine eH (fun p:α×β×γ×δ=>I p.1 p.2.1 p.2.2.1 p.2.2.2) (fun p=>fr' p.1 p.2.1 p.2.2.1 p.2.2.2) (fun p=>K' p.1 p.2.1 p.2.2.1 p.2.2.2) (fun p=>L' p.1 p.2.1 p.2.2.1 p.2.2.2) (fun p=>μ p.1 p.2.1 p.2.2.1 p.2.2.2) (i0,j0,k0,l0) h0 k hK hL ?_;rintro⟨i,j,k,l⟩ hI a w f w1;refine Code.wp_mono ?_ (round i j k l hI a w f w1)
 exact zN fun a w ⟨i',j',k',l',h1,h2,h3,h4⟩=>⟨(i',j',k',l'),h1,h2,h3,h4⟩
def fH{I:α→β→γ→δ→Prop}{fr':α→β→γ→δ→Fr}{K':α→β→γ→δ→Hl}{L':α→β→γ→δ→List Asn}{μ:α→β→γ→δ→Nat}{m:Nat}(i:α)(j:β)(l:γ)(n:δ)(hj:I i j l n)(hlt:μ i j l n < m)(k:Kp fr (fr' i j l n))(hK:K' i j l n=K)(hL:∀h,Sat L h→Sat (L' i j l n) h):
  D E .normal fr K L (Exit.then (Rnd4 E I fr' K' L' μ m) Q):=
 fun a w f q=>⟨i,j,l,n,hj,hlt,f.keep k,by rw[hK];exact q.imp hL⟩
end
section
variable{E:Env}{c x y:Code}{fr:Fr}{K:Hl}{L:List Asn}{Q:Post}{α1 α2 α3 α4 α5 α6 α7:Type}
def Rnd7(E:Env)(I:α1→α2→α3→α4→α5→α6→α7→Prop)(fr':α1→α2→α3→α4→α5→α6→α7→Fr)(K':α1→α2→α3→α4→α5→α6→α7→Hl)(L':α1→α2→α3→α4→α5→α6→α7→List Asn)(μ:α1→α2→α3→α4→α5→α6→α7→Nat)(m:Nat):Act→World→Prop:=
 fun a w=>∃i1 i2 i3 i4 i5 i6 i7,I i1 i2 i3 i4 i5 i6 i7∧μ i1 i2 i3 i4 i5 i6 i7 < m∧FrOk E.n E.ds (fr' i1 i2 i3 i4 i5 i6 i7) a∧In E.w0 E.F (K' i1 i2 i3 i4 i5 i6 i7) (L' i1 i2 i3 i4 i5 i6 i7) w
def aNE(I:α1→α2→α3→α4→α5→α6→α7→Prop)(fr':α1→α2→α3→α4→α5→α6→α7→Fr)(K':α1→α2→α3→α4→α5→α6→α7→Hl)(L':α1→α2→α3→α4→α5→α6→α7→List Asn)(μ:α1→α2→α3→α4→α5→α6→α7→Nat)(i10:α1)(i20:α2)(i30:α3)(i40:α4)(i50:α5)(i60:α6)(i70:α7)(h0:I i10 i20 i30 i40 i50 i60 i70)(k:Kp fr (fr' i10 i20 i30 i40 i50 i60 i70))(hK:K' i10 i20 i30 i40 i50 i60 i70=K)(hL:∀h,Sat L h→Sat (L' i10 i20 i30 i40 i50 i60 i70) h)
  (round:∀i1 i2 i3 i4 i5 i6 i7,I i1 i2 i3 i4 i5 i6 i7→T E c (fr' i1 i2 i3 i4 i5 i6 i7) (K' i1 i2 i3 i4 i5 i6 i7) (L' i1 i2 i3 i4 i5 i6 i7) (Exit.then (Rnd7 E I fr' K' L' μ (μ i1 i2 i3 i4 i5 i6 i7)) Q)):T E (.loop c) fr K L Q:=by
 refine eH (fun p:α1×α2×α3×α4×α5×α6×α7=>I p.1 p.2.1 p.2.2.1 p.2.2.2.1 p.2.2.2.2.1 p.2.2.2.2.2.1 p.2.2.2.2.2.2) (fun p=>fr' p.1 p.2.1 p.2.2.1 p.2.2.2.1 p.2.2.2.2.1 p.2.2.2.2.2.1 p.2.2.2.2.2.2) (fun p=>K' p.1 p.2.1 p.2.2.1 p.2.2.2.1 p.2.2.2.2.1 p.2.2.2.2.2.1 p.2.2.2.2.2.2) (fun p=>L' p.1 p.2.1 p.2.2.1 p.2.2.2.1 p.2.2.2.2.1 p.2.2.2.2.2.1 p.2.2.2.2.2.2) (fun p=>μ p.1 p.2.1 p.2.2.1 p.2.2.2.1 p.2.2.2.2.1 p.2.2.2.2.2.1 p.2.2.2.2.2.2) (i10,i20,i30,i40,i50,i60,i70) h0 k hK hL ?_;rintro⟨i1,i2,i3,i4,i5,i6,i7⟩ hI a w f w1;refine Code.wp_mono ?_ (round i1 i2 i3 i4 i5 i6 i7 hI a w f w1)
 exact zN fun a w ⟨i1',i2',i3',i4',i5',i6',i7',h1,h2,h3,h4⟩=>⟨(i1',i2',i3',i4',i5',i6',i7'),h1,h2,h3,h4⟩
def mS{I:α1→α2→α3→α4→α5→α6→α7→Prop}{fr':α1→α2→α3→α4→α5→α6→α7→Fr}{K':α1→α2→α3→α4→α5→α6→α7→Hl}{L':α1→α2→α3→α4→α5→α6→α7→List Asn}{μ:α1→α2→α3→α4→α5→α6→α7→Nat}{m:Nat}(i1:α1)(i2:α2)(i3:α3)(i4:α4)(i5:α5)(i6:α6)(i7:α7)(hj:I i1 i2 i3 i4 i5 i6 i7)(hlt:μ i1 i2 i3 i4 i5 i6 i7 < m)(k:Kp fr (fr' i1 i2 i3 i4 i5 i6 i7))(hK:K' i1 i2 i3 i4 i5 i6 i7=K)(hL:∀h,Sat L h→Sat (L' i1 i2 i3 i4 i5 i6 i7) h):
  D E .normal fr K L (Exit.then (Rnd7 E I fr' K' L' μ m) Q):=
 fun a w f q=>⟨i1,i2,i3,i4,i5,i6,i7,hj,hlt,f.keep k,by rw[hK];exact q.imp hL⟩
end
def aBA(P:Program)(fn:Func)(w0:World)(F K0:Hl)(R:Ending→Hl→List Asn→Prop):Post:=
 bodyPostD P fn fun e w'=>∃K' L',R e K' L'∧K0.le K'∧In w0 F K' L' w'
def aID{P:Program}{f:FuncId}{fn:Func}{c:Code}{args:List Value}{n:Nat}{K:Hl}{L:List Asn}{R:Ending→Hl→List Asn→Prop}
  (hf:P.funcs[f]?=some fn) (hb:fn.body=some c) (hn:fn.ntmps=n) (hl:Nat.ble args.length n=true) (hname:(fn.name== "runtime.NumGoroutine")=false)
  (h:∀(F:Hl) (w:World),T ⟨P,n,[],w,F⟩ c (Fr.init 0 args n) K L (aBA P fn w F K R)):Sp P f args K L R:=by
 refine⟨⟨fn,hf,hname,by simp[hb]⟩,fun F w i=>calls_of_wp_defers hf hb (h F w _ _ ⟨Y,?_,?_⟩ i)⟩
 ·have:args.length≤n:=xBB hl;simp[hn];omega
 intro k v e;obtain⟨_,h2⟩:=xJ e;have hk:k < args.length:=by
  rcases xAC k args.length with h|h
  ·exact h
  simp[List.getElem?_eq_none h]at h2
 show (args.toArray++Array.replicate _ _)[k]?=some v
 rw[Array.getElem?_append_left gGD]
 simpa using h2
abbrev dfr(f:FuncId)(caps:Array Value):Deferred:={target:=.fn (.func f) caps,args:= #[]}
section
variable{E:Env}{fr:Fr}{K:Hl}{L:List Asn}{Q:Post}{ops:Array Oper}{rest:List Oper}
def aPO{ty:TypeId}{pos:String}{aft:Array Edge}{fv:Operand}{f:FuncId}{caps:Array Value}(hf:fr.ev fv=some (.func (.func f) #[] caps))
  (h:OL ⟨E.P,E.n,dfr f caps::E.ds,E.w0,E.F⟩ ops rest fr K L Q):OL E ops (⟨none,.defer ⟨.value fv,#[],#[]⟩,ty,pos,aft,none⟩::rest) fr K L Q:=by
 intro a w f1 i;refine wpList_plain Y fun k hk=>?_;unfold Oper.wp;have:(execOp a.eval ⟨none,.defer ⟨.value fv,#[],#[]⟩,ty,pos,aft,none⟩).run E.P w=.ok (.defer (dfr f caps)) w:=by
  simp only[execOp,resolve,f1.ev hf,Deferred.ofValue,bind,pure,Sem.bind];simp[Sem.run,dfr]
 rw[this];refine hk _ _ (h _ _ ⟨?_,f1.size,fun k v e=>f1.get k v e⟩ i)
 show dfr f caps::a.defers=_
 rw[f1.defers]
end
def SpD(P:Program)(f:FuncId)(args:List Value)(K:Hl)(L:List Asn)(u:FrameMode)(R:Ending→FrameMode→Hl→List Asn→Prop):Prop:=
 (∃fn,P.funcs[f]?=some fn∧(fn.name== "runtime.NumGoroutine")=false∧fn.body.isSome=true)∧
 ∀F w,In w F K L w→CallsD P f args.toArray u w fun e u' w'=>∃K' L',R e u' K' L'∧K.le K'∧In w F K' L' w'
def bOV{P:Program}{w:World}{ρ:Operand→Value}{d:Nat}{ty:TypeId}{pos:String}{aft:Array Edge}:(execOp ρ ⟨some d,.call ⟨.builtin .recover,#[],#[]⟩,ty,pos,aft,none⟩).run P w=.ok .recover w:=by
 simp only[execOp,resolve,bind,pure,Sem.bind];rfl
def aM9{P:Program}{f:FuncId}{fn:Func}{rest:Code}{args:List Value}{n d d2:Nat}{ty ty2:TypeId}{pos pos2:String}{aft aft2:Array Edge}{id:Nat}{K:Hl}{L:List Asn}{R:Ending→Hl→List Asn→Prop}{u u':FrameMode}{rv:Value}
  (hf:P.funcs[f]?=some fn) (hb:fn.body=some (.seq (.region id #[⟨some d,.call ⟨.builtin .recover,#[],#[]⟩,ty,pos,aft,none⟩,⟨some d2,.assign (.tmp d),ty2,pos2,aft2,none⟩] false) rest)) (hn:fn.ntmps=n) (hl:Nat.ble args.length n=true) (hd:Nat.blt d n=true) (hd2:Nat.blt d2 n=true) (hname:(fn.name== "runtime.NumGoroutine")=false)
  (hrec:∀(c:Frame) (cs:List Frame),c.mode=u→recoverD (c::cs)=some (rv,{c with mode:=u'}::cs)∨(recoverD (c::cs)=none∧rv=.nilIface∧u'=u))
  (h:∀(F:Hl) (w:World),T ⟨P,n,[],w,F⟩ rest ((d2,rv)::(d,rv)::Fr.init 0 args n) K L (wO P fn w F K R)):
  SpD P f args K L u fun e u'' K' L'=>u''=u'∧R e K' L':=by
 refine⟨⟨fn,hf,hname,by simp[hb]⟩,fun F w i=>callsD_of_wpS hf hb fun c0 cs hu=>?_⟩
 have hlen:args.length≤n:=xBB hl;have f0:FrOk n [] (Fr.init 0 args n) {tmps:=args.toArray++Array.replicate (fn.ntmps - args.toArray.size) undef,defers:=[]}:=by
  refine⟨Y,by simp[hn];omega,?_⟩
  intro k v e;obtain⟨_,h2⟩:=xJ e;have hk:k < args.length:=by
   rcases xAC k args.length with h|h
   ·exact h
   simp[List.getElem?_eq_none h]at h2
  show (args.toArray++Array.replicate _ _)[k]?=some v
  rw[Array.getElem?_append_left gGD]
  simpa using h2
 have f2:=(f0.put hd rv).put hd2 rv;refine wpS_seq (wpS_region ?_)
 have fin:∀cs',cs'={c0 with mode:=u'}::cs→(rest.wpS P (bodyPostS P fn c0 cs fun e u'' w'=>∃K' L',(u''=u'∧R e K' L')∧K.le K'∧In w F K' L' w') (({tmps:=args.toArray++Array.replicate (fn.ntmps - args.toArray.size) undef,defers:=[]:Act}.put (some d) rv).put (some d2) rv) cs' w):=by
  intro cs' hcs;refine wpS_of_wp (Code.wp_mono ?_ (h F w _ _ f2 i))
  intro e a' w' q;subst hcs;cases e with
  |normal=>obtain⟨h1,v,h2,K',L',h3,h4,h5⟩:=q;exact⟨h1,_,Y,v,h2,K',L',⟨Y,h3⟩,h4,h5⟩
  |ret=>obtain⟨h1,v,h2,K',L',h3,h4,h5⟩:=q;exact⟨h1,_,Y,v,h2,K',L',⟨Y,h3⟩,h4,h5⟩
  |panic ch=>obtain⟨h1,K',L',h3,h4,h5⟩:=q;exact⟨h1,_,Y,K',L',⟨Y,h3⟩,h4,h5⟩
  |exit id=>exact q.elim
  |goto l=>exact q.elim
  |outgrown=>obtain⟨K',L',h3,h4,h5⟩:=q;exact⟨_,K',L',⟨Y,h3⟩,h4,h5⟩
 have ev:∀(a:Act) (w:World),(execOp (a.put (some d) rv).eval ⟨some d2,.assign (.tmp d),ty2,pos2,aft2,none⟩).run P w=.ok (.value ((a.put (some d) rv).eval (.tmp d))) w:=fun a w=>rfl
 have evd:({tmps:=args.toArray++Array.replicate (fn.ntmps - args.toArray.size) undef,defers:=[]:Act}.put (some d) rv).eval (.tmp d)=rv:=(f0.put hd rv).ev (x:=.tmp d) (by simp[Fr.ev,Fr.get])
 show wpOpsS P _ _ [0,1] _ _ _
 unfold wpOpsS;simp only[List.getElem?_toArray,List.getElem?_cons_zero,Region.wanted,if_true];rw[bOV];simp only[];rcases hrec c0 cs hu with hr|⟨hr,e1,e2⟩
 ·rw[hr];simp only[];unfold wpOpsS;simp only[List.getElem?_toArray,List.getElem?_cons_succ,List.getElem?_cons_zero,Region.wanted,if_true];rw[ev];simp only[];rw[evd];exact fin _ Y
 rw[hr];simp only[];unfold wpOpsS;simp only[List.getElem?_toArray,List.getElem?_cons_succ,List.getElem?_cons_zero,Region.wanted,if_true];have ev':∀(a:Act) (w:World),(execOp (a.put (some d) .nilIface).eval ⟨some d2,.assign (.tmp d),ty2,pos2,aft2,none⟩).run P w=.ok (.value ((a.put (some d) .nilIface).eval (.tmp d))) w:=fun a w=>rfl
 rw[ev'];simp only[];subst e1;rw[evd];refine fin _ ?_;rw[e2,←hu]
def zY(c:Frame)(cs:List Frame)(h:c.mode=.returning):recoverD (c::cs)=some (.nilIface,{c with mode:=.returning}::cs)∨(recoverD (c::cs)=none∧Value.nilIface=.nilIface∧FrameMode.returning=.returning):=
 .inr ⟨by cases c;simp only at h;subst h;rfl,rfl,rfl⟩
def zX{v:Value}(c:Frame)(cs:List Frame)(h:c.mode=.panicking [{v,recovered:=false}]):
  recoverD (c::cs)=some (v,{c with mode:=.panicking [{v,recovered:=true}]}::cs)∨(recoverD (c::cs)=none∧v=.nilIface∧FrameMode.panicking [{v,recovered:=true}]=.panicking [{v,recovered:=false}]):=
 .inl (by cases c;simp only at h;subst h;rfl)
section
variable{P:Program}{fn:Func}{n:Nat}{w0:World}{F K0 K:Hl}{fr:Fr}{L L1 L2:List Asn}{R:Ending→Hl→List Asn→Prop}
def aHC{f:FuncId}{caps:Array Value}{u:FrameMode}{RD:Ending→FrameMode→Hl→List Asn→Prop}{a:Act}{w:World}(fo:FrOk n [dfr f caps] fr a)(i:In w0 F K L w)(hu:u≠.run)(hL:Tks L1 L L2)(hs:SpD P f caps.toList K L1 u RD)
  (hret:∀v u' K' L',RD (.returned v) u' K' L'→K.le K'→settle u'=.returning∧∀w',In w0 F K' (L'++L2) w'→∃v,(results fn a.tmps).run P w'=.ok v w'∧∃K'' L'',R (.returned v) K'' L''∧K0.le K''∧In w0 F K'' L'' w')
  (hpan:∀ch u' K' L',¬RD (.panicked ch) u' K' L') (hout:∀u' K' L',¬RD .outgrown u' K' L'):
  Leaves P fn a.tmps (fun e w'=>∃K' L',R e K' L'∧K0.le K'∧In w0 F K' L' w') a.defers u w:=by
 rw[fo.defers];obtain⟨F',i1,back⟩:=(i.imp hL.sat).hide;obtain⟨⟨g,g1,g2,g3⟩,hs⟩:=hs;refine leaves_cons hu (f:=f) (args:=caps.toList.toArray) ?_ ((hs F' w i1).mono fun e u' w' ⟨K',L',r,le,j⟩=>?_)
 ·have:=aDC (vs:=caps) g1 g2 g3 w;simp only[invoke]
  simpa using this
 cases e with
 |returned v=>
  obtain⟨h1,h2⟩:=hret _ _ _ _ r le;simp only[];rw[h1];exact h2 w' (back j)
 |panicked ch=>exact absurd r (hpan _ _ _ _)
 |outgrown=>exact absurd r (hout _ _ _)
end
def qB{P:Program}{w:World}{T u:TypeId}{b:Nat}{l:List Value}{fz:Nat×Nat}{v:Value}(ht:fP P T=true)(h:w.heap[b]?=some (bL l u fz))(hv:l[0]?=some v):(loadVar T ⟨b,0,none⟩).run P w=.ok v w:=by
 obtain⟨h1,h2⟩:=rB ht w;unfold loadVar;rw[bJ h1];exact xL h hv
def aHX{P:Program}{fn:Func}{t1 t2:Tmp}{T1 T2:TypeId}(h:fn.results= #[.cell t1 T1,.cell t2 T2])(tmps:Array Value)(w:World){a1 a2:Addr}{v1 v2:Value}(e1:tmps.getD t1 undef=.pointer (some a1))(e2:tmps.getD t2 undef=.pointer (some a2))
  (l1:(loadVar T1 a1).run P w=.ok v1 w) (l2:(loadVar T2 a2).run P w=.ok v2 w):(results fn tmps).run P w=.ok (.tuple #[v1,v2]) w:=by
 have e1:tmps[t1]?.getD undef=.pointer (some a1):=by simpa using e1
 have e2:tmps[t2]?.getD undef=.pointer (some a2):=by simpa using e2
 simp[results,h,e1,e2,asAddr,Sem.run_bind,Result.andThen,l1,l2]
inductive Way:Exit→FrameMode→Prop where
 |norm:Way .normal .returning
 |ret:Way .ret .returning
 |pan (ch:List PanicEntry):Way (.panic ch) (.panicking ch)
def Way.ne{x:Exit}{u:FrameMode}(h:Way x u):u≠.run:=by cases h <;> simp
def Way.post{x:Exit}{u:FrameMode}(h:Way x u){P:Program}{fn:Func}{R:Ending→World→Prop}{a:Act}{w:World}(k:Leaves P fn a.tmps R a.defers u w):bodyPostD P fn R x a w:=by
 cases h <;> exact k
section
variable{P:Program}{fn:Func}{n:Nat}{w0:World}{F K0 K:Hl}{fr:Fr}{L L1 L2 M:List Asn}{R:Ending→Hl→List Asn→Prop}{x:Exit}{u u':FrameMode}{f:FuncId}{caps:Array Value}{t1 t2 t3:Nat}{T1 T2 T3 b1 b2 b3:Nat}{RD:Ending→Hl→List Asn→Prop}
def bCK(hw:Way x u)(hr:fn.results= #[.cell t1 T1,.cell t2 T2])(s1:fP P T1=true)(s2:fP P T2=true)(g1:fr.get t1=some (ptr b1))(g2:fr.get t2=some (ptr b2))(hL:Tks L1 L L2)
  (hs:SpD P f caps.toList K L1 u fun e u'' K' L'=>u''=u'∧RD e K' L') (hset:settle u'=.returning)
  (hret:∀e K' L',RD e K' L'→(∃v,e=.returned v)∧(K.le K'→∃v1 v2 M,(∀h,Sat (L'++L2) h→Sat (pt b1 (bL [v1] T1)::pt b2 (bL [v2] T2)::M) h)∧R (.returned (.tuple #[v1,v2])) K' M∧K0.le K')):
  D ⟨P,n,[dfr f caps],w0,F⟩ x fr K L (aBA P fn w0 F K0 R):=fun a w fo i=>by
 refine hw.post (aHC fo i hw.ne hL hs ?_ ?_ ?_)
 ·rintro v u'' K' L' ⟨rfl,hrd⟩ le;refine⟨hset,fun w' j=>?_⟩
  obtain⟨_,h⟩:=hret _ _ _ hrd;obtain⟨v1,v2,M,hsat,hR,le0⟩:=h le;have j2:=j.imp hsat;have c1:=j2.piece;have c2:=(j2.imp (fun h=>iM)).piece;have j3:In w0 F K' M w':=(j2.drop).drop;exact⟨_,aHX hr a.tmps w' (a1:=⟨b1,0,none⟩) (a2:=⟨b2,0,none⟩) (by simp[fo.get _ _ g1]) (by simp[fo.get _ _ g2]) (qB s1 c1 Y) (qB s2 c2 Y),K',M,hR,le0,j3⟩
 ·rintro ch u'' K' L' ⟨_,hrd⟩;obtain⟨⟨v,he⟩,_⟩:=hret _ _ _ hrd;cases he
 rintro u'' K' L' ⟨_,hrd⟩;obtain⟨⟨v,he⟩,_⟩:=hret _ _ _ hrd;cases he
def bH7(hr:fn.results= #[.cell t1 T1,.cell t2 T2])(s1:fP P T1=true)(s2:fP P T2=true)(g1:fr.get t1=some (ptr b1))(g2:fr.get t2=some (ptr b2)){v1 v2:Value}(hL:Tks [pt b1 (bL [v1] T1),pt b2 (bL [v2] T2)] L M)(le:K0.le K)(h:R (.returned (.tuple #[v1,v2])) K M):
  D ⟨P,n,[],w0,F⟩ .ret fr K L (aBA P fn w0 F K0 R):=fun a w fo i=>by
 show Leaves P fn a.tmps _ a.defers .returning w
 rw[fo.defers];have j2:=i.imp hL.sat;have c1:=j2.piece;have c2:=(j2.imp (fun h=>iM)).piece;have j3:In w0 F K M w:=(j2.drop).drop;exact⟨_,aHX hr a.tmps w (a1:=⟨b1,0,none⟩) (a2:=⟨b2,0,none⟩) (by simp[fo.get _ _ g1]) (by simp[fo.get _ _ g2]) (qB s1 c1 Y) (qB s2 c2 Y),K,M,h,le,j3⟩
end
section
variable{E:Env}{fr:Fr}{K:Hl}{L:List Asn}{Q:Post}{dst:Option Tmp}{ty:TypeId}{pos:String}{aft:Array Edge}{g:Option (Nat×Bool)}{x y:Operand}{t t' u:TypeId}{v:Value}{ms:Array (String×TypeId)}
def w9{P:Program}(w:World)(hu:P.underlying t=some (.interface ms)):(Op.equal t (.iface u v) .nilIface).run P w=.ok false w:=by
 have h:∀d:Nat,(Op.equalIn (d+1) t (.iface u v) .nilIface).run P w=.ok false w:=fun d=>by simp[Op.equalIn,run_underlying hu]
 exact h 9999
def zS{P:Program}(w:World)(hu:P.underlying t=some (.interface ms)):(Op.equal t .nilIface .nilIface).run P w=.ok true w:=by
 have h:∀d:Nat,(Op.equalIn (d+1) t .nilIface .nilIface).run P w=.ok true w:=fun d=>by simp[Op.equalIn,run_underlying hu]
 exact h 9999
def vW(hu:E.P.underlying t=some (.interface ms))(hx:fr.ev x=some (.iface u v))(hy:fr.ev y=some .nilIface):Ev E fr K L ⟨dst,.binOp .neq t x y t',ty,pos,aft,g⟩ (.bool true):=
 jN hx hy (fun w=>by first|rfl|(unfold eqGuard;simp[run_underlying hu])) fun w=>by
  simp only[binOp];rw[bJ (w9 w hu)];rfl
def aAI(hu:E.P.underlying t=some (.interface ms))(hx:fr.ev x=some .nilIface):Ev E fr K L ⟨dst,.binOp .neq t x (.const .nilIface) t',ty,pos,aft,g⟩ (.bool false):=
 jN hx (v:=.nilIface) rfl (fun w=>by unfold eqGuard;simp) fun w=>by
  simp only[binOp];rw[bJ (zS w hu)];rfl
def jD(hu:E.P.underlying t=some (.interface ms))(hx:fr.ev x=some (.iface u v))(hy:fr.ev y=some .nilIface):Ev E fr K L ⟨dst,.binOp .eql t x y t',ty,pos,aft,g⟩ (.bool false):=
 jN hx hy (fun w=>by first|rfl|(unfold eqGuard;simp[run_underlying hu])) fun w=>by
  simp only[binOp];rw[bJ (w9 w hu)];rfl
def aAH(hu:E.P.underlying t=some (.interface ms))(hx:fr.ev x=some .nilIface):Ev E fr K L ⟨dst,.binOp .eql t x (.const .nilIface) t',ty,pos,aft,g⟩ (.bool true):=
 jN hx (v:=.nilIface) rfl (fun w=>by unfold eqGuard;simp) fun w=>by
  simp only[binOp];rw[bJ (zS w hu)];rfl
end
def zH{v:Value}:∀ {l:List Value} {o:Nat},o < l.length→SetAt l o v (l.set o v):=by
 intro l;induction l with
 |nil=>intro o h;simp at h
 |cons a l ih=>
  intro o h;cases o with
  |zero=>exact .zero
  |succ o=>exact .succ (ih gFC)
section
variable{α:Type}{k:El α}{z:Bool}{v:Value}{xs:List α}
def bF2{L:List Asn}{h:Hl}(hx:xs≠[])(hs:Sat (sl z k v xs::L) h):∃b cap junk fz,v=.slice (some ⟨b,0,none⟩) xs.length cap∧xs.length≤cap∧junk.length=(cap - xs.length)*k.sz∧FzOk (cap*k.sz) fz∧Sat (pt b (bL (k.cs xs++junk) k.e fz)::L) h:=by
 obtain⟨a,l,ha,hl,hd,he⟩:=hs;rcases ha with ⟨_,e,_⟩|⟨b,cap,junk,fz,h1,h2,h3,h4,h5,h6⟩
 ·exact absurd e hx
 exact⟨b,cap,junk,fz,h1,h3,h4,h5,a,l,h6,hl,hd,he⟩
def bF3{L:List Asn}{h:Hl}{b cap:Nat}{junk cells:List Value}{fz:Nat×Nat}(hz:z=true→xs≠[])(hc:xs.length≤cap)(hj:junk.length=(cap - xs.length)*k.sz)(hf:FzOk (cap*k.sz) fz)(he:cells=k.cs xs++junk)
  (hs:Sat (pt b (bL cells k.e fz)::L) h):Sat (sl z k (.slice (some ⟨b,0,none⟩) xs.length cap) xs::L) h:=by
 subst he;obtain⟨a,l,ha,hl,hd,hh⟩:=hs;exact⟨a,l,.inr ⟨b,cap,junk,fz,Y,hz,hc,hj,hf,ha⟩,hl,hd,hh⟩
def bM9{E:Env}{c:Code}{fr:Fr}{K:Hl}{L:List Asn}{Q:Post}(hx:xs≠[])(h:∀b cap junk fz,v=.slice (some ⟨b,0,none⟩) xs.length cap→xs.length≤cap→junk.length=(cap - xs.length)*k.sz→FzOk (cap*k.sz) fz→T E c fr K (pt b (bL (k.cs xs++junk) k.e fz)::L) Q):
  T E c fr K (sl z k v xs::L) Q:=fun a w f i=>by
 obtain⟨x,hs,r⟩:=i.rep;obtain⟨b,cap,junk,fz,h1,h2,h3,h4,h5⟩:=bF2 hx hs;exact h b cap junk fz h1 h2 h3 h4 a w f ⟨i.os,i.tape,i.output,i.size,x,h5,r⟩
def cs_set(k:El α){i j:Nat}{u:Value}{x x':α}{junk:List Value}(hj:j < k.sz)(he:(k.enc x).set j u=k.enc x'):∀ {xs:List α},xs[i]?=some x→(k.cs xs++junk).set (i*k.sz+j) u=k.cs (xs.set i x')++junk:=by
 induction i with
 |zero=>
  intro xs hx;cases xs with
  |nil=>simp at hx
  |cons y xs=>
   simp at hx;subst hx
   simp only[El.cs,List.flatMap_cons,List.set_cons_zero,Nat.zero_mul,Nat.zero_add,List.append_assoc];rw[List.set_append_left _ _ (by rw[k.len];exact hj),he]
 |succ i ih=>
  intro xs hx;cases xs with
  |nil=>simp at hx
  |cons y xs=>
   have:=ih (by simpa using hx);simp only[El.cs,List.flatMap_cons,List.set_cons_succ,List.append_assoc]at this ⊢;rw[List.set_append_right _ _ (by rw[k.len,Nat.succ_mul];omega),k.len,show (i+1)*k.sz+j - k.sz=i*k.sz+j from by rw[Nat.succ_mul];omega,this]
end
def bAO(b off n c m:Nat):nG (.slice (some ⟨b,off,none⟩) n c) m=ptr b (off+m):=by
 simp[nG,Addr.add]
def aGP{α:Type}{k:El α}{xs:List α}{E:Env}{fr:Fr}{K:Hl}{L:List Asn}{dst:Option Tmp}{ty:TypeId}{pos:String}{aft:Array Edge}{g:Option (Nat×Bool)}{x y:Operand}{t:TypeId}{b off n c j m:Nat}{jv:Int}{kk:IntKind}(hm:off+j*k.sz=m)(ht:i8 E.P t k.e k.sz=true)(hx:fr.ev x=some (.slice (some ⟨b,off,none⟩) n c))(hs:SeesSl k K L (.slice (some ⟨b,off,none⟩) n c) xs)(hy:fr.ev y=some (.int kk jv))(hjv:jv=(j:Int))(hj:j < xs.length):
  Ev E fr K L ⟨dst,.indexAddr t x y,ty,pos,aft,g⟩ (ptr b m):=by
 have:=aX (dst:=dst) (ty:=ty) (pos:=pos) (aft:=aft) (g:=g) ht hx hs hy hjv hj;rw[bAO,hm]at this;exact this
end Go.SL
end
section
namespace Go
open Go.SL
def xAB:=@Hl.le_refl
def x6:=@Hl.le_trans
noncomputable abbrev x3:=Go.Proofs.Tryz.prog
end Go
namespace Go.Proofs
open Go Go.SL
set_option maxRecDepth 100000
def mixed:x3.follows .mixedOrders=true:=cY
def m6:aggB x3 179 3=true:=cY
def sC:aggB x3 207 4=true:=cY
def aUN:aggB x3 73 2=true:=cY
def bJ4:aggB x3 258 3=true:=cY
def bJ5:aggB x3 261 1=true:=cY
def j5:aggB x3 35 4=true:=cY
def bJ6:aggB x3 269 1=true:=cY
def bJ7:aggB x3 273 1=true:=cY
def bJ8:aggB x3 276 2=true:=cY
def aNI:aggB x3 284 3=true:=cY
def uA:aggB x3 287 1=true:=cY
def mK:aggB x3 75 2=true:=cY
def zI:aggB x3 324 2=true:=cY
def aNJ:aggB x3 329 2=true:=cY
def aNK:aggB x3 333 5=true:=cY
def iF:aggB x3 45 7=true:=cY
def aNL:aggB x3 343 2=true:=cY
def bK8:fT x3 131=some ([.int .i64 0,.int .i64 0],[(0,1),(1,1)]):=cY
def bGS:fR x3 131=true:=cY
def bO4:fT x3 167=some ([(str []),(str []),.int .i64 0,.slice none 0 0,.slice none 0 0,.bool false],[(0,4),(4,1),(5,1)]):=cY
def bNC:fR x3 167=true:=cY
def bO5:fT x3 170=some ([(str []),(str []),.int .i64 0,.slice none 0 0,.slice none 0 0,.bool false,.bool false,.map none,.slice none 0 0,.slice none 0 0,.int .i64 0],[(0,6),(6,1),(7,1),(8,1),(9,1),(10,1)]):=cY
def bND:fR x3 170=true:=cY
def aWP:fT x3 207=some ([.int .u8 0,(str []),.int .i64 0,.int .i64 0],[(0,1),(1,1),(2,1),(3,1)]):=cY
def aNO:fR x3 207=true:=cY
def bO7:fT x3 209=some ([(str []),.int .i64 0,.int .u8 0,(str []),.int .i64 0,.int .i64 0],[(0,1),(1,1),(2,4)]):=cY
def bNE:fR x3 209=true:=cY
def bO8:fT x3 213=some ([(str []),.int .i64 0,.int .u8 0,(str []),.int .i64 0,.int .i64 0,.slice none 0 0,.slice none 0 0,.map none,.map none],[(0,6),(6,2),(8,1),(9,1)]):=cY
def bNF:fR x3 213=true:=cY
def bO9:fT x3 222=some ([.slice none 0 0],[(0,1)]):=cY
def bNG:fR x3 222=true:=cY
def bQG:fT x3 73=some ([(str []),(str [])],[(0,1),(1,1)]):=cY
def bPH:fR x3 73=true:=cY
def bK9:fT x3 258=some ([.int .i64 0,(str []),.int .i64 0],[(0,1),(1,1),(2,1)]):=cY
def bGT:fR x3 258=true:=cY
def bLA:fT x3 261=some ([.int .i64 0],[(0,1)]):=cY
def bGU:fR x3 261=true:=cY
def bPA:fT x3 269=some ([.nilIface],[(0,1)]):=cY
def bNH:fR x3 269=true:=cY
def bPB:fT x3 273=some ([.slice none 0 0],[(0,1)]):=cY
def bNI:fR x3 273=true:=cY
def bLB:fT x3 276=some ([.int .i64 0,.int .i64 0],[(0,1),(1,1)]):=cY
def bGV:fR x3 276=true:=cY
def bPC:fT x3 284=some ([(str []),(str []),.int .i64 0],[(0,1),(1,1),(2,1)]):=cY
def bNJ:fR x3 284=true:=cY
def aJG:fT x3 75=some ([.int .i64 0,(str [])],[(0,1),(1,1)]):=cY
def aAB:fR x3 75=true:=cY
def bPD:fT x3 299=some ([(str [])],[(0,1)]):=cY
def bNK:fR x3 299=true:=cY
def bPE:fT x3 324=some ([.nilIface,.slice none 0 0],[(0,1),(1,1)]):=cY
def bNL:fR x3 324=true:=cY
def bPF:fT x3 329=some ([.bool false,.slice none 0 0],[(0,1),(1,1)]):=cY
def bNM:fR x3 329=true:=cY
def bPG:fT x3 333=some ([.int .i64 0,.bool false,.int .i64 0,.slice none 0 0,.slice none 0 0],[(0,2),(2,1),(3,1),(4,1)]):=cY
def bNN:fR x3 333=true:=cY
def zQ:fT x3 45=some ([.int .i64 0,.int .i64 0,.int .i64 0,.bool false,.slice none 0 0,.slice none 0 0,.int .i64 0],[(0,1),(1,1),(2,1),(3,1),(4,1),(5,1),(6,1)]):=cY
def rU:fR x3 45=true:=cY
def bO1:fT x3 102=some ([.pointer none,.slice none 0 0],[(0,1),(1,1)]):=cY
def bNB:fR x3 102=true:=cY
def rF:elOk x3 142 5 1 1=true:=cY
def aIH:elOk x3 147 198 1 16=true:=cY
def wL:elOk x3 93 4 1 1=true:=cY
def aNR:elOk x3 33 73 2 32=true:=cY
def n3:elOk x3 49 75 2 24=true:=cY
def aII:elOk x3 285 324 2 40=true:=cY
def aIJ:elOk x3 327 264 1 16=true:=cY
def eI:elOk x3 43 9 1 16=true:=cY
def sD:elOk x3 36 45 7 88=true:=cY
def wK:elOk x3 24 3 1 8=true:=cY
def aD4:dB x3 131 0 0=true:=cY
def bA8:dB x3 131 1 1=true:=cY
def o1:dB x3 144 0 0=true:=cY
def iU:dB x3 144 1 1=true:=cY
def sM:dB x3 149 0 0=true:=cY
def zK:dB x3 149 1 1=true:=cY
def n5:dB x3 167 0 0=true:=cY
def iV:dB x3 167 1 4=true:=cY
def u7:dB x3 167 2 5=true:=cY
def e8:dB x3 170 0 0=true:=cY
def aK7:dB x3 170 1 6=true:=cY
def zL:dB x3 170 2 7=true:=cY
def aD5:dB x3 170 3 8=true:=cY
def m0:dB x3 170 4 9=true:=cY
def nJ:dB x3 170 5 10=true:=cY
def iW:dB x3 207 0 0=true:=cY
def kC:dB x3 207 1 1=true:=cY
def bA9:dB x3 207 2 2=true:=cY
def kM:dB x3 207 3 3=true:=cY
def kD:dB x3 209 0 0=true:=cY
def dL:dB x3 209 1 1=true:=cY
def eC:dB x3 209 2 2=true:=cY
def dM:dB x3 213 0 0=true:=cY
def o3:dB x3 213 1 6=true:=cY
def aK8:dB x3 213 2 8=true:=cY
def aK9:dB x3 213 3 9=true:=cY
def sN:dB x3 222 0 0=true:=cY
def aIM:dB x3 73 0 0=true:=cY
def aIN:dB x3 73 1 1=true:=cY
def aD6:dB x3 258 0 0=true:=cY
def aLA:dB x3 258 1 1=true:=cY
def bBA:dB x3 258 2 2=true:=cY
def aLB:dB x3 261 0 0=true:=cY
def aIL:dB x3 35 0 0=true:=cY
def aCW:dB x3 35 1 1=true:=cY
def rG:dB x3 35 2 2=true:=cY
def nK:dB x3 35 3 3=true:=cY
def aLC:dB x3 269 0 0=true:=cY
def aLD:dB x3 273 0 0=true:=cY
def aLE:dB x3 276 0 0=true:=cY
def aLF:dB x3 276 1 1=true:=cY
def aD7:dB x3 284 0 0=true:=cY
def aD8:dB x3 284 1 1=true:=cY
def zM:dB x3 284 2 2=true:=cY
def u9:dB x3 287 0 0=true:=cY
def jH:dB x3 75 0 0=true:=cY
def fQ:dB x3 75 1 1=true:=cY
def qK:dB x3 324 0 0=true:=cY
def aD9:dB x3 324 1 1=true:=cY
def aLG:dB x3 329 0 0=true:=cY
def vA:dB x3 329 1 1=true:=cY
def m4:dB x3 331 0 0=true:=cY
def sO:dB x3 331 1 1=true:=cY
def jT:dB x3 333 0 0=true:=cY
def aLH:dB x3 333 1 2=true:=cY
def aEA:dB x3 333 2 3=true:=cY
def aEB:dB x3 333 3 4=true:=cY
def jR:dB x3 45 0 0=true:=cY
def f8:dB x3 45 1 1=true:=cY
def eS:dB x3 45 2 2=true:=cY
def vB:dB x3 45 3 3=true:=cY
def fJ:dB x3 45 4 4=true:=cY
def jS:dB x3 45 5 5=true:=cY
def lG:dB x3 45 6 6=true:=cY
def aK5:dB x3 102 0 0=true:=cY
def aK6:dB x3 102 1 1=true:=cY
def iX:i8 x3 142 5 1=true:=cY
def yJ:i8 x3 147 198 1=true:=cY
def gI:i8 x3 93 4 1=true:=cY
def aE7:i8 x3 172 175 1=true:=cY
def sR:i8 x3 33 73 2=true:=cY
def jU:i8 x3 49 75 2=true:=cY
def uD:i8 x3 285 324 2=true:=cY
def uE:i8 x3 327 264 1=true:=cY
def cB:i8 x3 43 9 1=true:=cY
def eU:i8 x3 36 45 7=true:=cY
def lY:i8 x3 24 3 1=true:=cY
def bG3:fP x3 126=true:=cY
def aE8:fP x3 141=true:=cY
def kE:fP x3 142=true:=cY
def aIQ:fP x3 147=true:=cY
def aIS:fP x3 342=true:=cY
def bPJ:fP x3 165=true:=cY
def aWQ:fP x3 168=true:=cY
def vG:fP x3 93=true:=cY
def bPK:fP x3 175=true:=cY
def bG4:fP x3 182=true:=cY
def tJ:fP x3 204=true:=cY
def pV:fP x3 205=true:=cY
def bLF:fP x3 210=true:=cY
def bLG:fP x3 211=true:=cY
def bLE:fP x3 198=true:=cY
def aIR:fP x3 33=true:=cY
def bPL:fP x3 259=true:=cY
def yK:fP x3 264=true:=cY
def lN:fP x3 49=true:=cY
def ts3:fP x3 3=true:=cY
def n6:fP x3 50=true:=cY
def aRF:fP x3 285=true:=cY
def aRG:fP x3 327=true:=cY
def eP:fP x3 43=true:=cY
def ts4:fP x3 4=true:=cY
def vF:fP x3 36=true:=cY
def bG5:fP x3 341=true:=cY
def ts5:fP x3 5=true:=cY
def aCY:fP x3 83=true:=cY
def aCX:fP x3 100=true:=cY
def ts9:fP x3 9=true:=cY
def bPM:iK x3 255=some (.nilFunc):=cY
def bLH:iK x3 258=some (.agg #[.int .i64 0,(str []),.int .i64 0]):=cY
def bG6:iK x3 261=some (.agg #[.int .i64 0]):=cY
def aWR:iK x3 265=some (.bool false):=cY
def bPN:iK x3 266=some (.nilFunc):=cY
def aRH:iK x3 269=some (.agg #[.nilIface]):=cY
def bPO:iK x3 273=some (.agg #[.slice none 0 0]):=cY
def tv3:iK x3 3=some (.int .i64 0):=cY
def bPP:iK x3 284=some (.agg #[(str []),(str []),.int .i64 0]):=cY
def bG7:iK x3 299=some (.agg #[(str [])]):=cY
def bG8:iK x3 329=some (.agg #[.bool false,.slice none 0 0]):=cY
def bLI:iK x3 333=some (.agg #[.int .i64 0,.bool false,.int .i64 0,.slice none 0 0,.slice none 0 0]):=cY
def bPQ:iK x3 343=some (.agg #[.int .i64 0,.int .i64 0]):=cY
def bG9:dI x3 126=some [.pointer none]:=cY
def bHA:dI x3 144=some [.pointer none,.slice none 0 0]:=cY
def bP0:dI x3 342=some [.nilFunc]:=cY
def bPS:dI x3 175=some [.nilFunc]:=cY
def bHB:dI x3 179=some [.pointer none,.pointer none,.int .u64 0]:=cY
def bLJ:dI x3 207=some [.int .u8 0,(str []),.int .i64 0,.int .i64 0]:=cY
def bPT:dI x3 198=some [.nilIface]:=cY
def bQJ:dI x3 73=some [(str []),(str [])]:=cY
def bNQ:dI x3 35=some [(str []),(str []),.int .i64 0,.slice none 0 0]:=cY
def bPU:dI x3 258=some [.int .i64 0,(str []),.int .i64 0]:=cY
def bPV:dI x3 261=some [.int .i64 0]:=cY
def bLK:dI x3 264=some [.nilIface]:=cY
def bQI:dI x3 49=some [.slice none 0 0]:=cY
def bPW:dI x3 269=some [.nilIface]:=cY
def bPX:dI x3 273=some [.slice none 0 0]:=cY
def tz3:dI x3 3=some [.int .i64 0]:=cY
def bNS:dI x3 50=some [.int .i64 0]:=cY
def bPY:dI x3 276=some [.int .i64 0,.int .i64 0]:=cY
def bLL:dI x3 284=some [(str []),(str []),.int .i64 0]:=cY
def bLM:dI x3 287=some [.slice none 0 0]:=cY
def aIV:dI x3 75=some [.int .i64 0,(str [])]:=cY
def aWT:dI x3 324=some [.nilIface,.slice none 0 0]:=cY
def bLN:dI x3 329=some [.bool false,.slice none 0 0]:=cY
def bLO:dI x3 333=some [.int .i64 0,.bool false,.int .i64 0,.slice none 0 0,.slice none 0 0]:=cY
def bQH:dI x3 43=some [.slice none 0 0]:=cY
def tz4:dI x3 4=some [.bool false]:=cY
def rL:dI x3 45=some [.int .i64 0,.int .i64 0,.int .i64 0,.bool false,.slice none 0 0,.slice none 0 0,.int .i64 0]:=cY
def bPZ:dI x3 341=some [.map none]:=cY
def bP1:dI x3 343=some [.int .i64 0,.int .i64 0]:=cY
def tz5:dI x3 5=some [.int .u8 0]:=cY
def bP2:dI x3 83=some [.nilIface]:=cY
def bPR:dI x3 100=some [.pointer none]:=cY
def tz9:dI x3 9=some [(str [])]:=cY
def tf105_0_0:dB x3 105 0 0=true:=cY
def tf105_1_1:dB x3 105 1 1=true:=cY
def ts103:fP x3 103=true:=cY
def ts152:fP x3 152=true:=cY
def ts159:fP x3 159=true:=cY
def ta118_4:aggB x3 118 4=true:=cY
def tb118:fT x3 118=some ([.int .u8 0,(str []),.int .i64 0,.int .i64 0],[(0,1),(1,1),(2,1),(3,1)]):=cY
def tb118f:fR x3 118=true:=cY
def tf120_0_0:dB x3 120 0 0=true:=cY
def tf120_1_1:dB x3 120 1 1=true:=cY
def tf120_2_2:dB x3 120 2 2=true:=cY
def tf120_3_3:dB x3 120 3 3=true:=cY
def tf120_4_4:dB x3 120 4 4=true:=cY
def tf118_3_3:dB x3 118 3 3=true:=cY
def tf118_0_0:dB x3 118 0 0=true:=cY
def tf91_1_4:dB x3 91 1 4=true:=cY
def tf91_2_5:dB x3 91 2 5=true:=cY
def tf91_3_6:dB x3 91 3 6=true:=cY
def tf91_4_7:dB x3 91 4 7=true:=cY
def tf91_7_10:dB x3 91 7 10=true:=cY
def tf91_8_11:dB x3 91 8 11=true:=cY
def tf91_9_12:dB x3 91 9 12=true:=cY
def tf91_5_8:dB x3 91 5 8=true:=cY
def tf91_6_9:dB x3 91 6 9=true:=cY
def tf91_0_0:dB x3 91 0 0=true:=cY
def tv4:iK x3 4=some (.bool false):=cY
def tz93:dI x3 93=some [.slice none 0 0]:=cY
def tf118_1_1:dB x3 118 1 1=true:=cY
def tf122_0_0:dB x3 122 0 0=true:=cY
def tf122_1_1:dB x3 122 1 1=true:=cY
def ts116:fP x3 116=true:=cY
def tz118:dI x3 118=some [.int .u8 0,(str []),.int .i64 0,.int .i64 0]:=cY
def tf203_0_0:dB x3 203 0 0=true:=cY
def tf203_2_2:dB x3 203 2 2=true:=cY
def tf203_3_3:dB x3 203 3 3=true:=cY
def tf203_4_4:dB x3 203 4 4=true:=cY
def tf203_5_5:dB x3 203 5 5=true:=cY
def tb203f:fR x3 203=true:=cY
def tf118_2_2:dB x3 118 2 2=true:=cY
def tf203_1_1:dB x3 203 1 1=true:=cY
def tf203_6_6:dB x3 203 6 6=true:=cY
def ts153:fP x3 153=true:=cY
def tz159:dI x3 159=some [.pointer none]:=cY
def tb156f:fR x3 156=true:=cY
def tf156_0_0:dB x3 156 0 0=true:=cY
def tf156_1_1:dB x3 156 1 1=true:=cY
def tf156_2_2:dB x3 156 2 2=true:=cY
def tf156_3_3:dB x3 156 3 3=true:=cY
def tf156_4_4:dB x3 156 4 4=true:=cY
def tf156_5_5:dB x3 156 5 5=true:=cY
def ts154:fP x3 154=true:=cY
def tz103:dI x3 103=some [.slice none 0 0]:=cY
def tz152:dI x3 152=some [.pointer none]:=cY
def ta54_3:aggB x3 54 3=true:=cY
def tb54:fT x3 54=some ([.slice none 0 0,.int .i64 0,.int .i64 0],[(0,1),(1,1),(2,1)]):=cY
def tb54f:fR x3 54=true:=cY
def tz54:dI x3 54=some [.slice none 0 0,.int .i64 0,.int .i64 0]:=cY
def tb91f:fR x3 91=true:=cY
def tb69:fT x3 69=some ([.slice none 0 0,.slice none 0 0],[(0,1),(1,1)]):=cY
def tb69f:fR x3 69=true:=cY
def tf32_2_2:dB x3 32 2 2=true:=cY
def tf54_0_0:dB x3 54 0 0=true:=cY
def tf54_1_1:dB x3 54 1 1=true:=cY
def tf54_2_2:dB x3 54 2 2=true:=cY
def ts29:fP x3 29=true:=cY
def tz69:dI x3 69=some [.slice none 0 0,.slice none 0 0]:=cY
def tb105:fT x3 105=some ([.slice none 0 0,.slice none 0 0],[(0,1),(1,1)]):=cY
def tb105f:fR x3 105=true:=cY
def tb120f:fR x3 120=true:=cY
def tb122:fT x3 122=some ([.pointer none,.slice none 0 0],[(0,1),(1,1)]):=cY
def tb122f:fR x3 122=true:=cY
def tf32_0_0:dB x3 32 0 0=true:=cY
def tf32_1_1:dB x3 32 1 1=true:=cY
def tf69_0_0:dB x3 69 0 0=true:=cY
def tf69_1_1:dB x3 69 1 1=true:=cY
def tf71_0_0:dB x3 71 0 0=true:=cY
def tf71_1_1:dB x3 71 1 1=true:=cY
def ts27:fP x3 27=true:=cY
def ts28:fP x3 28=true:=cY
def ts60:fP x3 60=true:=cY
def ts61:fP x3 61=true:=cY
def tz60:dI x3 60=some [.pointer none]:=cY
def tz61:dI x3 61=some [.pointer none]:=cY
def tb71:fT x3 71=some ([.slice none 0 0,.slice none 0 0],[(0,1),(1,1)]):=cY
def tb71f:fR x3 71=true:=cY
def tf32_3_3:dB x3 32 3 3=true:=cY
def ts30:fP x3 30=true:=cY
def tz71:dI x3 71=some [.slice none 0 0,.slice none 0 0]:=cY
def tf38_1_1:dB x3 38 1 1=true:=cY
def tf38_2_2:dB x3 38 2 2=true:=cY
def tf38_3_3:dB x3 38 3 3=true:=cY
def ta38_9:aggB x3 38 9=true:=cY
def tf38_0_0:dB x3 38 0 0=true:=cY
def tb32:fT x3 32=some ([.slice none 0 0,.slice none 0 0,.slice none 0 0,.slice none 0 0],[(0,1),(1,1),(2,1),(3,1)]):=cY
def tb32f:fR x3 32=true:=cY
def tf38_4_4:dB x3 38 4 4=true:=cY
def tf38_5_8:dB x3 38 5 8=true:=cY
def tz38:dI x3 38=some [.int .i64 0,.int .i64 0,.int .i64 0,(str []),(str []),(str []),.int .i64 0,.slice none 0 0,.slice none 0 0]:=cY
def tf306_1_0:dB x3 306 1 0=true:=cY
def tf308_0_0:dB x3 308 0 0=true:=cY
def tf310_1_0:dB x3 310 1 0=true:=cY
def tf312_1_0:dB x3 312 1 0=true:=cY
def tf312_2_1:dB x3 312 2 1=true:=cY
def ts21:fP x3 21=true:=cY
def ta368_257:aggB x3 368 257=true:=cY
def tf316_2_4:dB x3 316 2 4=true:=cY
def tf368_0_0:dB x3 368 0 0=true:=cY
def tf368_1_256:dB x3 368 1 256=true:=cY
def tv9:iK x3 9=some ((str [])):=cY
def tv5:iK x3 5=some (.int .u8 0):=cY
def tf146_0_0:dB x3 146 0 0=true:=cY
def tb316:fT x3 316=some ([.int .u32 0,.int .i32 0,.int .u32 0,.nilIface,.slice none 0 0],[(0,3),(3,1),(4,1)]):=cY
def tb316f:fR x3 316=true:=cY
def tf316_0_0:dB x3 316 0 0=true:=cY
def tf316_1_3:dB x3 316 1 3=true:=cY
def ts314:fP x3 314=true:=cY
def tv207:iK x3 207=some (.agg #[.int .u8 0,(str []),.int .i64 0,.int .i64 0]):=cY
def tf146_1_2:dB x3 146 1 2=true:=cY
def tb146:fT x3 146=some ([.pointer none,.slice none 0 0,.int .i64 0],[(0,2),(2,1)]):=cY
def tb146f:fR x3 146=true:=cY
end Go.Proofs

end
section
namespace Go.Proofs
open Go Go.SL
def aUn{p:Prop}(h:p:=by first|exact Tryz.underlying141|exact Tryz.underlying20|exact Tryz.underlying207|exact Tryz.underlying264|exact Tryz.underlying299|exact Tryz.underlying60|exact Tryz.underlying61|exact Tryz.underlying83|exact Tryz.underlying9):p:=h
def aTs{p:Prop}(h:p:=by first|exact ts103|exact ts116|exact bG3|exact aE8|exact kE|exact aIQ|exact ts153|exact ts154|exact bPJ|exact aWQ|exact tJ|exact pV|exact ts21|exact bLF|exact bLG|exact bPL|exact yK|exact ts27|exact ts28|exact aRF|exact ts29|exact ts3|exact ts30|exact ts314|exact aRG|exact aIR|exact bG5|exact aIS|exact vF|exact ts4|exact eP|exact lN|exact ts5|exact n6|exact ts9|exact vG):p:=h
def aTa{p:Prop}(h:p:=by first|exact ta118_4|exact m6|exact sC|exact aNI|exact uA|exact aNJ|exact aNK|exact aNL|exact j5|exact ta38_9|exact iF|exact ta54_3|exact mK):p:=h
def aTf{p:Prop}(h:p:=by first|exact aK5|exact aK6|exact tf105_0_0|exact tf105_1_1|exact tf118_0_0|exact tf118_1_1|exact tf118_2_2|exact tf118_3_3|exact tf120_0_0|exact tf120_1_1|exact tf120_2_2|exact tf120_3_3|exact tf120_4_4|exact tf122_0_0|exact tf122_1_1|exact aD4|exact bA8|exact o1|exact iU|exact tf146_0_0|exact tf146_1_2|exact sM|exact zK|exact tf156_0_0|exact tf156_1_1|exact tf156_2_2|exact tf156_3_3|exact tf156_4_4|exact tf156_5_5|exact n5|exact iV|exact u7|exact e8|exact aK7|exact zL|exact aD5|exact m0|exact nJ|exact tf203_0_0|exact tf203_1_1|exact tf203_2_2|exact tf203_3_3|exact tf203_4_4|exact tf203_5_5|exact tf203_6_6|exact iW|exact kC|exact bA9|exact kM|exact kD|exact dL|exact eC|exact dM|exact o3|exact aK8|exact aK9|exact sN|exact aD6|exact aLA|exact bBA|exact aLB|exact aLC|exact aLD|exact aLE|exact aLF|exact aD7|exact aD8|exact zM|exact u9|exact tf306_1_0|exact tf308_0_0|exact tf310_1_0|exact tf312_1_0|exact tf312_2_1|exact tf316_0_0|exact tf316_1_3|exact tf316_2_4|exact qK|exact aD9|exact aLG|exact vA|exact tf32_0_0|exact tf32_1_1|exact tf32_2_2|exact tf32_3_3|exact m4|exact sO|exact jT|exact aLH|exact aEA|exact aEB|exact aIL|exact aCW|exact rG|exact nK|exact tf368_0_0|exact tf368_1_256|exact tf38_0_0|exact tf38_1_1|exact tf38_2_2|exact tf38_3_3|exact tf38_4_4|exact tf38_5_8|exact jR|exact f8|exact eS|exact vB|exact fJ|exact jS|exact lG|exact tf54_0_0|exact tf54_1_1|exact tf54_2_2|exact aIM|exact aIN|exact jH|exact fQ|exact tf91_0_0|exact tf91_1_4|exact tf91_2_5|exact tf91_3_6|exact tf91_4_7|exact tf91_5_8|exact tf91_6_9|exact tf91_7_10|exact tf91_8_11|exact tf91_9_12):p:=h
def aTz{p:Prop}(h:p:=by first|exact bPR|exact tz118|exact bG9|exact bHA|exact bHB|exact bLJ|exact bPU|exact bPV|exact bPW|exact bPX|exact bPY|exact bLL|exact bLM|exact aWT|exact bLN|exact bLO|exact bPZ|exact bP0|exact bP1|exact bNQ|exact tz38|exact bQH|exact rL|exact bQI|exact bNS|exact tz54|exact bQJ|exact aIV|exact bP2|exact tz9):p:=h
def aZe{p:Prop}(h:p:=by first|exact .zero|exact .succ .zero|exact .succ (.succ .zero)|exact .succ (.succ (.succ .zero))|exact .succ (.succ (.succ (.succ .zero)))|exact .succ (.succ (.succ (.succ (.succ .zero))))|exact .succ (.succ (.succ (.succ (.succ (.succ .zero)))))|exact .succ (.succ (.succ (.succ (.succ (.succ (.succ .zero))))))|exact .succ (.succ (.succ (.succ (.succ (.succ (.succ (.succ .zero)))))))|exact .succ (.succ (.succ (.succ (.succ (.succ (.succ (.succ (.succ .zero))))))))|exact .succ (.succ (.succ (.succ (.succ (.succ (.succ (.succ (.succ (.succ .zero)))))))))|exact .succ (.succ (.succ (.succ (.succ (.succ (.succ (.succ (.succ (.succ (.succ .zero))))))))))|exact .succ (.succ (.succ (.succ (.succ (.succ (.succ (.succ (.succ (.succ (.succ (.succ .zero)))))))))))):p:=h
def aWh{p:Prop}(h:p:=by first|exact .none Y|exact .on Y Y Y):p:=h
def aEv{p:Prop}(h:p:=by first|(guard_target=~Go.SL.Ev _ _ _ _ ⟨_,.move _,_,_,_,_⟩ _;exact aB Y)|(guard_target=~Go.SL.Ev _ _ _ _ ⟨_,.assign _,_,_,_,_⟩ _;exact aE Y)|(guard_target=~Go.SL.Ev _ _ _ _ ⟨_,.nilCheck _,_,_,_,_⟩ _;exact bG)|(guard_target=~Go.SL.Ev _ _ _ _ ⟨_,.extract _ _,_,_,_,_⟩ _;exact bO Y Y)|(guard_target=~Go.SL.Ev _ _ _ _ ⟨_,.load _ _,_,_,_,_⟩ _;(first|exact aK aTs Y aL Y|exact cO aTa Y aL Y Y))|(guard_target=~Go.SL.Ev _ _ _ _ ⟨_,.fieldAddr _ _ _,_,_,_,_⟩ _;exact aD aTf Y Y)|(guard_target=~Go.SL.Ev _ _ _ _ ⟨_,.pick _ _ _,_,_,_,_⟩ _;(first|exact bC Y Y|exact bH Y Y))|(guard_target=~Go.SL.Ev _ _ _ _ ⟨_,.binOp _ _ _ _ _,_,_,_,_⟩ _;(first|(guard_target=~Go.SL.Ev _ _ _ _ ⟨_,.binOp .eql _ _ _ _,_,_,_,_⟩ _;(first|exact bQ Y Y|exact d7 Y Y|exact jD aUn Y Y|exact aAH aUn Y|exact nA aUn Y Y))|(guard_target=~Go.SL.Ev _ _ _ _ ⟨_,.binOp .neq _ _ _ _,_,_,_,_⟩ _;(first|exact eK Y Y|exact uM Y Y|exact vW aUn Y Y|exact aAI aUn Y|exact aAJ aUn Y Y))|(guard_target=~Go.SL.Ev _ _ _ _ ⟨_,.binOp .add _ _ _ _,_,_,_,_⟩ _;exact bT Y Y aH aH)|(guard_target=~Go.SL.Ev _ _ _ _ ⟨_,.binOp .sub _ _ _ _,_,_,_,_⟩ _;exact hU Y Y aH aH)|(guard_target=~Go.SL.Ev _ _ _ _ ⟨_,.binOp .mul _ _ _ _,_,_,_,_⟩ _;exact oM Y Y aH aH)|(guard_target=~Go.SL.Ev _ _ _ _ ⟨_,.binOp .lss _ _ _ _,_,_,_,_⟩ _;exact cU Y Y)|(guard_target=~Go.SL.Ev _ _ _ _ ⟨_,.binOp .leq _ _ _ _,_,_,_,_⟩ _;exact gM Y Y)|(guard_target=~Go.SL.Ev _ _ _ _ ⟨_,.binOp .gtr _ _ _ _,_,_,_,_⟩ _;exact fI Y Y)|(guard_target=~Go.SL.Ev _ _ _ _ ⟨_,.binOp .geq _ _ _ _,_,_,_,_⟩ _;exact gJ Y Y)))|(guard_target=~Go.SL.Ev _ _ _ _ ⟨_,.call ⟨.builtin _,_,_⟩,_,_,_,_⟩ _;(first|(guard_target=~Go.SL.Ev _ _ _ _ ⟨_,.call ⟨.builtin .len,_,_⟩,_,_,_,_⟩ _;exact bZ Y aUn Y)|(guard_target=~Go.SL.Ev _ _ _ _ ⟨_,.call ⟨.builtin .min,_,_⟩,_,_,_,_⟩ _;exact pZ Y Y)|(guard_target=~Go.SL.Ev _ _ _ _ ⟨_,.call ⟨.builtin .max,_,_⟩,_,_,_,_⟩ _;exact bC9 Y Y)))|(guard_target=~Go.SL.Ev _ _ _ _ ⟨_,.makeFunc _ _ _,_,_,_,_⟩ _;exact lR Y Y)|(guard_target=~Go.SL.Ev _ _ _ _ ⟨_,.index _ _ _,_,_,_,_⟩ _;exact cP aUn Y Y Y b0)|(guard_target=~Go.SL.Ev _ _ _ _ ⟨_,.field _ _ _,_,_,_,_⟩ _;exact oC aUn Y aTs Y Y)|(guard_target=~Go.SL.Ev _ _ _ _ ⟨_,.unOp .not _ _,_,_,_,_⟩ _;exact d8 Y)):p:=h
def zz1{p q:Prop}(h:q)(k:Wq q→p:=by intro h;(first|(guard_target=Go.SL.OL _ _ [] _ _ _ _;(first|refine aG ?_))|(guard_target=Go.SL.OL _ _ (⟨some _,_,_,_,_,none⟩::_) _ _ _ _;(first|refine aA aEv Y ?_|refine cJ (eZ Y Y) Y ?_|refine cJ (dR aTz) Y ?_))|(guard_target=Go.SL.OL _ _ (⟨none,_,_,_,_,none⟩::_) _ _ _ _;(first|refine cD (bX aTs Y Y dA bR aZe Y) Y ?_))|(guard_target=Go.SL.OL _ _ _ _ _ _ _;(first|refine aT Y Y ?_|refine aO Y Y Y ?_|refine fY Y Y Y ?_))|(guard_target=Go.SL.T _ (.cond _ _ _) _ _ _ _;(first|refine dO Y ?_|refine fL Y ?_))|(guard_target=Go.SL.T _ _ _ _ _ _;(first|refine aI ?_|refine aC ?_|refine aW ?_|refine bK ?_|refine cR ?_|refine bD ?_))|(guard_target=Go.SL.D _ _ _ _ _ _;(first|refine aF ?_|refine aV ?_|refine aR ?_|refine bP ?_|refine cK b0 ?_|refine aU ?_|refine bE ?_|refine aZ ?_|refine aN ?_|refine gK Y ?_|refine bI Y Y (Hl.le_refl _) ?_|refine dK Y (Hl.le_refl _) ?_))|(first|refine aJ Y Y aWh Y Y aEv Y ?_|refine bB Y Y (.off Y Y Y) Y ?_|refine cL ?_));exact h.w):p:=k ⟨h⟩
def zz2{p q:Prop}(h:q)(k:Wq q→p:=by intro h;(iterate 2 (refine zz1 ?_));exact h.w):p:=k ⟨h⟩
def zz3{p q:Prop}(h:q)(k:Wq q→p:=by intro h;(iterate 3 (refine zz1 ?_));exact h.w):p:=k ⟨h⟩
def zz4{p q:Prop}(h:q)(k:Wq q→p:=by intro h;(iterate 4 (refine zz1 ?_));exact h.w):p:=k ⟨h⟩
def zz5{p q:Prop}(h:q)(k:Wq q→p:=by intro h;(iterate 5 (refine zz1 ?_));exact h.w):p:=k ⟨h⟩
def zz6{p q:Prop}(h:q)(k:Wq q→p:=by intro h;(iterate 6 (refine zz1 ?_));exact h.w):p:=k ⟨h⟩
def zz7{p q:Prop}(h:q)(k:Wq q→p:=by intro h;(iterate 7 (refine zz1 ?_));exact h.w):p:=k ⟨h⟩
def zz8{p q:Prop}(h:q)(k:Wq q→p:=by intro h;(iterate 8 (refine zz1 ?_));exact h.w):p:=k ⟨h⟩
def zz9{p q:Prop}(h:q)(k:Wq q→p:=by intro h;(iterate 9 (refine zz1 ?_));exact h.w):p:=k ⟨h⟩
def zz10{p q:Prop}(h:q)(k:Wq q→p:=by intro h;(iterate 10 (refine zz1 ?_));exact h.w):p:=k ⟨h⟩
def zz11{p q:Prop}(h:q)(k:Wq q→p:=by intro h;(iterate 11 (refine zz1 ?_));exact h.w):p:=k ⟨h⟩
def zz12{p q:Prop}(h:q)(k:Wq q→p:=by intro h;(iterate 12 (refine zz1 ?_));exact h.w):p:=k ⟨h⟩
def zz13{p q:Prop}(h:q)(k:Wq q→p:=by intro h;(iterate 13 (refine zz1 ?_));exact h.w):p:=k ⟨h⟩
def zz14{p q:Prop}(h:q)(k:Wq q→p:=by intro h;(iterate 14 (refine zz1 ?_));exact h.w):p:=k ⟨h⟩
def zz15{p q:Prop}(h:q)(k:Wq q→p:=by intro h;(iterate 15 (refine zz1 ?_));exact h.w):p:=k ⟨h⟩
def zz16{p q:Prop}(h:q)(k:Wq q→p:=by intro h;(iterate 16 (refine zz1 ?_));exact h.w):p:=k ⟨h⟩
def zz17{p q:Prop}(h:q)(k:Wq q→p:=by intro h;(iterate 17 (refine zz1 ?_));exact h.w):p:=k ⟨h⟩
def zz18{p q:Prop}(h:q)(k:Wq q→p:=by intro h;(iterate 18 (refine zz1 ?_));exact h.w):p:=k ⟨h⟩
def zz19{p q:Prop}(h:q)(k:Wq q→p:=by intro h;(iterate 19 (refine zz1 ?_));exact h.w):p:=k ⟨h⟩
def zz20{p q:Prop}(h:q)(k:Wq q→p:=by intro h;(iterate 20 (refine zz1 ?_));exact h.w):p:=k ⟨h⟩
def zz21{p q:Prop}(h:q)(k:Wq q→p:=by intro h;(iterate 21 (refine zz1 ?_));exact h.w):p:=k ⟨h⟩
def zz22{p q:Prop}(h:q)(k:Wq q→p:=by intro h;(iterate 22 (refine zz1 ?_));exact h.w):p:=k ⟨h⟩
def zz23{p q:Prop}(h:q)(k:Wq q→p:=by intro h;(iterate 23 (refine zz1 ?_));exact h.w):p:=k ⟨h⟩
def zz24{p q:Prop}(h:q)(k:Wq q→p:=by intro h;(iterate 24 (refine zz1 ?_));exact h.w):p:=k ⟨h⟩
def zz25{p q:Prop}(h:q)(k:Wq q→p:=by intro h;(iterate 25 (refine zz1 ?_));exact h.w):p:=k ⟨h⟩
def zz26{p q:Prop}(h:q)(k:Wq q→p:=by intro h;(iterate 26 (refine zz1 ?_));exact h.w):p:=k ⟨h⟩
def zz27{p q:Prop}(h:q)(k:Wq q→p:=by intro h;(iterate 27 (refine zz1 ?_));exact h.w):p:=k ⟨h⟩
def zz28{p q:Prop}(h:q)(k:Wq q→p:=by intro h;(iterate 28 (refine zz1 ?_));exact h.w):p:=k ⟨h⟩
def zz29{p q:Prop}(h:q)(k:Wq q→p:=by intro h;(iterate 29 (refine zz1 ?_));exact h.w):p:=k ⟨h⟩
def zz30{p q:Prop}(h:q)(k:Wq q→p:=by intro h;(iterate 30 (refine zz1 ?_));exact h.w):p:=k ⟨h⟩
def zz31{p q:Prop}(h:q)(k:Wq q→p:=by intro h;(iterate 31 (refine zz1 ?_));exact h.w):p:=k ⟨h⟩
def aM{A As L M N}(h:Tk A L M)(k:Tks As M N):Tks (A::As) L N:=.cons h k
def bF{L}:Tks [] L L:=.nil
def bW{A L}:Tk A (A::L) L:=.here
def cI{A L B0}:Tk A (B0::A::L) (B0::L):=.there (.here)
def e7{A L B0 B1}:Tk A (B0::B1::A::L) (B0::B1::L):=.there (.there (.here))
def nC{A L B0 B1 B2}:Tk A (B0::B1::B2::A::L) (B0::B1::B2::L):=.there (.there (.there (.here)))
def yY{A L B0 B1 B2 B3}:Tk A (B0::B1::B2::B3::A::L) (B0::B1::B2::B3::L):=.there (.there (.there (.there (.here))))
def k5T{A L B0 B1 B2 B3 B4}:Tk A (B0::B1::B2::B3::B4::A::L) (B0::B1::B2::B3::B4::L):=.there (.there (.there (.there (.there (.here)))))
def k6T{A L B0 B1 B2 B3 B4 B5}:Tk A (B0::B1::B2::B3::B4::B5::A::L) (B0::B1::B2::B3::B4::B5::L):=.there (.there (.there (.there (.there (.there (.here))))))
def k7T{A L B0 B1 B2 B3 B4 B5 B6}:Tk A (B0::B1::B2::B3::B4::B5::B6::A::L) (B0::B1::B2::B3::B4::B5::B6::L):=.there (.there (.there (.there (.there (.there (.there (.here)))))))
def k8T{A L B0 B1 B2 B3 B4 B5 B6 B7}:Tk A (B0::B1::B2::B3::B4::B5::B6::B7::A::L) (B0::B1::B2::B3::B4::B5::B6::B7::L):=.there (.there (.there (.there (.there (.there (.there (.there (.here))))))))
def k9T{A L B0 B1 B2 B3 B4 B5 B6 B7 B8}:Tk A (B0::B1::B2::B3::B4::B5::B6::B7::B8::A::L) (B0::B1::B2::B3::B4::B5::B6::B7::B8::L):=.there (.there (.there (.there (.there (.there (.there (.there (.there (.here)))))))))
def bQL{A L B0 B1 B2 B3 B4 B5 B6 B7 B8 B9}:Tk A (B0::B1::B2::B3::B4::B5::B6::B7::B8::B9::A::L) (B0::B1::B2::B3::B4::B5::B6::B7::B8::B9::L):=.there (.there (.there (.there (.there (.there (.there (.there (.there (.there (.here))))))))))
def bOA{A L B0 B1 B2 B3 B4 B5 B6 B7 B8 B9 B10}:Tk A (B0::B1::B2::B3::B4::B5::B6::B7::B8::B9::B10::A::L) (B0::B1::B2::B3::B4::B5::B6::B7::B8::B9::B10::L):=.there (.there (.there (.there (.there (.there (.there (.there (.there (.there (.there (.here)))))))))))
def bQK{A L B0 B1 B2 B3 B4 B5 B6 B7 B8 B9 B10 B11}:Tk A (B0::B1::B2::B3::B4::B5::B6::B7::B8::B9::B10::B11::A::L) (B0::B1::B2::B3::B4::B5::B6::B7::B8::B9::B10::B11::L):=.there (.there (.there (.there (.there (.there (.there (.there (.there (.there (.there (.there (.here))))))))))))
end Go.Proofs
namespace Go.Proofs
open Go Go.SL
def uAa{p q:Prop}(h:q)(k:Wq q→p:=by intro h;refine aQ (aM bW bF) ?_;exact h.w):p:=k ⟨h⟩
def uAb{p q:Prop}(h:q)(k:Wq q→p:=by intro h;refine cD (bX ts3 Y Y dA bR aZe Y) ?_;exact h.w):p:=k ⟨h⟩
def uAc{p q:Prop}(h:q)(k:Wq q→p:=by intro h;refine aA (bU (k:=(a7 9)) Y Tryz.underlying43 Y aL) Y ?_;exact h.w):p:=k ⟨h⟩
def uAd{p q:Prop}(h:q)(k:Wq q→p:=by intro h;refine aQ (aM nC (aM bW (aM bW (aM bW bF)))) ?_;exact h.w):p:=k ⟨h⟩
def uAe{p q:Prop}(h:q)(k:Wq q→p:=by intro h;refine aQ (.cons .here (.cons (.there (.there .here)) (.cons (.there (.there (.there (.there (.there (.there .here)))))) (.cons (.there (.there .here)) (.cons (.there (.there .here)) (.cons (.there (.there .here)) (.cons (.there (.there .here)) (.cons (.there (.there .here)) (.cons (.there (.there .here)) .nil))))))))) ?_;exact h.w):p:=k ⟨h⟩
def uAf{p q:Prop}(h:q)(k:Wq q→p:=by intro h;refine aQ .nil ?_;exact h.w):p:=k ⟨h⟩
def uAg{p q:Prop}(h:q)(k:Wq q→p:=by intro h;refine aA (cE (o:=0) (k:=(a7 9)) ts9 Y aL b0 Y) Y ?_;exact h.w):p:=k ⟨h⟩
def uAh{p q:Prop}(h:q)(k:Wq q→p:=by intro h;refine cD (bX eP Y Y dA bR aZe Y) ?_;exact h.w):p:=k ⟨h⟩
def uAi{p q:Prop}(h:q)(k:Wq q→p:=by intro h;refine cD (bX ts9 Y Y dA bR aZe Y) ?_;exact h.w):p:=k ⟨h⟩
def uAj{p q:Prop}(h:q)(k:Wq q→p:=by intro h;refine aQ (aM e7 (aM bW bF)) ?_;exact h.w):p:=k ⟨h⟩
def uAk{p q:Prop}(h:q)(k:Wq q→p:=by intro h;refine cD (bX ts4 Y Y dA bR aZe Y) ?_;exact h.w):p:=k ⟨h⟩
def uAl{p q:Prop}(h:q)(k:Wq q→p:=by intro h;refine aQ (aM yY (aM bW (aM bW (aM bW bF)))) ?_;exact h.w):p:=k ⟨h⟩
def uAm{p q:Prop}(h:q)(k:Wq q→p:=by intro h;refine cD (bX ts3 Y Y dA bR .zero Y) ?_;exact h.w):p:=k ⟨h⟩
def uAn{p q:Prop}(h:q)(k:Wq q→p:=by intro h;refine aQ (.cons (.there .here) (.cons (.there .here) (.cons (.there .here) (.cons (.there .here) (.cons .here (.cons .here (.cons .here .nil))))))) ?_;exact h.w):p:=k ⟨h⟩
def uAo{p q:Prop}(h:q)(k:Wq q→p:=by intro h;refine aQ (aM bW (aM bW bF)) ?_;exact h.w):p:=k ⟨h⟩
def uAp{p q:Prop}(h:q)(k:Wq q→p:=by intro h;refine cJ (u1 Tryz.underlying9 Tryz.underlying142 Tryz.underlying5 Y) Y ?_;exact h.w):p:=k ⟨h⟩
def uAq{p q:Prop}(h:q)(k:Wq q→p:=by intro h;refine cD (bX aCY Y Y dA bR .zero Y) ?_;exact h.w):p:=k ⟨h⟩
def uAr{p q:Prop}(h:q)(k:Wq q→p:=by intro h;refine aA (bU (k:=a7 9) Y Tryz.underlying43 Y aL) Y ?_;exact h.w):p:=k ⟨h⟩
def uAs{p q:Prop}(h:q)(k:Wq q→p:=by intro h;refine aJ Y Y (.none Y) Y Y (bU (k:=(cC 60)) Y Tryz.underlying27 Y aL) Y ?_;exact h.w):p:=k ⟨h⟩
def uAt{p q:Prop}(h:q)(k:Wq q→p:=by intro h;refine aA (dG zQ rU dF) Y ?_;exact h.w):p:=k ⟨h⟩
def uAu{p q:Prop}(h:q)(k:Wq q→p:=by intro h;refine aJ Y Y (.none Y) Y Y (fW Tryz.underlying9 Y Y Y Y Y aH aH) Y ?_;exact h.w):p:=k ⟨h⟩
def uAv{p q:Prop}(h:q)(k:Wq q→p:=by intro h;refine aQ (aM cI (aM cI (aM bW bF))) ?_;exact h.w):p:=k ⟨h⟩
def uAw{p q:Prop}(h:q)(k:Wq q→p:=by intro h;refine aQ (aM cI (aM bW bF)) ?_;exact h.w):p:=k ⟨h⟩
def uAx{p q:Prop}(h:q)(k:Wq q→p:=by intro h;refine aQ (aM e7 (aM bW (aM bW bF))) ?_;exact h.w):p:=k ⟨h⟩
def uAy{p q:Prop}(h:q)(k:Wq q→p:=by intro h;refine aQ (aM bW (aM cI (aM cI bF))) ?_;exact h.w):p:=k ⟨h⟩
def uAz{p q:Prop}(h:q)(k:Wq q→p:=by intro h;refine aQ (aM bW (aM bW (aM bW bF))) ?_;exact h.w):p:=k ⟨h⟩
def uBa{p q:Prop}(h:q)(k:Wq q→p:=by intro h;refine aQ (.cons .here .nil) ?_;exact h.w):p:=k ⟨h⟩
def uBb{p q:Prop}(h:q)(k:Wq q→p:=by intro h;refine cL ?_;refine uAa ?_;exact h.w):p:=k ⟨h⟩
def uBc{p q:Prop}(h:q)(k:Wq q→p:=by intro h;refine aA (bU (k:=(elB 5)) Y Tryz.underlying142 Y aL) Y ?_;exact h.w):p:=k ⟨h⟩
def uBd{p q:Prop}(h:q)(k:Wq q→p:=by intro h;refine aA (bU (k:=(cC 60)) Y Tryz.underlying27 Y aL) Y ?_;exact h.w):p:=k ⟨h⟩
def uBe{p q:Prop}(h:q)(k:Wq q→p:=by intro h;refine aA (cE (o:=0) (k:=(elB 5)) ts5 Y aL b0 Y) Y ?_;exact h.w):p:=k ⟨h⟩
def uBf{p q:Prop}(h:q)(k:Wq q→p:=by intro h;refine aQ (aM bW (aM e7 (aM e7 (aM bW (aM bW bF))))) ?_;exact h.w):p:=k ⟨h⟩
def uBg{p q:Prop}(h:q)(k:Wq q→p:=by intro h;refine aQ (aM cI (aM cI bF)) ?_;exact h.w):p:=k ⟨h⟩
def uBh{p q:Prop}(h:q)(k:Wq q→p:=by intro h;refine aA (dG aWP aNO (.cons Y Y Y (.skip (.cons .nil)) .nil)) Y ?_;exact h.w):p:=k ⟨h⟩
def uBi{p q:Prop}(h:q)(k:Wq q→p:=by intro h;refine cD (bX lN Y Y dA bR .zero Y) ?_;exact h.w):p:=k ⟨h⟩
end Go.Proofs
end
section
namespace Go.Plain
def takeWhile_stop{α:Type}(p:α→Bool):∀(l:List α) (k:Nat),k≤l.length→(l.take k).all p=true→(∀c,l[k]?=some c→p c=false)→l.takeWhile p=l.take k
 | [],k,hk,_,_=>by simp
 |x::l,0,_,_,h=>by simp[List.takeWhile_cons,h x (by simp)]
 |x::l,k+1,hk,ha,h=>by
  simp only[List.take_succ_cons,List.all_cons,Bool.and_eq_true]at ha;simp only[List.takeWhile_cons,ha.1,if_true,List.take_succ_cons];rw[takeWhile_stop p l k gGD ha.2 (fun c hc=>h c (by simpa using hc))]
def take_all_succ{α:Type}{p:α→Bool}{l:List α}{k:Nat}{c:α}(hc:l[k]?=some c)(h:(l.take k).all p=true)(hp:p c=true):(l.take (k+1)).all p=true:=by
 have hk:k < l.length:=by
  rcases xAC k l.length with h|h
  ·exact h
  simp[List.getElem?_eq_none h]at hc
 rw[xAN hk,List.all_append,h];have:l[k]=c:=by simpa[List.getElem?_eq_getElem hk]using hc
 simp[this,hp]
def mp{α:Type}(f:α→α)(s:List α)(i:Nat):List α:=(s.take i).map f++s.drop i
def mp_zero{α:Type}(f:α→α)(s:List α):mp f s 0=s:=by simp[mp]
def mp_len{α:Type}(f:α→α)(s:List α)(i:Nat):(mp f s i).length=s.length:=by simp[mp];omega
def mp_end{α:Type}(f:α→α)(s:List α){i:Nat}(h:s.length≤i):mp f s i=s.map f:=by simp[mp,List.take_of_length_le h,List.drop_of_length_le h]
def mp_get{α:Type}(f:α→α)(s:List α)(i:Nat):(mp f s i)[i]?=s[i]?:=by
 unfold mp;rcases xAC i s.length with h|h
 ·rw[xBK gC7];simp only[List.length_map,List.length_take,List.getElem?_drop]
  congr 1;omega
 rw[xAD h,xAD];simp;omega
def mp_set{α:Type}{f:α→α}{s:List α}{i:Nat}{c:α}(h:s[i]?=some c):(mp f s i).set i (f c)=mp f s (i+1):=by
 unfold mp;have hi:i < s.length:=by
  rcases xAC i s.length with h'|h'
  ·exact h'
  simp[List.getElem?_eq_none h']at h
 have hc:s[i]=c:=by simpa[List.getElem?_eq_getElem hi]using h
 have hl:((s.take i).map f).length=i:=by simp;omega
 rw[List.set_append_right _ _ (by rw[hl];exact xAA _),hl,Nat.sub_self,xAR hi,List.set_cons_zero,xAN hi,List.map_append,hc];simp
def mp_same{α:Type}{f:α→α}{s:List α}{i:Nat}{c:α}(h:s[i]?=some c)(hf:f c=c):mp f s i=mp f s (i+1):=by
 rw[←mp_set h,hf];have:=mp_get f s i;rw[h]at this
 apply List.ext_getElem?
 intro j;rw[List.getElem?_set];split
 ·rename_i e;subst e
  rw[this];split
  ·rfl
  rename_i h2;rw[xAD aH]at this;cases this
 rfl
end Go.Plain
end
section
namespace Go.Syn
abbrev aP:=List UInt8
def gP(c:UInt8):Bool:=(decide (97≤(c|||32).toNat)&&decide ((c|||32).toNat≤122))||decide (c.toNat=95)
def gD(c:UInt8):Bool:=decide (48≤c.toNat)&&decide (c.toNat≤57)
def eW(c:UInt8):Bool:=gP c||gD c
abbrev Res(α:Type):=Except (Int×Int) α
def mC(s:aP):Nat→Nat→Res Nat
 |0,a=>.ok a
 |f+1,a=>
  match s[a]? with
  |none=>.ok a
  |some c=>
   if c.toNat=32∨c.toNat=9∨c.toNat=13∨c.toNat=10 then mC s f (a+1)
   else if c.toNat=35 then mC s f (a+((s.drop a).takeWhile fun c=>decide (¬c.toNat=10)).length)
   else if c.toNat=47 then
    if ((s[a+1]?).getD 0).toNat≠42 then .ok a
    else if Lib.index (s.drop (min (a+2) s.length)) [42,47] < 0 then .error (2,a)
    else mC s f (a+2+(Lib.index (s.drop (min (a+2) s.length)) [42,47]).toNat+2)
   else .ok a
def skip(s:aP)(a:Nat):Res Nat:=mC s (s.length+1 - a) a
section
variable{s:aP}{f i:Nat}{c:UInt8}
def u4(h:s.length≤i):mC s (f+1) i=.ok i:=by simp only[mC];rw[xAD h]
def lV(hc:s[i]?=some c)(h:c.toNat=32∨c.toNat=9∨c.toNat=13∨c.toNat=10):mC s (f+1) i=mC s f (i+1):=by simp only[mC,hc];rw[x7 h]
def mM(hc:s[i]?=some c)(h:c.toNat=35):mC s (f+1) i=mC s f (i+((s.drop i).takeWhile fun c=>decide (¬c.toNat=10)).length):=by
 simp only[mC,hc];rw[x5 aH,x7 h]
def t8(hc:s[i]?=some c)(h:c.toNat=47)(hn:¬((s[i+1]?).getD 0).toNat=42):mC s (f+1) i=.ok i:=by
 simp only[mC,hc];rw[x5 aH,x5 aH,x7 h,x7 hn]
def aKR(hc:s[i]?=some c)(h:c.toNat=47)(hn:((s[i+1]?).getD 0).toNat=42)(hx:Lib.index (s.drop (min (i+2) s.length)) [42,47] < 0):mC s (f+1) i=.error (2,i):=by
 simp only[mC,hc];rw[x5 aH,x5 aH,x7 h,x5 (by simpa using hn),x7 hx]
def kF(hc:s[i]?=some c)(h:c.toNat=47)(hn:((s[i+1]?).getD 0).toNat=42)(hx:¬Lib.index (s.drop (min (i+2) s.length)) [42,47] < 0):
  mC s (f+1) i=mC s f (i+2+(Lib.index (s.drop (min (i+2) s.length)) [42,47]).toNat+2):=by
 simp only[mC,hc];rw[x5 aH,x5 aH,x7 h,x5 (by simpa using hn),x5 hx]
def t7(hc:s[i]?=some c)(h:¬(c.toNat=32∨c.toNat=9∨c.toNat=13∨c.toNat=10∨c.toNat=35∨c.toNat=47)):mC s (f+1) i=.ok i:=by
 simp only[mC,hc];rw[x5 aH,x5 aH,x5 aH]
def pB(hc:s[i]?=some c)(h:c.toNat=35):0 < ((s.drop i).takeWhile fun c=>decide (¬c.toNat=10)).length∧i+((s.drop i).takeWhile fun c=>decide (¬c.toNat=10)).length≤s.length:=by
 have hi:i < s.length:=by
  rcases xAC i s.length with h|h
  ·exact h
  simp[List.getElem?_eq_none h]at hc
 have e:s[i]=c:=by simpa[List.getElem?_eq_getElem hi]using hc
 have h2:=(List.takeWhile_sublist (fun c:UInt8=>decide (¬c.toNat=10)) (l:=s.drop i)).length_le;simp only[List.length_drop]at h2;refine⟨?_,by omega⟩
 rw[xAR hi,e,xBJ,x7 gC7];simp
end
def kA(lo hi add c:UInt8):UInt8:=if lo.toNat≤c.toNat∧c.toNat≤hi.toNat then c+add else c
def eD(s:aP):aP:=s.map (kA 65 90 32)
def rO(s:aP):aP:=s.map (kA 97 122 224)
def aBO(n:Int)(c:UInt8):Int:=if 2147483648 < n*10+(c.toNat - 48:Nat)then 2147483648 else n*10+(c.toNat - 48:Nat)
def eG(s:aP)(a:Nat):aP:=(s.drop a).takeWhile gD
def gB(ds:aP):Int:=ds.foldl aBO 0
def numC(s:aP)(a:Nat):Nat:=((s[a+(eG s a).length]?).getD 0).toNat
def numN(s:aP)(a:Nat):Int:=if numC s a=77∨numC s a=109 then gB (eG s a)*1024*1024 else if numC s a=75∨numC s a=107 then gB (eG s a)*1024 else gB (eG s a)
def numA(s:aP)(a:Nat):Nat:=if numC s a=77∨numC s a=109∨numC s a=75∨numC s a=107 then a+(eG s a).length+1 else a+(eG s a).length
def number(s:aP)(a:Nat)(wat:Int):Res (Nat×Int):=
 if eW ((s[numA s a]?).getD 0)=true then .error (2,wat)
 else if 2147483647 < numN s a then .error (3,wat)
 else .ok (numA s a,numN s a)
def bCP{n:Int}{c:UInt8}(h:0≤n∧n≤2147483648):0≤aBO n c∧aBO n c≤2147483648:=by
 unfold aBO;split <;> omega
def aSB(ds:aP):∀n:Int,0≤n∧n≤2147483648→0≤ds.foldl aBO n∧ds.foldl aBO n≤2147483648:=by
 induction ds with
 |nil=>intro n h;exact h
 |cons c ds ih=>intro n h;exact ih _ (bCP h)
def yU(ds:aP):0≤gB ds∧gB ds≤2147483648:=aSB ds 0 aH
def wY{ds:aP}{i:Nat}{c:UInt8}(h:ds[i]?=some c):gB (ds.take (i+1))=aBO (gB (ds.take i)) c:=by
 have hi:i < ds.length:=by
  rcases xAC i ds.length with h'|h'
  ·exact h'
  simp[List.getElem?_eq_none h']at h
 have hc:ds[i]=c:=by simpa[List.getElem?_eq_getElem hi]using h
 rw[xAN hi,hc];simp[gB]
def aJY(s:aP)(a:Nat)(h:a≤s.length):a+(eG s a).length≤s.length:=by
 have:=(List.takeWhile_sublist gD (l:=s.drop a)).length_le;simp only[List.length_drop]at this;unfold eG;omega
def zV{α:Type}{p:α→Bool}:∀ {l:List α} {x:α},x∈l.takeWhile p→p x=true
 | [],x,h=>by simp at h
 |y::l,x,h=>by
  rw[xBJ]at h;split at h
  ·rename_i hy;rcases List.mem_cons.1 h with rfl|h
   ·exact hy
   exact zV h
  simp at h
def bCQ{s:aP}{a i:Nat}{c:UInt8}(h:(eG s a)[i]?=some c):48≤c.toNat∧c.toNat≤57:=by
 have:=zV (x8 h)
 simpa[gD]using this
def aMU(s:aP)(a:Nat)(h:a≤s.length):numA s a≤s.length:=by
 have h1:=aJY s a h;unfold numA;split
 ·rename_i hc;rcases xAC (a+(eG s a).length) s.length with h'|h'
  ·omega
  unfold numC at hc;rw[xAD h']at hc;simp at hc
 exact h1
def jC(s:aP)(wat:Int):Nat→Nat→aP→Res (Nat×aP)
 |0,_,_=>.error (2,wat)
 |f+1,a,acc=>
  if a < s.length∧((s[a]?).getD 0).toNat=34 then .ok (a+1,acc)
  else if ((s[a]?).getD 0).toNat=92 then
   if s.length≤a+1 then .error (2,wat)else jC s wat f (a+2) (acc++[(s[a+1]?).getD 0])
  else if s.length≤a then .error (2,wat)else jC s wat f (a+1) (acc++[(s[a]?).getD 0])
def quoted(s:aP)(a:Nat)(wat:Int):Res (Nat×aP):=jC s wat (s.length+1 - a) (a+1) []
section
variable{s acc:aP}{wat:Int}{f i:Nat}
def aEW(h:i < s.length)(hc:((s[i]?).getD 0).toNat=34):jC s wat (f+1) i acc=.ok (i+1,acc):=by
 simp only[jC];rw[x7 ⟨h,hc⟩]
def oZ(hn:¬(i < s.length∧((s[i]?).getD 0).toNat=34))(hc:((s[i]?).getD 0).toNat=92)(h:¬s.length≤i+1):jC s wat (f+1) i acc=jC s wat f (i+2) (acc++[(s[i+1]?).getD 0]):=by
 simp only[jC];rw[x5 hn,x7 hc,x5 h]
def nT(hn:¬(i < s.length∧((s[i]?).getD 0).toNat=34))(hc:((s[i]?).getD 0).toNat=92)(h:s.length≤i+1):jC s wat (f+1) i acc=.error (2,wat):=by
 simp only[jC];rw[x5 hn,x7 hc,x7 h]
def nS(hn:¬(i < s.length∧((s[i]?).getD 0).toNat=34))(hc:¬((s[i]?).getD 0).toNat=92)(h:¬s.length≤i):jC s wat (f+1) i acc=jC s wat f (i+1) (acc++[(s[i]?).getD 0]):=by
 simp only[jC];rw[x5 hn,x5 hc,x5 h]
def oE(hn:¬(i < s.length∧((s[i]?).getD 0).toNat=34))(hc:¬((s[i]?).getD 0).toNat=92)(h:s.length≤i):jC s wat (f+1) i acc=.error (2,wat):=by
 simp only[jC];rw[x5 hn,x5 hc,x7 h]
end
structure Word where
 kind:Nat
 s:aP
 n:Int
 at_:Int
def dD(c:UInt8):Bool:=decide (c.toNat=59∨c.toNat=44∨c.toNat=40∨c.toNat=41∨c.toNat=123∨c.toNat=125∨c.toNat=91∨c.toNat=93)
def lO(s:aP)(a:Nat):aP:=(s.drop a).takeWhile eW
def kX(s:aP)(a:Nat)(c:UInt8):Res (Nat×Word):=
 if dD c=true then .ok (a+1,⟨5,[c],0,a⟩)
 else if c.toNat=34 then
  match quoted s a a with
  | .error e=>.error e
  | .ok r=>.ok (r.1,⟨3,r.2,0,a⟩)
 else if c.toNat=58 then
  if gP ((s[a+1]?).getD 0)=true then .ok (a+1+(lO s (a+1)).length,⟨2,eD (lO s (a+1)),0,a⟩)
  else .error (2,a)
 else if gP c=true then .ok (a+(lO s a).length,⟨1,eD (lO s a),0,a⟩)
 else if gD c=true then
  match number s a a with
  | .error e=>.error e
  | .ok r=>.ok (r.1,⟨4,[],r.2,a⟩)
 else .error (2,a)
def next(s:aP)(a:Nat):Res (Nat×Word):=
 match skip s a with
 | .error e=>.error e
 | .ok a1=>
  match s[a1]? with
  |none=>.ok (a1,⟨0,[],0,a1⟩)
  |some c=>kX s a1 c
def bJT{c:UInt8}(h:dD c=true):c.toNat < 128:=by
 unfold dD at h;simp at h;omega
def dW(xs:List aP)(x:aP):Int:=match xs.findIdx? (fun y=>decide (x=y))with
 |some i=>i
 |none=> -1
def aZ4{xs:List aP}{x:aP}{i:Nat}(h:∀j:Nat,j < i→xs[j]?≠some x)(hx:xs[i]?=some x):dW xs x=i:=by
 have hi:i < xs.length:=by
  rcases xAC i xs.length with h'|h'
  ·exact h'
  simp[List.getElem?_eq_none h']at hx
 have:xs.findIdx? (fun y=>decide (x=y))=some i:=by
  rw[xA8];refine⟨hi,?_,?_⟩
  ·rw[x4 hi]at hx;simp at hx;simp[hx]
  intro j hj;have:=h j hj;rw[x4 aH]at this;simp at this ⊢;exact fun e=>this e.symm
 unfold dW;rw[this]
def aZ6{xs:List aP}{x:aP}(h:∀j:Nat,j < xs.length→xs[j]?≠some x):dW xs x= -1:=by
 have:xs.findIdx? (fun y=>decide (x=y))=none:=by
  rw[List.findIdx?_eq_none_iff];intro y hy;obtain⟨j,hj,e⟩:=List.getElem_of_mem hy;have:=h j hj;rw[x4 hj,e]at this;simp at this ⊢;exact fun e=>this e.symm
 unfold dW;rw[this]
def aT4(xs:List aP)(x:aP):0≤dW xs x↔x∈xs:=by
 unfold dW;cases h:xs.findIdx? (fun y=>decide (x=y))with
 |some i=>
  rw[xA8]at h;obtain⟨hi,h1,_⟩:=h;simp at h1;simp only[Int.natCast_nonneg,true_iff];rw[h1];exact List.getElem_mem hi
 |none=>
  rw[List.findIdx?_eq_none_iff]at h
  constructor
  ·intro h0;exact absurd h0 (by decide)
  intro hm;have:=h x hm;simp at this
abbrev St:=Nat×Word
def take(s:aP)(st:St)(k:Nat)(texts:List aP):Res (Word×St):=
 if st.2.kind≠k∨(texts≠[]∧st.2.s∉texts)then .error (4,st.2.at_)
 else match next s st.1 with
  | .error e=>.error e
  | .ok r=>.ok (st.2,r)
def eat(s:aP)(st:St)(x:aP):Res (Bool×St):=
 if st.2.kind=5∧st.2.s=x then
  match next s st.1 with
  | .error e=>.error e
  | .ok r=>.ok (true,r)
 else .ok (false,st)
def sign(s:aP)(st:St)(x:aP):Res St:=
 match take s st 5 [x]with
 | .error e=>.error e
 | .ok r=>.ok r.2
def text(s:aP)(st:St)(ff:aP→Int):Res (aP×St):=
 if st.2.kind=3∧ff st.2.s≠0 then .error (ff st.2.s,st.2.at_)
 else match take s st 3 []with
  | .error e=>.error e
  | .ok r=>.ok (r.1.s,r.2)
end Go.Syn
end
section
attribute [local irreducible] Go.SL.T Go.SL.OL Go.SL.D Go.SL.DL Go.SL.Ev Go.SL.Ef Go.SL.EfS
namespace Go.Proofs
open Go Go.SL Go.Syn
def jW{b c:Bool}(h:b=c)(K:Hl):Val (.bool c) K (.returned (.bool b)) K []:=⟨by rw[h],rfl,rfl⟩
def uO(c:UInt8)(K:Hl):Sp x3 173 [.int .u8 c.toNat] K [] (Val (.bool (gP c)) K):=by
 refine bN Tryz.func173 Y Tryz.ntmps173 Y Y fun F w=>?_;refine zz8 ?_;refine aA (aL6 c 32 Y Y) Y (zz2 ?_);refine bV 6 Y (fun g6=>?_) (fun g6=>?_)
 ·refine zz3 ?_;refine aA (aL6 c 32 Y Y) Y (zz4 ?_);refine bV 11 Y (fun g11=>?_) (fun g11=>?_)
  ·refine zz8 ?_;refine jW ?_ _
   unfold gP
   generalize (c|||32).toNat=x at*
   generalize c.toNat=y at*
   rw[xAP];simp;omega
  refine zz10 ?_;refine jW ?_ _
  unfold gP
  generalize (c|||32).toNat=x at*
  generalize c.toNat=y at*
  rw[xAP];simp;omega
 refine zz15 ?_;refine jW ?_ _
 unfold gP
 generalize (c|||32).toNat=x at*
 generalize c.toNat=y at*
 rw[xAP];simp;omega
def r6(c:UInt8)(K:Hl):Sp x3 178 [.int .u8 c.toNat] K [] (Val (.bool (gD c)) K):=by
 refine bN Tryz.func178 Y Tryz.ntmps178 Y Y fun F w=>?_;refine zz10 ?_;refine bV 5 Y (fun g5=>?_) (fun g5=>?_)
 ·refine zz10 ?_;refine jW ?_ _
  unfold gD
  generalize c.toNat=y at*
  rw[xAP];simp;omega
 refine zz8 ?_;refine jW ?_ _
 unfold gD
 generalize c.toNat=y at*
 rw[xAP];simp;omega
def tT(c:UInt8)(K:Hl):Sp x3 177 [.int .u8 c.toNat] K [] (Val (.bool (eW c)) K):=by
 refine bN Tryz.func177 Y Tryz.ntmps177 Y Y fun F w=>?_;refine zz8 ?_;refine cN Y Y (uO _ _) Y (zz1 ?_);refine kN 5 Y (fun g5=>?_) (fun g5=>?_)
 ·refine zz8 ?_;refine jW ?_ _
  simp[eW,g5]
 refine zz3 ?_;refine cN Y Y (r6 _ _) Y (zz6 ?_);refine jW ?_ _
 simp[eW,g5]
abbrev lxb(b:Nat)(T:TypeId)(s:List UInt8)(at_:Int)(wk:Value)(ws:Value)(wn:Value)(wa:Value)(rest:List Value):Asn:=pt b (bL (str s::i64 at_::wk::ws::wn::wa::rest) T)
def nQ(b:Nat)(T:TypeId)(s:List UInt8)(a n:Nat)(wk ws wn wa:Value)(rest:List Value)(hs:s.length≤600)(ha:a≤600)(hn:n≤2)(K:Hl):
  Sp x3 171 [ptr b,i64 n] K [lxb b T s a wk ws wn wa rest] (Ret fun v K' L'=>v=.int .u8 ((s[a+n]?).getD 0).toNat∧K'=K∧L'=[lxb b T s a wk ws wn wa rest]):=by
 refine bN Tryz.func171 Y Tryz.ntmps171 Y Y fun F w=>?_;refine zz7 ?_;refine cZ (anc:=[0,1,3,7,0,31,0,64,192,448,960,2047]) (ord:=[0,1,2,3,4,5,6,7,8,9,10,11]) [] [] mixed gC5 (cQ _) (zz14 ?_);refine aY 16 Y (fun h16=>?_) (fun h16=>?_)
 ·obtain⟨c,hc⟩:∃c,s[a+n]?=some c:=⟨s[a+n],x4 aH⟩;refine aI ?_;refine cZ (anc:=[0,1,3,7,0,16,48,112,0,496,1023,2047]) (ord:=[0,1,2,3,4,5,6,7,8,9,10,11]) [] [] mixed gC5 (cQ _) (zz10 ?_);refine aJ Y Y (.none Y) Y Y (cP Tryz.underlying9 Y (j:=a+n) Y aH hc) Y (zz6 ?_);exact⟨_,Y,by rw[hc];rfl,rfl,rfl⟩
 have hc:s[a+n]?=none:=xAD aH;refine zz9 ?_;exact⟨_,Y,by rw[hc];rfl,rfl,rfl⟩
def wN(b:Nat)(T:TypeId)(s:List UInt8)(a:Nat)(wk ws wn wa:Value)(rest:List Value)(fn:FuncId)(pf:UInt8→Bool)(hs:s.length≤600)(ha:a≤s.length)(K:Hl)
  (hf:∀c,Sp x3 fn [.int .u8 (c:UInt8).toNat] K [] (Val (.bool (pf c)) K)):
  Sp x3 176 [ptr b,.func (.func fn) #[] #[]] K [lxb b T s a wk ws wn wa rest]
   (Ret fun v K' L'=>v=str ((s.drop a).takeWhile pf)∧K'=K∧L'=[lxb b T s (a+((s.drop a).takeWhile pf).length:Nat) wk ws wn wa rest]):=by
 refine bN Tryz.func176 Y Tryz.ntmps176 Y Y fun F w=>?_;refine zz16 ?_;refine eH (fun(i:Nat)=>a≤i∧i≤s.length∧((s.drop a).take (i - a)).all pf=true) (fun i=>[(0,ptr b),(1,.func (.func fn) #[] #[]),(5,i64 a)]) (fun _=>K) (fun i=>[lxb b T s i wk ws wn wa rest]) (fun i=>s.length - i) a ⟨xAA _,ha,by simp⟩ aS Y (fun _ h=>h) ?_;intro i ⟨hi1,hi2,hi3⟩;refine zz2 ?_;refine cZ (anc:=[0,1,3,7,0,16,48,112,240,511,1023,2047,2047,6143,14335,30719,2047,67583,198655,460799,1046527,2097151,4194303]) (ord:=[0,1,2,3,4,5,6,7,8,9,10,11,12,13,14,15,16,17,18,19,20,21,22]) [21] [] mixed gC5 (cQ _) (zz11 ?_);refine fC 20 Y (fun g20=>?_) (fun g20=>?_)
 ·obtain⟨c,hc⟩:∃c,s[i]?=some c:=⟨s[i],x4 aH⟩;refine zz10 ?_;refine iL Y (.on Y Y Y) Y Y Y Y (hf c) Y (zz3 ?_);refine d9 32 Y (fun h32=>?_) (fun h32=>?_)
  ·refine zz11 ?_;refine uAb ?_;rintro _ K _ ⟨rfl,rfl⟩ -;refine zz2 ?_;refine cM (i+1) ⟨by omega,by omega,?_⟩ aH aS Y (fun _ h=>h)
   have e:i+1 - a=i - a+1:=by omega
   have e2:a+(i - a)=i:=by omega
   rw[e];exact Plain.take_all_succ (c:=c) (by rw[xA2,e2];exact hc) hi3 h32
  refine zz6 ?_;refine cZ (anc:=[0,1,3,7,0,0,32,96,224,511,1023]) (ord:=[0,1,2,3,4,5,6,7,8,9,10]) [] [] mixed gC5 (cQ _) (zz9 ?_);refine uAu ?_;refine zz5 ?_;have hstop:∀c1,s[i]?=some c1→pf c1=false:=by first|(intro c1 hc1;rw[hc]at hc1;cases hc1;exact h32)|(intro c1 hc1;rw[xAD aH]at hc1;cases hc1)
  have e2:a+(i - a)=i:=by omega
  have hT:(s.drop a).takeWhile pf=(s.drop a).take (i - a):=Plain.takeWhile_stop pf _ _ gC7 hi3 (fun c1 hc1=>hstop c1 (by rw[xA2,e2]at hc1;exact hc1));have hL:a+((s.drop a).takeWhile pf).length=i:=by rw[hT];simp;omega
  refine⟨_,Y,?_,Y,?_⟩
  ·rw[hT,List.drop_take]
  rw[hL];rfl
 refine zz21 ?_;refine cZ (anc:=[0,1,3,7,0,0,32,96,224,511,1023]) (ord:=[0,1,2,3,4,5,6,7,8,9,10]) [] [] mixed gC5 (cQ _) (zz9 ?_);refine uAu ?_;refine zz5 ?_;have hstop:∀c1,s[i]?=some c1→pf c1=false:=by first|(intro c1 hc1;rw[hc]at hc1;cases hc1;exact h32)|(intro c1 hc1;rw[xAD aH]at hc1;cases hc1)
 have e2:a+(i - a)=i:=by omega
 have hT:(s.drop a).takeWhile pf=(s.drop a).take (i - a):=Plain.takeWhile_stop pf _ _ gC7 hi3 (fun c1 hc1=>hstop c1 (by rw[xA2,e2]at hc1;exact hc1));have hL:a+((s.drop a).takeWhile pf).length=i:=by rw[hT];simp;omega
 refine⟨_,Y,?_,Y,?_⟩
 ·rw[hT,List.drop_take]
 rw[hL];rfl
end Go.Proofs
end

/-
  What the proof stands on, part 11: the logic of walks, the walks through the functions, the plain laws. Conditions: as each theorem says. (Merged and shortened by a program.)
-/
import Derived.Test.YthopmddkpdehiaaGreatDoorK5
import Derived.Test.YthopmddkpdehiaaGreatDoorK9
import Derived.Test.YthopmddkpdehiaaGreatDoorK10
set_option linter.unusedVariables false
set_option linter.unusedSimpArgs false
set_option maxRecDepth 4000
set_option maxHeartbeats 1000000
namespace Go
theorem gA3{p:Prop}(h:p:=by simp only[eQ];rw[if_neg h51,if_neg h56,if_neg h70,if_pos h79]):p:=h
theorem gAS{p:Prop}(h:p:=by simp only[List.length_append,List.length_singleton];omega):p:=h
theorem gAX{p:Prop}(h:p:=by first|exact .here|exact .there .here|exact .there (.there .here)|exact .there (.there (.there .here))|exact .there (.there (.there (.there .here)))|exact .there (.there (.there (.there (.there .here))))):p:=h
theorem gAZ{p:Prop}(h:p:=by simp only[eQ];rw[if_neg h51,if_pos h56,if_pos (by simpa using h61)]):p:=h
theorem gB8{p:Prop}(h:p:=by simp only[eQ];rw[if_pos h51]):p:=h
theorem gBB{p:Prop}(h:p:=by simp only[eQ];rw[if_neg h51,if_neg h56,if_pos h70]):p:=h
theorem gBM{p:Prop}(h:p:=by have:=hm2.isSome n;first|exact fun⟨_,h⟩=>h29 h|(rintro⟨h,_⟩;rw[hg,show now n=none from h]at this;cases this)):p:=h
theorem gBT{p:Prop}(h:p:=by unfold eY;rw[if_neg (by rw[hbad];simp),if_neg aI,List.drop_zero];cases lZ id text 0 acts <;> rfl):p:=h
end Go
section
namespace Go.SL
theorem In.dk{w0 w:World}{F K:Hl}{L:List Asn}(i:In w0 F K L w):F.dj K:=let ⟨_,_,d,_⟩:=i.rep;d
section
variable{E:Env}{fr:Fr}{K:Hl}{L:List Asn}{Q:Post}{c x y:Code}{ops:Array Oper}{rest:List Oper}
theorem bOA{P:Program}{f:FuncId}{args:List Value}{L:List Asn}{R R':Ending→Hl→List Asn→Prop}(h:Sp P f args K L R)
  (k:∀e K' L',R e K' L'→∃L'',(∀h,Sat L' h→Sat L'' h)∧R' e K' L''):Sp P f args K L R':=
 ⟨h.1,fun F w j=>(h.2 F w j).mono fun _ _ ⟨K',L',r,le,j'⟩=>let ⟨L'',s,r'⟩:=k _ _ _ r;⟨K',L'',r',le,j'.imp s⟩⟩
end
section
variable{E:Env}{ops:Array Oper}{eff stg:List Nat}{S:List Asn}{r:List Nat}{fr:Fr}{K:Hl}{M L:List Asn}{Q:Post}{i:Nat}{o:Oper}
theorem bGW{N:Value→Hl→List Asn→Prop}(ho:ops[i]?=some o)(hd:o.dst=none)(hg:GOk ops fr o true)(hg0:stg.contains i=false)(he:eff.contains i=true)(hv:EfS E fr K (S++M) o N)
  (h:∀v K' L',N v K' L'→K.le K'→∃M',(∀x,Sat L' x→Sat (S++M') x)∧DL E ops eff stg S r fr K' M' Q):DL E ops eff stg S (i::r) fr K M Q:=by
 intro a f;unfold DX;simp only[ho,hg.wanted f,if_true,hg0,he,Bool.false_eq_true,if_false];intro w j;obtain⟨u,w',K',L',hr,hN,le,j'⟩:=hv a w f j;obtain⟨M',hM,hD⟩:=h u K' L' hN le;rcases hr with hr|⟨hr,rfl⟩
 ·exact .inl ⟨u,w',hr,K',M',le,j'.imp hM,by rw[hd];exact hD _ f⟩
 exact .inr (.inl ⟨w',hr,K',M',le,j'.imp hM,by rw[hd];exact hD _ f⟩)
end
section
variable{E:Env}{c:Code}{ops:Array Oper}{x:Exit}{fr:Fr}{K:Hl}{L:List Asn}{Q:Post}{α:Type}{z:Bool}{k:El α}{v:Value}{xs:List α}
theorem kC(h:∀K',K.le K'→Ksl k K' v xs→T E c fr K' L Q):T E c fr K (sl z k v xs::L) Q:=fun a w f i=>let ⟨_,h1,h2,h3⟩:=i.settleSl;h _ h1 h2 a w f h3
end
end Go.SL
end
section
attribute [local irreducible] Go.SL.T Go.SL.OL Go.SL.D Go.SL.DL Go.SL.Ev Go.SL.Ef Go.SL.EfS
namespace Go.Proofs
open Go Go.SL Go.Syn Go.Mach
theorem aPG(cs:List UInt8)(hcs:∀c∈cs,c.toNat < 128)(hl:2≤cs.length)(s:List UInt8)(h8:s.length≤8)(K:Hl):Sp Tryz.prog 127 [str s,str cs] K [] (Val (.bool (s.any fun c=>cs.contains c)) K):=by
 refine a8 Tryz.func127 rfl Tryz.ntmps127 rfl rfl fun F w=>?_;refine zz9 ?_;refine aX rfl rfl (aG7 cs hcs hl s h8 _) .nil rfl ?_;rintro _ K _ ⟨n,rfl,hn,rfl,rfl⟩ -;refine zz5 ?_;refine uAl ?_;refine zz1 ?_;refine lN ?_ _
 rw[Bool.eq_iff_iff,←hn];simp
end Go.Proofs
end
section
namespace Go.SL
section
variable{E:Env}{fr:Fr}{K:Hl}{L:List Asn}{dst:Option Tmp}{ty:TypeId}{pos:String}{aft:Array Edge}{g:Option (Nat×Bool)}{x y:Operand}{t t':TypeId}{m n:Int}{k:IntKind}
theorem aW3{k':IntKind}(hx:fr.ev x=some (.int k m))(hy:fr.ev y=some (.int k' n))(h0:0≤n):Ev E fr K L ⟨dst,.binOp .shr t x y t',ty,pos,aft,g⟩ (.int k (m.fdiv (2 ^ (min n.toNat k.bits)))):=
 gT hx hy jR fun w=>by
  have:¬n < 0:=by omega
  simp[binOp,Op.shift,this,pure]
theorem aIJ(hx:fr.ev x=some (.int k m))(hy:fr.ev y=some (.int k n)):Ev E fr K L ⟨dst,.binOp .and t x y t',ty,pos,aft,g⟩ (.int k (k.wrap (BitVec.ofInt k.bits m&&&BitVec.ofInt k.bits n).toNat)):=
 gT hx hy jR fun w=>by simp[binOp,Op.intBits,pure]
theorem bMN(hx:fr.ev x=some (.int k m))(hy:fr.ev y=some (.int k n)):Ev E fr K L ⟨dst,.binOp .xor t x y t',ty,pos,aft,g⟩ (.int k (k.wrap (BitVec.ofInt k.bits m^^^BitVec.ofInt k.bits n).toNat)):=
 gT hx hy jR fun w=>by simp[binOp,Op.intBits,pure]
theorem bE4{d:Int}{n:Nat}(h:0≤d):d.tmod n=((d.toNat % n:Nat):Int):=by
 rw[Int.tmod_eq_emod_of_nonneg h];have:d=(d.toNat:Int):=by omega
 rw[this];simp
end
section
variable{E:Env}{fr:Fr}{K:Hl}{L:List Asn}{dst:Option Tmp}{ty:TypeId}{pos:String}{aft:Array Edge}{g:Option (Nat×Bool)}{x y:Operand}{t e:TypeId}{n b:Nat}{k:IntKind}
theorem aH9{m:Nat}{mv:Int}{lo:Operand}(hu:E.P.underlying t=some (.array n e))(he:eZ E.P e=true)(hx:fr.ev x=some (ptr b))(hl:fr.ev lo=some (.int k mv))(hm:mv=(m:Int))(h:m < n):
  Ev E fr K L ⟨dst,.slice t x (some lo) none none,ty,pos,aft,g⟩ (.slice (some ⟨b,m,none⟩) (n - m) (n - m)):=fun a w f i=>by
 subst hm;obtain⟨inf,h2,h3⟩:=aOF he;simp only[execOp,f.ev hx,f.ev hl,Option.map];refine eR ?_;unfold Instr.sliceAt;have hne:¬n=m:=by omega
 have hle:m≤n:=by omega
 simp[underlying,program,bind,Sem.bind,pure,Sem.run,hu,Instr.sliceBounds,Instr.sliceBound,asIntOf,sizeOf,typeInfo,h2,h3,Instr.sureAddr,kG,hne,hle]
theorem bMM{m:Int}(hx:fr.ev x=some (.int k m)):Ev E fr K L ⟨dst,.unOp .neg t x,ty,pos,aft,g⟩ (.int k (k.wrap (-m))):=fun a w f _=>by
 simp only[execOp,f.ev hx];refine eR ?_;simp[Op.unary,Op.intArith]
end
theorem bPQ{P:Program}{f:FuncId}{args:List Value}{K:Hl}{L:List Asn}{R R':Ending→Hl→List Asn→Prop}(h:Sp P f args K L R)
  (k:∀e K' L',K.le K'→R e K' L'→R' e K' L'):Sp P f args K L R':=
 ⟨h.1,fun F w i=>(h.2 F w i).mono fun _ _ ⟨K',L',r,le,j⟩=>⟨K',L',k _ _ _ le r,le,j⟩⟩
theorem wW{P:Program}{f:FuncId}{caps:Array Value}(hb:∃fn,P.funcs[f]?=some fn∧(fn.name== "runtime.NumGoroutine")=false∧fn.body.isSome=true):aDB P (.func (.func f) #[] caps) f caps.toList:=by
 intro w;obtain⟨fn,h1,h2,h3⟩:=hb;simp only[Deferred.ofValue,bind,pure,Sem.bind,invoke];have:=yY (vs:=caps) h1 h2 h3 w
 simpa using this
theorem aSN{P:Program}{name:String}{t:TypeId}{u r:Value}{f:FuncId}(hm:∀w,(method (P.types.size+Made.depth) t u name).run P w=.ok (f,r) w)
  (hb:∃fn,P.funcs[f]?=some fn∧(fn.name== "runtime.NumGoroutine")=false∧fn.body.isSome=true):aDB P (.func (.method name) #[.iface t u] #[]) f [r]:=by
 intro w;obtain⟨fn,h1,h2,h3⟩:=hb;simp only[Deferred.ofValue,bind,pure,Sem.bind,invoke]
 show (callMethod (.iface t u) name #[]).run P w=_
 unfold callMethod;simp only[];have hp:(program).run P w=.ok P w:=rfl;rw[aV hp,aV (hm w)];have:=yY (vs:= #[r]) h1 h2 h3 w
 simpa using this
section
variable{E:Env}{fr:Fr}{K:Hl}{L L1 L2:List Asn}{Q:Post}{ops:Array Oper}{rest:List Oper}{ty:TypeId}{pos:String}{aft:Array Edge}
theorem xA{dst:Option Tmp}{g:Option (Nat×Bool)}{t kt et:TypeId}{x y:Operand}{b c:Nat}{k:List UInt8}{es:List Ent}{z v:Value}(hm:E.P.underlying t=some (.map kt et))(hk:E.P.underlying kt=some .string)(hz:gH E.P et=some z)(hx:fr.ev x=some (.map (some b)))(hy:fr.ev y=some (str k))(hs:Sees K L b (mapO es c))(hg:mget es k=some v):
  Ev E fr K L ⟨dst,.lookup t x y true,ty,pos,aft,g⟩ (.tuple #[v,.bool true]):=gN (wZ hm hk hz hx hy hs) (by rw[hg];rfl)
theorem s5{dst:Option Tmp}{g:Option (Nat×Bool)}{t kt et:TypeId}{x y:Operand}{b c:Nat}{k:List UInt8}{es:List Ent}{z:Value}(hm:E.P.underlying t=some (.map kt et))(hk:E.P.underlying kt=some .string)(hz:gH E.P et=some z)(hx:fr.ev x=some (.map (some b)))(hy:fr.ev y=some (str k))(hs:Sees K L b (mapO es c))(hg:mget es k=none):
  Ev E fr K L ⟨dst,.lookup t x y true,ty,pos,aft,g⟩ (.tuple #[z,.bool false]):=gN (wZ hm hk hz hx hy hs) (by rw[hg];rfl)
end
end Go.SL
end

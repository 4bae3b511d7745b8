/- A part of the proof: QT2. -/
import Derived.Test.YtbpddfapodiemaaGreatDoorQT1
import Derived.WalkKit
import Derived.IntWalk
import Derived.NoCompilerSame
import Derived.Test.YtbpddfapodiemaaGreatDoorProg
set_option linter.all false
section
namespace Go.Sep
open Go Go.Conc
section
variable {α β:Type}{P:Program}{Q:α->af->Prop}{F:af}
@[go_sem] theorem bQ (a:α):bx P (Pure.pure a) Q F=Q a F:=rfl
@[go_sem] theorem Ny (a:α):bx P (Sem.pure a) Q F=Q a F:=rfl
@[go_sem] theorem bG {R:β->af->Prop}(x:Sem α)(f:α->Sem β):bx P (x>>= f) R F=bx P x (fun a G=>bx P (f a) R G) F:=propext (z9 x F)
@[go_sem] theorem Nz {R:β->af->Prop}(x:Sem α)(f:α->β):bx P (Functor.map f x) R F=bx P x (fun a G=>R (f a) G) F:=propext (z9 x F)
@[go_sem] theorem dP (c:Prop)[Decidable c](x y:Sem α):bx P (if c then x else y) Q F=if c then bx P x Q F else bx P y Q F:=by split<;>rfl
@[go_sem] theorem AB {Q:Value->af->Prop}(a:Addr):bx P (load a) Q F=∃v,F.get a=some v/\Q v F:=by simp[load,bx]
@[go_sem] theorem FD {Q:Unit->af->Prop}(a:Addr)(v:Value):bx P (store a v) Q F=∃F',F.mN a v=some F'/\Q () F':=by simp[store,bx]
theorem qE {Q:Nat->af->Prop}(o:Obj):bx P (newObj o) Q F=(o.isChan=false/\∀b,eD F b->Q b (F.push b o)):=rfl
theorem kW {Q:Program->af->Prop}:bx P program Q F=Q P F:=rfl
theorem vY {Q:Nat->af->Prop}(q:Question):bx P (choose q) Q F=if q.forced then Q 0 F else ∀t,Q (q.cut t) F:=rfl
theorem oC {Q:Obj->af->Prop}(r:Nat):bx P (getObj r) Q F=∃o,F.fR r=some o/\Q o F:=rfl
theorem mQ {Q:Unit->af->Prop}(r:Nat)(o:Obj):bx P (Go.setObj r o) Q F=(o.isChan=false/\(F.fR r).isSome=true/\Q () (F.put r o)):=rfl
theorem NA (s:String):bx P (stuck s:Sem α) Q F=False:=rfl
theorem NB {Q:Unit->af->Prop}(m:Mark):bx P (mark m) Q F=(qz m=true/\Q () F):=rfl
attribute [go_sem] qE kW vY oC mQ NA NB
@[go_sem] theorem dR {Q:TypeDesc->af->Prop}(t:TypeId):bx P (underlying t) Q F=match P.underlying t with|some d=>Q d F|none=>False:=by
 simp only[underlying,bG,kW];cases P.underlying t<;>rfl
@[go_sem] theorem qF {Q:TypeInfo->af->Prop}(t:TypeId):bx P (typeInfo t) Q F=match P.info? t with|some d=>Q d F|none=>False:=by
 simp only[typeInfo,bG,kW];cases P.info? t<;>rfl
def cv (P:Program)(t:TypeId):Option Nat:=(P.info? t).map (·.size)
def zeroOf (P:Program)(t:TypeId):Option Value:=(P.info? t).bind (·.zero)
def bytesOf (P:Program)(t:TypeId):Option Nat:=(P.info? t).map (·.bytes)
@[go_sem] theorem fy {Q:Nat->af->Prop}(t:TypeId):bx P (sizeOf t) Q F=match cv P t with|some n=>Q n F|none=>False:=by
 simp only[sizeOf,bG,qF,cv];cases P.info? t<;>rfl
@[go_sem] theorem mR {Q:Value->af->Prop}(t:TypeId):bx P (zeroValue t) Q F=match zeroOf P t with|some n=>Q n F|none=>False:=by
 simp only[zeroValue,bG,qF,zeroOf];cases P.info? t with
 |none=>rfl
 |some i=>simp only[Option.bind_some];cases i.zero<;>rfl
def cU (P:Program)(t:TypeId):Option Bool:=(P.underlying t).map fun| .struct _=>true| .array _ _=>true|_=>false
@[go_sem] theorem mS {Q:Bool->af->Prop}(t:TypeId):bx P (isAgg t) Q F=match cU P t with|some n=>Q n F|none=>False:=by
 simp only[isAgg,bG,dR,cU];cases P.underlying t with
 |none=>rfl
 |some d=>cases d<;>rfl
def af.mT (F:af)(a:Addr):Nat->List Value->Prop
 |_,[]=>True
 |i,v::b=>F.get (a.add i)=some v/\F.mT a (i+1) b
theorem vZ {Q:Array Value->af->Prop}(a:Addr):∀(b:List Value) (i:Nat) (acc:Array Value),F.mT a i b->Q (acc++b.toArray) F->bx P (loadCellsFrom a i b.length acc) Q F
 |[],i,acc,_,h=>by simpa [loadCellsFrom,bQ] using h
 |v::b,i,acc,hg,h=>by
  simp only[List.length_cons,loadCellsFrom,bG,AB]
  refine ⟨v,hg.1,vZ a b (i+1) (acc.push v) hg.2 ?_⟩
  simpa using h
theorem FE {Q:Value->af->Prop}{t:TypeId}{a:Addr}(b:List Value)(ht:cU P t=some true)(hs:cv P t=some b.length)(hg:F.mT a 0 b)(h:Q (.agg b.toArray) F):bx P (loadVar t a) Q F:=by
 simp only[loadVar,bG,mS,ht,dP,if_true,fy,hs,loadCells];exact vZ a b 0 #[] hg (by simpa [bQ] using h)
theorem FF {Q:Value->af->Prop}{t:TypeId}{a:Addr}(v:Value)(ht:cU P t=some false)(hg:F.get a=some v)(h:Q v F):bx P (loadVar t a) Q F:=by
 simp only[loadVar,bG,mS,ht,dP,AB];exact ⟨v,hg,h⟩
def af.ki (F:af)(a:Addr):Nat->List Value->Option af
 |_,[]=>some F
 |i,v::b=>match F.mN (a.add i) v with
  |some F'=>F'.ki a (i+1) b
  |none=>none
theorem sS {Q:Unit->af->Prop}(a:Addr):∀(b:List Value) (i:Nat) (F F':af),F.ki a i b=some F'->Q () F'->bx P (storeCells a b i) Q F
 |[],i,F,F',hg,h=>by simp only[af.ki,Option.some.injEq] at hg;subst hg;simpa [storeCells,bQ] using h
 |v::b,i,F,F',hg,h=>by
  simp only[storeCells,bG,FD]
  unfold af.ki at hg
  split at hg
  .rename_i c d
   exact ⟨c,d,sS a b (i+1) c F' hg h⟩
  .cases hg
theorem FG {Q:Unit->af->Prop}{t:TypeId}{a:Addr}{v:Value}(F':af)(hs:cv P t=some v.cells.size)(hg:F.ki a 0 v.cells.toList=some F')(h:Q () F'):bx P (storeVar t a v) Q F:=by
 simp only[storeVar,bG,fy,hs,ne_eq,not_true_eq_false,if_false];exact sS a _ 0 F F' hg h
@[go_sem] theorem AD {Q:Addr->af->Prop}(t:TypeId)(v:Value):bx P (newVar t v) Q F=∀b,eD F b->Q ⟨b,0,none⟩ (F.push b (.cells v.cells t)):=by
 simp only[newVar,newRow,bG,qE,bQ];simp[Obj.isChan]
@[go_sem] theorem sU {Q:Addr->af->Prop}(t:TypeId)(v:Array Value):bx P (newRow t v) Q F=∀b,eD F b->Q ⟨b,0,none⟩ (F.push b (.cells v t)):=by
 simp only[newRow,bG,qE,bQ];simp[Obj.isChan]
theorem qG {Q:Addr->af->Prop}(a:Addr):bx P (Instr.sureAddr (.pointer (some a))) Q F=Q a F:=rfl
theorem lR {Q:IntKind×Int->af->Prop}(k:IntKind)(n:Int):bx P (asIntOf (.int k n)) Q F=Q (k,n) F:=rfl
theorem AE {Q:Int->af->Prop}(k:IntKind)(n:Int):bx P (asInt (.int k n)) Q F=Q n F:=rfl
theorem FH {Q:Bool->af->Prop}(b:Bool):bx P (asBool (.bool b)) Q F=Q b F:=rfl
theorem FI {Q:Array Value->af->Prop}(b:Array Value):bx P (asAgg (.agg b)) Q F=Q b F:=rfl
attribute [go_sem] qG lR AE FH FI
end
def slot (a:Act)(i:Nat):Value:=a.tmps.getD i undef
def sz (a:Act):Nat:=a.tmps.size
def bB (a:Act)(d:Option Tmp)(v:Value):Act:=a.put d v
def ev (a:Act)(x:Operand):Value:=a.eval x
theorem NC (a:Act)(t:Nat):ev a (.tmp t)=slot a t:=rfl
theorem ND (a:Act)(v:Value):ev a (.const v)=v:=rfl
theorem NF (a:Act)(g:Nat):ev a (.global g)= .pointer (some ⟨g,0,none⟩):=rfl
theorem NG (a:Act)(f:Nat):ev a (.func f)= .func (.func f) #[] #[]:=rfl
theorem NH (a:Act)(v:Value):bB a none v=a:=rfl
attribute [go_sem] NC ND NF NG NH
@[go_sem] theorem AF (a:Act)(d:Option Tmp)(v:Value):sz (bB a d v)=sz a:=by cases d<;>simp[sz,bB,Act.put]
theorem FJ (a:Act)(d:Nat)(v:Value)(h:d<sz a):slot (bB a (some d) v) d=v:=by
 simp only[sz] at h;simp[slot,bB,Act.put,h]
theorem v5 (a:Act)(d i:Nat)(v:Value)(h:¬d=i):slot (bB a (some d) v) i=slot a i:=by
 simp[slot,bB,Act.put,Array.getElem?_setIfInBounds_ne h]
@[go_sem] theorem NI (a:Act)(d i:Nat)(v:Value)(h:d<sz a):slot (bB a (some d) v) i=if d=i then v else slot a i:=by
 split
 .rename_i e;subst e;exact FJ a d v h
 .rename_i e;exact v5 a d i v e
@[go_sem] theorem AG (a:Act)(d:Option Tmp)(v:Value):(bB a d v).defers=a.defers:=by cases d<;>rfl
theorem aI.start {P:Program}{f:FuncId}{fn:Func}{c:Code}{n:Nat}{args:Array Value}{F:af}{R:Value->af->Prop}(b:P.funcs[f]?=some fn)(hb:fn.body=some c)(a:fn.ntmps=n)(d:args.size<=n)
  (h:∀main J,Closed P main J->∀A:Act,sz A=n->A.defers=[]->(∀i,slot A i=args.getD i undef)->Wp J c (sP P fn R) A F):aI P f args F R:=
 aI.of_wp b hb fun main J hJ=>h main J hJ _ (by simp[sz,a];omega) rfl fun i=>by
  simp only[slot,a,Array.getD_eq_getD_getElem?]
  rcases Nat.lt_or_ge i args.size with hi|hi
  .rw[Array.getElem?_append_left hi]
  .rw[Array.getElem?_append_right hi,Array.getElem?_replicate,Array.getElem?_eq_none hi]
   split<;>rfl
def dF (P:Program)(t:TypeId):Option TypeId:=match P.underlying t with|some (.slice e)=>some e|_=>none
def lS (P:Program)(t:TypeId):Option (Nat×TypeId):=match P.underlying t with|some (.array n e)=>some (n,e)|_=>none
def di (P:Program)(t:TypeId)(n:Nat):Option Nat:=
 match P.underlying t with
 |some (.struct a)=>match a[n]? with
  |some f=>match cv P f.type with
   |some (_+1)=>some f.offset
   |_=>none
  |none=>none
 |_=>none
def v7 (P:Program)(t:TypeId)(n:Nat):Option (Nat×Nat×Bool):=
 match P.underlying t with
 |some (.struct a)=>match a[n]? with
  |some f=>match cv P f.type,cU P f.type with
   |some s,some g=>some (f.offset,s,g)
   |_,_=>none
  |none=>none
 |_=>none
def placesOf (P:Program)(t:TypeId):Option (List (Nat×Nat)):=
 match P.underlying t with
 |some (.struct a)=>a.toList.mapM fun f=>(cv P f.type).map fun s=>(f.offset,s)
 |_=>none
def aR (P:Program)(f:FuncId):Bool:=match P.funcs[f]? with|some fn=>!(fn.body.isNone||fn.name== "runtime.NumGoroutine")|none=>false
def af.dS (F:af)(a:Addr):Nat->Nat->Option (List Value)
 |_,0=>some []
 |i,n+1=>match F.get (a.add i) with
  |some v=>match F.dS a (i+1) n with
   |some b=>some (v::b)
   |none=>none
  |none=>none
theorem v8 (F:af)(a:Addr):∀(n i:Nat) (b:List Value),F.dS a i n=some b->F.mT a i b/\b.length=n
 |0,i,b,h=>by simp only[af.dS,Option.some.injEq] at h;subst h;exact ⟨trivial,rfl⟩
 |n+1,i,b,h=>by
  unfold af.dS at h
  split at h
  .rename_i v c
   split at h
   .rename_i ws d
    cases h
    obtain ⟨e,f⟩:=v8 F a n (i+1) ws d
    exact ⟨⟨c,e⟩,by simp[f]⟩
   .cases h
  .cases h
def fZ (P:Program)(F:af)(t:TypeId)(ad:Addr):Option Value:=
 match cU P t with
 |some false=>F.get ad
 |some true=>match cv P t with
  |some n=>match F.dS ad 0 n with
   |some a=>some (.agg a.toArray)
   |none=>none
  |none=>none
 |none=>none
def sV (P:Program)(F:af)(t:TypeId)(ad:Addr)(v:Value):Option af:=
 match cv P t with
 |some n=>if n=v.cells.size then F.ki ad 0 v.cells.toList else none
 |none=>none
theorem AH {P:Program}{F:af}{t:TypeId}{ad:Addr}{v:Value}{Q:Value->af->Prop}(h:fZ P F t ad=some v)(a:Q v F):bx P (loadVar t ad) Q F:=by
 unfold fZ at h;split at h
 .rename_i hg;exact FF v hg h a
 .rename_i hg;split at h
  .rename_i n c;split at h
   .rename_i b d;cases h;obtain ⟨e,f⟩:=v8 F ad n 0 b d;exact FE b hg (by rw[c,f]) e a
   .cases h
  .cases h
 .cases h
theorem FK {P:Program}{F F':af}{t:TypeId}{ad:Addr}{v:Value}{Q:Unit->af->Prop}(h:sV P F t ad v=some F')(a:Q () F'):bx P (storeVar t ad v) Q F:=by
 unfold sV at h;split at h
 .rename_i n b;split at h
  .rename_i e;exact FG F' (by rw[b,e]) h a
  .cases h
 .cases h
def oD (op:BinOp):Value->Value->Option Value
 | .int k a,.int c b=>if k=c then match op with
   | .add=>some (.int k (k.wrap (a+b)))
   | .sub=>some (.int k (k.wrap (a - b)))
   | .mul=>some (.int k (k.wrap (a*b)))
   | .quo=>if b=0 then none else some (.int k (k.wrap (a.tdiv b)))
   | .rem=>if b=0 then none else some (.int k (a.tmod b))
   | .eql=>some (.bool (a==b))
   | .neq=>some (.bool (a != b))
   | .lss=>some (.bool (decide (a<b)))
   | .leq=>some (.bool (decide (a<=b)))
   | .gtr=>some (.bool (decide (a>b)))
   | .geq=>some (.bool (decide (a≥b)))
   | .shl=>if b<0 then none else some (.int k (k.wrap (a*2 ^ min b.toNat k.bits)))
   | .shr=>if b<0 then none else some (.int k (a.fdiv (2 ^ min b.toNat k.bits)))
   | .and=>some (.int k (k.wrap (BitVec.ofInt k.bits a&&& BitVec.ofInt k.bits b).toNat))
   | .or=>some (.int k (k.wrap (BitVec.ofInt k.bits a|||BitVec.ofInt k.bits b).toNat))
   | .andNot=>some (.int k (k.wrap (BitVec.ofInt k.bits a&&& ~~~(BitVec.ofInt k.bits b)).toNat))
   | .xor=>some (.int k (k.wrap (BitVec.ofInt k.bits a ^^^ BitVec.ofInt k.bits b).toNat))
  else none
 |_,_=>none
theorem jB {P:Program}{s:Sem Value}{Q:Next->af->Prop}{F:af}:bx P (do pure (Next.value (<-s)):Sem Next) Q F=bx P s (fun v G=>Q (.value v) G) F:=by
 simp only[bG,bQ]
theorem v9 {P:Program}(op:BinOp)(t:TypeId)(x y:Operand)(k c:IntKind)(a b:Int){Q:Unit->af->Prop}{F:af}(h:Q () F):bx P (eqGuard op t x y (.int k a) (.int c b)) Q F:=by
 unfold eqGuard;cases op<;>simp<;>exact h
theorem FL {P:Program}{op:BinOp}{t:TypeId}{x y:Operand}{u v w:Value}{Q:Value->af->Prop}{F:af}(h:oD op u v=some w)(c:Q w F):bx P (do eqGuard op t x y u v;binOp op t u v) Q F:=by
 unfold oD at h;split at h
 case h_2=>cases h
 rename_i k a d b;split at h
 case isFalse=>cases h
 rename_i hk;subst hk;rw[bG];refine v9 op t x y k k a b ?_;cases op<;>simp only[binOp,ne_eq,not_true_eq_false,if_false,Op.intArith,Op.intDiv,Op.intCmp,Op.intBits,Op.shift,dP] at h ⊢<;>first
  |(cases h;done)
  |(cases h;exact c)
  |(split at h
    .cases h
    .rename_i hb;rw[if_neg hb];cases h;exact c)
def mU (op:UnOp):Value->Option Value
 | .int k a=>match op with
  | .neg=>some (.int k (k.wrap (0 - a)))
  |_=>none
 | .bool b=>match op with
  | .not=>some (.bool (!b))
  |_=>none
 |_=>none
theorem FM {P:Program}{op:UnOp}{u w:Value}{Q:Value->af->Prop}{F:af}(h:mU op u=some w)(a:Q w F):bx P (Op.unary op u) Q F:=by
 cases u<;>cases op<;>simp only[mU] at h<;>first|(cases h;done)|(cases h;exact a)
def sW:Value->Value->Option Value
 | .int k x,.int _ y=>some (.int k (if y>x then y else x))
 |_,_=>none
def sX:Value->Value->Option Value
 | .int k x,.int _ y=>some (.int k (if y<x then y else x))
 |_,_=>none
def qH (P:Program)(t:TypeId):Value->Value->Option Value
 | .slice (some ad) len _,.int _ i=>match dF P t with
  |some e=>match cv P e with
   |some n=>if 0<=i/\i<(len:Int) then some (.pointer (some (ad.add (i.toNat*n)))) else none
   |none=>none
  |none=>none
 | .pointer (some ad),.int _ i=>match lS P t with
  |some (len,e)=>match cv P e with
   |some n=>if 0<=i/\i<(len:Int) then some (.pointer (some (ad.add (i.toNat*n)))) else none
   |none=>none
  |none=>none
 |_,_=>none
theorem FN {P:Program}{t:TypeId}{u v w:Value}{Q:Value->af->Prop}{F:af}(h:qH P t u v=some w)(c:Q w F):bx P (Instr.indexAt t u v) Q F:=by
 unfold qH at h;split at h
 .rename_i ad len cap k i;split at h
  case h_2=>cases h
  rename_i e he;split at h
  case h_2=>cases h
  rename_i n a;split at h
  case isFalse=>cases h
  rename_i hi;cases h;have hu:P.underlying t=some (.slice e):=by
   unfold dF at he;split at he
   .rename_i d b;cases he;exact b
   .cases he
  simp only[Instr.indexAt,bG,lR,dR,hu,bQ,dP,if_pos hi,fy,a];exact c
 .rename_i ad k i;split at h
  case h_2=>cases h
  rename_i len e he;split at h
  case h_2=>cases h
  rename_i n a;split at h
  case isFalse=>cases h
  rename_i hi;cases h;have hu:P.underlying t=some (.array len e):=by
   unfold lS at he;split at he
   .rename_i f d b;cases he;exact b
   .cases he
  simp only[Instr.indexAt,bG,lR,dR,hu,bQ,qG,dP,if_pos hi,fy,a];exact c
 .cases h
def mV (P:Program)(t:TypeId)(x:Value)(lo hi:Option Value):Option Value:=
 match x,dF P t with
 | .slice ad len cap,some e=>match cv P e with
  |some n=>
   match (match lo with|none=>some 0|some (.int _ i)=>if 0<=i then some i.toNat else none|_=>none),(match hi with|none=>some len|some (.int _ i)=>if 0<=i then some i.toNat else none|_=>none) with
   |some l,some h=>if l<=h/\h<=cap then some (.slice (if cap=l then ad else ad.map (·.add (l*n))) (h - l) (cap - l)) else none
   |_,_=>none
  |none=>none
 | .pointer (some ad),none=>match lS P t,lo,hi with
  |some (n,e),none,none=>match cv P e with
   |some _=>some (.slice (some ad) n n)
   |none=>none
  |_,_,_=>none
 |_,_=>none
theorem FO {P:Program}{t:TypeId}{x w:Value}{lo hi:Option Value}{Q:Value->af->Prop}{F:af}(hlen:∀ad len cap,x= .slice ad len cap->len<=cap)(h:mV P t x lo hi=some w)(b:Q w F):bx P (Instr.sliceAt t x lo hi none) Q F:=by
 unfold mV at h;split at h
 case h_3=>cases h
 case h_2=>
  rename_i ad _;split at h
  case h_2=>cases h
  rename_i n e he;have hu:P.underlying t=some (.array n e):=by
   unfold lS at he;split at he
   .rename_i q g d;cases he;exact d
   .cases he
  split at h
  case h_2=>cases h
  rename_i sz hs;cases h;simp only[Instr.sliceAt,bG,dR,hu,qG,Instr.sliceBounds,bQ,fy,hs,Nat.zero_mul,Nat.sub_zero];have:(if n=0 then ad else ad.add 0)=ad:=by split<;>rfl
  rw[this];exact b
 rename_i ad len cap e he;have r:=hlen ad len cap rfl;have hu:P.underlying t=some (.slice e):=by
  unfold dF at he;split at he
  .rename_i g d;cases he;exact d
  .cases he
 split at h
 case h_2=>cases h
 rename_i n c;split at h
 case h_2=>cases h
 rename_i l s hl a;split at h
 case isFalse=>cases h
 rename_i hb;cases h;simp only[Instr.sliceAt,bG,dR,hu,Instr.slice,Instr.sliceBounds,bQ];cases hi with
 |none=>
  simp only[Option.some.injEq] at a;subst a;simp only[bQ];cases lo with
  |none=>
   simp only[Option.some.injEq] at hl;subst hl;simp only[bQ,fy,c];exact b
  |some v=>
   cases v<;>simp only[reduceCtorEq] at hl;rename_i k i;split at hl
   case isFalse=>cases hl
   rename_i f;cases hl;have:0<=i/\i<=(len:Int):=⟨f,aa⟩
   simp only[Instr.sliceBound,bG,lR,dP,if_pos this,bQ,fy,c];exact b
 |some v=>
  cases v<;>simp only[reduceCtorEq] at a;rename_i k i;split at a
  case isFalse=>cases a
  rename_i f;cases a;have m:0<=i/\i<=(cap:Int):=⟨f,aa⟩
  simp only[Instr.sliceBound,bG,lR,dP,if_pos m,bQ];cases lo with
  |none=>
   simp only[Option.some.injEq] at hl;subst hl;simp only[bQ,fy,c];exact b
  |some v=>
   cases v<;>simp only[reduceCtorEq] at hl;rename_i u j;split at hl
   case isFalse=>cases hl
   rename_i o;cases hl;have p:0<=j/\j<=((i.toNat:Nat):Int):=⟨o,aa⟩
   simp only[bG,lR,dP,if_pos p,bQ,fy,c];exact b
def ij:List Value->List Value->Option Bool
 |[],[]=>some true
 | .int k a::xs,.int c b::ys=>if k=c then match ij xs ys with
   |some r=>some (a==b&&r)
   |none=>none
  else none
 | .bool a::xs,.bool b::ys=>match ij xs ys with
   |some r=>some (a==b&&r)
   |none=>none
 |_,_=>none
theorem sY:∀{xs ys:List Value} {us a:List Value} {r:Bool},xs.length=ys.length->ij (xs++us) (ys++a)=some r->∃r1 r2,ij xs ys=some r1/\ij us a=some r2/\r=(r1&&r2)
 |[],[],us,a,r,_,h=>⟨true,r,rfl,h,av⟩
 |[],y::ys,_,_,_,hl,_=>by simp at hl
 |x::xs,[],_,_,_,hl,_=>by simp at hl
 |x::xs,y::ys,us,a,r,hl,h=>by
  have e:xs.length=ys.length:=by simpa using hl
  cases x<;>cases y<;>simp only[List.cons_append,ij,reduceCtorEq] at h ⊢
  .split at h
   .rename_i f b
    obtain ⟨r1,r2,c,d,rfl⟩:=sY e b
    cases h
    exact ⟨_,r2,by rw[c],d,by rw[Bool.and_assoc]⟩
   .cases h
  .split at h
   .rename_i hk
    split at h
    .rename_i f b
     obtain ⟨r1,r2,c,d,rfl⟩:=sY e b
     cases h
     exact ⟨_,r2,by rw[if_pos hk,c],d,by rw[Bool.and_assoc]⟩
    .cases h
   .cases h
def Kd:List Bool->List Value->Prop
 |[],[]=>True
 |true::ks,.int _ _::xs=>Kd ks xs
 |false::ks,.bool _::xs=>Kd ks xs
 |_,_=>False
theorem Kd.length:∀{ks:List Bool} {xs:List Value},Kd ks xs->xs.length=ks.length
 |[],[],_=>rfl
 |[],x::xs,h=>by simp[Kd] at h
 |k::ks,[],h=>by cases k<;>simp[Kd] at h
 |k::ks,x::xs,h=>by
  have:Kd ks xs:=by cases k<;>cases x<;>simp only[Kd] at h<;>exact h
  simp[Kd.length this]
theorem Kd.split:∀{ks:List Bool} {ls:List Bool} {xs:List Value},Kd (ks++ls) xs->Kd ks (xs.take ks.length)/\Kd ls (xs.drop ks.length)
 |[],_,_,h=>⟨by simp[Kd],by simpa using h⟩
 |k::ks,ls,[],h=>by cases k<;>simp[Kd] at h
 |k::ks,ls,x::xs,h=>by
  cases k<;>cases x<;>simp only[List.cons_append,Kd] at h
  all_goals
   obtain ⟨a,b⟩:=Kd.split h
   exact ⟨by simpa [Kd] using a,by simpa using b⟩
def qI (P:Program)(g:TypeId->Option (List Bool)):List Field->Nat->Option (List Bool)
 |[],_=>some []
 |f::a,off=>if f.name≠ "_"/\f.offset=off then match g f.type with
   |some ks=>if cv P f.type=some ks.length then match qI P g a (off+ks.length) with
     |some ls=>some (ks++ls)
     |none=>none
    else none
   |none=>none
  else none
def kX (P:Program):Nat->TypeId->Option (List Bool)
 |0,_=>none
 |d+1,t=>match P.underlying t with
  |some .bool=>if cU P t=some false then some [false] else none
  |some (.int _)=>if cU P t=some false then some [true] else none
  |some (.struct a)=>if cU P t=some true/\P.stoodInHeld t=false then qI P (kX P d) a.toList 0 else none
  |some (.array n e)=>if cU P t=some true then match kX P d e with
    |some ks=>if cv P e=some ks.length then some (List.replicate n ks).flatten else none
    |none=>none
   else none
  |_=>none
def Sc (v:Value):Prop:=(∃k a,v= .int k a)\/∃b,v= .bool b
theorem Kd.sc:∀{ks:List Bool} {xs:List Value},Kd ks xs->∀x∈xs,Sc x
 |[],[],_=>by simp
 |[],x::xs,h=>by simp[Kd] at h
 |k::ks,[],h=>by simp
 |k::ks,x::xs,h=>by
  have:Sc x/\Kd ks xs:=by cases k<;>cases x<;>simp only[Kd] at h<;>first|exact ⟨.inl ⟨_,_,rfl⟩,h⟩|exact ⟨.inr ⟨_,rfl⟩,h⟩
  simpa using ⟨this.1,Kd.sc this.2⟩
theorem Sc.cells {v:Value}(h:Sc v):v.cells=#[v]:=by
 rcases h with ⟨k,a,rfl⟩|⟨b,rfl⟩<;>rfl
def Shape (P:Program)(t:TypeId)(v:Value):Prop:=(cU P t=some true->∃xs,v= .agg xs)/\(cU P t=some false->Sc v)
section
variable {P:Program}
theorem sZ {t:TypeId}{xs:Array Value}{off m:Nat}{g:Bool}{Q:Value->af->Prop}{F:af}(hg:cU P t=some g)(hs:cv P t=some m)(hm:g=false->m=1)(e:off+m<=xs.size)
  (d:∀x∈xs.toList,Sc x) (h:∀v,v.cells.toList=(xs.toList.drop off).take m->Shape P t v->Q v F):bx P (part t xs off) Q F:=by
 simp only[part,bG,mS,hg,dP]
 cases g with
 |true=>
  simp only[if_true,bG,fy,hs,bQ]
  refine h _ ?_ ⟨fun _=>⟨_,rfl⟩,fun a=>by rw[hg] at a;cases a⟩
  simp only[Value.cells,Array.toList_extract,List.extract_eq_take_drop]
  congr 1;omega
 |false=>
  have:=hm rfl
  subst this
  have b:off<xs.size:=aa
  simp only[Bool.false_eq_true,if_false,Array.getElem?_eq_getElem b,bQ]
  have c:=d xs[off] av
  refine h _ ?_ ⟨fun a=>(by rw[hg] at a;cases a),fun _=>c⟩
  rw[c.cells]
  have:off<xs.toList.length:=by simpa using b
  rw[List.drop_eq_getElem_cons this]
  simp
def we (P:Program)(d:Nat)(t:TypeId)(ks:List Bool):Prop:=
 ∀(u v:Value) (r:Bool) (Q:Bool->af->Prop) (F:af),Shape P t u->Shape P t v->Kd ks u.cells.toList->Kd ks v.cells.toList->ij u.cells.toList v.cells.toList=some r->Q r F->bx P (Op.equalIn d t u v) Q F
theorem AI {d t:Nat}{ks:List Bool}(h:kX P d t=some ks):∃g,cU P t=some g/\(g=false->ks.length=1):=by
 cases d with
 |zero=>cases h
 |succ d=>
  unfold kX at h;split at h
  .split at h
   .rename_i hg;cases h;exact ⟨_,hg,fun _=>rfl⟩
   .cases h
  .split at h
   .rename_i hg;cases h;exact ⟨_,hg,fun _=>rfl⟩
   .cases h
  .split at h
   .rename_i hg;exact ⟨true,hg.1,fun x=>by cases x⟩
   .cases h
  .split at h
   .rename_i hg;exact ⟨true,hg,fun x=>by cases x⟩
   .cases h
  .cases h
theorem AJ {d:Nat}(ih:∀t ks,kX P d t=some ks->we P d t ks){xs ys:Array Value}{Q:Bool->af->Prop}{F:af}(n:∀x∈xs.toList,Sc x)(o:∀x∈ys.toList,Sc x):
  ∀(c:List Field) (off:Nat) (ks:List Bool) (r:Bool),qI P (kX P d) c off=some ks->Kd ks (xs.toList.drop off)->Kd ks (ys.toList.drop off)->ij (xs.toList.drop off) (ys.toList.drop off)=some r->off<=xs.size->off<=ys.size->Q r F->
  bx P (do
   let x<-forIn c ((none,()):Option Bool×Unit) fun f _=>do
    if f.name≠ "_" then
     if (!(<-Op.equalIn d f.type (<-part f.type xs f.offset) (<-part f.type ys f.offset)))=true then pure (ForInStep.done (some false,())) else pure (ForInStep.yield (none,()))
    else pure (ForInStep.yield (none,()))
   match x.fst with
    |some a=>pure a
    |none=>pure true:Sem Bool) Q F
 |[],off,ks,r,b,e,h,he,_,_,i=>by
  simp only[qI,Option.some.injEq] at b
  subst b
  have j:=e.length
  have l:=h.length
  rw[List.eq_nil_of_length_eq_zero j,List.eq_nil_of_length_eq_zero l] at he
  cases he
  simp only[List.forIn_nil,bG,bQ]
  exact i
 |f::c,off,ks,r,b,e,h,he,E,G,i=>by
  unfold qI at b
  split at b
  case isFalse=>cases b
  rename_i m
  obtain ⟨m,rfl⟩:=m
  split at b
  case h_2=>cases b
  rename_i k hk
  split at b
  case isFalse=>cases b
  rename_i hs
  split at b
  case h_2=>cases b
  rename_i ls y
  cases b
  obtain ⟨g,hg,p⟩:=AI hk
  have z:=e.length
  have A:=h.length
  simp only[List.length_drop,Array.length_toList,List.length_append] at z A
  obtain ⟨B,q⟩:=e.split
  obtain ⟨C,s⟩:=h.split
  rw[List.drop_drop] at q s
  have e1:xs.toList.drop f.offset=(xs.toList.drop f.offset).take k.length++xs.toList.drop (f.offset+k.length):=by
   rw[<-List.drop_drop,List.take_append_drop]
  have e2:ys.toList.drop f.offset=(ys.toList.drop f.offset).take k.length++ys.toList.drop (f.offset+k.length):=by
   rw[<-List.drop_drop,List.take_append_drop]
  rw[e1,e2] at he
  obtain ⟨r1,r2,j,l,rfl⟩:=sY (by simp;omega) he
  simp only[List.forIn_cons,bG,if_pos m]
  refine sZ hg hs p aa n fun u hu D=>?_
  refine sZ hg hs p aa o fun v w sv=>?_
  refine ih _ _ hk u v r1 _ F D sv (by rw[hu];exact B) (by rw[w];exact C) (by rw[hu,w];exact j) ?_
  cases r1 with
  |false=>simpa [bQ,dP] using i
  |true=>
   have:=AJ ih n o c (f.offset+k.length) ls r2 y q s l aa aa (Q:=Q) (F:=F) (by simpa using i)
   simpa [bQ,dP,bG] using this
theorem AK {d e k:Nat}{ks:List Bool}{g:Bool}(hk:we P d e ks)(h:ks.length=k)(hg:cU P e=some g)(j:g=false->ks.length=1)(hs:cv P e=some ks.length){xs ys:Array Value}{Q:Bool->af->Prop}{F:af}(t:∀x∈xs.toList,Sc x)(w:∀x∈ys.toList,Sc x):
  ∀(n i:Nat) (r:Bool),Kd (List.replicate n ks).flatten (xs.toList.drop (i*k))->Kd (List.replicate n ks).flatten (ys.toList.drop (i*k))->ij (xs.toList.drop (i*k)) (ys.toList.drop (i*k))=some r->i*k<=xs.size->i*k<=ys.size->Q r F->
  bx P (do
   let x<-forIn (List.range' i n) ((none,()):Option Bool×Unit) fun i _=>do
    if (!(<-Op.equalIn d e (<-part e xs (i*k)) (<-part e ys (i*k))))=true then pure (ForInStep.done (some false,())) else pure (ForInStep.yield (none,()))
   match x.fst with
    |some a=>pure a
    |none=>pure true:Sem Bool) Q F
 |0,i,r,b,c,he,_,_,f=>by
  have l:=b.length
  have m:=c.length
  rw[List.eq_nil_of_length_eq_zero l,List.eq_nil_of_length_eq_zero m] at he
  cases he
  simp only[List.range'_zero,List.forIn_nil,bG,bQ]
  exact f
 |n+1,i,r,b,c,he,D,E,f=>by
  have o:(i+1)*k=i*k+k:=by simp only[Nat.add_mul,Nat.one_mul]
  have A:=b.length
  have B:=c.length
  simp only[List.replicate_succ,List.flatten_cons,List.length_drop,Array.length_toList,List.length_append] at A B
  simp only[List.replicate_succ,List.flatten_cons] at b c
  obtain ⟨y,p⟩:=b.split
  obtain ⟨z,q⟩:=c.split
  rw[h] at y p z q
  rw[List.drop_drop,<-o] at p q
  have e1:xs.toList.drop (i*k)=(xs.toList.drop (i*k)).take k++xs.toList.drop ((i+1)*k):=by
   rw[o,<-List.drop_drop,List.take_append_drop]
  have e2:ys.toList.drop (i*k)=(ys.toList.drop (i*k)).take k++ys.toList.drop ((i+1)*k):=by
   rw[o,<-List.drop_drop,List.take_append_drop]
  rw[e1,e2] at he
  obtain ⟨r1,r2,l,m,rfl⟩:=sY (by simp;omega) he
  simp only[List.range'_succ,List.forIn_cons,bG]
  refine sZ hg hs j aa t fun u hu C=>?_
  refine sZ hg hs j aa w fun v s sv=>?_
  rw[h] at hu s
  refine hk u v r1 _ F C sv (by rw[hu];exact y) (by rw[s];exact z) (by rw[hu,s];exact l) ?_
  cases r1 with
  |false=>simpa [bQ,dP] using f
  |true=>
   have:=AK hk h hg j hs t w n (i+1) r2 p q m aa aa (Q:=Q) (F:=F) (by simpa using f)
   simpa [bQ,dP,bG] using this
theorem wh:∀(d t:Nat) (ks:List Bool),kX P d t=some ks->we P d t ks
 |0,_,_,h=>by cases h
 |d+1,t,ks,h=>by
  intro u v r Q F i sv hu c he j
  unfold kX at h
  split at h
  .rename_i f
   split at h
   case isFalse=>cases h
   rename_i hg
   cases h
   have a1:=i.2 hg
   have a2:=sv.2 hg
   rw[a1.cells] at he hu
   rw[a2.cells] at he c
   simp only[Op.equalIn,bG,dR,f]
   rcases a1 with ⟨k,a,rfl⟩|⟨a,rfl⟩<;>rcases a2 with ⟨l,b,rfl⟩|⟨b,rfl⟩<;>simp[Kd] at hu c
   simp[ij] at he
   subst he
   simpa [bQ] using j
  .rename_i f
   split at h
   case isFalse=>cases h
   rename_i hg
   cases h
   have a1:=i.2 hg
   have a2:=sv.2 hg
   rw[a1.cells] at he hu
   rw[a2.cells] at he c
   simp only[Op.equalIn,bG,dR,f]
   rcases a1 with ⟨k,a,rfl⟩|⟨a,rfl⟩<;>rcases a2 with ⟨l,b,rfl⟩|⟨b,rfl⟩<;>simp[Kd] at hu c
   simp[ij] at he
   obtain ⟨hk,rfl⟩:=he
   simpa [bQ,dP,hk] using j
  .rename_i m f
   split at h
   case isFalse=>cases h
   rename_i hg
   obtain ⟨hg,o⟩:=hg
   obtain ⟨xs,rfl⟩:=i.1 hg
   obtain ⟨ys,rfl⟩:=sv.1 hg
   simp only[Op.equalIn,bG,dR,f,kW,o,Bool.false_eq_true,if_false,dP,bQ]
   have:=AJ (P:=P) (d:=d) (fun t ks p=>wh d t ks p) (xs:=xs) (ys:=ys) (Q:=Q) (F:=F) hu.sc c.sc m.toList 0 ks r h (by simpa [Value.cells] using hu) (by simpa [Value.cells] using c) (by simpa [Value.cells] using he) aa aa j
   rw[<-Array.forIn_toList]
   simp[bG] at this ⊢
   exact iI (fun a G h=>by rcases a with ⟨_|_,_⟩<;>exact h) _ _ this
  .rename_i n e f
   split at h
   case isFalse=>cases h
   rename_i hg
   split at h
   case h_2=>cases h
   rename_i k hk
   split at h
   case isFalse=>cases h
   rename_i hs
   cases h
   obtain ⟨xs,rfl⟩:=i.1 hg
   obtain ⟨ys,rfl⟩:=sv.1 hg
   obtain ⟨g,q,s⟩:=AI hk
   simp only[Op.equalIn,bG,dR,f,fy,hs]
   have:=AK (P:=P) (d:=d) (wh d e k hk) rfl q s hs (xs:=xs) (ys:=ys) (Q:=Q) (F:=F) hu.sc c.sc n 0 r (by simpa [Value.cells] using hu) (by simpa [Value.cells] using c) (by simpa [Value.cells] using he) av av j
   simp only[Std.Legacy.Range.forIn_eq_forIn_range',Std.Legacy.Range.size,Nat.sub_zero,Nat.add_one_sub_one,Nat.div_one]
   simp[bG] at this ⊢
   exact iI (fun a G h=>by rcases a with ⟨_|_,_⟩<;>exact h) _ _ this
  .cases h
def jD:List Bool->List Value->Bool
 |[],[]=>true
 |true::ks,.int _ _::xs=>jD ks xs
 |false::ks,.bool _::xs=>jD ks xs
 |_,_=>false
theorem wj:∀{ks:List Bool} {xs:List Value},jD ks xs=true->Kd ks xs
 |[],[],_=>trivial
 |[],x::xs,h=>by simp[jD] at h
 |k::ks,[],h=>by cases k<;>simp[jD] at h
 |k::ks,x::xs,h=>by
  cases k<;>cases x<;>first
   |(simp only[jD,reduceCtorEq,Bool.false_eq_true] at h;done)
   |exact wj (ks:=ks) (xs:=xs) (by simpa only[jD] using h)
def oE (P:Program)(t:TypeId):Option (List Bool):=if P.eqGuardType P.depth t=false/\cU P t=some true then kX P Op.maxDepth t else none
def mW (P:Program)(t:TypeId):Value->Value->Option Bool
 | .agg xs,.agg ys=>match oE P t with
  |some ks=>if jD ks xs.toList&&jD ks ys.toList then ij xs.toList ys.toList else none
  |none=>none
 |_,_=>none
theorem wm {t:TypeId}{u v:Value}{r:Bool}{Q:Bool->af->Prop}{F:af}(h:mW P t u v=some r)(b:Q r F):bx P (Op.equal t u v) Q F/\P.eqGuardType P.depth t=false/\(∃xs,u= .agg xs)/\∃ys,v= .agg ys:=by
 unfold mW at h;split at h
 case h_2=>cases h
 rename_i xs ys;split at h
 case h_2=>cases h
 rename_i ks hk;split at h
 case isFalse=>cases h
 rename_i a;simp only[Bool.and_eq_true] at a;unfold oE at hk;split at hk
 case isFalse=>cases hk
 rename_i hg;refine ⟨?_,hg.1,⟨_,rfl⟩,_,rfl⟩;exact wh _ _ _ hk _ _ r Q F ⟨fun _=>⟨_,rfl⟩,fun x=>by rw[hg.2] at x;cases x⟩ ⟨fun _=>⟨_,rfl⟩,fun x=>by rw[hg.2] at x;cases x⟩ (wj a.1) (wj a.2) h b
def wo (P:Program)(t:TypeId):Bool:=match P.underlying t with|some .bool=>true|_=>false
def kY (P:Program)(t:TypeId):Bool:=match P.underlying t with|some (.slice _)=>true|_=>false
def qJ (P:Program)(t:TypeId):Value->Value->Option Bool
 | .bool a,.bool b=>if wo P t=true then some (a==b) else none
 | .slice none _ _,.slice b _ _=>if kY P t=true then some b.isNone else none
 | .slice (some _) _ _,.slice none _ _=>if kY P t=true then some false else none
 |_,_=>none
theorem AL {t:TypeId}{u v:Value}{r:Bool}{Q:Bool->af->Prop}{F:af}(h:qJ P t u v=some r)(e:Q r F):bx P (Op.equal t u v) Q F/\((∃a b,u= .bool a/\v= .bool b)\/∃a n c b m d,u= .slice a n c/\v= .slice b m d):=by
 obtain ⟨d,hd⟩:∃d,Op.maxDepth=d+1:=⟨_,rfl⟩
 unfold qJ at h;split at h
 .split at h
  .rename_i hb;cases h;unfold wo at hb;split at hb
   .rename_i hu;refine ⟨?_,.inl ⟨_,_,rfl,rfl⟩⟩;unfold Op.equal;rw[hd];simp only[Op.equalIn,bG,dR,hu,bQ];exact e
   .cases hb
  .cases h
 .split at h
  .rename_i hb;cases h;unfold kY at hb;split at hb
   .rename_i hu;refine ⟨?_,.inr ⟨_,_,_,_,_,_,rfl,rfl⟩⟩;unfold Op.equal;rw[hd];simp only[Op.equalIn,bG,dR,hu,bQ];exact e
   .cases hb
  .cases h
 .split at h
  .rename_i hb;cases h;unfold kY at hb;split at hb
   .rename_i hu;refine ⟨?_,.inr ⟨_,_,_,_,_,_,rfl,rfl⟩⟩;unfold Op.equal;rw[hd];simp only[Op.equalIn,bG,dR,hu,bQ];exact e
   .cases hb
  .cases h
 .cases h
def qK (P:Program)(op:BinOp)(t:TypeId)(u v:Value):Option Value:=
 match oD op u v with
 |some w=>some w
 |none=>match op with
  | .eql=>match mW P t u v with
   |some r=>some (.bool r)
   |none=>match qJ P t u v with
    |some r=>some (.bool r)
    |none=>none
  | .neq=>match mW P t u v with
   |some r=>some (.bool (!r))
   |none=>match qJ P t u v with
    |some r=>some (.bool (!r))
    |none=>none
  | .shr=>match u,v with
   | .int k a,.int _ b=>if b<0 then none else some (.int k (a.fdiv (2 ^ min b.toNat k.bits)))
   |_,_=>none
  | .shl=>match u,v with
   | .int k a,.int _ b=>if b<0 then none else some (.int k (k.wrap (a*2 ^ min b.toNat k.bits)))
   |_,_=>none
  |_=>none
theorem FP {op:BinOp}{t:TypeId}{x y:Operand}{u v w:Value}{Q:Value->af->Prop}{F:af}(h:qK P op t u v=some w)(e:Q w F):bx P (do eqGuard op t x y u v;binOp op t u v) Q F:=by
 unfold qK at h;split at h
 .rename_i w' hw;cases h;exact FL hw e
 .split at h
  .split at h
   .rename_i r f;cases h;obtain ⟨g,i,⟨xs,rfl⟩,ys,rfl⟩:=wm (Q:=fun r G=>Q (.bool r) G) f e;simp only[bG,eqGuard,binOp,kW,i,dP,bQ];simpa using g
   .split at h
    .rename_i r f;cases h;obtain ⟨g,i⟩:=AL (Q:=fun r G=>Q (.bool r) G) f e;rcases i with ⟨a,b,rfl,rfl⟩|⟨a,n,c,b,m,d,rfl,rfl⟩<;>
     .simp only[bG,eqGuard,binOp,kW,dP,bQ];simpa using g
    .cases h
  .split at h
   .rename_i r f;cases h;obtain ⟨g,i,⟨xs,rfl⟩,ys,rfl⟩:=wm (Q:=fun r G=>Q (.bool (!r)) G) f e;simp only[bG,eqGuard,binOp,kW,i,dP,bQ];simpa using g
   .split at h
    .rename_i r f;cases h;obtain ⟨g,i⟩:=AL (Q:=fun r G=>Q (.bool (!r)) G) f e;rcases i with ⟨a,b,rfl,rfl⟩|⟨a,n,c,b,m,d,rfl,rfl⟩<;>
     .simp only[bG,eqGuard,binOp,kW,dP,bQ];simpa using g
    .cases h
  .split at h
   .split at h
    .cases h
    .rename_i hb;cases h;rw[bG];refine v9 .shr t x y _ _ _ _ ?_;simp only[binOp,Op.shift,dP];rw[if_neg hb];exact e
   .cases h
  .split at h
   .split at h
    .cases h
    .rename_i hb;cases h;rw[bG];refine v9 .shl t x y _ _ _ _ ?_;simp only[binOp,Op.shift,dP];rw[if_neg hb];exact e
   .cases h
  .cases h
end
theorem wq {P:Program}{t e:TypeId}(h:dF P t=some e):P.underlying t=some (.slice e):=by
 unfold dF at h;split at h
 .rename_i a he;cases h;exact he
 .cases h
theorem AM (n:Nat):∀(r c:Nat),Builtin.growBy n r c<=2 ^ r*(c+768)
 |0,c=>by simp[Builtin.growBy]
 |r+1,c=>by
  unfold Builtin.growBy
  split
  .have:1<=2 ^ (r+1):=Nat.one_le_two_pow
   have:=Nat.mul_le_mul_right (c+768) this
   omega
  .have h:=AM n r (c+(c+768)/4)
   refine Nat.le_trans h ?_
   rw[Nat.pow_succ,Nat.mul_assoc]
   refine Nat.mul_le_mul_left _ ?_
   omega
theorem nextslicecap_le {n c:Nat}(h:c<n)(b:n<=1000000):Builtin.nextslicecap n c<=20000000:=by
 unfold Builtin.nextslicecap;split
 .omega
 .split
  .omega
  .have a:=AM n 4 c;have e:(2:Nat) ^ 4=16:=aD;rw[e] at a;refine Nat.le_trans a ?_;omega
section
variable {P:Program}
theorem FQ {Q:Array Value->af->Prop}{F:af}(a:Addr){n:Nat}{b:List Value}(h:F.dS a 0 n=some b)(c:Q b.toArray F):bx P (loadCells a n) Q F:=by
 obtain ⟨d,e⟩:=v8 F a n 0 b h;subst e;exact vZ a b 0 #[] d (by simpa using c)
def gX (F:af)(size:Nat):Value->Option (List Value)
 | .slice (some a) n _=>F.dS a 0 (n*size)
 | .slice none 0 _=>some []
 |_=>none
theorem wu {Q:Array Value->af->Prop}{F:af}{size n:Nat}{ad:Option Addr}{c:Nat}{b:List Value}(h:gX F size (.slice ad n c)=some b)(d:Q b.toArray F):bx P (Builtin.firstCells size n (.slice ad n c)) Q F:=by
 cases ad with
 |none=>
  cases n with
  |zero=>simp only[gX,Option.some.injEq] at h;subst h;exact d
  |succ n=>simp[gX] at h
 |some a=>exact FQ a h d
theorem wv {Q:Unit->af->Prop}{F:af}(n:Nat)(h:Q () F):bx P (askRoom n) Q F:=by
 unfold askRoom;rw[dP];split
 .exact ⟨rfl,h⟩
 .exact h
theorem wz {F:af}{Q:Value->af->Prop}{argTypes:Array TypeId}{ty i j e p:TypeId}{size d len cap n c:Nat}{base l:Option Addr}{z:Value}{old new:List Value}
  (q:argTypes[0]?=some i) (r:argTypes[1]?=some j) (he:dF P i=some e) (s:dF P j=some p) (hs:cv P e=some size) (u:zeroOf P e=some z) (hb:bytesOf P e=some d)
  (B:0<d) (v:d<=10000) (w:len+n<=1000000) (hold:gX F size (.slice base len cap)=some old) (m:gX F size (.slice l n c)=some new)
  (f:len+n<=cap->(∃a F',base=some a/\F.ki (a.add (len*size)) 0 new=some F'/\Q (.slice base (len+n) cap) F')\/(base=none/\Q (.slice base (len+n) cap) F))
  (x:cap<len+n->∀k b,len+n<=k->eD F b->Q (.slice (some ⟨b,0,none⟩) (len+n) k) (F.push b (.cells (old.toArray++new.toArray++Builtin.zeroCells z.cells (k - (len+n))) e))):
  bx P (Builtin.append_ argTypes ty #[.slice base len cap,.slice l n c]) Q F:=by
 have hu:=wq he
 have y:=wq s
 unfold bytesOf at hb
 obtain ⟨info,hi,rfl⟩:=Option.map_eq_some_iff.1 hb
 simp only[Builtin.append_,q,r,List.getElem?_toArray,List.getElem?_cons_zero,List.getElem?_cons_succ,bG,dR,hu,y,fy,hs,bQ,Builtin.lenOf,Bool.false_eq_true,if_false,dP,Bool.not_false,if_true,qF,hi]
 split
 .rename_i hle
  have f:=f hle
  refine wu m ?_
  rcases f with ⟨a,F',rfl,A,g⟩|⟨rfl,g⟩
  .simp only[bG]
   refine sS _ _ 0 F F' (by simpa using A) ?_
   exact g
  .exact g
 .rename_i C
  have hk:=nextslicecap_le (n:=len+n) (c:=cap) aa w
  have e1:¬(((len+n:Nat):Int)>IntKind.i64.max/\(false=true\/info.bytes=0)):=by
   rintro ⟨_,h|h⟩
   .cases h
   .omega
  have e2:¬(Builtin.nextslicecap (len+n) cap*info.bytes>2 ^ 48):=by
   have:Builtin.nextslicecap (len+n) cap*info.bytes<=20000000*10000:=Nat.mul_le_mul hk v
   omega
  rw[if_neg (by simpa using e1),if_neg e2]
  rw[vY]
  rw[if_neg (by simp[Question.forced])]
  intro t
  have o:len+n<=(Question.appendCap (len+n) cap e).cut t:=Nat.le_add_right _ _
  generalize (Question.appendCap (len+n) cap e).cut t=k at o ⊢
  refine wv _ ?_
  refine wu hold ?_
  refine wu m ?_
  simp only[bG,mR,u,sU,bQ]
  exact fun b hb=>x aa k b o hb
end
theorem wA:∀{pre:List (Nat×Obj)} {b:Nat} {o:Obj},ax pre b->lk (pre++[(b,o)]) b=some o
 |[],b,o,_=>by simp[lk]
 |(c,x)::pre,b,o,h=>by
  have a:¬c=b:=fun e=>h.1 e.symm
  simp[lk,a,wA h.2]
def c9 (arr:Array Value)(k:Nat):List Value->Array Value
 |[]=>arr
 |v::a=>c9 (arr.setIfInBounds k v) (k+1) a
theorem s0:∀(a:List Value) (arr:Array Value) (k:Nat),(c9 arr k a).size=arr.size
 |[],_,_=>rfl
 |v::a,arr,k=>by rw[c9,s0 a];simp
theorem s3:∀(a:List Value) (arr:Array Value) (k:Nat),k+a.length<=arr.size->(c9 arr k a).toList=arr.toList.take k++a++arr.toList.drop (k+a.length)
 |[],arr,k,_=>by simp[c9]
 |v::a,arr,k,h=>by
  simp only[List.length_cons] at h
  rw[c9,s3 a _ _ (by simp;omega)]
  have hk:k<arr.toList.length:=by simp;omega
  rw[Array.toList_setIfInBounds]
  have e1:(arr.toList.set k v).take (k+1)=arr.toList.take k++[v]:=by
   rw[List.take_succ_eq_append_getElem (by simpa using hk),List.take_set_of_le (Nat.le_refl _)]
   simp
  have e2:(arr.toList.set k v).drop (k+1+a.length)=arr.toList.drop (k+(v::a).length):=by
   rw[List.drop_set_of_lt aa]
   congr 1
   simp;omega
  rw[e1,e2]
  simp
def Gr (ro:Addr->Option Value)(e:TypeId)(size:Nat)(v:Value)(l:List (List Value))(bw:List (Nat×Obj)):Prop:=
 (v= .slice none 0 0/\l=[]/\bw=[])\/
 ∃b arr cap,v= .slice (some ⟨b,0,none⟩) l.length cap/\bw=[(b,.cells arr e)]/\arr.size=cap*size/\l.length<=cap/\arr.toList.take (l.length*size)=l.flatten/\(∀x∈l,x.length=size)/\∀off sp,ro ⟨b,off,sp⟩=none
theorem iZ {size:Nat}:∀{l:List (List Value)},(∀x∈l,x.length=size)->l.flatten.length=l.length*size
 |[],_=>by simp
 |x::l,h=>by
  have ih:l.flatten.length=l.length*size:=iZ (fun y a=>h y (List.mem_cons_of_mem _ a))
  simp only[List.flatten_cons,List.length_append,List.length_cons,h x av,ih,Nat.add_mul,Nat.one_mul]
  omega
theorem AN {ro:Addr->Option Value}{pre:List (Nat×Obj)}{b:Nat}{e:TypeId}{arr:Array Value}(a:ax pre b)(c:∀off sp,ro ⟨b,off,sp⟩=none):∀(n i:Nat),i+n<=arr.size->
  af.dS ⟨ro,pre++[(b,.cells arr e)]⟩ ⟨b,0,none⟩ i n=some ((arr.toList.drop i).take n)
 |0,i,_=>by simp[af.dS]
 |n+1,i,h=>by
  have f:(⟨b,0,none⟩:Addr).add i=⟨b,i,none⟩:=by
   unfold Addr.add
   split
   .rename_i hi;subst hi;rfl
   .simp
  have d:i<arr.size:=aa
  unfold af.dS
  have ih:=AN (e:=e) (arr:=arr) a c n (i+1) aa
  simp only[af.get,f,c,if_true,wA a,Option.bind_some,cellOf,Array.getElem?_eq_getElem d,ih]
  have g:i<arr.toList.length:=by simpa using d
  rw[List.drop_eq_getElem_cons g,List.take_succ_cons]
  simp
theorem Gr.gX {ro:Addr->Option Value}{e:TypeId}{size:Nat}{v:Value}{l:List (List Value)}{bw pre:List (Nat×Obj)}(h:Gr ro e size v l bw)(a:∀k∈keys bw,ax pre k):
  Go.Sep.gX ⟨ro,pre++bw⟩ size v=some l.flatten:=by
 rcases h with ⟨rfl,rfl,rfl⟩|⟨b,arr,cap,rfl,rfl,hs,hl,ht,d,c⟩
 .rfl
 .simp only[Go.Sep.gX]
  have hle:l.length*size<=arr.size:=by rw[hs];exact Nat.mul_le_mul_right _ hl
  rw[AN (a b (by simp[keys])) c _ _ aa]
  simp[ht]
def qL (P:Program)(t:TypeId)(parts:List (Nat×Value)):Option Value:=
 match zeroOf P t,placesOf P t with
 |some z,some pl=>match Instr.fill (fun i=>pl[i]?) z.cells parts with
  |some cs=>some (.agg cs)
  |none=>none
 |_,_=>none
theorem AO {P:Program}{Q:Array (Nat×Nat)->af->Prop}{F:af}:∀(a:List Field) (pl:List (Nat×Nat)) (acc:Array (Nat×Nat)),(a.mapM fun f=>(cv P f.type).map fun s=>(f.offset,s))=some pl->
  Q (acc++pl.toArray) F->bx P (a.foldlM (fun (b:Array (Nat×Nat)) f=>do let s<-sizeOf f.type;pure (b.push (f.offset,s))) acc) Q F
 |[],pl,acc,h,c=>by
  simp at h;subst h
  simpa [bQ] using c
 |f::a,pl,acc,h,c=>by
  simp only[List.mapM_cons] at h
  cases hs:cv P f.type with
  |none=>simp[hs] at h
  |some s=>
   cases d:(a.mapM fun f=>(cv P f.type).map fun s=>(f.offset,s)) with
   |none=>simp[hs,d] at h
   |some pr=>
    simp[hs,d] at h
    subst h
    simp only[List.foldlM_cons,bG,fy,hs,bQ]
    exact AO a pr _ d (by simpa using c)
theorem FR {P:Program}{Q:Array (Nat×Nat)->af->Prop}{F:af}(a:Array Field)(pl:List (Nat×Nat))(h:(a.toList.mapM fun f=>(cv P f.type).map fun s=>(f.offset,s))=some pl)
  (b:Q pl.toArray F):bx P (a.mapM fun f=>do let s<-sizeOf f.type;pure (f.offset,s)) Q F:=by
 rw[Array.mapM_eq_foldlM,<-Array.foldlM_toList]
 have:=AO (Q:=Q) (F:=F) a.toList pl #[] h (by simpa using b)
 simpa using this
theorem FT {P:Program}{t:TypeId}{parts:Array (Nat×Value)}{w:Value}{Q:Value->af->Prop}{F:af}(h:qL P t parts.toList=some w)(b:Q w F):bx P (Instr.build t parts) Q F:=by
 unfold qL at h;split at h
 case h_2=>cases h
 rename_i z pl c a;split at h
 case h_2=>cases h
 rename_i cs d;cases h;unfold placesOf at a;split at a
 case h_2=>cases a
 rename_i e f;simp only[Instr.build,bG,mR,c,dR,f];refine FR e pl a ?_;simp only[List.getElem?_toArray,d,bQ];exact b
def s4 (P:Program)(t:TypeId)(len:Nat)(parts:List (Nat×Value)):Option (TypeId×Array Value):=
 match dF P t with
 |some e=>match cv P e,zeroOf P e with
  |some size,some z=>if len*size<=2 ^ 24/\0<len*size then
    match Instr.fill (fun i=>some (i*size,size)) ((Array.range (len*size)).map (z.cells[· % z.cells.size]!)) parts with
    |some cs=>some (e,cs)
    |none=>none
   else if len*size=0/\parts.isEmpty=true then some (e,#[]) else none
  |_,_=>none
 |none=>none
theorem FU {P:Program}{t:TypeId}{len:Nat}{parts:Array (Nat×Value)}{e:TypeId}{cs:Array Value}{Q:Value->af->Prop}{F:af}(h:s4 P t len parts.toList=some (e,cs))
  (d:∀b,eD F b->Q (.slice (some ⟨b,0,none⟩) len len) (F.push b (.cells cs e))):bx P (Instr.buildSlice t len parts) Q F:=by
 unfold s4 at h
 split at h
 case h_2=>cases h
 rename_i f he
 split at h
 case h_2=>cases h
 rename_i size z hs g
 split at h
 case isFalse=>
  split at h
  case isFalse=>cases h
  rename_i hb
  cases h
  have hu:P.underlying t=some (.slice e):=by
   unfold dF at he
   split at he
   .rename_i f a;cases he;exact a
   .cases he
  have c:¬(len*size>2 ^ 24):=by rw[hb.1];decide
  have i:parts.toList=[]:=List.isEmpty_iff.1 hb.2
  simp only[Instr.buildSlice,bG,dR,hu,fy,hs,dP,if_neg c,if_pos hb.1,bQ,i]
  rw[hb.1]
  have e0:Array.range 0=#[]:=rfl
  simp only[e0,Array.map_empty,Instr.fill,bG,sU,bQ]
  exact d
 rename_i hb
 split at h
 case h_2=>cases h
 rename_i cs' j
 cases h
 have hu:P.underlying t=some (.slice e):=by
  unfold dF at he
  split at he
  .rename_i f a;cases he;exact a
  .cases he
 have c:¬(len*size>2 ^ 24):=aa
 have k:¬(len*size=0):=aa
 simp only[Instr.buildSlice,bG,dR,hu,fy,hs,dP,if_neg c,if_neg k,mR,g,bQ,j,sU]
 exact d
def qM (P:Program)(t:TypeId)(n:Nat):Value->Option Value
 | .agg cs=>match v7 P t n with
  |some (off,s,true)=>some (.agg (cs.extract off (off+s)))
  |some (off,_,false)=>cs[off]?
  |none=>none
 |_=>none
theorem FV {P:Program}{t:TypeId}{n:Nat}{u w:Value}{Q:Value->af->Prop}{F:af}(h:qM P t n u=some w)(b:Q w F):bx P (Instr.field t u n) Q F:=by
 cases u<;>simp only[qM,reduceCtorEq] at h;rename_i cs;unfold v7 at h;cases hu:P.underlying t with
 |none=>simp[hu] at h
 |some d=>
  cases d<;>simp only[hu,reduceCtorEq] at h;rename_i c;cases a:c[n]? with
  |none=>simp[a] at h
  |some f=>
   simp only[a] at h;cases hs:cv P f.type with
   |none=>simp[hs] at h
   |some s=>
    cases hg:cU P f.type with
    |none=>simp[hs,hg] at h
    |some g=>
     simp only[hs,hg] at h;simp only[Instr.field,bG,dR,hu,a,FI,part,mS,hg,dP];cases g with
     |true=>simp only[Option.some.injEq] at h;subst h;simpa [fy,hs,bQ] using b
     |false=>
      simp only at h;simp only[Bool.false_eq_true,if_false,h];exact b
def s5 (n:Nat):Value->Option Value
 | .tuple a=>a[n]?
 |_=>none
def mX (P:Program)(src dst:TypeId):Value->Option Value
 | .int _ n=>match P.underlying src,P.underlying dst with
  |some (.int _),some (.int k)=>some (.int k (k.wrap n))
  |_,_=>none
 |_=>none
theorem FW {P:Program}{src dst:TypeId}{u w:Value}{Q:Value->af->Prop}{F:af}(h:mX P src dst u=some w)(a:Q w F):bx P (convert src dst u) Q F:=by
 cases u<;>simp only[mX,reduceCtorEq] at h;rename_i k n;split at h
 .rename_i k1 d b c;cases h;simp only[convert,bG,dR,b,c,Conv.intToInt,bQ];exact a
 .cases h
def s6 (P:Program)(t:TypeId):Value->Option Value
 | .slice _ n _=>match dF P t with
  |some _=>some (.int .i64 n)
  |none=>none
 |_=>none
def qN (P:Program)(t:TypeId):Value->Value->Option Value
 | .agg cs,.int _ i=>match lS P t with
  |some (len,e)=>match cv P e,cU P e with
   |some s,some true=>if 0<=i/\i<(len:Int) then some (.agg (cs.extract (i.toNat*s) (i.toNat*s+s))) else none
   |some s,some false=>if 0<=i/\i<(len:Int) then cs[i.toNat*s]? else none
   |_,_=>none
  |none=>none
 | .string s,.int _ i=>match P.underlying t with
  |some .string=>if 0<=i then (s[i.toNat]?).map fun b=>.int .u8 b.toNat else none
  |_=>none
 |_,_=>none
theorem FX {P:Program}{t:TypeId}{u v w:Value}{Q:Value->af->Prop}{F:af}(h:qN P t u v=some w)(a:Q w F):bx P (Instr.index t u v) Q F:=by
 unfold qN at h;split at h
 case h_3=>cases h
 case h_2=>
  rename_i s k i;split at h
  case h_2=>cases h
  rename_i hu;split at h
  case isFalse=>cases h
  rename_i hi;obtain ⟨b,hb,rfl⟩:=Option.map_eq_some_iff.1 h;simp only[Instr.index,bG,lR,dR,hu,if_pos hi,hb,bQ];exact a
 rename_i cs k i;split at h
 case h_2=>cases h
 rename_i len e he;have hu:P.underlying t=some (.array len e):=by
  unfold lS at he;split at he
  .rename_i d f c;cases he;exact c
  .cases he
 split at h
 .rename_i s hs hg;split at h
  case isFalse=>cases h
  rename_i hi;cases h;simp only[Instr.index,bG,lR,dR,hu,dP,if_pos hi,fy,hs,part,mS,hg,if_true,bQ];exact a
 .rename_i s hs hg;split at h
  case isFalse=>cases h
  rename_i hi;simp only[Instr.index,bG,lR,dR,hu,dP,if_pos hi,fy,hs,part,mS,hg,Bool.false_eq_true,if_false,h,bQ];exact a
 .cases h
def mY (P:Program)(argTypes:Array TypeId)(s x:Value)(R:Value->af->Prop)(F:af):Prop:=
 ∀ty,bx P (Builtin.append_ argTypes ty #[s,x]) (fun v F=>∃F0,Le F0 F/\R v F0) F
def Oper.oF (o:Oper):Bool:=match o.op with| .call {callee:=.builtin .append, ..}=>true|_=>false
def iq (P:Program)(J:Goroutine->af->Prop)(y:Value)(args:Array Value)(F:af)(R:Value->af->Prop):Prop:=
 match y with
 | .func (.func fn) first captured=>aR P fn=true/\dx P J fn (first++args++captured) F R
 | .func (.yield l) first captured=>first=#[]/\captured=#[]/\∃r,F.fR l=some (.loop r)/\args.size=r.params.size/\j8 J l r.fn ((r.params.zip args).foldl (fun tmps (t,a)=>tmps.setIfInBounds t a) r.tmps) r.assign r.body F R
 |_=>False
theorem iq.mono {P:Program}{J:Goroutine->af->Prop}{y:Value}{args:Array Value}{F:af}{R a:Value->af->Prop}(h:iq P J y args F R)(b:∀v F',R v F'->a v F'):iq P J y args F a:=by
 unfold iq at h ⊢;split at h
 .exact ⟨h.1,h.2.mono b⟩
 .obtain ⟨e1,e2,r,c,d,e⟩:=h;exact ⟨e1,e2,r,c,d,e.mono b⟩
 .exact h.elim
theorem FY {P:Program}{J:Goroutine->af->Prop}{fn:FuncId}{first captured args:Array Value}{F:af}{R:Value->af->Prop}:iq P J (.func (.func fn) first captured) args F R=(aR P fn=true/\dx P J fn (first++args++captured) F R):=rfl
def fK (P:Program)(m:Sem Value)(R:Value->af->Prop)(F:af):Prop:=bx P m R F
def dc (P:Program)(J:Goroutine->af->Prop)(o:Oper)(R:Value->af->Prop)(a:Act)(F:af):Prop:=
 match o.op with
 | .move x| .assign x=>R (ev a x) F
 | .nilCheck x=>match ev a x with
  | .pointer (some _)=>R (ev a x) F
  |_=>False
 | .pick c x y=>match ev a c with
  | .bool b=>R (if b then ev a x else ev a y) F
  |_=>False
 | .alloc t=>match zeroOf P t with
  |some z=>∀b,eD F b->R (.pointer (some ⟨b,0,none⟩)) (F.push b (.cells z.cells t))
  |none=>False
 | .box t x=>∀b,eD F b->R (.pointer (some ⟨b,0,none⟩)) (F.push b (.cells (ev a x).cells t))
 | .build t parts=>match qL P t (parts.map fun (i,x)=>(i,ev a x)).toList with
  |some v=>R v F
  |none=>False
 | .buildSlice t len parts=>match s4 P t len (parts.map fun (i,x)=>(i,ev a x)).toList with
  |some (e,cs)=>∀b,eD F b->R (.slice (some ⟨b,0,none⟩) len len) (F.push b (.cells cs e))
  |none=>False
 | .load t x=>match ev a x with
  | .pointer (some ad)=>match fZ P F t ad with
   |some v=>R v F
   |none=>False
  |_=>False
 | .store t x y=>match ev a x with
  | .pointer (some ad)=>match sV P F t ad (ev a y) with
   |some F'=>R undef F'
   |none=>False
  |_=>False
 | .binOp op t x y _=>match qK P op t (ev a x) (ev a y) with
  |some v=>R v F
  |none=>False
 | .unOp op _ x=>match mU op (ev a x) with
  |some v=>R v F
  |none=>False
 | .convert src dst x=>match mX P src dst (ev a x) with
  |some v=>R v F
  |none=>False
 | .makeFunc fn first captured=>R (.func fn (first.map (ev a)) (captured.map (ev a))) F
 | .slice t x lo hi none=>(match ev a x with| .slice _ len cap=>len<=cap| .pointer (some _)=>True|_=>False)/\match mV P t (ev a x) (lo.map (ev a)) (hi.map (ev a)) with
  |some v=>R v F
  |none=>False
 | .fieldAddr s x n=>match ev a x with
  | .pointer (some ad)=>match di P s n with
   |some k=>R (.pointer (some (ad.add k))) F
   |none=>False
  |_=>False
 | .field s x n=>match qM P s n (ev a x) with
  |some v=>R v F
  |none=>False
 | .indexAddr t x i=>match qH P t (ev a x) (ev a i) with
  |some v=>R v F
  |none=>False
 | .index t x i=>match qN P t (ev a x) (ev a i) with
  |some v=>R v F
  |none=>False
 | .extract x n=>match s5 n (ev a x) with
  |some v=>R v F
  |none=>False
 | .call {callee:=.value x,args, ..}=>iq P J (ev a x) (args.map (ev a)) F R
 | .call {callee:=.builtin .len,args,argTypes}=>match argTypes[0]?,args[0]? with
  |some t,some x=>match s6 P t (ev a x) with
   |some v=>R v F
   |none=>fK P (Builtin.len_ argTypes o.type (args.map (ev a))) R F
  |_,_=>False
 | .makeMap t r=>fK P (Instr.makeMap t (r.map (ev a))) R F
 | .makeSlice t l c=>fK P (Instr.makeSlice t (ev a l) (ev a c)) R F
 | .mapUpdate t m k x=>fK P (Instr.mapUpdate t (ev a m) (ev a k) (ev a x)>>= fun _=>pure undef) R F
 | .call {callee:=.builtin .clear,args,argTypes}=>fK P (Builtin.clear_ argTypes o.type (args.map (ev a))) R F
 | .call {callee:=.builtin .cap,args,argTypes}=>fK P (Builtin.cap_ argTypes o.type (args.map (ev a))) R F
 | .call {callee:=.builtin .copy,args,argTypes}=>fK P (Builtin.copy_ argTypes o.type (args.map (ev a))) R F
 | .call {callee:=.builtin .append,args,argTypes}=>match args.toList with
  |[x,y]=>mY P argTypes (ev a x) (ev a y) R F
  |_=>False
 | .call {callee:=.builtin .max,args, ..}=>match args.toList with
  |[x,y]=>match sW (ev a x) (ev a y) with
   |some v=>R v F
   |none=>False
  |_=>False
 | .call {callee:=.builtin .min,args, ..}=>match args.toList with
  |[x,y]=>match sX (ev a x) (ev a y) with
   |some v=>R v F
   |none=>False
  |_=>False
 |_=>False
theorem e7 (a:Act):a.eval=ev a:=rfl
theorem AP {P:Program}{J:Goroutine->af->Prop}{o:Oper}{R:Value->af->Prop}{D:Deferred->af->Prop}{a:Act}{F:af}(B:Oper.oF o=false)(h:dc P J o R a F):bx P (execOp a.eval o) (gr P J R D) F:=by
 obtain ⟨dst,op,type,pos,after,guard⟩:=o;unfold execOp;simp only[e7];unfold dc at h;simp only at h;cases op<;>simp only at h ⊢
 case move x=>exact h
 case assign x=>exact h
 case nilCheck x=>
  split at h
  .rename_i ad g;simp only[g,bQ,gr];rw[g] at h;exact h
  .exact h.elim
 case pick c x y=>
  split at h
  .rename_i b hb;simp only[bG,hb,FH,bQ,gr];exact h
  .exact h.elim
 case alloc t=>
  split at h
  .rename_i z C;simp only[Instr.alloc,bG,mR,C,AD,bQ,gr];exact h
  .exact h.elim
 case box t x=>
  simp only[Instr.box,bG,AD,bQ,gr];exact h
 case build t parts=>
  split at h
  .rename_i v d;simp only[bG,bQ];exact FT d h
  .exact h.elim
 case buildSlice t len parts=>
  split at h
  .rename_i e cs d;simp only[bG,bQ];exact FU d h
  .exact h.elim
 case load t x=>
  split at h
  case h_2=>exact h.elim
  rename_i ad p;split at h
  case h_2=>exact h.elim
  rename_i v d;simp only[Instr.loadAt,bG,p,qG,bQ];exact AH d h
 case store t x y=>
  split at h
  case h_2=>exact h.elim
  rename_i ad p;split at h
  case h_2=>exact h.elim
  rename_i F' E;simp only[Instr.storeAt,bG,p,qG,bQ];exact FK E h
 case binOp op t x y W=>
  split at h
  case h_2=>exact h.elim
  rename_i v d;rw[jB];exact FP d h
 case unOp op t x=>
  split at h
  case h_2=>exact h.elim
  rename_i v d;rw[jB];exact FM d h
 case convert src dst x=>
  split at h
  case h_2=>exact h.elim
  rename_i v d;rw[jB];exact FW d h
 case makeFunc fn first captured=>
  simp only[Instr.makeFunc,bG,bQ,gr];exact h
 case slice t x lo hi G=>
  cases G with
  |some m=>exact h.elim
  |none=>
   simp only at h;obtain ⟨q,h⟩:=h;split at h
   case h_2=>exact h.elim
   rename_i v d;rw[jB];exact FO (fun ad len cap e=>by rw[e] at q;exact q) d h
 case fieldAddr s x n=>
  split at h
  case h_2=>exact h.elim
  rename_i ad p;split at h
  case h_2=>exact h.elim
  rename_i k hk;unfold di at hk;split at hk
  case h_2=>cases hk
  rename_i X H;split at hk
  case h_2=>cases hk
  rename_i f u;split at hk
  case h_2=>cases hk
  rename_i m hm;cases hk;rw[jB];simp only[Instr.fieldAt,bG,dR,H,u,p,qG,fieldPlace,fy,hm];simpa [bQ,gr] using h
 case field s x n=>
  split at h
  case h_2=>exact h.elim
  rename_i v d;rw[jB];exact FV d h
 case indexAddr t x i=>
  split at h
  case h_2=>exact h.elim
  rename_i v d;rw[jB];exact FN d h
 case index t x i=>
  split at h
  case h_2=>exact h.elim
  rename_i v d;rw[jB];exact FX d h
 case extract x n=>
  split at h
  case h_2=>exact h.elim
  rename_i v d;rw[jB];unfold s5 at d;split at d
  .rename_i Y I;simp only[I,Instr.extract,d];exact h
  .cases d
 case makeMap t r=>
  rw[jB];exact h
 case makeSlice t l c=>
  rw[jB];exact h
 case mapUpdate t m k x=>
  unfold fK at h;rw[bG] at h;rw[bG];exact h
 case call c=>
  obtain ⟨callee,args,argTypes⟩:=c;cases callee with
  |value x=>
   simp only at h;unfold iq at h;split at h
   case h_3=>exact h.elim
   .rename_i fn first captured g
    obtain ⟨j,K⟩:=h;unfold aR at j;split at j
    case h_2=>cases j
    rename_i f u;simp only[Bool.not_eq_true',Bool.or_eq_false_iff] at j;simp only[resolve,g,Deferred.ofValue,bG,bQ,invoke,callFunc,kW,u,j.1,j.2,Bool.false_eq_true,if_false,gr];exact K
   .rename_i l first captured g
    obtain ⟨rfl,rfl,r,q,L,M⟩:=h;simp only[resolve,g,Deferred.ofValue,bG,bQ,invoke,Instr.yield,Instr.getLoop,Array.append_empty,Array.empty_append,Array.map_map];refine ⟨_,q,?_⟩;have N:∀{α:Type} (x:α) (Q:α->af->Prop) (F:af),bx P (Sem.pure x) Q F=Q x F:=fun _ _ _=>rfl;simp only[bG,N,bQ,dP,ne_eq,L,not_true_eq_false,if_false,gr];exact M
  |invoke r m=>exact h.elim
  |builtin b=>
   cases b<;>simp only at h
   case append=>simp[Oper.oF] at B
   case clear=>
    simp only[resolve,bG,bQ,invoke,builtin];exact h
   case cap=>
    simp only[resolve,bG,bQ,invoke,builtin];exact h
   case copy=>
    simp only[resolve,bG,bQ,invoke,builtin];exact h
   case len=>
    split at h
    case h_2=>exact h.elim
    rename_i t x ht g;split at h
    case h_2=>
     simp only[resolve,bG,bQ,invoke,builtin];exact h
    rename_i v d;unfold s6 at d;split at d
    case h_2=>cases d
    rename_i ad n cap O;split at d
    case h_2=>cases d
    rename_i e S;have he:=wq S;cases d;have T:(args.map (ev a))[0]?=some (.slice ad n cap):=by simp[g,O]
    simp only[resolve,bG,bQ,invoke,builtin,Builtin.len_,ht,T,dR,he];exact h
   case max=>
    split at h
    case h_2=>exact h.elim
    rename_i x y w;split at h
    case h_2=>exact h.elim
    rename_i v d;unfold sW at d;split at d
    case h_2=>cases d
    rename_i k U V y' g A;cases d;simp only[resolve,bG,bQ,invoke,builtin,Builtin.max_,Array.toList_map,w,List.map_cons,List.map_nil,List.foldlM_cons,List.foldlM_nil,g,A,Builtin.max2,gr];exact h
   case min=>
    split at h
    case h_2=>exact h.elim
    rename_i x y w;split at h
    case h_2=>exact h.elim
    rename_i v d;unfold sX at d;split at d
    case h_2=>cases d
    rename_i k U V y' g A;cases d;simp only[resolve,bG,bQ,invoke,builtin,Builtin.min_,Array.toList_map,w,List.map_cons,List.map_nil,List.foldlM_cons,List.foldlM_nil,g,A,Builtin.min2,gr];exact h
theorem lT {P:Program}{J:Goroutine->af->Prop}{o:Oper}{R:Value->af->Prop}{D:Deferred->af->Prop}{a:Act}{F:af}(h:dc P J o R a F):bx P (execOp a.eval o) (kU P J R D) F:=
by
 cases b:Oper.oF o with
 |false=>exact iI Ft _ _ (AP b h)
 |true=>
  obtain ⟨dst,op,type,pos,after,guard⟩:=o
  unfold Oper.oF at b
  split at b
  .rename_i callee args argTypes c
   simp only at c
   subst c
   unfold dc at h
   simp only at h
   split at h
   case h_2=>exact h.elim
   rename_i x y d
   have e:args=#[x,y]:=by rw[<-Array.toList_inj];simpa using d
   subst e
   unfold execOp
   simp only[e7,resolve,bG,bQ,invoke,builtin]
   have:=h type
   simpa [kU,gr,bG,bQ] using this
  .cases b
def cV (ops:Array Oper)(o:Oper)(a:Act):Option Bool:=
 match o.guard with
 |none=>some true
 |some (j,want)=>match (ops[j]?).bind (·.dst) with
  |some d=>match slot a d with
   | .bool b=>some (b==want)
   | .tuple _=>some false
   |_=>none
  |none=>none
theorem cD {ops:Array Oper}{o:Oper}{a:Act}{t:Bool}(h:cV ops o a=some t):Region.wanted o (yielded ops a.tmps)=t:=by
 unfold cV at h;unfold Region.wanted;split at h
 .rename_i hg;rw[hg];cases h;rfl
 .rename_i j want hg;rw[hg];split at h
  .rename_i d hd;split at h
   .rename_i b hb;cases h;have ht:a.tmps[d]?=some (.bool b):=by
     unfold slot at hb;rw[Array.getD_eq_getD_getElem?] at hb;cases c:a.tmps[d]? with
     |none=>rw[c] at hb;simp[undef] at hb
     |some v=>rw[c] at hb;simpa using hb
    simp only[yielded,hd,Option.bind_some,ht];cases b<;>cases want<;>rfl
   .rename_i b hb;cases h;simp only[yielded,hd,Option.bind_some];unfold slot at hb;rw[Array.getD_eq_getD_getElem?] at hb;cases c:a.tmps[d]? with
    |none=>rfl
    |some v=>
     rw[c] at hb;simp at hb;subst hb;rfl
   .cases h
  .cases h
def Oper.calls (o:Oper):Bool:=match o.op with| .call {callee:=.value _, ..}=>true| .call {callee:=.builtin .append, ..}=>true| .call {callee:=.builtin .clear, ..}=>true| .call {callee:=.builtin .cap, ..}=>true| .call {callee:=.builtin .copy, ..}=>true| .makeMap ..=>true| .makeSlice ..=>true| .mapUpdate ..=>true|_=>false
def fL (P:Program)(J:Goroutine->af->Prop)(ops:Array Oper)(K:Act->af->Prop):List Oper->Bool->Act->af->Prop
 |[],_,a,F=>K a F
 |o::rest,_,a,F=>match cV ops o a with
  |some true=>dc P J o (fun v F'=>fL P J ops K rest (!Oper.calls o) (bB a o.dst v) F') a F
  |some false=>fL P J ops K rest true (bB a o.dst undef) F
  |none=>False
theorem AQ {P:Program}{J:Goroutine->af->Prop}{ops:Array Oper}{K:Act->af->Prop}{go:Bool}{a:Act}{F:af}:fL P J ops K [] go a F=K a F:=rfl
theorem AR {P:Program}{J:Goroutine->af->Prop}{ops:Array Oper}{K:Act->af->Prop}{o:Oper}{rest:List Oper}{a:Act}{F:af}:fL P J ops K (o::rest) true a F=match cV ops o a with
  |some true=>dc P J o (fun v F'=>fL P J ops K rest (!Oper.calls o) (bB a o.dst v) F') a F
  |some false=>fL P J ops K rest true (bB a o.dst undef) F
  |none=>False:=(Eq.refl _).trans (Eq.refl _)
theorem aP {P:Program}{J:Goroutine->af->Prop}{ops:Array Oper}{K:Act->af->Prop}:∀{l:List Oper} {go:Bool} {a:Act} {F:af},fL P J ops K l true a F->fL P J ops K l go a F
 |[],_,_,_,h=>h
 |_::_,_,_,_,h=>h
theorem wB {P:Program}{J:Goroutine->af->Prop}{ops:Array Oper}{K:Act->af->Prop}:∀(l:List Oper) (k:Nat) (go:Bool) (a:Act) (F:af),ops.toList.drop k=l->fL P J ops K l go a F->
  gG P J ops K (List.range' k l.length) a F
 |[],k,_,a,F,_,h=>h
 |o::rest,k,_,a,F,hl,h=>by
  have c:ops[k]?=some o:=by
   have:=congrArg List.head? hl
   simpa [List.head?_drop] using this
  have b:ops.toList.drop (k+1)=rest:=by
   have:=congrArg List.tail hl
   simpa [List.tail_drop] using this
  simp only[List.length_cons,List.range'_succ]
  show ek P J ops k (gG P J ops K (List.range' (k+1) rest.length)) a F
  unfold ek
  simp only[c]
  unfold fL at h
  split at h
  .rename_i hg
   rw[if_pos (cD hg)]
   exact iI (qB (fun v F' d=>wB rest (k+1) _ _ F' b d) (fun _ _ x=>x)) _ _ (lT h)
  .rename_i hg
   rw[if_neg (by rw[cD hg];simp)]
   exact wB rest (k+1) _ _ F b h
  .exact h.elim
theorem aQ {P:Program}{main:Bool}{J:Goroutine->af->Prop}{Q:Ex->Act->af->Prop}{a:Act}{F:af}(hJ:Closed P main J){id:Nat}{ops:Array Oper}(h:fL P J ops (Q .normal) ops.toList true a F):Wp J (.region id ops false) Q a F:=by
 refine FA hJ ?_;have:=wB ops.toList 0 true a F av h;simpa [List.range_eq_range'] using this
theorem aF {P:Program}{main:Bool}{J:Goroutine->af->Prop}{Q:Ex->Act->af->Prop}{a:Act}{F:af}(hJ:Closed P main J){id:Nat}{ops:Array Oper}{y:Code}(h:fL P J ops (sN J y Q .normal) ops.toList true a F):Wp J (.seq (.region id ops false) y) Q a F:=ah hJ (aQ hJ h)
attribute [irreducible] fL
theorem oG {P:Program}{J:Goroutine->af->Prop}{ops:Array Oper}{Q:Act->af->Prop}{S:af->Prop}(i:Nat){b:Oper}(v:Value){fuel:Nat}{listed:Array Bool}{a:Act}{F:af}(hi:ops[i]?=some b)
  (d:(Region.noSelect ops&&Region.free .any ops listed i&&(Region.ready .any ops listed).contains i)=true)
  (hg:cV ops b a=some true) (e:∀F R,S F->R v F->dc P J b R a F) (c:S F)
  (h:eu P J ops Q S fuel (listed.setIfInBounds i true) (bB a b.dst v) F):eu P J ops Q S (fuel+1) listed a F:=
 Ap i v hi d (.inl ⟨cD hg,fun F R c f=>lT (e F R c f)⟩) c h
theorem AS {P:Program}{J:Goroutine->af->Prop}{ops:Array Oper}{Q:Act->af->Prop}{S:af->Prop}(i:Nat){b:Oper}{fuel:Nat}{listed:Array Bool}{a:Act}{F:af}(hi:ops[i]?=some b)
  (c:(Region.noSelect ops&&Region.free .any ops listed i&&(Region.ready .any ops listed).contains i)=true)
  (hg:cV ops b a=some false) (d:S F)
  (h:eu P J ops Q S fuel (listed.setIfInBounds i true) (bB a b.dst undef) F):eu P J ops Q S (fuel+1) listed a F:=
 Ap i undef hi c (.inr ⟨cD hg,rfl⟩) d h
theorem AT {P:Program}{J:Goroutine->af->Prop}{ops:Array Oper}{Q:Act->af->Prop}{S:af->Prop}(i:Nat){b:Oper}{fuel:Nat}{listed:Array Bool}{a:Act}{F:af}(hi:ops[i]?=some b)
  (c:Region.ready .any ops listed=[i]) (hg:cV ops b a=some true)
  (h:dc P J b (fun v F'=>S F'/\eu P J ops Q S fuel (listed.setIfInBounds i true) (bB a b.dst v) F') a F):eu P J ops Q S (fuel+1) listed a F:=by
 refine Fx i c ?_
 unfold ek
 simp only[hi]
 rw[if_pos (cD hg)]
 exact lT h
theorem aB {P:Program}{main:Bool}{J:Goroutine->af->Prop}{Q:Ex->Act->af->Prop}{a:Act}{F:af}{B:Prop}(hJ:Closed P main J){id:Nat}{ops:Array Oper}{y:Code}(h:B)(e:fL P J ops (sN J y Q .normal) ops.toList true a F=B:=by conv=>lhs;simp only[*,go_sem]):Wp J (.seq (.region id ops false) y) Q a F:=ah hJ (aQ hJ (e▸h))
theorem aE {P:Program}{main:Bool}{J:Goroutine->af->Prop}{Q:Ex->Act->af->Prop}{a:Act}{F:af}{B:Prop}(hJ:Closed P main J){id:Nat}{ops:Array Oper}(h:B)(e:fL P J ops (Q .normal) ops.toList true a F=B:=by conv=>lhs;simp only[*,go_sem]):Wp J (.region id ops false) Q a F:=aQ hJ (e▸h)
theorem oH {P:Program}{main:Bool}{J:Goroutine->af->Prop}{Q:Ex->Act->af->Prop}{a:Act}{F:af}{B:Prop}(hJ:Closed P main J)(h:B)(e:Q .normal a F=B:=by conv=>lhs;simp only[*,go_sem]):Wp J .skip Q a F:=aN hJ (e▸h)
theorem bX {J:Goroutine->af->Prop}{Q:Ex->Act->af->Prop}{a:Act}{F:af}{B:Prop}(h:B)(e:Q .ret a F=B:=by conv=>lhs;simp only[*,go_sem]):Wp J .ret Q a F:=aT (e▸h)
attribute [go_sem] List.isEmpty_nil List.isEmpty_cons undef AQ AR Oper.calls Bool.not_true Bool.not_false cV dc af.push af.get af.put lk jz cellOf fZ sV af.dS af.ki af.mN bU frozenAt qK mW qJ Option.isNone_none Option.isNone_some ij jD oD mU sW sX qH qN mV qM s5 mX s6 qL s4
theorem add_zero' (a:Addr):a.add 0=a:=rfl
theorem lU (a:Addr)(m n:Nat):(a.add m).add n=a.add (m+n):=by
 unfold Addr.add;by_cases hm:m=0
 .subst hm;simp
 .by_cases b:n=0
  .subst b;simp[hm]
  .have:¬m+n=0:=aa;simp[hm,b,this,Nat.add_assoc]
theorem lV (b o n:Nat):(⟨b,o,none⟩:Addr).add n=⟨b,o+n,none⟩:=by
 unfold Addr.add;by_cases a:n=0
 .subst a;simp
 .simp[a]
attribute [go_sem] add_zero' lU lV Nat.add_assoc Int.reduceLE Int.reduceLT Int.reduceToNat Int.toNat_zero Int.le_refl
attribute [go_sem] Value.cells Instr.fill sP iY vS sN FY
attribute [go_sem] and_true true_and Array.getD_eq_getD_getElem? List.getElem?_toArray List.getElem?_cons_zero List.getElem?_cons_succ List.getElem?_nil Option.getD_some Option.getD_none Option.bind_some Option.bind_none Option.map_some Option.map_none
attribute [go_sem] Nat.reduceLT Nat.reduceEqDiff Nat.reduceAdd Nat.reduceMul Nat.reduceSub if_true if_false reduceIte reduceCtorEq List.setIfInBounds_toArray List.set_cons_zero List.set_cons_succ
attribute [go_sem] List.map_toArray List.map_cons List.map_nil List.append_toArray List.cons_append List.nil_append List.append_nil Array.append_empty Array.empty_append List.toList_toArray List.length_cons List.length_nil List.size_toArray ne_eq not_true_eq_false not_false_eq_true forall_const
theorem fA {ro:Addr->Option Value}{own:List (Nat×Obj)}{b:Nat}(h:eD ⟨ro,own⟩ b):∀off sp,ro ⟨b,off,sp⟩=none:=h.ro
theorem gx {ro:Addr->Option Value}{own:List (Nat×Obj)}{b:Nat}(h:eD ⟨ro,own⟩ b):ax own b:=h.own
def qO (P:Program)(F:af)(a:Act):ResultVar->Option Value
 | .tmp t=>some (slot a t)
 | .cell ad t=>match slot a ad with
  | .pointer (some p)=>fZ P F t p
  |_=>none
def mZ (P:Program)(F:af)(a:Act):List ResultVar->Option (List Value)
 |[]=>some []
 |r::rs=>match qO P F a r with
  |some v=>match mZ P F a rs with
   |some b=>some (v::b)
   |none=>none
  |none=>none
def m0 (P:Program)(F:af)(a:Act)(rs:List ResultVar):Option Value:=
 match mZ P F a rs with
 |some [v]=>some v
 |some b=>some (.tuple b.toArray)
 |none=>none
attribute [go_sem] qO mZ m0
theorem wC {P:Program}{F:af}{a:Act}{Q:Array Value->af->Prop}:∀(rs:List ResultVar) (d:List Value) (acc:Array Value),mZ P F a rs=some d->Q (acc++d.toArray) F->
  bx P (rs.foldlM (fun (b:Array Value) r=>do let x<-(match r with| .tmp t=>pure (a.tmps.getD t undef)| .cell ad t=>do loadVar t (<-asAddr (a.tmps.getD ad undef)):Sem Value);pure (b.push x)) acc) Q F
 |[],d,acc,h,e=>by
  simp only[mZ,Option.some.injEq] at h;subst h
  simpa [bQ] using e
 |r::rs,d,acc,h,e=>by
  unfold mZ at h
  split at h
  case h_2=>cases h
  rename_i v c
  split at h
  case h_2=>cases h
  rename_i ws i
  cases h
  have f:=wC rs ws (acc.push v) i (Q:=Q) (by simpa using e)
  simp only[List.foldlM_cons,bG]
  cases r with
  |tmp t=>
   simp only[qO,Option.some.injEq,slot] at c
   subst c
   simpa only[bQ] using f
  |cell ad t=>
   simp only[qO] at c
   split at c
   .rename_i p g
    unfold slot at g
    simp only[bG,g,asAddr,bQ]
    exact AH c f
   .cases c
theorem s7 {P:Program}{fn:Func}{rs:List ResultVar}{F:af}{a:Act}{v:Value}{R:Value->af->Prop}(d:fn.results=rs.toArray)(h:m0 P F a rs=some v)(c:R v F):bx P (results fn a.tmps) R F:=by
 unfold results;rw[d,bG,Array.mapM_eq_foldlM,<-Array.foldlM_toList];unfold m0 at h;split at h
 case h_3=>cases h
 .rename_i x b;cases h;exact wC rs [v] #[] b (by simpa [bQ] using c)
 .rename_i e f b;cases h;refine wC rs e #[] b ?_;simp only[Array.empty_append,bQ];split
  .rename_i hs;simp at hs;obtain ⟨v,rfl⟩:=List.length_eq_one_iff.1 hs;exact absurd rfl (f v)
  .exact c
def jE (P:Program)(rs:List ResultVar)(R:Value->af->Prop):Ex->Act->af->Prop
 | .exit _,_,_=>False
 |_,a,F=>a.defers=[]/\match m0 P F a rs with|some v=>R v F|none=>False
attribute [go_sem] jE
theorem aI.go {P:Program}{f:FuncId}{fn:Func}{c:Code}{n:Nat}{rs:List ResultVar}{args:Array Value}{F:af}{R:Value->af->Prop}(g:P.funcs[f]?=some fn)(hb:fn.body=some c)(j:fn.ntmps=n)(k:fn.results=rs.toArray)(l:args.size<=n)
  (h:∀main J,Closed P main J->∀A:Act,sz A=n->A.defers=[]->(∀i,slot A i=args.getD i undef)->Wp J c (jE P rs R) A F):aI P f args F R:=
 aI.start g hb j l fun main J hJ A m o p=>(h main J hJ A m o p).mono fun e a F d=>by
  cases e with
  |exit i=>exact d
  |_=>
   obtain ⟨hd,b⟩:=d
   split at b
   .rename_i v q
    show iY P a.defers _ F
    rw[hd]
    exact s7 k q b
   .exact b.elim
def dy (n m:Nat):Array Bool:=(Array.range n).map fun i=>decide (i<m)
def qP (ops:Array Oper)(m:Nat):Bool:=
 Region.noSelect ops&&decide (m<=ops.size)&&((List.range m).all fun i=>Region.free .any ops (dy ops.size i) i&&(Region.ready .any ops (dy ops.size i)).contains i)&&
 ((List.range (ops.size - m)).all fun j=>decide (Region.ready .any ops (dy ops.size (m+j))=[m+j]))&&decide (Region.ready .any ops (dy ops.size ops.size)=[])
def FZ (D:List Nat)(L:List (List Nat))(x y:Nat):Bool:=RegionTabs.apart ⟨#[],D.toArray,L.toArray⟩ x y
def wD (A:List (List Nat))(D:List Nat)(L:List (List Nat))(n m:Nat):Bool:=
 decide (m<=n)&&((List.range m).all fun k=>(A.getD k []).all (fun x=>decide (x<k))&&(List.range n).all fun j=>decide (j<=k)||(A.getD j []).contains k||FZ D L k j)&&
 ((List.range (n - m)).all fun t=>(A.getD (m+t) []).all (fun x=>decide (x<m+t))&&(List.range (n - (m+t+1))).all fun u=>!(A.getD (m+t+1+u) []).all (fun x=>decide (x<m+t)))
section
variable {ops:Array Oper}
theorem AU {n k i:Nat}(h:i<n):(dy n k).getD i true=decide (i<k):=by
 simp[dy,Array.getD_eq_getD_getElem?,h]
theorem F1 {n k i:Nat}(hk:k<=n):(dy n k).getD i false=decide (i<k):=by
 rcases Nat.lt_or_ge i n with h|h
 .simp[dy,Array.getD_eq_getD_getElem?,h]
 .have:¬i<k:=aa;simp[dy,Array.getD_eq_getD_getElem?,Array.getElem?_eq_none,h,this]
theorem wE {A:List (List Nat)}{k:Nat}(a:Region.tabAfter .any ops=A)(hk:k<=ops.size):
  Region.ready .any ops (dy ops.size k)=(List.range ops.size).filter fun i=>!decide (i<k)&&(A.getD i []).all fun x=>decide (x<k):=by
 have hlen:A.length=ops.size:=by rw[<-a];simp[Region.tabAfter]
 rw[<-RegionTabs.ready_eq]
 unfold RegionTabs.ready RegionTabs.of
 simp only[a,List.size_toArray,hlen]
 apply List.filter_congr
 intro i hi
 have b:i<ops.size:=List.mem_range.1 hi
 rw[AU b]
 congr 1
 rw[List.getElem?_toArray,List.getD_eq_getElem?_getD,List.getElem?_eq_getElem aa]
 simp only[Option.map_some,Option.getD_some]
 congr 1
 funext x
 exact F1 hk
theorem filter_one {k:Nat}{p:Nat->Bool}(b:p k=true):∀(n:Nat),k<n->(∀i,i<n->i≠k->p i=false)->(List.range n).filter p=[k]
 |0,hk,_=>by omega
 |n+1,hk,a=>by
  rw[List.range_succ,List.filter_append]
  by_cases e:k=n
  .subst e
   have:(List.range k).filter p=[]:=by
    rw[List.filter_eq_nil_iff]
    intro i hi
    have c:=List.mem_range.1 hi
    rw[a i aa aa];simp
   rw[this];simp[b]
  .rw[filter_one b n aa fun i hi=>a i aa]
   simp[a n aa (fun x=>e x.symm)]
theorem F2 {m n:Nat}(A:List (List Nat))(D:List Nat)(L:List (List Nat))(hs:Region.noSelect ops=true)(f:ops.size=n)(a:Region.tabAfter .any ops=A)(g:Region.tabDst ops=D)(hL:Region.tabLooks ops=L)(h:wD A D L n m=true):qP ops m=true:=by
 subst f;have hlen:A.length=ops.size:=by rw[<-a];simp[Region.tabAfter]
 simp only[wD,Bool.and_eq_true,decide_eq_true_eq,List.all_eq_true,List.mem_range] at h;obtain ⟨⟨hm,c⟩,d⟩:=h;simp only[qP,Bool.and_eq_true,decide_eq_true_eq,List.all_eq_true,List.mem_range];refine ⟨⟨⟨⟨hs,hm⟩,fun i hi=>⟨?_,?_⟩⟩,fun j b=>?_⟩,?_⟩
 .rw[<-RegionTabs.free_eq];unfold RegionTabs.free;have e1:(RegionTabs.of .any ops).after=A.toArray:=by simp[RegionTabs.of,a]
  rw[e1,List.size_toArray,hlen];simp only[Bool.and_eq_true,decide_eq_true_eq,List.all_eq_true,List.mem_range];refine ⟨aa,fun j b=>?_⟩;have:=(c i hi).2 j b;simp only[Bool.or_eq_true,decide_eq_true_eq] at this;simp only[Bool.or_eq_true];rcases this with (hle|k)|l
  .rcases Nat.lt_or_eq_of_le hle with x|x
   .left;left;right;rw[AU aa];simpa using x
   .left;left;left;simpa using x
  .left;right;simpa [Array.getD_eq_getD_getElem?,List.getD_eq_getElem?_getD] using k
  .right;have e:RegionTabs.of .any ops=⟨A.toArray,D.toArray,L.toArray⟩:=by simp[RegionTabs.of,a,g,hL]
   rw[e];exact l
 .rw[wE a aa];rw[List.contains_iff_mem,List.mem_filter];refine ⟨List.mem_range.2 aa,?_⟩;have:=(c i hi).1;simpa [List.all_eq_true] using this
 .have hk:m+j<ops.size:=aa;rw[wE a aa];refine filter_one ?_ _ hk fun i hi aO=>?_
  .have:=(d j b).1;simpa [List.all_eq_true] using this
  .rcases Nat.lt_or_ge i (m+j) with x|x
   .simp[x]
   .have:=(d j b).2 (i - (m+j+1)) aa;rw[show m+j+1+(i - (m+j+1))=i by omega] at this;simp only[Bool.not_eq_true'] at this;simp only[this,Bool.and_false]
 .rw[wE a (Nat.le_refl _)];rw[List.filter_eq_nil_iff];intro i hi;have:=List.mem_range.1 hi;simp[this]
def wF (n:Nat)(k:Nat->Bool):Bool:=Nat.casesOn n (k 0) fun m=>k (m+1)
def qQ:List Nat->(List Nat->Bool)->Bool
 |[],k=>k []
 |x::xs,k=>wF x fun y=>qQ xs fun ys=>k (y::ys)
def qR:List (List Nat)->(List (List Nat)->Bool)->Bool
 |[],k=>k []
 |x::xs,k=>qQ x fun y=>qR xs fun ys=>k (y::ys)
theorem AV (n:Nat)(k:Nat->Bool):wF n k=k n:=by cases n<;>rfl
theorem wG:∀(l:List Nat) (k:List Nat->Bool),qQ l k=k l
 |[],_=>rfl
 |x::xs,k=>by rw[qQ,AV,wG xs]
theorem AW:∀(l:List (List Nat)) (k:List (List Nat)->Bool),qR l k=k l
 |[],_=>rfl
 |x::xs,k=>by rw[qR,wG,AW xs]
def oI (ops:Array Oper)(m:Nat):Bool:=Region.noSelect ops&&qR (Region.tabAfter .any ops) fun A=>qQ (Region.tabDst ops) fun D=>qR (Region.tabLooks ops) fun L=>wF ops.size fun n=>wD A D L n m
theorem AX {m:Nat}(h:oI ops m=true):qP ops m=true:=by
 simp only[oI,Bool.and_eq_true,AW,wG,AV] at h;exact F2 _ _ _ h.1 rfl rfl rfl rfl h.2
end
def jF:List (Nat×Obj)->List (Nat×Obj)->Prop
 |[],_=>True
 |(b,o)::l,own=>lk own b=some o/\jF l own
def Knows (F0 F:af):Prop:=(∀a v,F0.ro a=some v->F.ro a=some v)/\(∀a,a.block∈keys F0.own->F0.ro a=none->F.ro a=none)/\jF F0.own F.own
theorem jF.lk:∀{l own:List (Nat×Obj)} {b:Nat} {o:Obj},jF l own->lk l b=some o->Go.Sep.lk own b=some o
 |[],_,_,_,_,h=>by cases h
 |(c,x)::l,own,b,o,hk,h=>by
  unfold Go.Sep.lk at h
  split at h
  .rename_i e;cases h;exact e▸hk.1
  .exact jF.lk hk.2 h
theorem Knows.get {F0 F:af}(h:Knows F0 F){a:Addr}{v:Value}(hg:F0.get a=some v):F.get a=some v:=by
 unfold af.get at hg ⊢;cases b:F0.ro a with
 |some x=>rw[b] at hg;rw[h.1 a x b];exact hg
 |none=>
  rw[b] at hg;simp only at hg;split at hg
  .rename_i hs;obtain ⟨o,c,d⟩:=Option.bind_eq_some_iff.1 hg;rw[h.2.1 a (fJ (iF c)) b];simp only;rw[if_pos hs,h.2.2.lk c];exact d
  .cases hg
theorem F3 {ro:Addr->Option Value}{l own:List (Nat×Obj)}:Knows ⟨ro,l⟩ ⟨ro,own⟩=jF l own:=
 propext ⟨fun h=>h.2.2,fun h=>⟨fun _ _ x=>x,fun _ _ x=>x,h⟩⟩
theorem F4 {ro bf:Addr->Option Value}{l own:List (Nat×Obj)}(c:∀a v,ro a=some v->bf a=some v)(d:∀b∈keys l,∀off sp,bf ⟨b,off,sp⟩=none)(h:jF l own):Knows ⟨ro,l⟩ ⟨bf,own⟩:=
 ⟨c,fun a e _=>d a.block e a.off a.spot,h⟩
theorem Knows.mT {F0 F:af}(h:Knows F0 F){a:Addr}:∀{n i:Nat} {b:List Value},F0.dS a i n=some b->F.dS a i n=some b
 |0,_,_,hg=>hg
 |n+1,i,b,hg=>by
  unfold af.dS at hg ⊢
  split at hg
  case h_2=>cases hg
  rename_i v c
  split at hg
  case h_2=>cases hg
  rename_i ws d
  rw[h.get c,h.mT d]
  exact hg
theorem Knows.fZ {P:Program}{F0 F:af}(h:Knows F0 F){t:TypeId}{ad:Addr}{v:Value}(hg:fZ P F0 t ad=some v):Go.Sep.fZ P F t ad=some v:=by
 unfold Go.Sep.fZ at hg ⊢;split at hg
 .exact h.get hg
 .split at hg
  case h_2=>cases hg
  rename_i n b;split at hg
  case h_2=>cases hg
  rename_i c a;rw[h.mT a];exact hg
 .cases hg
def jG (P:Program)(o:Oper)(a:Act):Option Value:=
 match o.op with
 | .move x| .assign x=>some (ev a x)
 | .nilCheck x=>match ev a x with
  | .pointer (some ad)=>some (.pointer (some ad))
  |_=>none
 | .pick c x y=>match ev a c with
  | .bool b=>some (if b then ev a x else ev a y)
  |_=>none
 | .build t parts=>qL P t (parts.map fun (i,x)=>(i,ev a x)).toList
 | .binOp op t x y _=>qK P op t (ev a x) (ev a y)
 | .unOp op _ x=>mU op (ev a x)
 | .convert src dst x=>mX P src dst (ev a x)
 | .makeFunc fn first captured=>some (.func fn (first.map (ev a)) (captured.map (ev a)))
 | .slice t x lo hi none=>match ev a x with
  | .slice ad len cap=>if len<=cap then mV P t (.slice ad len cap) (lo.map (ev a)) (hi.map (ev a)) else none
  | .pointer (some ad)=>mV P t (.pointer (some ad)) (lo.map (ev a)) (hi.map (ev a))
  |_=>none
 | .fieldAddr s x n=>match ev a x with
  | .pointer (some ad)=>match di P s n with
   |some k=>some (.pointer (some (ad.add k)))
   |none=>none
  |_=>none
 | .field s x n=>qM P s n (ev a x)
 | .indexAddr t x i=>qH P t (ev a x) (ev a i)
 | .index t x i=>qN P t (ev a x) (ev a i)
 | .extract x n=>s5 n (ev a x)
 | .call {callee:=.builtin .len,args,argTypes}=>match argTypes[0]?,args[0]? with
  |some t,some x=>s6 P t (ev a x)
  |_,_=>none
 | .call {callee:=.builtin .max,args, ..}=>match args.toList with
  |[x,y]=>sW (ev a x) (ev a y)
  |_=>none
 | .call {callee:=.builtin .min,args, ..}=>match args.toList with
  |[x,y]=>sX (ev a x) (ev a y)
  |_=>none
 |_=>none
theorem s8 {P:Program}{J:Goroutine->af->Prop}{o:Oper}{a:Act}{v:Value}{R:Value->af->Prop}{F:af}(h:jG P o a=some v)(d:R v F):dc P J o R a F:=by
 obtain ⟨dst,op,type,pos,after,guard⟩:=o;unfold jG at h;unfold dc;cases op<;>simp only[reduceCtorEq] at h ⊢
 case move x=>cases h;exact d
 case assign x=>cases h;exact d
 case nilCheck x=>
  split at h
  .rename_i ad e;cases h;rw[e];exact d
  .cases h
 case pick c x y=>
  split at h
  .rename_i b hb;cases h;try rw[hb]
   exact d
  .cases h
 case build t parts=>rw[h];exact d
 case binOp=>rw[h];exact d
 case unOp=>rw[h];exact d
 case convert=>rw[h];exact d
 case makeFunc=>cases h;exact d
 case slice t x lo hi g=>
  cases g with
  |some m=>cases h
  |none=>
   simp only at h ⊢;split at h
   case h_3=>cases h
   case h_2=>
    rename_i ad e;rw[e];exact ⟨trivial,by rw[h];exact d⟩
   rename_i ad len cap e;split at h
   case isFalse=>cases h
   rename_i i;rw[e];exact ⟨i,by rw[h];exact d⟩
 case fieldAddr s x n=>
  split at h
  case h_2=>cases h
  rename_i ad e;split at h
  case h_2=>cases h
  rename_i k hk;cases h;try rw[e]
  try simp only[hk]
  exact d
 case field=>rw[h];exact d
 case indexAddr=>rw[h];exact d
 case index=>rw[h];exact d
 case extract=>rw[h];exact d
 case call c=>
  obtain ⟨callee,args,argTypes⟩:=c;cases callee with
  |value x=>cases h
  |invoke r m=>cases h
  |builtin b=>
   cases b<;>simp only[reduceCtorEq] at h ⊢
   case len=>
    split at h
    case h_2=>cases h
    rename_i t x ht e;simp only[ht,e,h];exact d
   case max=>
    split at h
    case h_2=>cases h
    rename_i x y f;simp only[f,h];exact d
   case min=>
    split at h
    case h_2=>cases h
    rename_i x y f;simp only[f,h];exact d
def Plain (P:Program)(J:Goroutine->af->Prop)(F0:af)(f:FuncId)(args:Array Value)(v:Value):Prop:=
 ∀F,Knows F0 F->dx P J f args F (fun a F'=>a=v/\F'=F)
def eP (P:Program)(J:Goroutine->af->Prop)(ops:Array Oper)(F0:af)(K:Act->Prop):List Oper->Bool->Act->Prop
 |[],_,a=>K a
 |o::rest,_,a=>match cV ops o a with
  |some false=>eP P J ops F0 K rest true (bB a o.dst undef)
  |some true=>match o.op with
   | .load t x=>match ev a x with
    | .pointer (some ad)=>match fZ P F0 t ad with
     |some v=>eP P J ops F0 K rest true (bB a o.dst v)
     |none=>False
    |_=>False
   | .call {callee:=.value x,args, ..}=>match ev a x with
    | .func (.func fn) first captured=>aR P fn=true/\∃v,Plain P J F0 fn (first++args.map (ev a)++captured) v/\eP P J ops F0 K rest false (bB a o.dst v)
    |_=>False
   |_=>match jG P o a with
    |some v=>eP P J ops F0 K rest true (bB a o.dst v)
    |none=>False
  |none=>False
theorem F5 {P:Program}{J:Goroutine->af->Prop}{ops:Array Oper}{F0:af}{K:Act->Prop}{go:Bool}{a:Act}:eP P J ops F0 K [] go a=K a:=rfl
theorem F6 {P:Program}{J:Goroutine->af->Prop}{ops:Array Oper}{F0:af}{K:Act->Prop}{o:Oper}{rest:List Oper}{a:Act}:eP P J ops F0 K (o::rest) true a=match cV ops o a with
  |some false=>eP P J ops F0 K rest true (bB a o.dst undef)
  |some true=>match o.op with
   | .load t x=>match ev a x with
    | .pointer (some ad)=>match fZ P F0 t ad with
     |some v=>eP P J ops F0 K rest true (bB a o.dst v)
     |none=>False
    |_=>False
   | .call {callee:=.value x,args, ..}=>match ev a x with
    | .func (.func fn) first captured=>aR P fn=true/\∃v,Plain P J F0 fn (first++args.map (ev a)++captured) v/\eP P J ops F0 K rest false (bB a o.dst v)
    |_=>False
   |_=>match jG P o a with
    |some v=>eP P J ops F0 K rest true (bB a o.dst v)
    |none=>False
  |none=>False:=(Eq.refl _).trans (Eq.refl _)
theorem cw {P:Program}{J:Goroutine->af->Prop}{ops:Array Oper}{F0:af}{K:Act->Prop}:∀{l:List Oper} {go:Bool} {a:Act},eP P J ops F0 K l true a->eP P J ops F0 K l go a
 |[],_,_,h=>h
 |_::_,_,_,h=>h
theorem s9 {n m:Nat}(h:m<n):(dy n m).setIfInBounds m true=dy n (m+1):=by
 apply Array.ext
 .simp[dy]
 .intro i a b;simp[dy] at a b;rw[Array.getElem_setIfInBounds (by simp[dy];omega)];by_cases e:m=i
  .subst e;simp[dy]
  .simp only[if_neg e,dy,Array.getElem_map,Array.getElem_range];rw[decide_eq_decide];omega
theorem AY (n:Nat):dy n 0=Array.replicate n false:=by
 apply Array.ext
 .simp[dy]
 .intro i a b;simp[dy]
section
variable {P:Program}{main:Bool}{J:Goroutine->af->Prop}{ops:Array Oper}{Q:Act->af->Prop}{F0:af}
theorem tc {K:Act->Prop}(m:Nat)(hm:m<=ops.size)(q:Region.noSelect ops=true)(r:∀i,i<m->(Region.free .any ops (dy ops.size i) i&&(Region.ready .any ops (dy ops.size i)).contains i)=true)
  {F:af} (b:Knows F0 F) (hK:∀a,K a->eu P J ops Q (Knows F0) (ops.size - m) (dy ops.size m) a F):
  ∀(l:List Oper) (k:Nat) (go:Bool) (a:Act),(ops.toList.take m).drop k=l->k<=m->eP P J ops F0 K l go a->eu P J ops Q (Knows F0) (ops.size - k) (dy ops.size k) a F
 |[],k,_,a,hl,y,h=>by
  have:k=m:=by
   have:=congrArg List.length hl
   simp at this
   omega
  subst this
  exact hK a h
 |o::rest,k,_,a,hl,y,h=>by
  have f:k<m:=by
   rcases Nat.lt_or_ge k m with x|x
   .exact x
   .rw[List.drop_eq_nil_of_le (by simp;omega)] at hl;cases hl
  have g:ops[k]?=some o:=by
   have:=congrArg List.head? hl
   rw[List.head?_drop,List.getElem?_take_of_lt f] at this
   simpa using this
  have u:(ops.toList.take m).drop (k+1)=rest:=by
   have:=congrArg List.tail hl
   simpa [List.tail_drop] using this
  have z:=r k f
  have e:ops.size - k=(ops.size - (k+1))+1:=aa
  have w:=s9 (n:=ops.size) (m:=k) aa
  have j:(Region.noSelect ops&&Region.free .any ops (dy ops.size k) k&&(Region.ready .any ops (dy ops.size k)).contains k)=true:=by
   rw[q,Bool.true_and];exact z
  rw[e]
  unfold eP at h
  split at h
  .rename_i hg
   exact AS k g j hg b (by rw[w];exact tc m hm q r b hK rest (k+1) _ _ u f h)
  .rename_i hg
   have next:∀go v,eP P J ops F0 K rest go (bB a o.dst v)->eu P J ops Q (Knows F0) (ops.size - (k+1)) ((dy ops.size k).setIfInBounds k true) (bB a o.dst v) F:=fun go v c=>by
    rw[w];exact tc m hm q r b hK rest (k+1) _ _ u f c
   split at h
   .rename_i t x s
    split at h
    case h_2=>exact h.elim
    rename_i ad A
    split at h
    case h_2=>exact h.elim
    rename_i v c
    refine oG k v g j hg (fun F R p d=>?_) b (next _ v h)
    unfold dc
    simp only[s,A,p.fZ c]
    exact d
   .rename_i x args argTypes s
    split at h
    case h_2=>exact h.elim
    rename_i fn first captured B
    obtain ⟨C,v,D,h⟩:=h
    refine oG k v g j hg (fun F R p d=>?_) b (next _ v h)
    unfold dc
    simp only[s,B]
    exact ⟨C,(D F p).mono fun G F' E=>by obtain ⟨rfl,rfl⟩:=E;exact d⟩
   .split at h
    case h_2=>exact h.elim
    rename_i v c
    exact oG k v g j hg (fun F R p d=>s8 c d) b (next _ v h)
  .exact h.elim
def fB (P:Program)(J:Goroutine->af->Prop)(ops:Array Oper)(F0:af)(Q:Act->af->Prop):List Oper->Bool->Act->af->Prop
 |[],_,a,F=>Q a F
 |o::rest,_,a,F=>match cV ops o a with
  |some true=>dc P J o (fun v F'=>Knows F0 F'/\fB P J ops F0 Q rest (!Oper.calls o) (bB a o.dst v) F') a F
  |_=>False
theorem F7 {P:Program}{J:Goroutine->af->Prop}{ops:Array Oper}{F0:af}{Q:Act->af->Prop}{go:Bool}{a:Act}{F:af}:fB P J ops F0 Q [] go a F=Q a F:=rfl
theorem F8 {P:Program}{J:Goroutine->af->Prop}{ops:Array Oper}{F0:af}{Q:Act->af->Prop}{o:Oper}{rest:List Oper}{a:Act}{F:af}:fB P J ops F0 Q (o::rest) true a F=match cV ops o a with
  |some true=>dc P J o (fun v F'=>Knows F0 F'/\fB P J ops F0 Q rest (!Oper.calls o) (bB a o.dst v) F') a F
  |_=>False:=(Eq.refl _).trans (Eq.refl _)
theorem lW {P:Program}{J:Goroutine->af->Prop}{ops:Array Oper}{F0:af}{Q:Act->af->Prop}:∀{l:List Oper} {go:Bool} {a:Act} {F:af},fB P J ops F0 Q l true a F->fB P J ops F0 Q l go a F
 |[],_,_,_,h=>h
 |_::_,_,_,_,h=>h
theorem m3 (m:Nat)(g:∀j,j<ops.size - m->Region.ready .any ops (dy ops.size (m+j))=[m+j])(i:Region.ready .any ops (dy ops.size ops.size)=[]):
  ∀(l:List Oper) (k:Nat) (go:Bool) (a:Act) (F:af),m<=k->k<=ops.size->ops.toList.drop k=l->fB P J ops F0 Q l go a F->eu P J ops Q (Knows F0) (ops.size - k) (dy ops.size k) a F
 |[],k,_,a,F,q,s,hl,h=>by
  have:k=ops.size:=by
   have:=congrArg List.length hl
   simp at this
   omega
  subst this
  exact Aq i h _
 |o::rest,k,_,a,F,q,s,hl,h=>by
  have u:k<ops.size:=by
   rcases Nat.lt_or_ge k ops.size with x|x
   .exact x
   .rw[List.drop_eq_nil_of_le (by simpa using x)] at hl;cases hl
  have w:ops[k]?=some o:=by
   have:=congrArg List.head? hl
   simpa [List.head?_drop] using this
  have y:ops.toList.drop (k+1)=rest:=by
   have:=congrArg List.tail hl
   simpa [List.tail_drop] using this
  have e:ops.size - k=(ops.size - (k+1))+1:=aa
  have n:=g (k - m) aa
  rw[show m+(k - m)=k by omega] at n
  rw[e]
  unfold fB at h
  split at h
  .rename_i hg
   refine AT k w n hg ?_
   refine td ?_ h
   rintro v F' ⟨z,f⟩
   refine ⟨z,?_⟩
   rw[s9 u]
   exact m3 m g i rest (k+1) _ _ F' aa aa y f
  .exact h.elim
where
 td {o:Oper} {a:Act} {F:af} {R p:Value->af->Prop} (d:∀v F,R v F->p v F) (h:dc P J o R a F):dc P J o p a F:=by
  obtain ⟨dst,op,type,pos,after,guard⟩:=o
  unfold dc at h ⊢
  cases op<;>simp only at h ⊢<;>first
   |exact h.elim
   |exact d _ _ h
   |exact fun b hb=>d _ _ (h b hb)
   |exact iI (fun v F h=>d v F h) _ _ h
   |(split at h<;>first
     |exact h.elim
     |exact d _ _ h
     |exact fun b hb=>d _ _ (h b hb)
     |(split at h<;>first|exact h.elim|exact d _ _ h|exact fun b hb=>d _ _ (h b hb)))
   |skip
  case slice t x lo hi A=>
   cases A with
   |some m=>exact h.elim
   |none=>
    refine ⟨h.1,?_⟩
    have f:=h.2
    revert f
    cases mV P t (ev a x) (lo.map (ev a)) (hi.map (ev a)) with
    |some v=>exact fun x=>d _ _ x
    |none=>exact fun x=>x
  case call c=>
   obtain ⟨callee,args,argTypes⟩:=c
   cases callee with
   |value x=>
    exact iq.mono h d
   |invoke r m=>exact h.elim
   |builtin b=>
    cases b<;>simp only at h ⊢<;>first
     |exact h.elim
     |(split at h<;>first|exact h.elim|exact fun ty=>iI (fun v F ⟨F0,hle,h⟩=>⟨F0,hle,d _ _ h⟩) _ _ (h ty))
     |exact iI (fun v F h=>d v F h) _ _ h
     |(split at h<;>first|exact h.elim|(split at h<;>first|exact h.elim|exact d _ _ h|exact iI (fun v F h=>d v F h) _ _ h))
theorem eE {Q:Ex->Act->af->Prop}(hJ:Closed P main J)(e:P.follows .mixedOrders=true)(m:Nat){id:Nat}{a:Act}{F:af}(F0:af)(f:Knows F0 F)(g:oI ops m=true)
  (h:eP P J ops F0 (fun b=>fB P J ops F0 (Q .normal) (ops.toList.drop m) true b F) (ops.toList.take m) true a):Wp J (.region id ops true) Q a F:=by
 have c:=AX g
 simp only[qP,Bool.and_eq_true,decide_eq_true_eq,List.all_eq_true,List.mem_range] at c
 obtain ⟨⟨⟨⟨j,d⟩,k⟩,l⟩,n⟩:=c
 refine vU hJ (Knows F0) e ?_
 rw[<-AY]
 have:=tc (P:=P) (J:=J) (Q:=Q .normal) m d j (fun i hi=>by have:=k i hi;simpa using this) f (fun b o=>m3 m l n _ m _ b F (Nat.le_refl _) d rfl o) _ 0 true a av (Nat.zero_le _) h
 simpa using this
theorem bL (hJ:Closed P main J){F0:af}{f:FuncId}{args:Array Value}{v:Value}(h:∀F,Knows F0 F->aI P f args F.cO (fun a _=>a=v)):Plain P J F0 f args v:=
 fun F b=>vX (h F b) main J hJ
end
attribute [irreducible] eP fB
attribute [go_sem] jF F3 jG F5 F6 F7 F8 sO List.take_succ_cons List.take_zero List.drop_succ_cons List.drop_zero Array.zipIdx_toArray List.zipIdx_cons List.zipIdx_nil List.foldl_toArray List.foldl_toArray' decide_eq_true_eq Bool.and_false Bool.false_and Bool.and_self Bool.true_and Bool.and_true List.foldl_cons List.foldl_nil decide_false decide_true Bool.or_false Bool.false_or Bool.or_self Bool.or_true Bool.true_or gt_iff_lt Nat.reduceGT Nat.lt_irrefl Bool.false_eq_true Nat.zero_add Nat.add_zero Nat.not_lt_zero
section
variable {P:Program}{main:Bool}{J:Goroutine->af->Prop}{Q:Ex->Act->af->Prop}{a:Act}{F:af}
theorem bn (hJ:Closed P main J){f:FuncId}{args:Array Value}{F:af}{K:Value->af->Prop}(v:Value)(h:aI P f args F.cO (fun a _=>a=v))(hk:K v F):dx P J f args F K:=
 (vX h main J hJ).mono fun a F' b=>by obtain ⟨rfl,rfl⟩:=b;exact hk
theorem eF (hJ:Closed P main J){c:Operand}{x y:Code}(b:ev a c= .bool true)(h:Wp J x Q a F):Wp J (.cond c x y) Q a F:=vR hJ true b h
theorem ew (hJ:Closed P main J){c:Operand}{x y:Code}(b:ev a c= .bool false)(h:Wp J y Q a F):Wp J (.cond c x y) Q a F:=vR hJ false b h
theorem F9 (hJ:Closed P main J){c:Operand}{x y:Code}(b:Bool)(d:ev a c= .bool b)(e:b=true->Wp J x Q a F)(f:b=false->Wp J y Q a F):Wp J (.cond c x y) Q a F:=by
 refine vR hJ b d ?_;cases b
 .exact f rfl
 .exact e rfl
theorem cB (hJ:Closed P main J){c:Code}{F':af}(hle:Le F F')(h:Wp J c Q a F):Wp J c Q a F':=h.le (hJ:=hJ) hle
theorem Le.sub {ro:Addr->Option Value}{l l':List (Nat×Obj)}(h:l.Sublist l'):Le ⟨ro,l⟩ ⟨ro,l'⟩:=by
 have hk:(keys l).Sublist (keys l'):=h.map _;exact ⟨fun w hw=>⟨hw.ro,fun b o hb=>hw.own b o (h.subset hb),hk.nodup hw.nodup,fun a v c hm=>hw.apart a v c (hk.subset hm)⟩,fun b hb=>hk.subset hb,fun a d=>.inl d⟩
theorem wH (hJ:Closed P main J){c:Code}(I:Nat->Act->af->Prop)(n:Nat)(b:I n a F)(hs:∀n a F,I n a F->Wp J c (sO (fun m a F=>∃F0,Le F0 F/\I m a F0) n Q) a F):Wp J (.loop c) Q a F:=
 Au hJ (fun m a F=>∃F0,Le F0 F/\I m a F0) n ⟨F,Le.refl F,b⟩ fun n a F ⟨F0,hle,d⟩=>cB hJ hle (hs n a F0 d)
end
def iJ:List Nat->Nat->Bool
 |[],_=>false
 |w::ws,i=>i==w||iJ ws i
abbrev In (ws:List Nat)(i:Nat):Prop:=iJ ws i=true
structure cF (ws:List Nat)(a a0:Act):Prop where
 size:sz a=sz a0
 defers:a.defers=a0.defers
 ga:∀i,¬In ws i->slot a i=slot a0 i
theorem cF.refl (ws:List Nat)(a:Act):cF ws a a:=⟨rfl,rfl,fun _ _=>rfl⟩
theorem cF.trans {ws:List Nat}{a b c:Act}(h:cF ws a b)(k:cF ws b c):cF ws a c:=⟨h.size.trans k.size,h.defers.trans k.defers,fun i hi=>(h.ga i hi).trans (k.ga i hi)⟩
theorem cF.sub {ws c:List Nat}{a b:Act}(hs:∀i,In ws i->In c i)(h:cF ws a b):cF c a b:=⟨h.size,h.defers,fun i hi=>h.ga i fun x=>hi (hs i x)⟩
theorem Ga {ws:List Nat}{a:Act}:cF ws a a=True:=eq_true (cF.refl ws a)
theorem Gb {ws:List Nat}{a a0:Act}{d:Nat}{v:Value}(h:iJ ws d=true):cF ws (bB a (some d) v) a0=cF ws a a0:=by
 apply propext;constructor
 .intro k;refine ⟨by rw[<-k.size,AF],by rw[<-k.defers,AG],fun i hi=>?_⟩;rw[<-k.ga i hi,v5 _ _ _ _ (fun e=>hi (by subst e;exact h))]
 .intro k;refine ⟨by rw[<-k.size,AF],by rw[<-k.defers,AG],fun i hi=>?_⟩;rw[<-k.ga i hi,v5 _ _ _ _ (fun e=>hi (by subst e;exact h))]
def eG (ws a:List Nat):Bool:=ws.all fun w=>iJ a w
theorem AZ:∀{ws:List Nat} {i:Nat},iJ ws i=true->i∈ws
 |[],_,h=>by cases h
 |w::ws,i,h=>by
  simp only[iJ,Bool.or_eq_true,beq_iff_eq] at h
  rcases h with h|h
  .rw[h];exact List.mem_cons_self
  .exact List.mem_cons_of_mem _ (AZ h)
theorem cF.eG {ws c:List Nat}{a b:Act}(h:cF ws a b)(hs:Sep.eG ws c=true):cF c a b:=h.sub fun i hi=>by
 have:=AZ hi
 exact List.all_eq_true.1 hs i this
def rg:Nat->Nat->List Nat->List Nat
 |_,0,ws=>ws
 |a,n+1,ws=>a::rg (a+1) n ws
theorem A0:∀(n a i:Nat) (ws:List Nat),iJ (rg a n ws) i=(decide (a<=i)&&decide (i<a+n)||iJ ws i)
 |0,a,i,ws=>by
  show iJ ws i=_
  cases h:(decide (a<=i)&&decide (i<a+0)) with
  |false=>rfl
  |true=>rw[Bool.and_eq_true,decide_eq_true_eq,decide_eq_true_eq] at h;omega
 |n+1,a,i,ws=>by
  show (i==a||iJ (rg (a+1) n ws) i)=_
  rw[A0 n (a+1) i ws,<-Bool.or_assoc]
  congr 1
  rw[Bool.eq_iff_iff]
  simp only[Bool.or_eq_true,Bool.and_eq_true,decide_eq_true_eq,beq_iff_eq]
  omega
attribute [go_sem] A0 Nat.reduceLeDiff Nat.reduceLT Nat.reduceAdd
attribute [go_sem] iJ Ga Gb or_true true_or or_false false_or Nat.reduceBEq
section
variable {P:Program}{main:Bool}{J:Goroutine->af->Prop}{Q:Ex->Act->af->Prop}{a:Act}{F:af}
theorem bW (hJ:Closed P main J){c:Code}(ws:List Nat)(I:Nat->Act->af->Prop)(n:Nat)(h:I n a F)
  (hs:∀n b F',cF ws b a->I n b F'->Wp J c (sO (fun m a2 d=>cF ws a2 b/\∃F0,Le F0 d/\I m a2 F0) n Q) b F'):Wp J (.loop c) Q a F:=
 Au hJ (fun m a2 d=>cF ws a2 a/\∃F0,Le F0 d/\I m a2 F0) n ⟨.refl ws a,F,Le.refl F,h⟩ fun n b F' ⟨g,F0,hle,j⟩=>
  cB hJ hle ((hs n b F0 g j).mono fun e a2 d f=>by
   cases e with
   |normal=>obtain ⟨m,hm,k,l⟩:=f;exact ⟨m,hm,k.trans g,l⟩
   |exit i=>exact f
   |ret=>exact f)
end
def Ext (ro bf:Addr->Option Value):Prop:=∀a v,ro a=some v->bf a=some v
theorem Ext.refl (ro:Addr->Option Value):Ext ro ro:=fun _ _ h=>h
theorem Ext.trans {r s t:Addr->Option Value}(h:Ext r s)(k:Ext s t):Ext r t:=fun a v x=>k a v (h a v x)
def b9 (ro:Addr->Option Value)(b:Nat)(o:Obj):Addr->Option Value:=fun a=>match ro a with
 |some v=>some v
 |none=>if a.block=b/\a.spot=none then cellOf o a.off else none
theorem gY (ro:Addr->Option Value)(b:Nat)(o:Obj):Ext ro (b9 ro b o):=fun a v h=>by simp[b9,h]
theorem jH {ro:Addr->Option Value}{b off:Nat}{o:Obj}(h:∀off sp,ro ⟨b,off,sp⟩=none):b9 ro b o ⟨b,off,none⟩=cellOf o off:=by simp[b9,h]
theorem kZ {ro:Addr->Option Value}{own e:List (Nat×Obj)}{b:Nat}{o:Obj}(hl:lk own b=some o)(hs:e.Sublist own)(hb:ax e b):Le ⟨b9 ro b o,e⟩ ⟨ro,own⟩:=by
 have hk:(keys e).Sublist (keys own):=hs.map _;have hm:=iF hl;have g:b∉keys e:=by
  clear hl hs hk hm
  induction e with
  |nil=>simp[keys]
  |cons x l ih=>
   simp only[keys,List.map_cons,List.mem_cons,not_or];exact ⟨hb.1,ih hb.2⟩
 refine ⟨fun w hw=>⟨fun a v h=>?_,fun c x d=>hw.own c x (hs.subset d),hk.nodup hw.nodup,fun a v h d=>?_⟩,fun c d=>hk.subset d,fun a i=>?_⟩
 .replace h:b9 ro b o a=some v:=h;unfold b9 at h;split at h
  .rename_i x f;cases h;exact hw.ro _ _ f
  .split at h
   .rename_i d;have:=hw.own b o hm;rw[<-d.1] at this;cases o<;>simp only[cellOf,reduceCtorEq] at h;simp[World.cell?,this,d.2,h]
   .cases h
 .replace h:b9 ro b o a=some v:=h;unfold b9 at h;split at h
  .rename_i x f;exact hw.apart a x f (hk.subset d)
  .split at h
   .rename_i j;rw[j.1] at d;exact g d
   .cases h
 .obtain ⟨v,h⟩:=Option.isSome_iff_exists.1 i;replace h:b9 ro b o a=some v:=h;unfold b9 at h;split at h
  .rename_i x f;exact .inl (by simp[f])
  .split at h
   .rename_i d;exact .inr (by rw[d.1];exact fJ hm)
   .cases h
def eH (P:Program)(f:FuncId)(args:Array Value)(ro:Addr->Option Value)(R:Value->(Addr->Option Value)->Prop):Prop:=
 aI P f args ⟨ro,[]⟩ (fun v G=>∃bf,Ext ro bf/\Le ⟨bf,[]⟩ G/\R v bf)
def m4 (F G:af):Prop:=∀a,(G.ro a).isSome=true->a.block∉keys F.own
def wI (J:Goroutine->af->Prop)(F:af)(g:Goroutine)(G:af):Prop:=Fits F G->m4 F G->J g (G.star F)
theorem A1 {P:Program}{main:Bool}{J:Goroutine->af->Prop}(hJ:Closed P main J)(F:af):Closed P main (wI J F) where
 mono {g G I} hle h c i:=by
  have n:=c.le hle
  have u:m4 F G:=fun a d=>(hle.ro a d).elim (i a) (c.own _)
  refine hJ.mono ⟨fun w hw=>n.both (hle.has w (c.right hw)) (c.left hw),fun b hb=>?_,fun a d=>?_⟩ (h n u)
  .simp only[af.star,cI,List.mem_append] at hb ⊢
   exact hb.imp (hle.own b) id
  .rcases kV d with x|x
   .exact (ig (.inl x)).imp id (fun y=>by simp only[af.star,cI,List.mem_append];exact .inr y)
   .rcases hle.ro a x with y|y
    .exact (ig (.inr y)).imp id (fun z=>by simp only[af.star,cI,List.mem_append];exact .inr z)
    .exact .inr (by simp only[af.star,cI,List.mem_append];exact .inl y)
 step {fr cs G} h c i:=by
  refine hJ.step fun w hw=>?_
  have A:=c.right hw
  have f:=c.left hw
  obtain ⟨g',w',es,k,hgo,hu,p,B,C⟩:=h w A
  have q:Has F w':=by
   refine ⟨fun a v l=>?_,fun b o hb=>?_,f.nodup,f.apart⟩
   .have s:=f.ro a v l
    have D:=f.iH (a:=a) (by simp[l])
    unfold World.cell? at s ⊢
    rw[hu.frame _ D (c.ro a (by simp[l]))]
    exact s
   .rw[hu.frame b (f.lt (fJ hb)) (fun hm=>c.own b hm (fJ hb))]
    exact f.own b o hb
  have t:Fits F k:=by
   refine ⟨⟨w',p,q⟩,fun b hb hm=>?_,fun a d hm=>?_⟩
   .rcases hu.own b hb with x|x
    .exact c.own b x hm
    .have:=f.lt hm;omega
   .rcases hu.own _ hm with x|x
    .exact c.ro a d x
    .have:=f.iH d;omega
  have E:m4 F k:=fun a d hm=>by
   rcases hu.ro a d with x|x|x
   .exact i a x hm
   .exact c.own _ x hm
   .have:=f.lt hm;omega
  refine ⟨g',w',es,k.star F,hgo,⟨hu.os,hu.tape,hu.output,hu.size,fun b hb i=>hu.frame b hb fun hm=>i ?_,fun a d=>?_,fun b hb=>?_⟩,t.both p q,fun e he=>?_,C t E⟩
  .simp only[af.star,cI,List.mem_append];exact .inl hm
  .rcases kV d with x|x
   .exact (ig (.inl x)).imp id (fun y=>.inl (by simp only[af.star,cI,List.mem_append];exact .inr y))
   .rcases hu.ro a x with y|y|y
    .exact (ig (.inr y)).imp id (fun z=>.inl (by simp only[af.star,cI,List.mem_append];exact .inr z))
    .exact .inr (.inl (by simp only[af.star,cI,List.mem_append];exact .inl y))
    .exact .inr (.inr y)
  .simp only[af.star,cI,List.mem_append] at hb ⊢
   rcases hb with hb|hb
   .exact (hu.own b hb).imp .inl id
   .exact .inl (.inr hb)
  .have hk:∀b,iG G w.heap.size w'.heap.size b->iG (G.star F) w.heap.size w'.heap.size b:=fun b hb=>hb.imp (fun x=>by simp only[af.star,cI,List.mem_append];exact .inl x) id
   rcases B e he with ⟨a,wr,rfl,j|⟨H,j⟩⟩|⟨r,wr,rfl,j⟩|⟨m,rfl,hm⟩
   .exact .inl ⟨a,wr,rfl,.inl (hk _ j)⟩
   .rcases ig (F:=F) (.inr j) with y|y
    .exact .inl ⟨a,wr,rfl,.inr ⟨H,y⟩⟩
    .exact .inl ⟨a,wr,rfl,.inl (.inl (by simp only[af.star,cI,List.mem_append];exact .inr y))⟩
   .exact .inr (.inl ⟨r,wr,rfl,hk _ j⟩)
   .exact .inr (.inr ⟨m,rfl,hm⟩)
section
variable {P:Program}{main:Bool}{J:Goroutine->af->Prop}
theorem wJ (hJ:Closed P main J){f:FuncId}{args:Array Value}{ro:Addr->Option Value}{own:List (Nat×Obj)}{K:Value->af->Prop}(R:Value->(Addr->Option Value)->Prop)(h:eH P f args ro R)
  (hk:∀v bf,Ext ro bf->(∀b∈keys own,∀off sp,bf ⟨b,off,sp⟩=none)->R v bf->K v ⟨bf,own⟩):dx P J f args ⟨ro,own⟩ K:=by
 intro c cs hK
 by_cases hw:∃w,Has ⟨ro,own⟩ w
 .obtain ⟨i,j⟩:=hw
  let F:af:=⟨fun _=>none,own⟩
  have m:∀w,Has ⟨ro,own⟩ w->Has F w:=fun w hw=>⟨fun a v h=>(by cases h),hw.own,hw.nodup,fun a v h=>(by cases h)⟩
  have n:∀w,Has ⟨ro,own⟩ w->Has ⟨ro,[]⟩ w:=fun w hw=>⟨hw.ro,fun b o hb=>(by cases hb),List.nodup_nil,fun a v e hm=>(by cases hm)⟩
  have p:Fits F ⟨ro,[]⟩:=⟨⟨i,n i j,m i j⟩,fun b hb=>(by cases hb),fun a d hm=>(by cases hm)⟩
  have r:m4 F ⟨ro,[]⟩:=fun a d hm=>by
   obtain ⟨v,s⟩:=Option.isSome_iff_exists.1 d
   exact j.apart a v s hm
  have t:wI J F (G (Frame.enter P f args .normal) (c::cs)) ⟨ro,[]⟩:=by
   refine h main _ (A1 hJ F) c cs fun v G k l u=>?_
   obtain ⟨bf,y,hle,k⟩:=k
   have q:∀a,(bf a).isSome=true->a.block∉keys own:=fun a d=>(hle.ro a d).elim (u a) (l.own _)
   refine hJ.mono (F:=⟨bf,own⟩) ⟨fun w hw=>?_,fun b hb=>?_,fun a d=>?_⟩ (hK v ⟨bf,own⟩ (hk v bf y (fun b hb off sp=>?_) k))
   .have A:=hle.has w (l.right hw)
    have g:=l.left hw
    exact ⟨A.ro,g.own,g.nodup,fun a v e=>q a (by simp only at e;simp[e])⟩
   .simp only[af.star,cI,List.mem_append];exact .inr hb
   .rcases hle.ro a d with x|x
    .exact (ig (.inr x)).imp id (fun z=>by simp only[af.star,cI,List.mem_append];exact .inr z)
    .exact .inr (by simp only[af.star,cI,List.mem_append];exact .inl x)
   .cases e:bf ⟨b,off,sp⟩ with
    |none=>rfl
    |some v=>exact absurd hb (q ⟨b,off,sp⟩ (by simp[e]))
  refine hJ.mono ⟨fun w hw=>p.both (n w hw) (m w hw),fun b hb=>?_,fun a d=>?_⟩ (t p r)
  .simpa [af.star,F] using hb
  .rcases kV d with x|x
   .cases x
   .exact .inl x
 .exact hJ.step fun w g=>absurd ⟨w,g⟩ hw
end
attribute [go_sem] beq_self_eq_true beq_iff_eq beq_true beq_false Int.toNat_natCast Int.natCast_nonneg Int.ofNat_lt Nat.zero_mul Nat.mul_one List.length_map Bool.not_eq_true Bool.not_not decide_not
inductive Fl (σ ρ:Type) where
 |nx (s:σ)
 |bk (s:σ)
 |br (k:Nat) (s:σ)
 |rt (r:ρ)
def ai {α β:Type}(x:Option α)(f:α->Option β):Option β:=match x with
 |some a=>f a
 |none=>none
theorem gH {α β:Type}{x:Option α}{f:α->Option β}{r:β}(h:ai x f=some r):∃a,x=some a/\f a=some r:=by
 cases x with
 |none=>cases h
 |some a=>exact ⟨a,rfl,h⟩
theorem jI {α:Type}{b:Bool}{x y:Option α}{r:α}(h:cond b x y=some r):(b=true/\x=some r)\/(b=false/\y=some r):=by
 cases b
 .exact .inr ⟨rfl,h⟩
 .exact .inl ⟨rfl,h⟩
def aG {σ ρ τ:Type}(o:Fl σ ρ)(f:σ->Option τ)(g:Nat->σ->Option τ)(h:ρ->Option τ):Option τ:=match o with
 | .nx s=>f s
 | .bk s=>f s
 | .br k s=>g k s
 | .rt r=>h r
def aS {σ ρ:Type}(f:σ->Option (Fl σ ρ)):Nat->σ->Option (Fl σ ρ)
 |0,_=>none
 |n+1,s=>ai (f s) fun o=>match o with
  | .nx s'=>aS f n s'
  | .bk s'=>some (.nx s')
  | .br k s'=>some (.br k s')
  | .rt r=>some (.rt r)
def bM {α σ ρ:Type}(f:Nat->α->σ->Option (Fl σ ρ)):Nat->List α->σ->Option (Fl σ ρ)
 |_,[],s=>some (.nx s)
 |i,x::l,s=>ai (f i x s) fun o=>match o with
  | .nx s'=>bM f (i+1) l s'
  | .bk s'=>some (.nx s')
  | .br k s'=>some (.br k s')
  | .rt r=>some (.rt r)
def fu:Nat:=1000000000000000000
def bu {α:Type}(l:List α)(i:Int):Option α:=if 0<=i then l[i.toNat]? else none
theorem ck {α:Type}{l:List α}{i:Int}{x:α}(h:bu l i=some x):0<=i/\i<l.length/\l[i.toNat]?=some x:=by
 unfold bu at h;split at h
 .rename_i a;obtain ⟨hi,_⟩:=List.getElem?_eq_some_iff.1 h;exact ⟨a,aa,h⟩
 .cases h
def cx {α:Type}(l xs:List α):Option (List α):=if l.length+xs.length<=1000000 then some (l++xs) else none
theorem cL {α:Type}{l xs r:List α}(h:cx l xs=some r):l.length+xs.length<=1000000/\r=l++xs:=by
 unfold cx at h;split at h
 .rename_i a;cases h;exact ⟨a,rfl⟩
 .cases h
def ja {α:Type}(l:List α)(lo hi:Int):Option (List α):=if 0<=lo/\lo<=hi/\hi<=l.length then some ((l.take hi.toNat).drop lo.toNat) else none
theorem qS {α:Type}{l r:List α}{lo hi:Int}(h:ja l lo hi=some r):0<=lo/\lo<=hi/\hi<=l.length/\r=(l.take hi.toNat).drop lo.toNat:=by
 unfold ja at h;split at h
 .rename_i a;cases h;exact ⟨a.1,a.2.1,a.2.2,rfl⟩
 .cases h
def gy (a b:Int):Option Int:=if b=0 then none else some (IntKind.i64.wrap (a.tdiv b))
theorem k3 {a b r:Int}(h:gy a b=some r):¬b=0/\IntKind.i64.wrap (a.tdiv b)=r:=by
 unfold gy at h;split at h
 .cases h
 .rename_i c;cases h;exact ⟨c,rfl⟩
def m5 (a b:Int):Option Int:=if b=0 then none else some (a.tmod b)
theorem wK {a b r:Int}(h:m5 a b=some r):¬b=0/\a.tmod b=r:=by
 unfold m5 at h;split at h
 .cases h
 .rename_i c;cases h;exact ⟨c,rfl⟩
def wL (a b:Int):Option Int:=if b<0 then none else some (IntKind.i64.wrap (a*2 ^ min b.toNat 64))
theorem Gc {a b r:Int}(h:wL a b=some r):¬b<0/\IntKind.i64.wrap (a*2 ^ min b.toNat 64)=r:=by
 unfold wL at h;split at h
 .cases h
 .rename_i c;cases h;exact ⟨c,rfl⟩
def wM (a b:Int):Option Int:=if b<0 then none else some (a.fdiv (2 ^ min b.toNat 64))
theorem Gd {a b r:Int}(h:wM a b=some r):¬b<0/\a.fdiv (2 ^ min b.toNat 64)=r:=by
 unfold wM at h;split at h
 .cases h
 .rename_i c;cases h;exact ⟨c,rfl⟩
def A2 (a b:Int):Int:=IntKind.i64.wrap (BitVec.ofInt 64 a&&& BitVec.ofInt 64 b).toNat
theorem Ge (a b:Int):IntKind.i64.wrap (BitVec.ofInt IntKind.i64.bits a&&& BitVec.ofInt IntKind.i64.bits b).toNat=A2 a b:=rfl
attribute [go_sem ↓] Ge
def Gf (a b:Int):Int:=IntKind.u8.wrap (BitVec.ofInt 8 a&&& BitVec.ofInt 8 b).toNat
theorem Gg (a b:Int):IntKind.u8.wrap (BitVec.ofInt IntKind.u8.bits a&&& BitVec.ofInt IntKind.u8.bits b).toNat=Gf a b:=rfl
attribute [go_sem ↓] Gg
def qT (a b:Int):Option Int:=if b<0 then none else some (IntKind.u64.wrap (a*2 ^ min b.toNat IntKind.u64.bits))
theorem wN {a b r:Int}(h:qT a b=some r):¬b<0/\IntKind.u64.wrap (a*2 ^ min b.toNat IntKind.u64.bits)=r:=by
 unfold qT at h;split at h
 .cases h
 .rename_i c;cases h;exact ⟨c,rfl⟩
def wO (a b:Int):Option Int:=if b<0 then none else some (a.fdiv (2 ^ min b.toNat IntKind.u64.bits))
theorem Gh {a b r:Int}(h:wO a b=some r):¬b<0/\a.fdiv (2 ^ min b.toNat IntKind.u64.bits)=r:=by
 unfold wO at h;split at h
 .cases h
 .rename_i c;cases h;exact ⟨c,rfl⟩
def jb (a b:Int):Int:=IntKind.u64.wrap (BitVec.ofInt 64 a&&& BitVec.ofInt 64 b).toNat
theorem Gi (a b:Int):IntKind.u64.wrap (BitVec.ofInt IntKind.u64.bits a&&& BitVec.ofInt IntKind.u64.bits b).toNat=jb a b:=rfl
def iK (a b:Int):Int:=IntKind.u64.wrap (BitVec.ofInt 64 a ^^^ BitVec.ofInt 64 b).toNat
theorem Gj (a b:Int):IntKind.u64.wrap (BitVec.ofInt IntKind.u64.bits a ^^^ BitVec.ofInt IntKind.u64.bits b).toNat=iK a b:=rfl
attribute [go_sem ↓] Gi Gj
theorem cM {n:Nat}(h:n<1000000000000000):IntKind.i64.wrap ((n:Int)+1)=((n+1:Nat):Int):=by
 simp only[IntKind.wrap,IntKind.bits,IntKind.signed];simp;omega
theorem dJ {α:Type}{l:List α}{i:Nat}{x:α}(h:l[i]?=some x):l.drop i=x::l.drop (i+1):=by
 obtain ⟨hi,rfl⟩:=List.getElem?_eq_some_iff.1 h;exact List.drop_eq_getElem_cons hi
theorem cast_zero:((0:Nat):Int)=0:=rfl
attribute [go_sem] cast_zero
theorem Gk (l:List Value)(i j:Nat):(l.toArray).extract i j=((l.drop i).take (j - i)).toArray:=by
 apply Array.ext';simp[List.extract_eq_drop_take]
attribute [go_sem] Gk
structure cz (T:Type) where
 n:Nat
 rel:(Addr->Option Value)->T->List Value->Prop
 mono:∀{ro bf:Addr->Option Value} {x:T} {cs:List Value},Ext ro bf->rel ro x cs->rel bf x cs
 len:∀{ro:Addr->Option Value} {x:T} {cs:List Value},rel ro x cs->cs.length=n
 one:∀{ro:Addr->Option Value} {x:T} {cs:List Value},rel ro x cs->∀v∈cs,bU v=true
def jc {T:Type}(n:Nat)(c:T->List Value)(h:∀x,(c x).length=n)(a:∀x,∀v∈c x,bU v=true):cz T:=
 ⟨n,fun _ x cs=>cs=c x,fun _ h=>h,fun e=>by rw[e];exact h _,fun e=>by rw[e];exact a _⟩
def rI:cz Int:=jc 1 (fun n=>[.int .i64 n]) (fun _=>rfl) (fun _ v a=>by simp at a;subst a;rfl)
def rB:cz Bool:=jc 1 (fun n=>[.bool n]) (fun _=>rfl) (fun _ v a=>by simp at a;subst a;rfl)
def aH {T:Type}(r:cz T)(ro:Addr->Option Value)(s:Value)(l:List T):Prop:=
 ∃ad cap,s= .slice ad l.length cap/\l.length<=cap/\l.length<=1000000000000000/\∀i x,l[i]?=some x->∃p cs,ad=some p/\r.rel ro x cs/\∀j v,cs[j]?=some v->ro ((p.add (i*r.n)).add j)=some v
theorem aH.mono {T:Type}{r:cz T}{ro bf:Addr->Option Value}{s:Value}{l:List T}(h:aH r ro s l)(a:Ext ro bf):aH r bf s l:=by
 obtain ⟨ad,cap,b,c,d,e⟩:=h;refine ⟨ad,cap,b,c,d,fun i x hi=>?_⟩;obtain ⟨p,cs,f,g,hm⟩:=e i x hi;exact ⟨p,cs,f,r.mono a g,fun j v k=>a _ _ (hm j v k)⟩
theorem aH.nil {T:Type}(r:cz T)(ro:Addr->Option Value):aH r ro (.slice none 0 0) []:=⟨none,0,rfl,Nat.le_refl _,av,fun i x h=>by simp at h⟩
def rL {T:Type}(r:cz T):cz (List T):=
 ⟨1,fun ro l cs=>∃s,cs=[s]/\aH r ro s l,fun d ⟨s,a,b⟩=>⟨s,a,b.mono d⟩,fun ⟨s,a,_⟩=>by rw[a];rfl,fun ⟨s,a,ad,cap,b,_⟩ v c=>by rw[a] at c;simp at c;subst c;rw[b];rfl⟩
theorem aH.part {T:Type}{r:cz T}{ro:Addr->Option Value}{ad:Option Addr}{cap:Nat}{l:List T}(h:aH r ro (.slice ad l.length cap) l)(lo hi:Nat)(g:lo<=hi)(k:hi<=l.length):
  aH r ro (.slice (if cap=lo then ad else ad.map (·.add (lo*r.n))) (hi - lo) (cap - lo)) ((l.take hi).drop lo):=by
 obtain ⟨m,o,e,q,s,b⟩:=h
 cases e
 have hlen:((l.take hi).drop lo).length=hi - lo:=by simp;omega
 refine ⟨_,cap - lo,by rw[hlen],by rw[hlen];omega,by rw[hlen];omega,fun i x a=>?_⟩
 rw[List.getElem?_drop,List.getElem?_take] at a
 split at a
 case isFalse=>cases a
 obtain ⟨p,cs,c,d,hm⟩:=b _ x a
 have hl:lo+i<l.length:=(List.getElem?_eq_some_iff.1 a).1
 refine ⟨p.add (lo*r.n),cs,?_,d,fun j v f=>?_⟩
 .have aO:¬cap=lo:=aa
  rw[if_neg aO,c];rfl
 .have:=hm j v f
  rw[lU] at this
  rw[lU,lU]
  rw[show lo*r.n+(i*r.n+j)=(lo+i)*r.n+j by rw[Nat.add_mul];omega]
  exact this
def Apart (ks:List Nat)(bw:List (Nat×Obj)):Prop:=∀k∈keys bw,k∉ks
theorem Apart.nil (ks:List Nat):Apart ks []:=fun k h=>(by cases h)
theorem lX:∀{l:List (Nat×Obj)} {b:Nat},ax l b->b∉keys l
 |[],_,_=>by simp[keys]
 |(c,o)::l,b,h=>by simp only[keys,List.map_cons,List.mem_cons,not_or];exact ⟨h.1,lX h.2⟩
theorem m6:∀{l:List (Nat×Obj)} {b:Nat},b∉keys l->ax l b
 |[],_,_=>trivial
 |(c,o)::l,b,h=>by simp only[keys,List.map_cons,List.mem_cons,not_or] at h;exact ⟨h.1,m6 h.2⟩
theorem Apart.push {ks:List Nat}{bw:List (Nat×Obj)}{b:Nat}(h:Apart ks bw)(hb:ax bw b):Apart (b::ks) bw:=fun k hk=>by
 simp only[List.mem_cons,not_or]
 exact ⟨fun e=>lX hb (e▸hk),h k hk⟩
theorem Apart.drop {ks:List Nat}{bw:List (Nat×Obj)}{b:Nat}(h:Apart (b::ks) bw):Apart ks bw:=fun k hk=>(by have:=h k hk;simp only[List.mem_cons,not_or] at this;exact this.2)
def aZ {T:Type}(r:cz T)(ro:Addr->Option Value)(e:TypeId)(v:Value)(l:List T)(bw:List (Nat×Obj)):Prop:=
 ∃ls:List (List Value),Gr ro e r.n v ls bw/\ls.length=l.length/\l.length<=1000000/\∀(i:Nat) (x:T),l[i]?=some x->∃cs:List Value,ls[i]?=some cs/\r.rel ro x cs
theorem aZ.nil {T:Type}(r:cz T)(ro:Addr->Option Value)(e:TypeId):aZ r ro e (.slice none 0 0) [] []:=⟨[],.inl ⟨rfl,rfl,rfl⟩,rfl,av,fun i x h=>by simp at h⟩
theorem aZ.len {T:Type}{r:cz T}{ro:Addr->Option Value}{e:TypeId}{v:Value}{l:List T}{bw:List (Nat×Obj)}(h:aZ r ro e v l bw):∃ad cap,v= .slice ad l.length cap/\l.length<=cap:=by
 obtain ⟨ls,hg,hl,-⟩:=h;rcases hg with ⟨rfl,rfl,rfl⟩|⟨b,arr,cap,rfl,rfl,hs,hle,-⟩
 .exact ⟨none,0,by rw[<-hl];rfl,by rw[<-hl];exact Nat.le_refl _⟩
 .exact ⟨_,cap,by rw[hl],aa⟩
def aJ (ro:Addr->Option Value)(own:List (Nat×Obj)):Prop:=∀b∈keys own,∀off sp,ro ⟨b,off,sp⟩=none
theorem aZ.mono {T:Type}{r:cz T}{ro bf:Addr->Option Value}{e:TypeId}{v:Value}{l:List T}{bw:List (Nat×Obj)}(h:aZ r ro e v l bw)(d:Ext ro bf)(f:aJ bf bw):aZ r bf e v l bw:=by
 obtain ⟨ls,hg,hl,hm,g⟩:=h;refine ⟨ls,?_,hl,hm,fun i x hi=>?_⟩
 .rcases hg with h|⟨b,arr,cap,c,a,j,k,m,n,o⟩
  .exact .inl h
  .exact .inr ⟨b,arr,cap,c,a,j,k,m,n,f b (by rw[a];simp[keys])⟩
 .obtain ⟨cs,c,a⟩:=g i x hi;exact ⟨cs,c,r.mono d a⟩
theorem Apart.fresh {pre bw:List (Nat×Obj)}{ks:List Nat}(h:Apart ks bw)(hk:keys pre=ks):∀k∈keys bw,ax pre k:=fun k a=>m6 (by rw[hk];exact h k a)
theorem qU {n:Nat}:∀(ls:List (List Value)) (i:Nat) (cs:List Value),(∀x∈ls,x.length=n)->ls[i]?=some cs->∀j v,cs[j]?=some v->ls.flatten[i*n+j]?=some v
 |[],i,cs,_,h,_,_,_=>by simp at h
 |y::ls,0,cs,b,h,j,v,a=>by
  simp at h;subst h
  have:j<y.length:=(List.getElem?_eq_some_iff.1 a).1
  simp only[Nat.zero_mul,Nat.zero_add,List.flatten_cons]
  rw[List.getElem?_append_left this]
  exact a
 |y::ls,i+1,cs,b,h,j,v,a=>by
  simp at h
  have ih:=qU ls i cs (fun x d=>b x (by simp[d])) h j v a
  have c:=b y av
  simp only[List.flatten_cons]
  rw[List.getElem?_append_right (by rw[c,Nat.add_mul];omega)]
  rw[show (i+1)*n+j - y.length=i*n+j by rw[c,Nat.add_mul];omega]
  exact ih
theorem aZ.A3 {T:Type}{r:cz T}{ro:Addr->Option Value}{e:TypeId}{v:Value}{l:List T}{bw:List (Nat×Obj)}{ks:List Nat}(h:aZ r ro e v l bw)(pre:List (Nat×Obj))(k:Apart ks bw)(m:keys pre=ks)(d:aJ ro pre):
  ∃bf,Ext ro bf/\aJ bf pre/\aH r bf v l/\Le ⟨bf,pre⟩ ⟨ro,pre++bw⟩:=by
 obtain ⟨ls,hg,hl,hm,o⟩:=h
 rcases hg with ⟨rfl,rfl,rfl⟩|⟨b,arr,cap,rfl,rfl,hs,hle,ht,f,p⟩
 .have:l=[]:=List.eq_nil_of_length_eq_zero (by simpa using hl.symm)
  subst this
  exact ⟨ro,Ext.refl ro,d,aH.nil r ro,by rw[List.append_nil];exact Le.refl _⟩
 .have hb:b∉keys pre:=by rw[m];exact k b (by simp[keys])
  refine ⟨b9 ro b (.cells arr e),gY _ _ _,fun c g off sp=>?_,⟨some ⟨b,0,none⟩,cap,by rw[hl],aa,aa,fun i x hi=>?_⟩,kZ ?_ (List.sublist_append_left _ _) (m6 hb)⟩
  .have aO:¬c=b:=fun e=>hb (e▸g)
   simp[b9,d c g,aO]
  .obtain ⟨cs,q,s⟩:=o i x hi
   refine ⟨_,cs,rfl,r.mono (gY _ _ _) s,fun j v t=>?_⟩
   have a:=qU ls i cs f q j v t
   rw[lU,lV,Nat.zero_add,jH p]
   have u:i*r.n+j<ls.length*r.n:=by
    have:=(List.getElem?_eq_some_iff.1 a).1
    rw[iZ f] at this
    exact this
   rw[<-ht,List.getElem?_take_of_lt u] at a
   simpa [cellOf] using a
  .have:∀(pre:List (Nat×Obj)),b∉keys pre->lk (pre++[(b,Obj.cells arr e)]) b=some (.cells arr e):=fun pre h=>wA (m6 h)
   exact this pre hb
theorem aZ.elem {T:Type}{r:cz T}{ro:Addr->Option Value}{e:TypeId}{v:Value}{l:List T}{bw:List (Nat×Obj)}(h:aZ r ro e v l bw){i:Nat}{x:T}(hi:l[i]?=some x):
  ∃b arr cap cs,v= .slice (some ⟨b,0,none⟩) l.length cap/\bw=[(b,.cells arr e)]/\(∀off sp,ro ⟨b,off,sp⟩=none)/\r.rel ro x cs/\∀j v,cs[j]?=some v->arr[i*r.n+j]?=some v:=by
 obtain ⟨ls,hg,hl,hm,f⟩:=h
 obtain ⟨cs,c,g⟩:=f i x hi
 rcases hg with ⟨rfl,rfl,rfl⟩|⟨b,arr,cap,rfl,rfl,hs,hle,ht,d,k⟩
 .simp at c
 .refine ⟨b,arr,cap,cs,by rw[hl],rfl,k,g,fun j v m=>?_⟩
  have a:=qU ls i cs d c j v m
  have o:i*r.n+j<ls.length*r.n:=by
   have:=(List.getElem?_eq_some_iff.1 a).1
   rw[iZ d] at this
   exact this
  rw[<-ht,List.getElem?_take_of_lt o] at a
  simpa using a
theorem bq {ro:Addr->Option Value}{own:List (Nat×Obj)}:Ext ro (af.cO ⟨ro,own⟩).ro:=fun a v h=>by simp[af.cO,af.get,h]
theorem cq {ro:Addr->Option Value}{own:List (Nat×Obj)}{F:af}(h:Knows ⟨ro,own⟩ F):Ext ro F.cO.ro:=fun a v b=>by
 have:F.ro a=some v:=h.1 a v b
 simp[af.cO,af.get,this]
theorem aH.qV {T:Type}{r:cz T}{ro:Addr->Option Value}{ad:Option Addr}{cap:Nat}{l x:List T}(h:aH r ro (.slice ad l.length cap) l)(lo hi:Nat)(b:lo<=hi)(c:hi<=l.length)(d:x=(l.take hi).drop lo):
  ∃a,(if cap=lo then ad else ad.map (·.add (lo*r.n)))=a/\hi - lo=x.length/\aH r ro (.slice a x.length (cap - lo)) x:=by
 subst d
 have hlen:((l.take hi).drop lo).length=hi - lo:=by simp;omega
 refine ⟨_,rfl,hlen.symm,?_⟩
 rw[hlen]
 exact h.part lo hi b c
theorem aH.one {T:Type}{r:cz T}{ro:Addr->Option Value}{own:List (Nat×Obj)}{b:Nat}{x:T}{cs:Array Value}{e:TypeId}(a:∀off sp,ro ⟨b,off,sp⟩=none)(hl:lk own b=some (.cells cs e))(h:r.rel ro x cs.toList):
  aH r (b9 ro b (.cells cs e)) (.slice (some ⟨b,0,none⟩) 1 1) [x]:=by
 refine ⟨some ⟨b,0,none⟩,1,rfl,Nat.le_refl _,av,fun i y hi=>?_⟩
 have:i=0/\y=x:=by
  cases i with
  |zero=>simp at hi;exact ⟨rfl,hi.symm⟩
  |succ i=>simp at hi
 obtain ⟨rfl,rfl⟩:=this
 refine ⟨_,_,rfl,r.mono (gY _ _ _) h,fun j v c=>?_⟩
 rw[Nat.zero_mul,add_zero',lV,Nat.zero_add,jH a]
 simpa [cellOf] using c
theorem aH.flat {T:Type}{r:cz T}{ro:Addr->Option Value}{b:Nat}{cs:Array Value}{e:TypeId}(c:T->List Value)(l:List T)(a:∀x,r.rel ro x (c x))(d:∀off sp,ro ⟨b,off,sp⟩=none)(f:cs.toList=(l.map c).flatten)(hlen:l.length<=1000000000000000):
  aH r (b9 ro b (.cells cs e)) (.slice (some ⟨b,0,none⟩) l.length l.length) l:=by
 refine ⟨some ⟨b,0,none⟩,l.length,rfl,Nat.le_refl _,hlen,fun i x hi=>⟨_,c x,rfl,r.mono (gY _ _ _) (a x),fun j v g=>?_⟩⟩
 have h:(l.map c)[i]?=some (c x):=by rw[List.getElem?_map,hi];rfl
 have k:∀y∈l.map c,y.length=r.n:=fun y m=>by
  obtain ⟨z,_,rfl⟩:=List.mem_map.1 m
  exact r.len (a z)
 have:=qU (l.map c) i (c x) k h j v g
 rw[lV,lV,Nat.zero_add,jH d]
 rw[<-f] at this
 simpa [cellOf] using this
theorem k4 {ro:Addr->Option Value}{own:List (Nat×Obj)}{b:Nat}{o:Obj}(hl:lk own b=some o):Ext (b9 ro b o) (af.cO ⟨ro,own⟩).ro:=fun a v h=>by
 unfold b9 at h
 simp only[af.cO,af.get]
 split at h
 .rename_i x c;rw[c];exact h
 .rename_i c
  split at h
  .rename_i d
   rw[c]
   simp only
   rw[if_pos d.2,d.1,hl]
   exact h
  .cases h
section
variable {P:Program}{main:Bool}{J:Goroutine->af->Prop}
theorem gI (hJ:Closed P main J){f:FuncId}{args:Array Value}{F F':af}{K:Value->af->Prop}(hle:Le F F')(h:dx P J f args F K):dx P J f args F' K:=fun c cs k=>hJ.mono hle (h c cs k)
end
theorem aZ.bd {T:Type}{r:cz T}{ro:Addr->Option Value}{e:TypeId}{v:Value}{l:List T}{bw:List (Nat×Obj)}(h:aZ r ro e v l bw):l.length<=1000000:=by
 obtain ⟨ls,_,_,hm,_⟩:=h;exact hm
theorem aI.A3 {P:Program}{f:FuncId}{args:Array Value}{ro:Addr->Option Value}{R:Value->Prop}(h:aI P f args ⟨ro,[]⟩ (fun v _=>R v)):aI P f args ⟨ro,[]⟩ (fun v G=>R v/\G=⟨ro,[]⟩):=by
 intro main J hJ c cs hK
 exact vX (F:=⟨ro,[]⟩) (R:=R) (by
  have e:af.cO ⟨ro,[]⟩=⟨ro,[]⟩:=by
   simp only[af.cO,af.mk.injEq,and_true];funext a;simp only[af.get];cases ro a with
   |none=>simp[lk]
   |some v=>rfl
  rw[e];exact h) main J hJ c cs hK
end Go.Sep
end
section
namespace Go.Sep
open Go Go.Conc Go.ConcM
open Go.ConcN (sumTo upd sumTo_upd upd_ne upd_same)
def eR (P:Program)(Φ:Goroutine->af->Prop)(g:Goroutine)(F:af):Prop:=
 ∀(bJ:Loc->Prop) (gs:Array Goroutine) (w:World) (sl:Option (Nat×Nat)) (t:Trace) (q:Nat->Nat),j9 P bJ g F gs w t q->
  ∃(N:Nat) (cp:Array Goroutine) (w':World) (c:Option (Nat×Nat)) (a:Trace) (d:Nat->Nat) (g':Goroutine) (F':af) (b:Loc->Prop),
   runNT P N (crowd gs w sl) t=(.next (crowd cp w' c),a)/\j9 P b g' F' cp w' a d/\fY F F' w w'/\(∀l,b l->bJ l\/¬l.low w.heap.size)/\Φ g' F'
theorem eR.done {P:Program}{Φ:Goroutine->af->Prop}{g:Goroutine}{F:af}(h:Φ g F):eR P Φ g F:=
 fun bJ gs w sl t q a=>⟨0,gs,w,sl,t,q,g,F,bJ,rfl,a,.refl _ _,fun _ h=>.inl h,h⟩
theorem qW (P:Program)(Φ:Goroutine->af->Prop):Closed P true (eR P Φ) where
 mono hle h bJ gs w sl t q b:=by
  obtain ⟨N,cp,w',v,z,A,g',F',B,g,C,hu,D,E⟩:=h bJ gs w sl t q ⟨b.g0,b.lv,b.gw,hle.has w b.has,fun l hs H=>b.apart l hs (hle.ie H),b.low⟩
  exact ⟨N,cp,w',v,z,A,g',F',B,g,C,hu.le hle,D,E⟩
 step {fr cs F} h bJ gs w sl t q b:=by
  obtain ⟨N,k,d,m,a0,n,t1,I,g,a2,p,hL,J,K⟩:=sQ (P:=P) (a:=G fr cs) rfl _ gs w sl t q (Nat.le_refl _) b.g0 b.lv b.gw
  obtain ⟨g',w',es,F',hgo,hu,L,M,hJ⟩:=h (w.at m) (b.has.at m)
  have c:eC F F' w w':=⟨hu.os,hu.tape,hu.output,hu.size,hu.frame,hu.ro,hu.own⟩
  have O:=runT_crowd_go (P:=P) (sl:=n) (i:=0) p (show stepG P (0==0) (G fr cs) (w.at m)=_ from hgo)
  have Q:0<k.size:=(Array.getElem?_eq_some_iff.1 p).1
  have r:=j9.next (P:=P) b.apart b.low c
  obtain ⟨R,S,w2,T,t2,U,V,W,X,Y,Z,ab,ad,ae⟩:=hJ bJ ((k.map (woken P (G fr cs) g' w')).setIfInBounds 0 g') w' n (t1++MemOp.ofEvents 0 (G fr cs).frame.fn (G fr cs).frame.place es) I
   {g0:=by simp[Q]
    lv:=⟨fun j x f s=>by
     have aO:0≠j:=aa
     rw[Array.getElem?_setIfInBounds_ne aO,Array.getElem?_map] at s
     obtain ⟨y,al,rfl⟩:=Option.map_eq_some_iff.1 s
     have u:=hL.old j y f al
     rw[woken_quitsD u,Deaf_other t1 aa _ (fun op o=>by obtain ⟨e,_,rfl⟩:=Go.Conc.mem_ofEvents o;rfl)]
     exact u,fun j f=>by
     rw[Deaf_other t1 (g':=0) (by simp at f;omega) _ (fun op o=>by obtain ⟨e,_,rfl⟩:=Go.Conc.mem_ofEvents o;rfl)]
     exact hL.above j (by simpa using f)⟩
    gw:=(J.mono c.size).own fun e he=>Av b.has c.size b.apart b.low (M e he)
    has:=L
    apart:=r.1
    low:=r.2}
  refine ⟨N+1+R,S,w2,T,t2,U,V,W,X,?_,Z,(fY.qD c).trans ab,fun l hl=>(ad l hl).imp id fun ao ar=>ao (Loc.low_mono c.size ar),ae⟩
  have:runNT P (N+1) (crowd gs w sl) t=(.next (crowd ((k.map (woken P (G fr cs) g' w')).setIfInBounds 0 g') w' n),t1++MemOp.ofEvents 0 (G fr cs).frame.fn (G fr cs).frame.place es):=by
   rw[runNT_add,g]
   simp only[runNT,K,O]
  rw[kg this]
  exact Y
def gz (P:Program)(f:FuncId)(args:Array Value)(F:af)(R:Value->af->Prop):Prop:=∀Φ,dx P (eR P Φ) f args F R
theorem A4 {P:Program}{f:FuncId}{args:Array Value}{ro:Addr->Option Value}{own:List (Nat×Obj)}{R:Value->af->Prop}(h:gz P f args ⟨ro,[]⟩ R):
  gz P f args ⟨ro,own⟩ (fun v F'=>∃G,R v G/\F'=G.star ⟨ro,own⟩/\Fits ⟨ro,own⟩ G/\m4 ⟨ro,own⟩ G):=by
 intro Φ c cs hK bJ gs w sl t q d
 let Fr:af:=⟨ro,own⟩
 have F:j9 P bJ (G (Frame.enter P f args .normal) (c::cs)) ⟨ro,[]⟩ gs w t q:=
  ⟨d.g0,d.lv,d.gw,⟨d.has.ro,fun b o hb=>(by cases hb),List.nodup_nil,fun a v j hm=>(by cases hm)⟩,fun l hs i=>d.apart l hs (by
   cases l with
   |cell a=>exact i.elim (fun x=>by cases x) .inr
   |obj r=>cases i
   |_=>exact i),d.low⟩
 obtain ⟨N,cp,w',H,p,s,g',F',u,j,g,hu,m,v,rfl,n⟩:=h (fun g' F'=>∃v,g'=G (c.finish v) cs/\R v F') c cs (fun v F' n=>eR.done ⟨v,rfl,n⟩) bJ gs w sl t q F
 have A:Has Fr w':=⟨fun a v j=>by
  have B:=d.has.ro a v j
  have I:=d.has.iH (a:=a) (by rw[j];rfl)
  unfold World.cell? at B ⊢
  rw[hu.frame _ I (fun hm=>by cases hm)]
  exact B,fun b o hb=>by
  rw[hu.frame b (d.has.lt (fJ hb)) (fun hm=>by cases hm)]
  exact d.has.own b o hb,d.has.nodup,d.has.apart⟩
 have C:Fits Fr F':=⟨⟨w',g.has,A⟩,fun b hb hm=>by
  rcases hu.own b hb with x|x
  .cases x
  .have:=d.has.lt (b:=b) hm;omega,fun a k hm=>by
  rcases hu.own _ hm with x|x
  .cases x
  .have:=d.has.iH (a:=a) k;omega⟩
 have J:m4 Fr F':=fun a k hm=>by
  rcases hu.ro a k with x|x|x
  .obtain ⟨y,K⟩:=Option.isSome_iff_exists.1 x
   exact d.has.apart a y K hm
  .cases x
  .have:=d.has.lt (b:=a.block) hm;omega
 have L:j9 P u (G (c.finish v) cs) (F'.star Fr) cp w' p s:=by
  refine ⟨g.g0,g.lv,g.gw,C.both g.has A,fun l hs i=>?_,g.low⟩
  have D:∀b,b∈keys own->(l= .obj b\/∃a,l= .cell a/\a.block=b)->False:=fun b hb hl=>by
   rcases m l hs with x|x
   .refine d.apart l x ?_
    rcases hl with rfl|⟨a,rfl,e⟩
    .exact hb
    .exact .inl (e▸hb)
   .refine x ?_
    have:=d.has.lt (b:=b) hb
    rcases hl with rfl|⟨a,rfl,e⟩
    .exact this
    .show a.block<_;rw[e];exact this
  cases l with
  |cell a=>
   rcases i with x|x
   .simp only[af.star,cI,List.mem_append] at x
    rcases x with x|x
    .exact g.apart _ hs (.inl x)
    .exact D _ x (.inr ⟨a,rfl,rfl⟩)
   .rcases kV x with y|y
    .rcases m _ hs with z|z
     .exact d.apart _ z (.inr y)
     .exact z (d.has.iH (a:=a) y)
    .exact g.apart _ hs (.inr y)
  |obj r=>
   simp only[af.ie,af.star,cI,List.mem_append] at i
   rcases i with x|x
   .exact g.apart _ hs x
   .exact D _ x (.inl rfl)
  |_=>exact i
 obtain ⟨M,O,w2,Q,t2,S,T,U,V,W,X,Y,Z,ab⟩:=hK v (F'.star Fr) ⟨F',n,rfl,C,J⟩ u cp w' H p s L
 have ad:fY ⟨ro,own⟩ (F'.star Fr) w w':=⟨hu.os,hu.tape,hu.output,hu.size,fun b hb E=>hu.frame b hb (fun x=>by cases x),fun a k=>by
  rcases kV k with y|y
  .exact .inl y
  .rcases hu.ro a y with z|z|z
   .exact .inl z
   .cases z
   .exact .inr (.inr z),fun b hb=>by
  simp only[af.star,cI,List.mem_append] at hb
  rcases hb with x|x
  .rcases hu.own b x with y|y
   .cases y
   .exact .inr y
  .exact .inl x⟩
 exact ⟨N+M,O,w2,Q,t2,S,T,U,V,by rw[kg j];exact W,X,ad.trans Y,fun l hl=>(Z l hl).elim (m l) fun E=>.inr fun ae=>E (Loc.low_mono hu.size ae),ab⟩
theorem gz.go {P:Program}{f:FuncId}{fn:Func}{c:Code}{n:Nat}{rs:List ResultVar}{args:Array Value}{F:af}{R:Value->af->Prop}(j:P.funcs[f]?=some fn)(hb:fn.body=some c)(d:fn.ntmps=n)(k:fn.results=rs.toArray)(m:args.size<=n)
  (h:∀Φ,Closed P true (eR P Φ)->∀A:Act,sz A=n->A.defers=[]->(∀i,slot A i=args.getD i undef)->Wp (eR P Φ) c (jE P rs R) A F):gz P f args F R:=fun Φ=>by
 refine dx.of_wp (qW P Φ) j hb ?_
 refine (h Φ (qW P Φ) _ (by simp[sz,d];omega) rfl fun i=>?_).mono fun e a F g=>?_
 .simp only[slot,d,Array.getD_eq_getD_getElem?]
  rcases Nat.lt_or_ge i args.size with hi|hi
  .rw[Array.getElem?_append_left hi]
  .rw[Array.getElem?_append_right hi,Array.getElem?_replicate,Array.getElem?_eq_none hi]
   split<;>rfl
 .cases e with
  |exit i=>exact g
  |_=>
   obtain ⟨hd,b⟩:=g
   split at b
   .rename_i v l
    show iY P a.defers _ F
    rw[hd]
    exact s7 k l b
   .exact b.elim
def qX (P:Program)(f:FuncId)(args:Array Value)(ro:Addr->Option Value)(R:Value->(Addr->Option Value)->Prop):Prop:=
 gz P f args ⟨ro,[]⟩ (fun v G=>∃bf,Ext ro bf/\Le ⟨bf,[]⟩ G/\R v bf)
theorem Gl {P:Program}{Φ:Goroutine->af->Prop}{f:FuncId}{args:Array Value}{ro:Addr->Option Value}{own:List (Nat×Obj)}{K:Value->af->Prop}(R:Value->(Addr->Option Value)->Prop)
  (h:qX P f args ro R) (hk:∀v bf,Ext ro bf->(∀b∈keys own,∀off sp,bf ⟨b,off,sp⟩=none)->R v bf->K v ⟨bf,own⟩):dx P (eR P Φ) f args ⟨ro,own⟩ K:=by
 intro c cs hK
 refine A4 (own:=own) h Φ c cs fun v F' k=>?_
 obtain ⟨G,⟨bf,l,hle,m⟩,rfl,e,n⟩:=k
 have i:∀a,(bf a).isSome=true->a.block∉keys own:=fun a g=>(hle.ro a g).elim (n a) (e.own _)
 refine (qW P Φ).mono (F:=⟨bf,own⟩) ⟨fun w hw=>?_,fun b hb=>?_,fun a g=>?_⟩ (hK v ⟨bf,own⟩ (hk v bf l (fun b hb off sp=>?_) m))
 .have o:=hle.has w (e.right hw)
  have j:=e.left hw
  exact ⟨o.ro,j.own,j.nodup,fun a v d=>i a (by simp only at d;simp[d])⟩
 .simp only[af.star,cI,List.mem_append];exact .inr hb
 .rcases hle.ro a g with x|x
  .exact (ig (.inr x)).imp id (fun z=>by simp only[af.star,cI,List.mem_append];exact .inr z)
  .exact .inr (by simp only[af.star,cI,List.mem_append];exact .inl x)
 .cases d:bf ⟨b,off,sp⟩ with
  |none=>rfl
  |some v=>exact absurd hb (i ⟨b,off,sp⟩ (by simp[d]))
theorem A5 {P:Program}{Φ:Goroutine->af->Prop}{f:FuncId}{args:Array Value}{ro:Addr->Option Value}{own:List (Nat×Obj)}{K:Value->af->Prop}(v:Value)
  (h:gz P f args ⟨ro,[]⟩ (fun d _=>d=v)) (hk:K v ⟨ro,own⟩):dx P (eR P Φ) f args ⟨ro,own⟩ K:=by
 intro c cs hK
 refine A4 (own:=own) h Φ c cs fun d F' e=>?_
 obtain ⟨G,rfl,rfl,g,j⟩:=e
 refine (qW P Φ).mono (F:=⟨ro,own⟩) ⟨fun w hw=>g.left hw,fun b hb=>?_,fun a i=>?_⟩ (hK d ⟨ro,own⟩ hk)
 .simp only[af.star,cI,List.mem_append];exact .inr hb
 .exact (ig (.inl i)).imp id (fun z=>by simp only[af.star,cI,List.mem_append];exact .inr z)
end Go.Sep
end
section
namespace Go.Sep
open Go Go.Conc Go.ConcM
def A6 (P:Program)(R:Value->af->Prop)(g:Goroutine)(F:af):Prop:=
 ∃(fr:Frame) (fn:Func) (t:Nat) (v:Value),g=G fr []/\fr.kind= .normal/\P.inits.idxOf? fr.fn=none/\fr.mode= .returning/\fr.defers=[]/\P.funcs[fr.fn]?=some fn/\fn.results=#[.tmp t]/\fr.tmps.getD t undef=v/\R v F
def m7 (P:Program)(f:FuncId)(args:Array Value)(F:af)(R:Value->af->Prop):Prop:=
 ∀Φ:Goroutine->af->Prop,(∀g F',A6 P R g F'->Φ g F')->eR P Φ (G (Frame.enter P f args .normal) []) F
theorem m7.go {P:Program}{f:FuncId}{fn:Func}{c:Code}{n t:Nat}{args:Array Value}{F:af}{R:Value->af->Prop}(g:P.funcs[f]?=some fn)(hb:fn.body=some c)(j:fn.ntmps=n)(o:fn.results=[.tmp t].toArray)(x:args.size<=n)(hi:P.inits.idxOf? f=none)
  (h:∀Φ,Closed P true (eR P Φ)->∀A:Act,sz A=n->A.defers=[]->(∀i,slot A i=args.getD i undef)->Wp (eR P Φ) c (jE P [.tmp t] R) A F):m7 P f args F R:=by
 intro Φ p
 have hJ:=qW P Φ
 let b:Frame:={(default:Frame) with fn:=f,kind:=.normal}
 have q:Frame.enter P f args .normal=on b {tmps:=args++Array.replicate (fn.ntmps - args.size) undef,defers:=[]} [.code c]:=by
  simp[Frame.enter,on,g,hb,b]
  rfl
 rw[q]
 have k:∀(a:Act) (F':af) (fr:Frame),fr.kind= .normal->fr.mode= .returning->fr.defers=a.defers->fr.fn=f->fr.tmps=a.tmps->jE P [.tmp t] R .normal a F'->eR P Φ (G fr []) F':=by
  intro a F' fr r s u l v d
  obtain ⟨hd,w⟩:=d
  refine eR.done (p _ _ ⟨fr,fn,t,_,rfl,r,by rw[l];exact hi,s,by rw[u,hd],by rw[l];exact g,o,rfl,?_⟩)
  rw[v]
  simpa [m0,mZ,qO,slot] using w
 refine h Φ hJ _ (by simp[sz,j];omega) rfl (fun i=>?_) b [] [] ⟨by simp[b],.inl rfl⟩ fun e m F' d=>?_
 .simp only[slot,j,Array.getD_eq_getD_getElem?]
  rcases Nat.lt_or_ge i args.size with hi|hi
  .rw[Array.getElem?_append_left hi]
  .rw[Array.getElem?_append_right hi,Array.getElem?_replicate,Array.getElem?_eq_none hi]
   split<;>rfl
 .cases e with
  |normal=>exact hJ.move (fun _=>mP rfl) (k m F' _ rfl rfl rfl rfl rfl d)
  |exit i=>exact d.elim
  |ret=>exact fun y=>hJ.move (fun _=>stepG_ret' rfl) (k m F' _ rfl rfl rfl rfl rfl d)
theorem m7.ends {P:Program}{f:FuncId}{args:Array Value}{F:af}{R:Value->af->Prop}(h:m7 P f args F R){W:World}(i:Has F W){a:Value->World->Prop}
  (j:∀v F' w',R v F'->fY F F' W w'->a v w'):
  ∃M last o w' b,runNT P (M+1) (solo (G (Frame.enter P f args .normal) []) W) #[]=(.ended o w',b)/\runN P M (solo (G (Frame.enter P f args .normal) []) W)= .next last/\step P last= .ended o w'/\Go.Conc.Good P a last o w' b:=by
 obtain ⟨N,cp,w',k,b,A,g',F',l,g,c,hu,_,fr,fn,t,v,rfl,hk,hi,m,n,p,q,r,s⟩:=h (A6 P R) (fun _ _ x=>x) (fun _=>False) #[G (Frame.enter P f args .normal) []] W none #[] (fun _=>0)
  ⟨rfl,leavers_one P _,past_nil.mono (Nat.zero_le _),i,fun _ x=>x.elim,fun _ x=>x.elim⟩
 have hg:Goes P true AtRel (fun _ _ _=>False) (AtEnd P l w'.heap.size a) 0 (G fr []) w':=by
  refine Goes.stop fun B ⟨d,hd⟩=>?_
  subst hd
  refine ⟨rfl,v,seen P fr.fn #[],?_,fun e he=>?_,j v F' _ s ⟨hu.os,hu.tape,hu.output,hu.size,hu.frame,hu.ro,hu.own⟩⟩
  .have u:fr.tmps[t]?.getD undef=v:=by rw[<-r,Array.getD_eq_getD_getElem?]
   simp[G,stepG,unwind,m,n,p,results,q,u,doReturn,GStep.after,Sem.runT,hk,hi]
  .exact absurd (mem_seen he) av
 obtain ⟨w,last,o,w2,t2,e1,e2,y,z⟩:=beside_ends (sl:=k) (fun _ _ _ x=>x.elim) c.g0 c.lv c.gw hg
 refine ⟨N+w,last,o,w2,t2,?_,?_,y,z⟩
 .rw[solo_eq_crowd,Nat.add_assoc,kg g,e1]
 .rw[solo_eq_crowd,runN_add]
  have:=runNT_fst P N (crowd #[G (Frame.enter P f args .normal) []] W none) #[]
  rw[g] at this
  rw[<-this]
  exact e2
end Go.Sep
end
section
namespace Go.Proofs.YtbpddfapodiemaaGreatDoor
open Go Go.Sep Go.Proofs
set_option maxRecDepth 100000
theorem mixed:Tryz.prog.follows .mixedOrders=true:=aj
@[go_sem] theorem NJ:cU Tryz.prog 3=some false:=aj
@[go_sem] theorem e8:cv Tryz.prog 3=some 1:=aj
theorem e9:bytesOf Tryz.prog 3=some 8:=aj
@[go_sem] theorem fc:zeroOf Tryz.prog 3=some (.int .i64 0):=aj
@[go_sem] theorem NK:cU Tryz.prog 4=some false:=aj
@[go_sem] theorem A7:cv Tryz.prog 4=some 1:=aj
@[go_sem] theorem Gm:zeroOf Tryz.prog 4=some (.bool false):=aj
@[go_sem] theorem NL:wo Tryz.prog 4=true:=aj
@[go_sem] theorem NM:cU Tryz.prog 23=some true:=aj
@[go_sem] theorem Gn:cv Tryz.prog 23=some 2:=aj
theorem Gq:bytesOf Tryz.prog 23=some 16:=aj
@[go_sem] theorem wP:zeroOf Tryz.prog 23=some (.agg #[.int .i64 0,.int .i64 0]):=aj
@[go_sem] theorem NN:oE Tryz.prog 23=some [true,true]:=aj
@[go_sem] theorem NO:di Tryz.prog 23 0=some 0:=aj
@[go_sem] theorem NP:di Tryz.prog 23 1=some 1:=aj
@[go_sem] theorem NQ:placesOf Tryz.prog 23=some [(0,1),(1,1)]:=aj
@[go_sem] theorem NR:cU Tryz.prog 24=some false:=aj
@[go_sem] theorem NS:cv Tryz.prog 24=some 1:=aj
@[go_sem] theorem NT:kY Tryz.prog 24=true:=aj
@[go_sem] theorem A8:dF Tryz.prog 24=some 125:=aj
@[go_sem] theorem NU:cU Tryz.prog 25=some false:=aj
@[go_sem] theorem NV:cv Tryz.prog 25=some 1:=aj
@[go_sem] theorem NW:kY Tryz.prog 25=true:=aj
@[go_sem] theorem lY:dF Tryz.prog 25=some 159:=aj
@[go_sem] theorem NX:cU Tryz.prog 26=some false:=aj
@[go_sem] theorem NY:cv Tryz.prog 26=some 1:=aj
@[go_sem] theorem NZ:kY Tryz.prog 26=true:=aj
@[go_sem] theorem A9:dF Tryz.prog 26=some 66:=aj
@[go_sem] theorem N0:cU Tryz.prog 27=some false:=aj
@[go_sem] theorem N1:cv Tryz.prog 27=some 1:=aj
@[go_sem] theorem N2:kY Tryz.prog 27=true:=aj
@[go_sem] theorem eZ:dF Tryz.prog 27=some 86:=aj
@[go_sem] theorem N3:cU Tryz.prog 29=some true:=aj
@[go_sem] theorem N4:cv Tryz.prog 29=some 8:=aj
@[go_sem] theorem N5:zeroOf Tryz.prog 29=some (.agg #[.int .i64 0,.int .i64 0,.int .i64 0,.int .i64 0,.slice none 0 0,.slice none 0 0,.slice none 0 0,.slice none 0 0]):=aj
@[go_sem] theorem N6:di Tryz.prog 29 0=some 0:=aj
@[go_sem] theorem N7:di Tryz.prog 29 1=some 1:=aj
@[go_sem] theorem N8:di Tryz.prog 29 2=some 2:=aj
@[go_sem] theorem N9:di Tryz.prog 29 3=some 4:=aj
@[go_sem] theorem Oa:di Tryz.prog 29 4=some 5:=aj
@[go_sem] theorem Ob:di Tryz.prog 29 5=some 6:=aj
@[go_sem] theorem Oc:di Tryz.prog 29 6=some 7:=aj
@[go_sem] theorem Od:placesOf Tryz.prog 29=some [(0,1),(1,1),(2,2),(4,1),(5,1),(6,1),(7,1)]:=aj
@[go_sem] theorem Oe:cU Tryz.prog 35=some false:=aj
@[go_sem] theorem lZ:cv Tryz.prog 35=some 1:=aj
theorem l5:bytesOf Tryz.prog 35=some 24:=aj
@[go_sem] theorem l6:zeroOf Tryz.prog 35=some (.slice none 0 0):=aj
@[go_sem] theorem Of:kY Tryz.prog 35=true:=aj
@[go_sem] theorem cZ:dF Tryz.prog 35=some 3:=aj
@[go_sem] theorem Og:cU Tryz.prog 61=some true:=aj
@[go_sem] theorem Gs:cv Tryz.prog 61=some 2:=aj
theorem Gt:bytesOf Tryz.prog 61=some 16:=aj
@[go_sem] theorem Gu:zeroOf Tryz.prog 61=some (.agg #[.int .i64 0,.int .i64 0]):=aj
@[go_sem] theorem Oh:di Tryz.prog 61 0=some 0:=aj
@[go_sem] theorem Oi:di Tryz.prog 61 1=some 1:=aj
@[go_sem] theorem Oj:placesOf Tryz.prog 61=some [(0,1),(1,1)]:=aj
@[go_sem] theorem Ok:cU Tryz.prog 64=some true:=aj
@[go_sem] theorem Ol:cv Tryz.prog 64=some 2:=aj
@[go_sem] theorem Om:zeroOf Tryz.prog 64=some (.agg #[.int .i64 0,.int .i64 0]):=aj
@[go_sem] theorem On:di Tryz.prog 64 0=some 0:=aj
@[go_sem] theorem Oo:di Tryz.prog 64 1=some 1:=aj
@[go_sem] theorem Oq:placesOf Tryz.prog 64=some [(0,1),(1,1)]:=aj
@[go_sem] theorem Ot:cU Tryz.prog 66=some true:=aj
@[go_sem] theorem Gv:cv Tryz.prog 66=some 3:=aj
theorem Gw:bytesOf Tryz.prog 66=some 24:=aj
@[go_sem] theorem Gx:zeroOf Tryz.prog 66=some (.agg #[.int .i64 0,.int .i64 0,.int .i64 0]):=aj
@[go_sem] theorem Ou:di Tryz.prog 66 0=some 0:=aj
@[go_sem] theorem Ov:di Tryz.prog 66 1=some 1:=aj
@[go_sem] theorem Ow:placesOf Tryz.prog 66=some [(0,1),(1,2)]:=aj
@[go_sem] theorem Ox:cU Tryz.prog 86=some true:=aj
@[go_sem] theorem jd:cv Tryz.prog 86=some 2:=aj
theorem je:bytesOf Tryz.prog 86=some 16:=aj
@[go_sem] theorem jf:zeroOf Tryz.prog 86=some (.agg #[.int .i64 0,.bool false]):=aj
@[go_sem] theorem Oy:di Tryz.prog 86 0=some 0:=aj
@[go_sem] theorem Oz:di Tryz.prog 86 1=some 1:=aj
@[go_sem] theorem OA:placesOf Tryz.prog 86=some [(0,1),(1,1)]:=aj
@[go_sem] theorem OB:cU Tryz.prog 92=some true:=aj
@[go_sem] theorem OC:cv Tryz.prog 92=some 8:=aj
@[go_sem] theorem OD:zeroOf Tryz.prog 92=some (.agg #[.int .i64 0,.int .i64 0,.int .i64 0,.int .i64 0,.slice none 0 0,.slice none 0 0,.slice none 0 0,.slice none 0 0]):=aj
@[go_sem] theorem OE:di Tryz.prog 92 0=some 0:=aj
@[go_sem] theorem OF:placesOf Tryz.prog 92=some [(0,8)]:=aj
@[go_sem] theorem OG:cU Tryz.prog 93=some false:=aj
@[go_sem] theorem OH:cv Tryz.prog 93=some 1:=aj
@[go_sem] theorem Ba:dF Tryz.prog 93=some 133:=aj
@[go_sem] theorem OI:cU Tryz.prog 95=some true:=aj
@[go_sem] theorem OJ:cv Tryz.prog 95=some 9:=aj
@[go_sem] theorem OK:zeroOf Tryz.prog 95=some (.agg #[.int .i64 0,.int .i64 0,.int .i64 0,.int .i64 0,.slice none 0 0,.slice none 0 0,.slice none 0 0,.slice none 0 0,.slice none 0 0]):=aj
@[go_sem] theorem OL:di Tryz.prog 95 0=some 0:=aj
@[go_sem] theorem OM:di Tryz.prog 95 1=some 8:=aj
@[go_sem] theorem ON:placesOf Tryz.prog 95=some [(0,8),(8,1)]:=aj
@[go_sem] theorem oJ:dF Tryz.prog 98=some 105:=aj
@[go_sem] theorem OO:cU Tryz.prog 99=some false:=aj
@[go_sem] theorem OP:cv Tryz.prog 99=some 1:=aj
@[go_sem] theorem OQ:zeroOf Tryz.prog 99=some (.slice none 0 0):=aj
@[go_sem] theorem Bb:dF Tryz.prog 99=some 101:=aj
@[go_sem] theorem OR:cU Tryz.prog 101=some true:=aj
@[go_sem] theorem Gy:cv Tryz.prog 101=some 2:=aj
theorem Gz:bytesOf Tryz.prog 101=some 16:=aj
@[go_sem] theorem GA:zeroOf Tryz.prog 101=some (.agg #[.int .i64 0,.int .i64 0]):=aj
@[go_sem] theorem OS:oE Tryz.prog 101=some [true,true]:=aj
@[go_sem] theorem OT:di Tryz.prog 101 0=some 0:=aj
@[go_sem] theorem OU:di Tryz.prog 101 1=some 1:=aj
@[go_sem] theorem OV:placesOf Tryz.prog 101=some [(0,1),(1,1)]:=aj
@[go_sem] theorem OW:cU Tryz.prog 103=some true:=aj
@[go_sem] theorem OX:cv Tryz.prog 103=some 3:=aj
@[go_sem] theorem OY:zeroOf Tryz.prog 103=some (.agg #[.int .i64 0,.int .i64 0,.int .i64 0]):=aj
@[go_sem] theorem OZ:oE Tryz.prog 103=some [true,true,true]:=aj
@[go_sem] theorem O0:di Tryz.prog 103 0=some 0:=aj
@[go_sem] theorem O1:di Tryz.prog 103 1=some 1:=aj
@[go_sem] theorem O2:placesOf Tryz.prog 103=some [(0,1),(1,2)]:=aj
@[go_sem] theorem O3:cU Tryz.prog 105=some true:=aj
@[go_sem] theorem wQ:cv Tryz.prog 105=some 6:=aj
theorem wR:bytesOf Tryz.prog 105=some 48:=aj
@[go_sem] theorem wS:zeroOf Tryz.prog 105=some (.agg #[.int .i64 0,.int .i64 0,.int .i64 0,.int .i64 0,.int .i64 0,.int .i64 0]):=aj
@[go_sem] theorem O4:di Tryz.prog 105 0=some 0:=aj
@[go_sem] theorem O5:di Tryz.prog 105 1=some 3:=aj
@[go_sem] theorem O6:di Tryz.prog 105 2=some 4:=aj
@[go_sem] theorem O7:v7 Tryz.prog 105 2=some (4,2,true):=aj
@[go_sem] theorem O8:placesOf Tryz.prog 105=some [(0,3),(3,1),(4,2)]:=aj
@[go_sem] theorem gJ:dF Tryz.prog 110=some 35:=aj
@[go_sem] theorem O9:cU Tryz.prog 116=some false:=aj
@[go_sem] theorem Pa:cv Tryz.prog 116=some 1:=aj
@[go_sem] theorem Pb:zeroOf Tryz.prog 116=some .nilFunc:=aj
@[go_sem] theorem Bc:dF Tryz.prog 122=some 61:=aj
@[go_sem] theorem Pd:cU Tryz.prog 125=some true:=aj
@[go_sem] theorem GB:cv Tryz.prog 125=some 2:=aj
theorem GC:bytesOf Tryz.prog 125=some 16:=aj
@[go_sem] theorem wT:zeroOf Tryz.prog 125=some (.agg #[.int .i64 0,.int .i64 0]):=aj
@[go_sem] theorem Pe:di Tryz.prog 125 0=some 0:=aj
@[go_sem] theorem Pf:di Tryz.prog 125 1=some 1:=aj
@[go_sem] theorem Pg:placesOf Tryz.prog 125=some [(0,1),(1,1)]:=aj
@[go_sem] theorem Pj:cU Tryz.prog 131=some false:=aj
@[go_sem] theorem Pk:cv Tryz.prog 131=some 1:=aj
@[go_sem] theorem Pm:zeroOf Tryz.prog 131=some .nilFunc:=aj
@[go_sem] theorem Pn:cU Tryz.prog 133=some true:=aj
@[go_sem] theorem GD:cv Tryz.prog 133=some 3:=aj
theorem GF:bytesOf Tryz.prog 133=some 24:=aj
@[go_sem] theorem GG:zeroOf Tryz.prog 133=some (.agg #[.int .i64 0,.int .i64 0,.int .i64 0]):=aj
@[go_sem] theorem Po:lS Tryz.prog 133=some (3,3):=aj
@[go_sem] theorem Pp:cU Tryz.prog 137=some false:=aj
@[go_sem] theorem Pq:cv Tryz.prog 137=some 1:=aj
@[go_sem] theorem Pt:zeroOf Tryz.prog 137=some (.map none):=aj
@[go_sem] theorem Be:dF Tryz.prog 143=some 23:=aj
@[go_sem] theorem Pu:cU Tryz.prog 150=some false:=aj
@[go_sem] theorem Pv:cU Tryz.prog 159=some true:=aj
@[go_sem] theorem tf:cv Tryz.prog 159=some 2:=aj
theorem tg:bytesOf Tryz.prog 159=some 16:=aj
@[go_sem] theorem th:zeroOf Tryz.prog 159=some (.agg #[.int .i64 0,.int .i64 0]):=aj
@[go_sem] theorem Pw:di Tryz.prog 159 0=some 0:=aj
@[go_sem] theorem Px:di Tryz.prog 159 1=some 1:=aj
@[go_sem] theorem Py:placesOf Tryz.prog 159=some [(0,1),(1,1)]:=aj
@[go_sem] theorem Pz:dF Tryz.prog 166=some 116:=aj
@[go_sem] theorem PA:cU Tryz.prog 172=some false:=aj
@[go_sem] theorem PB:cv Tryz.prog 172=some 1:=aj
@[go_sem] theorem PC:zeroOf Tryz.prog 172=some (.slice none 0 0):=aj
@[go_sem] theorem PD:dF Tryz.prog 172=some 4:=aj
@[go_sem] theorem PE:di Tryz.prog 177 0=some 0:=aj
@[go_sem] theorem PF:di Tryz.prog 177 1=some 1:=aj
@[go_sem] theorem PG:zeroOf Tryz.prog 179=some (.agg #[.int .i32 0,.int .u32 0]):=aj
@[go_sem] theorem PJ:di Tryz.prog 179 1=some 0:=aj
@[go_sem] theorem PK:di Tryz.prog 184 2=some 0:=aj
@[go_sem] theorem PL:zeroOf Tryz.prog 186=some (.agg #[.int .u64 0,.int .u32 0]):=aj
@[go_sem] theorem PM:di Tryz.prog 186 1=some 0:=aj
@[go_sem] theorem PN:di Tryz.prog 186 2=some 1:=aj
@[go_sem] theorem PO:cU Tryz.prog 196=some true:=aj
@[go_sem] theorem PR:cv Tryz.prog 196=some 5:=aj
@[go_sem] theorem PS:lS Tryz.prog 196=some (5,116):=aj
@[go_sem] theorem PU:cU Tryz.prog 250=some false:=aj
@[go_sem] theorem PV:cv Tryz.prog 250=some 1:=aj
@[go_sem] theorem PW:zeroOf Tryz.prog 250=some (.int .u64 0):=aj
@[go_sem] theorem PX:aR Tryz.prog 2=true:=aj
@[go_sem] theorem PY:aR Tryz.prog 3=true:=aj
@[go_sem] theorem PZ:aR Tryz.prog 4=true:=aj
@[go_sem] theorem P1:aR Tryz.prog 5=true:=aj
@[go_sem] theorem P2:aR Tryz.prog 6=true:=aj
@[go_sem] theorem P3:aR Tryz.prog 7=true:=aj
@[go_sem] theorem P4:aR Tryz.prog 8=true:=aj
@[go_sem] theorem P5:aR Tryz.prog 9=true:=aj
@[go_sem] theorem P6:aR Tryz.prog 10=true:=aj
@[go_sem] theorem P7:aR Tryz.prog 11=true:=aj
@[go_sem] theorem P8:aR Tryz.prog 12=true:=aj
@[go_sem] theorem P9:aR Tryz.prog 13=true:=aj
@[go_sem] theorem Qa:aR Tryz.prog 14=true:=aj
@[go_sem] theorem Qb:aR Tryz.prog 15=true:=aj
@[go_sem] theorem Qc:aR Tryz.prog 16=true:=aj
@[go_sem] theorem Qd:aR Tryz.prog 17=true:=aj
@[go_sem] theorem Qe:aR Tryz.prog 18=true:=aj
@[go_sem] theorem Qf:aR Tryz.prog 19=true:=aj
@[go_sem] theorem Qg:aR Tryz.prog 20=true:=aj
@[go_sem] theorem Qh:aR Tryz.prog 21=true:=aj
@[go_sem] theorem Qi:aR Tryz.prog 22=true:=aj
@[go_sem] theorem Qj:aR Tryz.prog 23=true:=aj
@[go_sem] theorem Qk:aR Tryz.prog 24=true:=aj
@[go_sem] theorem Ql:aR Tryz.prog 25=true:=aj
@[go_sem] theorem Qm:aR Tryz.prog 26=true:=aj
@[go_sem] theorem Qo:aR Tryz.prog 27=true:=aj
@[go_sem] theorem Qp:aR Tryz.prog 28=true:=aj
@[go_sem] theorem Qq:aR Tryz.prog 29=true:=aj
@[go_sem] theorem Qr:aR Tryz.prog 30=true:=aj
@[go_sem] theorem Qs:aR Tryz.prog 31=true:=aj
@[go_sem] theorem Qt:aR Tryz.prog 32=true:=aj
@[go_sem] theorem Qu:aR Tryz.prog 33=true:=aj
@[go_sem] theorem Qv:aR Tryz.prog 34=true:=aj
@[go_sem] theorem Qw:aR Tryz.prog 35=true:=aj
@[go_sem] theorem Qx:aR Tryz.prog 36=true:=aj
@[go_sem] theorem Qy:aR Tryz.prog 37=true:=aj
@[go_sem] theorem Qz:aR Tryz.prog 38=true:=aj
@[go_sem] theorem QA:aR Tryz.prog 39=true:=aj
@[go_sem] theorem QB:aR Tryz.prog 40=true:=aj
@[go_sem] theorem QC:aR Tryz.prog 41=true:=aj
@[go_sem] theorem QD:aR Tryz.prog 42=true:=aj
@[go_sem] theorem QE:aR Tryz.prog 43=true:=aj
@[go_sem] theorem QF:aR Tryz.prog 44=true:=aj
@[go_sem] theorem QG:aR Tryz.prog 45=true:=aj
@[go_sem] theorem QH:aR Tryz.prog 46=true:=aj
@[go_sem] theorem QI:aR Tryz.prog 47=true:=aj
@[go_sem] theorem QJ:aR Tryz.prog 48=true:=aj
@[go_sem] theorem QK:aR Tryz.prog 49=true:=aj
@[go_sem] theorem QL:aR Tryz.prog 50=true:=aj
@[go_sem] theorem QM:aR Tryz.prog 51=true:=aj
@[go_sem] theorem QN:aR Tryz.prog 52=true:=aj
@[go_sem] theorem QO:aR Tryz.prog 53=true:=aj
@[go_sem] theorem QS:aR Tryz.prog 54=true:=aj
@[go_sem] theorem QT:aR Tryz.prog 55=true:=aj
@[go_sem] theorem QU:aR Tryz.prog 56=true:=aj
@[go_sem] theorem QV:aR Tryz.prog 57=true:=aj
@[go_sem] theorem QW:aR Tryz.prog 58=true:=aj
@[go_sem] theorem QX:aR Tryz.prog 59=true:=aj
@[go_sem] theorem QY:aR Tryz.prog 60=true:=aj
@[go_sem] theorem QZ:aR Tryz.prog 61=true:=aj
@[go_sem] theorem Q0:aR Tryz.prog 62=true:=aj
@[go_sem] theorem Q1:aR Tryz.prog 63=true:=aj
@[go_sem] theorem Q2:aR Tryz.prog 64=true:=aj
@[go_sem] theorem Q3:aR Tryz.prog 65=true:=aj
@[go_sem] theorem Q4:aR Tryz.prog 66=true:=aj
@[go_sem] theorem Q5:aR Tryz.prog 67=true:=aj
@[go_sem] theorem Q6:aR Tryz.prog 68=true:=aj
@[go_sem] theorem Q7:aR Tryz.prog 69=true:=aj
@[go_sem] theorem Q8:aR Tryz.prog 70=true:=aj
@[go_sem] theorem Q9:aR Tryz.prog 71=true:=aj
@[go_sem] theorem Ra:aR Tryz.prog 72=true:=aj
@[go_sem] theorem Rb:aR Tryz.prog 73=true:=aj
@[go_sem] theorem Rc:aR Tryz.prog 74=true:=aj
@[go_sem] theorem Re:aR Tryz.prog 75=true:=aj
@[go_sem] theorem Rf:aR Tryz.prog 76=true:=aj
@[go_sem] theorem Rg:aR Tryz.prog 77=true:=aj
@[go_sem] theorem Rh:aR Tryz.prog 78=true:=aj
@[go_sem] theorem Ri:aR Tryz.prog 79=true:=aj
@[go_sem] theorem Rj:aR Tryz.prog 80=true:=aj
@[go_sem] theorem Rl:aR Tryz.prog 81=true:=aj
@[go_sem] theorem Rm:aR Tryz.prog 82=true:=aj
@[go_sem] theorem Rn:aR Tryz.prog 83=true:=aj
@[go_sem] theorem Ro:aR Tryz.prog 84=true:=aj
@[go_sem] theorem Rp:aR Tryz.prog 85=true:=aj
@[go_sem] theorem Rq:aR Tryz.prog 86=true:=aj
@[go_sem] theorem Rr:aR Tryz.prog 87=true:=aj
@[go_sem] theorem Rs:aR Tryz.prog 88=true:=aj
@[go_sem] theorem Rt:aR Tryz.prog 89=true:=aj
@[go_sem] theorem Ru:aR Tryz.prog 90=true:=aj
@[go_sem] theorem Rv:aR Tryz.prog 91=true:=aj
@[go_sem] theorem Rw:aR Tryz.prog 92=true:=aj
@[go_sem] theorem Rx:aR Tryz.prog 93=true:=aj
@[go_sem] theorem Ry:aR Tryz.prog 94=true:=aj
@[go_sem] theorem Rz:aR Tryz.prog 95=true:=aj
@[go_sem] theorem RA:aR Tryz.prog 96=true:=aj
@[go_sem] theorem RB:aR Tryz.prog 97=true:=aj
@[go_sem] theorem RD:aR Tryz.prog 98=true:=aj
@[go_sem] theorem RE:aR Tryz.prog 99=true:=aj
@[go_sem] theorem RF:aR Tryz.prog 100=true:=aj
@[go_sem] theorem RG:aR Tryz.prog 101=true:=aj
@[go_sem] theorem RH:aR Tryz.prog 102=true:=aj
@[go_sem] theorem RI:aR Tryz.prog 103=true:=aj
@[go_sem] theorem RJ:aR Tryz.prog 104=true:=aj
@[go_sem] theorem RK:aR Tryz.prog 105=true:=aj
@[go_sem] theorem RL:aR Tryz.prog 106=true:=aj
@[go_sem] theorem RN:aR Tryz.prog 107=true:=aj
@[go_sem] theorem RO:aR Tryz.prog 108=true:=aj
@[go_sem] theorem RP:aR Tryz.prog 109=true:=aj
@[go_sem] theorem RQ:aR Tryz.prog 110=true:=aj
@[go_sem] theorem RR:aR Tryz.prog 111=true:=aj
@[go_sem] theorem RS:aR Tryz.prog 112=true:=aj
@[go_sem] theorem RU:aR Tryz.prog 113=true:=aj
@[go_sem] theorem RV:aR Tryz.prog 114=true:=aj
@[go_sem] theorem RX:aR Tryz.prog 115=true:=aj
@[go_sem] theorem RY:aR Tryz.prog 116=true:=aj
@[go_sem] theorem RZ:aR Tryz.prog 117=true:=aj
@[go_sem] theorem R1:aR Tryz.prog 118=true:=aj
@[go_sem] theorem R2:aR Tryz.prog 119=true:=aj
@[go_sem] theorem R3:aR Tryz.prog 120=true:=aj
@[go_sem] theorem R4:aR Tryz.prog 121=true:=aj
@[go_sem] theorem R5:aR Tryz.prog 122=true:=aj
@[go_sem] theorem R6:aR Tryz.prog 123=true:=aj
@[go_sem] theorem R7:aR Tryz.prog 124=true:=aj
@[go_sem] theorem R8:aR Tryz.prog 125=true:=aj
@[go_sem] theorem Bf:aR Tryz.prog 126=true:=aj
@[go_sem] theorem R9:aR Tryz.prog 127=true:=aj
@[go_sem] theorem Sa:aR Tryz.prog 128=true:=aj
@[go_sem] theorem Sb:aR Tryz.prog 129=true:=aj
@[go_sem] theorem Sd:aR Tryz.prog 130=true:=aj
@[go_sem] theorem GH:aR Tryz.prog 131=true:=aj
@[go_sem] theorem GI:aR Tryz.prog 132=true:=aj
@[go_sem] theorem GJ:aR Tryz.prog 133=true:=aj
@[go_sem] theorem Se:aR Tryz.prog 134=true:=aj
@[go_sem] theorem Sf:aR Tryz.prog 135=true:=aj
@[go_sem] theorem Si:aR Tryz.prog 136=true:=aj
@[go_sem] theorem Sj:aR Tryz.prog 137=true:=aj
@[go_sem] theorem Sk:aR Tryz.prog 138=true:=aj
@[go_sem] theorem Sl:aR Tryz.prog 139=true:=aj
@[go_sem] theorem Sn:aR Tryz.prog 140=true:=aj
@[go_sem] theorem So:aR Tryz.prog 141=true:=aj
@[go_sem] theorem Sp:aR Tryz.prog 142=true:=aj
@[go_sem] theorem Sq:aR Tryz.prog 143=true:=aj
@[go_sem] theorem Sr:aR Tryz.prog 144=true:=aj
@[go_sem] theorem Ss:aR Tryz.prog 145=true:=aj
@[go_sem] theorem Su:aR Tryz.prog 146=true:=aj
@[go_sem] theorem Sv:aR Tryz.prog 147=true:=aj
@[go_sem] theorem Sw:aR Tryz.prog 148=true:=aj
@[go_sem] theorem Sx:aR Tryz.prog 149=true:=aj
@[go_sem] theorem Sy:aR Tryz.prog 150=true:=aj
@[go_sem] theorem Sz:aR Tryz.prog 157=true:=aj
@[go_sem] theorem Bg:aR Tryz.prog 158=true:=aj
@[go_sem] theorem wU:aR Tryz.prog 160=true:=aj
@[go_sem] theorem GK:aR Tryz.prog 161=true:=aj
@[go_sem] theorem SA:aR Tryz.prog 164=true:=aj
@[go_sem] theorem GL:aR Tryz.prog 165=true:=aj
@[go_sem] theorem GM:aR Tryz.prog 166=true:=aj
@[go_sem] theorem GN:aR Tryz.prog 169=true:=aj
@[go_sem] theorem SB:aR Tryz.prog 172=true:=aj
@[go_sem] theorem SC:aR Tryz.prog 173=true:=aj
@[go_sem] theorem SD:aR Tryz.prog 174=true:=aj
@[go_sem] theorem SE:aR Tryz.prog 175=true:=aj
@[go_sem] theorem SF:aR Tryz.prog 176=true:=aj
@[go_sem] theorem SG:aR Tryz.prog 177=true:=aj
@[go_sem] theorem SH:aR Tryz.prog 178=true:=aj
@[go_sem] theorem SI:aR Tryz.prog 179=true:=aj
@[go_sem] theorem SJ:aR Tryz.prog 184=true:=aj
@[go_sem] theorem GO:aR Tryz.prog 186=true:=aj
@[go_sem] theorem GP:aR Tryz.prog 188=true:=aj
@[go_sem] theorem SK:aR Tryz.prog 190=true:=aj
@[go_sem] theorem SL:aR Tryz.prog 191=true:=aj
@[go_sem] theorem SM:aR Tryz.prog 192=true:=aj
@[go_sem] theorem SN:aR Tryz.prog 193=true:=aj
@[go_sem] theorem SO:aR Tryz.prog 194=true:=aj
@[go_sem] theorem SP:aR Tryz.prog 195=true:=aj
@[go_sem] theorem SQ:aR Tryz.prog 196=true:=aj
@[go_sem] theorem SS:aR Tryz.prog 197=true:=aj
@[go_sem] theorem SU:aR Tryz.prog 198=true:=aj
@[go_sem] theorem SV:aR Tryz.prog 199=true:=aj
@[go_sem] theorem SW:aR Tryz.prog 200=true:=aj
@[go_sem] theorem SX:aR Tryz.prog 201=true:=aj
@[go_sem] theorem SY:aR Tryz.prog 209=true:=aj
@[go_sem] theorem SZ:aR Tryz.prog 210=true:=aj
@[go_sem] theorem S0:aR Tryz.prog 211=true:=aj
@[go_sem] theorem S1:aR Tryz.prog 212=true:=aj
@[go_sem] theorem S2:aR Tryz.prog 213=true:=aj
@[go_sem] theorem S3:aR Tryz.prog 214=true:=aj
@[go_sem] theorem S4:aR Tryz.prog 231=true:=aj
@[go_sem] theorem S5:aR Tryz.prog 232=true:=aj
@[go_sem] theorem S6:aR Tryz.prog 233=true:=aj
@[go_sem] theorem S7:aR Tryz.prog 234=true:=aj
@[go_sem] theorem S8:aR Tryz.prog 235=true:=aj
@[go_sem] theorem S9:aR Tryz.prog 239=true:=aj
end Go.Proofs.YtbpddfapodiemaaGreatDoor
end
section
namespace Go.Sep
open Go Go.Conc
def k5 (o:Oper):Option (TypeId×Nat):=match o.op,o.dst,o.guard with
 | .alloc t,some d,none=>some (t,d)
 |_,_,_=>none
def Bh (ops:Array Oper)(m:Nat):Bool:=
 oI ops (m+1)&&decide (m+2<=ops.size)&&
 (match (ops[m]?).bind k5,(ops[m+1]?).bind k5 with|some (_,d),some (_,a)=>!(d==a)|_,_=>false)&&
 decide (Region.ready .any ops (dy ops.size m)=[m,m+1])&&decide (Region.ready .any ops ((dy ops.size m).setIfInBounds (m+1) true)=[m])
theorem Bi {ro:Addr->Option Value}{x y:Nat×Obj}{l:List (Nat×Obj)}:Le ⟨ro,x::y::l⟩ ⟨ro,y::x::l⟩:=by
 have hk:∀b,b∈keys (x::y::l)↔b∈keys (y::x::l):=fun b=>by
  simp only[keys,List.map_cons,List.mem_cons];exact ⟨fun h=>by rcases h with h|h|h;exact .inr (.inl h);exact .inl h;exact .inr (.inr h),fun h=>by rcases h with h|h|h;exact .inr (.inl h);exact .inl h;exact .inr (.inr h)⟩
 refine ⟨fun w hw=>⟨hw.ro,fun b o hb=>hw.own b o ?_,?_,fun a v h hm=>hw.apart a v h ((hk _).1 hm)⟩,fun b hb=>(hk b).1 hb,fun a c=>.inl c⟩
 .rcases List.mem_cons.1 hb with h|h
  .exact List.mem_cons_of_mem _ (h▸List.mem_cons_self)
  .rcases List.mem_cons.1 h with h|h
   .exact h▸List.mem_cons_self
   .exact List.mem_cons_of_mem _ (List.mem_cons_of_mem _ h)
 .have:=hw.nodup;simp only[keys,List.map_cons,List.nodup_cons,List.mem_cons,not_or] at this ⊢;exact ⟨⟨fun e=>this.1.1 e.symm,this.2.1⟩,this.1.2,this.2.2⟩
section
variable {P:Program}{main:Bool}{J:Goroutine->af->Prop}{ops:Array Oper}{Q:Act->af->Prop}{F0:af}
theorem Bj {o:Oper}{t:TypeId}{d:Nat}(h:k5 o=some (t,d)):o.op= .alloc t/\o.dst=some d/\o.guard=none:=by
 unfold k5 at h;split at h
 .rename_i a b c;cases h;exact ⟨a,b,c⟩
 .cases h
theorem qY {o:Oper}{a:Act}(h:o.guard=none):cV ops o a=some true:=by unfold cV;rw[h]
theorem wV {o:Oper}{t:TypeId}{a:Act}{F:af}{z:Value}{R:Value->af->Prop}{D:Deferred->af->Prop}(d:o.op= .alloc t)(e:zeroOf P t=some z)
  (h:∀b,eD F b->∃c,Le c (F.push b (.cells z.cells t))/\R (.pointer (some ⟨b,0,none⟩)) c):bx P (execOp a.eval o) (kU P J R D) F:=by
 have:Oper.oF o=false:=by unfold Oper.oF;rw[d]
 refine AP (R:=fun v F=>∃c,Le c F/\R v c) this ?_
 unfold dc
 rw[d]
 simp only[e]
 exact h
theorem GQ (m:Nat){o1 o2:Oper}{rest:List Oper}{t1 t2 d1 d2:Nat}(hm:m+2<=ops.size)(w:ops[m]?=some o1)(y:ops[m+1]?=some o2)(L:k5 o1=some (t1,d1))(M:k5 o2=some (t2,d2)){q:Value}(A:zeroOf P t2=some q)(hd:¬d1=d2)
  (B:ops.toList.drop (m+2)=rest) (C:Region.ready .any ops (dy ops.size m)=[m,m+1]) (D:Region.ready .any ops ((dy ops.size m).setIfInBounds (m+1) true)=[m])
  (E:∀j,j<ops.size - (m+1)->Region.ready .any ops (dy ops.size (m+1+j))=[m+1+j]) (G:Region.ready .any ops (dy ops.size ops.size)=[])
  {a:Act} {F:af} (r:Knows F0 F) (h:fB P J ops F0 Q (o1::o2::rest) true a F):eu P J ops Q (Knows F0) (ops.size - m) (dy ops.size m) a F:=by
 obtain ⟨e1,s,t⟩:=Bj L
 obtain ⟨e2,H,I⟩:=Bj M
 have N:ops.size - m=(ops.size - (m+1))+1:=aa
 have O:ops.size - (m+1)=(ops.size - (m+2))+1:=aa
 unfold fB at h
 rw[qY t] at h
 simp only at h
 have k:∃z,zeroOf P t1=some z:=by
  unfold dc at h
  rw[e1] at h
  simp only at h
  split at h
  .rename_i z R;exact ⟨z,R⟩
  .exact h.elim
 obtain ⟨g,k⟩:=k
 have u:∀b,eD F b->Knows F0 (F.push b (.cells g.cells t1))/\fB P J ops F0 Q (o2::rest) (!Oper.calls o1) (bB a (some d1) (.pointer (some ⟨b,0,none⟩))) (F.push b (.cells g.cells t1)):=by
  unfold dc at h
  rw[e1] at h
  simp only[k,s] at h
  exact h
 have S:∀b,eD F b->∀f,eD (F.push b (.cells g.cells t1)) f->Knows F0 ((F.push b (.cells g.cells t1)).push f (.cells q.cells t2))/\
   fB P J ops F0 Q rest (!Oper.calls o2) (bB (bB a (some d1) (.pointer (some ⟨b,0,none⟩))) (some d2) (.pointer (some ⟨f,0,none⟩))) ((F.push b (.cells g.cells t1)).push f (.cells q.cells t2)):=by
  intro b hb
  have:=(u b hb).2
  unfold fB at this
  rw[qY I] at this
  simp only at this
  unfold dc at this
  rw[e2] at this
  simp only[A,H] at this
  exact this
 have K:=s9 (n:=ops.size) (m:=m) aa
 have T:=s9 (n:=ops.size) (m:=m+1) aa
 rw[N]
 refine ⟨fun p=>(by rw[C] at p;cases p),fun i hi=>?_⟩
 rw[C] at hi
 simp only[List.mem_cons,List.not_mem_nil,or_false] at hi
 rcases hi with hi|hi
 .subst hi
  unfold ek
  simp only[w]
  rw[if_pos (cD (qY t))]
  refine wV e1 k fun b hb=>⟨_,Le.refl _,(u b hb).1,?_⟩
  rw[K,s]
  exact m3 (i+1) E G (o2::rest) (i+1) _ _ _ (Nat.le_refl _) aa (by
   have:=List.drop_eq_getElem_cons (l:=ops.toList) (i:=i+1) (by simp;omega)
   rw[this,B]
   obtain ⟨_,he⟩:=Array.getElem?_eq_some_iff.1 y
   simp[he]) (u b hb).2
 .subst hi
  unfold ek
  simp only[y]
  rw[if_pos (cD (qY I))]
  refine wV e2 A fun f v=>⟨_,Le.refl _,?_,?_⟩
  .refine ⟨r.1,r.2.1,?_⟩
   have hl:∀(l own:List (Nat×Obj)),ax own f->jF l own->jF l ((f,.cells q.cells t2)::own):=fun l own U hk=>by
    induction l with
    |nil=>trivial
    |cons x l ih=>
     obtain ⟨c,o⟩:=x
     refine ⟨?_,ih hk.2⟩
     have V:¬f=c:=fun e=>lX U (e▸fJ (iF hk.1))
     simp only[lk,if_neg V]
     exact hk.1
   exact hl _ _ v.own r.2.2
  .rw[O]
   refine ⟨fun p=>(by rw[D] at p;cases p),fun i hi=>?_⟩
   rw[D] at hi
   simp only[List.mem_cons,List.not_mem_nil,or_false] at hi
   subst hi
   unfold ek
   simp only[w]
   rw[if_pos (cD (qY t))]
   refine wV e1 k fun b hb=>?_
   have W:eD F b:=⟨hb.ro,hb.own.2⟩
   have aO:¬f=b:=fun e=>hb.own.1 e.symm
   have X:eD (F.push b (.cells g.cells t1)) f:=⟨v.ro,⟨aO,v.own⟩⟩
   obtain ⟨Y,Z⟩:=S b W f X
   refine ⟨_,Bi,Y,?_⟩
   have ab:bB (bB a o2.dst (.pointer (some ⟨f,0,none⟩))) o1.dst (.pointer (some ⟨b,0,none⟩))=bB (bB a (some d1) (.pointer (some ⟨b,0,none⟩))) (some d2) (.pointer (some ⟨f,0,none⟩)):=by
    rw[s,H]
    exact Act.put_comm a _ _ (fun d ad=>by cases ad;intro e;cases e;exact hd rfl)
   have hs:((dy ops.size i).setIfInBounds (i+1) true).setIfInBounds i true=dy ops.size (i+2):=by
    rw[Array.setIfInBounds_comm _ _ (by omega:i+1≠i),K,T]
   show eu P J ops Q (Knows F0) (ops.size - (i+2)) _ (bB (bB a o2.dst _) o1.dst _) _
   rw[hs,ab]
   exact m3 (i+1) E G rest (i+2) _ _ _ aa hm B Z
theorem tj {Q:Ex->Act->af->Prop}(hJ:Closed P main J)(o:P.follows .mixedOrders=true)(m:Nat){id:Nat}{a:Act}{F:af}(F0:af)(e:Knows F0 F)(f:Bh ops m=true)(t2:TypeId){p:Value}(g:((ops[m+1]?).bind k5).map (·.1)=some t2)(q:zeroOf P t2=some p)
  (h:eP P J ops F0 (fun j=>fB P J ops F0 (Q .normal) (ops.toList.drop m) true j F) (ops.toList.take m) true a):Wp J (.region id ops true) Q a F:=by
 simp only[Bh,Bool.and_eq_true,decide_eq_true_eq] at f
 obtain ⟨⟨⟨⟨r,hm⟩,b⟩,s⟩,t⟩:=f
 have k:=AX r
 simp only[qP,Bool.and_eq_true,decide_eq_true_eq,List.all_eq_true,List.mem_range] at k
 obtain ⟨⟨⟨⟨u,D⟩,v⟩,w⟩,x⟩:=k
 cases c:(ops[m]?).bind k5 with
 |none=>rw[c] at b;cases b
 |some y=>
  cases d:(ops[m+1]?).bind k5 with
  |none=>rw[c,d] at b;cases b
  |some z=>
   obtain ⟨t1,d1⟩:=y
   obtain ⟨A,d2⟩:=z
   rw[d] at g
   obtain rfl:A=t2:=by simpa using g
   rw[c,d] at b
   obtain ⟨o1,e1,a1⟩:=Option.bind_eq_some_iff.1 c
   obtain ⟨o2,e2,a2⟩:=Option.bind_eq_some_iff.1 d
   have hd:¬d1=d2:=by simpa using b
   have B:ops.toList.drop m=o1::o2::ops.toList.drop (m+2):=by
    obtain ⟨C,c1⟩:=Array.getElem?_eq_some_iff.1 e1
    obtain ⟨b2,c2⟩:=Array.getElem?_eq_some_iff.1 e2
    rw[List.drop_eq_getElem_cons (l:=ops.toList) (i:=m) (by simpa using C),List.drop_eq_getElem_cons (l:=ops.toList) (i:=m+1) (by simpa using b2)]
    simp[c1,c2]
   refine vU hJ (Knows F0) o ?_
   rw[<-AY]
   have:=tc (P:=P) (J:=J) (Q:=Q .normal) m aa u (fun i hi=>by have:=v i aa;simpa using this) e (fun j n=>by
    rw[B] at n
    exact GQ (F0:=F0) m hm e1 e2 a1 a2 q hd rfl s t w x e n) _ 0 true a av (Nat.zero_le _) h
   simpa using this
end
def pick (ops:Array Oper):List Nat->List Oper
 |[]=>[]
 |i::is=>match ops[i]? with
  |some o=>o::pick ops is
  |none=>pick ops is
def wW:List Nat->Array Bool->Array Bool
 |[],L=>L
 |i::is,L=>wW is (L.setIfInBounds i true)
def tn (ops:Array Oper):List Nat->Array Bool->Bool
 |[],_=>true
 |i::is,L=>Region.free .any ops L i&&(Region.ready .any ops L).contains i&&(ops[i]?).isSome&&tn ops is (L.setIfInBounds i true)
def qZ (ops:Array Oper):List Nat->Array Bool->Bool
 |[],L=>decide (Region.ready .any ops L=[])
 |i::is,L=>decide (Region.ready .any ops L=[i])&&(ops[i]?).isSome&&qZ ops is (L.setIfInBounds i true)
def Bl (ops:Array Oper)(is a:List Nat):Bool:=
 Region.noSelect ops&&tn ops is (Array.replicate ops.size false)&&qZ ops a (wW is (Array.replicate ops.size false))&&decide (is.length+a.length=ops.size)
section
variable {P:Program}{main:Bool}{J:Goroutine->af->Prop}{ops:Array Oper}{Q:Act->af->Prop}{F0:af}
theorem Bm {K:Act->Prop}(l:Region.noSelect ops=true){F:af}(b:Knows F0 F)(fuel:Nat):
  ∀(is:List Nat) (L:Array Bool) (go:Bool) (a:Act),tn ops is L=true->eP P J ops F0 K (pick ops is) go a->(∀m,K m->eu P J ops Q (Knows F0) fuel (wW is L) m F)->
   eu P J ops Q (Knows F0) (fuel+is.length) L a F
 |[],L,go,a,_,h,hK=>by unfold pick eP at h;exact hK a h
 |i::is,L,go,a,n,h,hK=>by
  simp only[tn,Bool.and_eq_true] at n
  obtain ⟨⟨⟨c1,c2⟩,c3⟩,c4⟩:=n
  obtain ⟨o,c⟩:=Option.isSome_iff_exists.1 c3
  have g:(Region.noSelect ops&&Region.free .any ops L i&&(Region.ready .any ops L).contains i)=true:=by rw[l,c1,c2];rfl
  have p:pick ops (i::is)=o::pick ops is:=by simp only[pick,c]
  rw[p] at h
  have e:fuel+(i::is).length=(fuel+is.length)+1:=by simp only[List.length_cons];omega
  rw[e]
  have next:∀go v,eP P J ops F0 K (pick ops is) go (bB a o.dst v)->eu P J ops Q (Knows F0) (fuel+is.length) (L.setIfInBounds i true) (bB a o.dst v) F:=fun go v d=>
   Bm l b fuel is _ go _ c4 d hK
  unfold eP at h
  split at h
  .rename_i hg
   exact AS i c g hg b (next true undef h)
  .rename_i hg
   split at h
   .rename_i t x k
    split at h
    case h_2=>exact h.elim
    rename_i ad q
    split at h
    case h_2=>exact h.elim
    rename_i v d
    refine oG i v c g hg (fun F R j f=>?_) b (next _ v h)
    unfold dc
    simp only[k,q,j.fZ d]
    exact f
   .rename_i x args argTypes k
    split at h
    case h_2=>exact h.elim
    rename_i fn first captured r
    obtain ⟨s,v,u,h⟩:=h
    refine oG i v c g hg (fun F R j f=>?_) b (next _ v h)
    unfold dc
    simp only[k,r]
    exact ⟨s,(u F j).mono fun y F' w=>by obtain ⟨rfl,rfl⟩:=w;exact f⟩
   .split at h
    case h_2=>exact h.elim
    rename_i v d
    exact oG i v c g hg (fun F R j f=>s8 d f) b (next _ v h)
  .exact h.elim
theorem Bn:∀(b:List Nat) (L:Array Bool) (go:Bool) (a:Act) (F:af),qZ ops b L=true->fB P J ops F0 Q (pick ops b) go a F->eu P J ops Q (Knows F0) b.length L a F
 |[],L,go,a,F,c,h=>by
  simp only[qZ,decide_eq_true_eq] at c
  unfold pick fB at h
  exact Aq c h _
 |j::b,L,go,a,F,c,h=>by
  simp only[qZ,Bool.and_eq_true,decide_eq_true_eq] at c
  obtain ⟨⟨c1,c3⟩,c4⟩:=c
  obtain ⟨o,d⟩:=Option.isSome_iff_exists.1 c3
  have e:pick ops (j::b)=o::pick ops b:=by simp only[pick,d]
  rw[e] at h
  unfold fB at h
  split at h
  .rename_i hg
   refine AT j d c1 hg ?_
   refine m3.td ?_ h
   rintro v F' ⟨f,g⟩
   exact ⟨f,Bn b _ _ _ F' c4 g⟩
  .exact h.elim
theorem GR {Q:Ex->Act->af->Prop}(hJ:Closed P main J)(e:P.follows .mixedOrders=true)(is b:List Nat){id:Nat}{a:Act}{F:af}(F0:af)(f:Knows F0 F)(d:Bl ops is b=true)
  (h:eP P J ops F0 (fun c=>fB P J ops F0 (Q .normal) (pick ops b) true c F) (pick ops is) true a):Wp J (.region id ops true) Q a F:=by
 simp only[Bl,Bool.and_eq_true,decide_eq_true_eq] at d
 obtain ⟨⟨⟨g,i⟩,j⟩,l⟩:=d
 refine vU hJ (Knows F0) e ?_
 have:=Bm (P:=P) (J:=J) (Q:=Q .normal) g f b.length is _ true a i h (fun c k=>Bn b _ true c F j k)
 rwa [show b.length+is.length=ops.size by omega] at this
end
attribute [go_sem] pick
inductive k6 where
 |done
 |rd (i:Nat) (p:k6)
 |one (i:Nat) (p:k6)
 |two (i:Nat) (p:k6) (j:Nat) (q:k6)
inductive l7 where
 |done
 |rd (o:Oper) (p:l7)
 |one (o:Oper) (p:l7)
 |two (o:Oper) (p:l7) (o':Oper) (q:l7)
 |bad
def k6.opers (ops:Array Oper):k6->l7
 | .done=>.done
 | .rd i p=>match ops[i]? with
  |some o=>.rd o (p.opers ops)
  |none=>.bad
 | .one i p=>match ops[i]? with
  |some o=>.one o (p.opers ops)
  |none=>.bad
 | .two i p j q=>match ops[i]?,ops[j]? with
  |some o,some o'=>.two o (p.opers ops) o' (q.opers ops)
  |_,_=>.bad
def k6.len:k6->Nat
 | .done=>0
 | .rd _ p=>p.len+1
 | .one _ p=>p.len+1
 | .two _ p _ q=>max p.len q.len+1
def gK (P:Program)(J:Goroutine->af->Prop)(ops:Array Oper)(F0:af)(Q:Act->af->Prop):l7->Bool->Act->af->Prop
 | .done,_,a,F=>Q a F
 | .bad,_,_,_=>False
 | .rd o p,_,a,F=>match cV ops o a with
  |some false=>gK P J ops F0 Q p true (bB a o.dst undef) F
  |some true=>match o.op with
   | .load t x=>match ev a x with
    | .pointer (some ad)=>match fZ P F0 t ad with
     |some v=>gK P J ops F0 Q p true (bB a o.dst v) F
     |none=>False
    |_=>False
   | .call {callee:=.value x,args, ..}=>match ev a x with
    | .func (.func fn) first captured=>aR P fn=true/\∃v,Plain P J F0 fn (first++args.map (ev a)++captured) v/\gK P J ops F0 Q p false (bB a o.dst v) F
    |_=>False
   |_=>match jG P o a with
    |some v=>gK P J ops F0 Q p true (bB a o.dst v) F
    |none=>False
  |none=>False
 | .one o p,_,a,F=>match cV ops o a with
  |some true=>dc P J o (fun v F'=>Knows F0 F'/\gK P J ops F0 Q p (!Oper.calls o) (bB a o.dst v) F') a F
  |_=>False
 | .two o p o' q,_,a,F=>(match cV ops o a with
  |some true=>dc P J o (fun v F'=>Knows F0 F'/\gK P J ops F0 Q p (!Oper.calls o) (bB a o.dst v) F') a F
  |_=>False)/\(match cV ops o' a with
  |some true=>dc P J o' (fun v F'=>Knows F0 F'/\gK P J ops F0 Q q (!Oper.calls o') (bB a o'.dst v) F') a F
  |_=>False)
theorem GU {P:Program}{J:Goroutine->af->Prop}{ops:Array Oper}{F0:af}{Q:Act->af->Prop}{go:Bool}{a:Act}{F:af}:gK P J ops F0 Q .done go a F=Q a F:=rfl
theorem GV {P:Program}{J:Goroutine->af->Prop}{ops:Array Oper}{F0:af}{Q:Act->af->Prop}{o:Oper}{p:l7}{a:Act}{F:af}:gK P J ops F0 Q (.rd o p) true a F=match cV ops o a with
  |some false=>gK P J ops F0 Q p true (bB a o.dst undef) F
  |some true=>match o.op with
   | .load t x=>match ev a x with
    | .pointer (some ad)=>match fZ P F0 t ad with
     |some v=>gK P J ops F0 Q p true (bB a o.dst v) F
     |none=>False
    |_=>False
   | .call {callee:=.value x,args, ..}=>match ev a x with
    | .func (.func fn) first captured=>aR P fn=true/\∃v,Plain P J F0 fn (first++args.map (ev a)++captured) v/\gK P J ops F0 Q p false (bB a o.dst v) F
    |_=>False
   |_=>match jG P o a with
    |some v=>gK P J ops F0 Q p true (bB a o.dst v) F
    |none=>False
  |none=>False:=(Eq.refl _).trans (Eq.refl _)
theorem GW {P:Program}{J:Goroutine->af->Prop}{ops:Array Oper}{F0:af}{Q:Act->af->Prop}{o:Oper}{p:l7}{a:Act}{F:af}:gK P J ops F0 Q (.one o p) true a F=match cV ops o a with
  |some true=>dc P J o (fun v F'=>Knows F0 F'/\gK P J ops F0 Q p (!Oper.calls o) (bB a o.dst v) F') a F
  |_=>False:=(Eq.refl _).trans (Eq.refl _)
attribute [irreducible] gK
attribute [go_sem] GU GV GW k6.opers
theorem Bo {F:af}{a:Addr}:∀(cs:List Value) (i:Nat),(∀j v,cs[j]?=some v->F.get (a.add (i+j))=some v)->F.dS a i cs.length=some cs
 |[],i,_=>rfl
 |v::cs,i,h=>by
  have b:=h 0 v rfl
  rw[Nat.add_zero] at b
  have ih:=Bo cs (i+1) (fun j w hw=>by
   have:=h (j+1) w (by simpa using hw)
   rwa [show i+(j+1)=i+1+j by omega] at this)
  simp only[List.length_cons,af.dS,b,ih]
theorem Bp {F:af}{a:Addr}:∀(m i k:Nat) (d c:List Value),F.dS a i m=some d->F.dS a (i+m) k=some c->F.dS a i (m+k)=some (d++c)
 |0,i,k,d,c,b,e=>by
  simp only[af.dS,Option.some.injEq] at b
  subst b
  rw[Nat.zero_add]
  simpa using e
 |m+1,i,k,d,c,b,e=>by
  unfold af.dS at b
  split at b
  case h_2=>cases b
  rename_i v f
  split at b
  case h_2=>cases b
  rename_i g h
  cases b
  have ih:=Bp m (i+1) k g c h (by rwa [show i+1+m=i+(m+1) by omega])
  rw[show m+1+k=(m+k)+1 by omega]
  simp only[af.dS,f,ih,List.cons_append]
theorem aH.cells {T:Type}{r:cz T}{ro:Addr->Option Value}{ad:Option Addr}{c:Nat}{l:List T}(h:aH r ro (.slice ad l.length c) l)(F:af)(w:∀a v,ro a=some v->F.get a=some v):
  ∃b:List (List Value),b.length=l.length/\(∀x∈b,x.length=r.n/\∀v∈x,bU v=true)/\(∀(i:Nat) (x:T),l[i]?=some x->∃cs,b[i]?=some cs/\r.rel ro x cs)/\gX F r.n (.slice ad l.length c)=some b.flatten:=by
 obtain ⟨E,G,e,_,_,he⟩:=h
 cases e
 cases hl:l with
 |nil=>subst hl;refine ⟨[],rfl,av,av,?_⟩;cases ad<;>simp[gX,af.dS]
 |cons z l0=>
  obtain ⟨p,H,A,-,-⟩:=he 0 z (by rw[hl];rfl)
  subst A
  rw[<-hl]
  have key:∀k,k<=l.length->∃b:List (List Value),b.length=k/\(∀x∈b,x.length=r.n/\∀v∈x,bU v=true)/\(∀(i:Nat) (x:T),i<k->l[i]?=some x->∃cs,b[i]?=some cs/\r.rel ro x cs)/\F.dS p 0 (k*r.n)=some b.flatten:=by
   intro k
   induction k with
   |zero=>intro _;exact ⟨[],rfl,av,av,by simp[af.dS]⟩
   |succ k ih=>
    intro hk
    obtain ⟨b,f,m,o,q⟩:=ih aa
    have d:l[k]?=some l[k]:=List.getElem?_eq_getElem aa
    obtain ⟨I,cs,B,s,hm⟩:=he k _ d
    cases B
    have u:=r.len s
    refine ⟨b++[cs],by simp[f],fun y C=>?_,fun i x hi t=>?_,?_⟩
    .rcases List.mem_append.1 C with h|h
     .exact m y h
     .simp only[List.mem_singleton] at h;subst h;exact ⟨u,r.one s⟩
    .rcases Nat.lt_or_ge i k with h|h
     .obtain ⟨cs',a1,a2⟩:=o i x h t
      exact ⟨cs',by rw[List.getElem?_append_left aa];exact a1,a2⟩
     .have:i=k:=aa
      subst this
      rw[d] at t
      obtain rfl:=Option.some.inj t
      exact ⟨cs,by rw[List.getElem?_append_right aa];simp[f],s⟩
    .rw[Nat.succ_mul]
     have g:=Bo (F:=F) (a:=p) cs (k*r.n) (fun j v D=>w _ _ (by have:=hm j v D;rwa [lU] at this))
     rw[u] at g
     have:=Bp (k*r.n) 0 r.n b.flatten cs q (by rw[Nat.zero_add];exact g)
     rw[this]
     simp
  obtain ⟨b,f,m,o,q⟩:=key l.length (Nat.le_refl _)
  exact ⟨b,f,m,fun i x d=>o i x (List.getElem?_eq_some_iff.1 d).1 d,q⟩
theorem aZ.empty {T:Type}{r:cz T}{ro:Addr->Option Value}{e:TypeId}{b:Nat}(a:∀off sp,ro ⟨b,off,sp⟩=none):aZ r ro e (.slice (some ⟨b,0,none⟩) 0 0) [] [(b,.cells #[] e)]:=
 ⟨[],.inr ⟨b,#[],0,rfl,rfl,av,Nat.le_refl _,av,av,a⟩,rfl,av,fun i x h=>by simp at h⟩
theorem Bq {ro:Addr->Option Value}{x:Nat×Obj}{l:List (Nat×Obj)}:Le ⟨ro,l++[x]⟩ ⟨ro,x::l⟩:=by
 have hk:∀b,b∈keys (l++[x])↔b∈keys (x::l):=fun b=>by
  simp only[keys,List.map_append,List.map_cons,List.map_nil,List.mem_append,List.mem_cons,List.not_mem_nil,or_false];exact Or.comm
 refine ⟨fun w hw=>⟨hw.ro,fun b o hb=>hw.own b o ?_,?_,fun a v h hm=>hw.apart a v h ((hk _).1 hm)⟩,fun b hb=>(hk b).1 hb,fun a c=>.inl c⟩
 .rcases List.mem_append.1 hb with h|h
  .exact List.mem_cons_of_mem _ h
  .simp only[List.mem_singleton] at h;rw[h];exact List.mem_cons_self
 .have:=hw.nodup;simp only[keys,List.map_cons,List.nodup_cons] at this;simp only[keys,List.map_append,List.map_cons,List.map_nil];rw[List.nodup_append];refine ⟨this.2,av,fun a c b hb e=>?_⟩;simp only[List.mem_singleton] at hb;subst hb;exact this.1 (e▸c)
theorem q2 {P:Program}{T:Type}{r:cz T}{ro:Addr->Option Value}{rest:List (Nat×Obj)}{ks:List Nat}{R:Value->af->Prop}{argTypes:Array TypeId}{l m e w:TypeId}{f b c:Nat}{ad:Option Addr}{z:Value}{xs:List T}
  (y:∀off sp,ro ⟨b,off,sp⟩=none) (A:ax rest b) (o:keys rest=ks) (hlen:xs.length<=1000000) (B:aH r ro (.slice ad xs.length c) xs)
  (C:argTypes[0]?=some l) (D:argTypes[1]?=some m) (he:dF P l=some e) (E:dF P m=some w) (hs:cv P e=some r.n) (F:zeroOf P e=some z) (G:z.cells.size=r.n) (hb:bytesOf P e=some f)
  (H:0<f) (I:f<=10000)
  (p:∀v g,aZ r ro e v xs g->Apart ks g->R v ⟨ro,rest++g⟩):mY P argTypes (.slice (some ⟨b,0,none⟩) 0 0) (.slice ad xs.length c) R ⟨ro,(b,.cells #[] e)::rest⟩:=by
 intro ty
 obtain ⟨d,k1,J,K,L⟩:=B.cells ⟨ro,(b,.cells #[] e)::rest⟩ (fun a v h=>by simp[af.get,h])
 have q:∀x∈d,x.length=r.n:=fun x h=>(J x h).1
 have i:=iZ q
 refine wz (old:=[]) C D he E hs F hb H I (by simpa using hlen) (by simp[gX,af.dS]) L (fun M=>?_) (fun M k s hk t=>?_)
 .have N:xs.length=0:=aa
  have O:xs=[]:=List.eq_nil_of_length_eq_zero N
  have Q:d=[]:=List.eq_nil_of_length_eq_zero aa
  subst O Q
  refine .inl ⟨_,_,rfl,rfl,⟨ro,rest++[(b,.cells #[] e)]⟩,Bq,p _ _ (aZ.empty y) fun k hk=>?_⟩
  simp only[keys,List.map_cons,List.map_nil,List.mem_singleton] at hk
  subst hk
  rw[<-o]
  exact lX A
 .refine ⟨⟨ro,rest++[(s,.cells (([]:List Value).toArray++d.flatten.toArray++Builtin.zeroCells z.cells (k - (0+xs.length))) e)]⟩,Bq.trans (Le.sub (.cons₂ _ (.cons _ (List.Sublist.refl _)))),p _ _ ?_ fun j u=>?_⟩
  .refine ⟨d,.inr ⟨s,_,k,by rw[k1,Nat.zero_add],rfl,?_,aa,?_,q,t.ro⟩,k1,hlen,K⟩
   .simp only[List.nil_append,Array.size_append,List.size_toArray,List.length_nil,Builtin.zeroCells,Array.size_map,Array.size_range,i,G,k1]
    rw[Nat.zero_add,<-Nat.add_mul]
    congr 1;omega
   .simp only[Array.toList_append,List.nil_append]
    rw[List.take_append_of_le_length (by simp[i])]
    rw[List.take_of_length_le (by simp[i])]
  .simp only[keys,List.map_cons,List.map_nil,List.mem_singleton] at u
   subst u
   rw[<-o]
   exact lX t.own.2
theorem tq:∀{pre bE:List (Nat×Obj)} {b:Nat} {o:Obj},ax pre b->lk (pre++((b,o)::bE)) b=some o
 |[],bE,b,o,_=>by simp[lk]
 |(c,x)::pre,bE,b,o,h=>by
  have a:¬c=b:=fun e=>h.1 e.symm
  simp[lk,a,tq h.2]
theorem Br:∀{pre bE:List (Nat×Obj)} {b:Nat} {o x:Obj},ax pre b->jz (pre++((b,o)::bE)) b x=pre++((b,x)::bE)
 |[],bE,b,o,x,_=>by simp[jz]
 |(c,y)::pre,bE,b,o,x,h=>by
  have a:¬c=b:=fun e=>h.1 e.symm
  simp[jz,a,Br h.2]
theorem wX {ro:Addr->Option Value}{pre bE:List (Nat×Obj)}{b:Nat}{e:TypeId}(c:ax pre b)(o:Nat):∀(a:List Value) (arr:Array Value) (i:Nat),(∀v∈a,bU v=true)->o+i+a.length<=arr.size->
  af.ki ⟨ro,pre++((b,.cells arr e)::bE)⟩ ⟨b,o,none⟩ i a=some ⟨ro,pre++((b,.cells (c9 arr (o+i) a) e)::bE)⟩
 |[],arr,i,_,_=>rfl
 |v::a,arr,i,d,h=>by
  simp only[List.length_cons] at h
  have f:(⟨b,o,none⟩:Addr).add i=⟨b,o+i,none⟩:=by
   unfold Addr.add
   split
   .rename_i hi;subst hi;rfl
   .rfl
  unfold af.ki
  have:af.mN ⟨ro,pre++((b,.cells arr e)::bE)⟩ ((⟨b,o,none⟩:Addr).add i) v=some ⟨ro,pre++((b,.cells (arr.setIfInBounds (o+i) v) e)::bE)⟩:=by
   have g:o+i<arr.size:=aa
   simp[af.mN,f,tq c,d v av,g,frozenAt,af.put,Br c]
  rw[this]
  simp only
  rw[wX c o a _ (i+1) (fun x j=>d x (by simp[j])) (by simp;omega)]
  rw[c9]
  congr 1
theorem Bs {ro:Addr->Option Value}{pre bE:List (Nat×Obj)}{b:Nat}{e:TypeId}{arr:Array Value}(a:ax pre b)(c:∀off sp,ro ⟨b,off,sp⟩=none):∀(n i:Nat),i+n<=arr.size->
  af.dS ⟨ro,pre++((b,.cells arr e)::bE)⟩ ⟨b,0,none⟩ i n=some ((arr.toList.drop i).take n)
 |0,i,_=>by simp[af.dS]
 |n+1,i,h=>by
  have f:(⟨b,0,none⟩:Addr).add i=⟨b,i,none⟩:=by
   unfold Addr.add
   split
   .rename_i hi;subst hi;rfl
   .simp
  have d:i<arr.size:=aa
  unfold af.dS
  have ih:=Bs (e:=e) (arr:=arr) (bE:=bE) a c n (i+1) aa
  simp only[af.get,f,c,if_true,tq a,Option.bind_some,cellOf,Array.getElem?_eq_getElem d,ih]
  have g:i<arr.toList.length:=by simpa using d
  rw[List.drop_eq_getElem_cons g,List.take_succ_cons]
  simp
theorem Gr.GX {ro:Addr->Option Value}{e:TypeId}{size:Nat}{v:Value}{l:List (List Value)}{bw pre bE:List (Nat×Obj)}(h:Gr ro e size v l bw)(a:∀k∈keys bw,ax pre k):
  Go.Sep.gX ⟨ro,pre++(bw++bE)⟩ size v=some l.flatten:=by
 rcases h with ⟨rfl,rfl,rfl⟩|⟨b,arr,cap,rfl,rfl,hs,hl,ht,d,c⟩
 .rfl
 .simp only[Go.Sep.gX,List.cons_append,List.nil_append]
  have hle:l.length*size<=arr.size:=by rw[hs];exact Nat.mul_le_mul_right _ hl
  rw[Bs (a b (by simp[keys])) c _ _ aa]
  simp[ht]
theorem Le.ps {ro:Addr->Option Value}{l m l':List (Nat×Obj)}(d:l.Perm m)(hs:m.Sublist l'):Le ⟨ro,l⟩ ⟨ro,l'⟩:=by
 have hk:(keys m).Sublist (keys l'):=hs.map _;have c:(keys l).Perm (keys m):=d.map _;exact ⟨fun w hw=>⟨hw.ro,fun b o hb=>hw.own b o (hs.subset (d.subset hb)),c.nodup_iff.2 (hk.nodup hw.nodup),fun a v e hm=>hw.apart a v e (hk.subset (c.subset hm))⟩,fun b hb=>hk.subset (c.subset hb),fun a f=>.inl f⟩
structure bg (ks:List Nat):Prop where
 nd:ks.Nodup
abbrev Nd (l:List (Nat×Obj)):Prop:=(keys l).Nodup
theorem Nd.fresh {pre bw bE:List (Nat×Obj)}(h:Nd (pre++(bw++bE))):∀k∈keys bw,ax pre k:=fun k hk=>by
 refine m6 fun hm=>?_
 simp only[Nd,cI] at h
 exact (List.nodup_append.1 h).2.2 k hm k (List.mem_append_left _ hk) rfl
theorem Nd.push {l:List (Nat×Obj)}{b:Nat}{o:Obj}(h:Nd l)(hb:ax l b):Nd ((b,o)::l):=by
 simp only[Nd,keys,List.map_cons,List.nodup_cons];exact ⟨lX hb,h⟩
theorem Nd.drop {pre bw bE:List (Nat×Obj)}(h:Nd (pre++(bw++bE))):Nd (pre++bE):=
 ((List.Sublist.append_left (List.sublist_append_right bw bE) pre).map _).nodup h
theorem Nd.ins {pre bw bE:List (Nat×Obj)}{b:Nat}{o:Obj}(h:Nd (pre++(bw++bE)))(hb:ax (pre++(bw++bE)) b):Nd (pre++([(b,o)]++bE)):=by
 have a:Nd ((b,o)::(pre++bE)):=h.drop.push (m6 fun hm=>lX hb (((List.Sublist.append_left (List.sublist_append_right bw bE) pre).map _).subset hm));have:(pre++([(b,o)]++bE)).Perm ((b,o)::(pre++bE)):=List.perm_middle;exact (this.map _).nodup_iff.2 a
section
variable {P:Program}
theorem Bt {ro:Addr->Option Value}{pre bw bE:List (Nat×Obj)}{R:Value->af->Prop}{argTypes:Array TypeId}{ty y A e N:TypeId}{size o n c:Nat}{B:Option Addr}{s z:Value}{l xs:List (List Value)}
  (C:argTypes[0]?=some y) (D:argTypes[1]?=some A) (he:dF P y=some e) (d:dF P A=some N) (hs:cv P e=some size) (E:zeroOf P e=some z) (O:z.cells.size=size) (hb:bytesOf P e=some o)
  (G:0<o) (H:o<=10000) (hg:Gr ro e size s l bw) (i:Nd (pre++(bw++bE))) (Q:n=xs.length) (I:∀x∈xs,x.length=size/\∀v∈x,bU v=true) (J:gX ⟨ro,pre++(bw++bE)⟩ size (.slice B n c)=some xs.flatten)
  (K:l.length+xs.length<=1000000)
  (p:∀v q,Gr ro e size v (l++xs) q->Nd (pre++(q++bE))->∃F0,Le F0 ⟨ro,pre++(q++bE)⟩/\R v F0):
  bx P (Builtin.append_ argTypes ty #[s,.slice B n c]) (fun v F=>∃F0,Le F0 F/\R v F0) ⟨ro,pre++(bw++bE)⟩:=by
 subst Q
 have L:=i.fresh
 have hold:=hg.GX (bE:=bE) L
 have r:∀x∈xs,x.length=size:=fun x h=>(I x h).1
 have a:=iZ r
 have out:∀(k b:Nat) (old:List Value),old=l.flatten->(∀x∈l,x.length=size)->l.length+xs.length<=k->eD ⟨ro,pre++(bw++bE)⟩ b->
   ∃F0,Le F0 (af.push ⟨ro,pre++(bw++bE)⟩ b (.cells (old.toArray++xs.flatten.toArray++Builtin.zeroCells z.cells (k - (l.length+xs.length))) e))/\R (.slice (some ⟨b,0,none⟩) (l.length+xs.length) k) F0:=by
  intro k b old S hl hk f
  subst S
  have t:=iZ hl
  have u:=p (.slice (some ⟨b,0,none⟩) (l.length+xs.length) k) [(b,.cells (l.flatten.toArray++xs.flatten.toArray++Builtin.zeroCells z.cells (k - (l.length+xs.length))) e)] (.inr ⟨b,_,k,av,rfl,?_,by simpa using hk,?_,?_,f.ro⟩) (i.ins f.own)
  .obtain ⟨F0,hle,u⟩:=u
   refine ⟨F0,hle.trans ?_,u⟩
   exact Le.ps (m:=(b,.cells (l.flatten.toArray++xs.flatten.toArray++Builtin.zeroCells z.cells (k - (l.length+xs.length))) e)::(pre++bE)) List.perm_middle (.cons₂ _ (List.Sublist.append_left (List.sublist_append_right bw bE) pre))
  .simp only[Array.size_append,List.size_toArray,Builtin.zeroCells,Array.size_map,Array.size_range,t,a,O]
   rw[<-Nat.add_mul,<-Nat.add_mul]
   congr 1;omega
  .simp only[Array.toList_append,List.length_append,List.flatten_append]
   rw[List.take_append_of_le_length (by simp[t,a,Nat.add_mul])]
   rw[List.take_of_length_le (by simp[t,a,Nat.add_mul])]
  .intro x d
   rcases List.mem_append.1 d with h|h
   .exact hl x h
   .exact r x h
 rcases id hg with ⟨rfl,rfl,rfl⟩|⟨b,arr,cap,rfl,rfl,w,hl,ht,j,T⟩
 .refine wz C D he d hs E hb G H (by simpa using K) hold J (fun g=>.inr ⟨rfl,?_⟩) (fun g k b hk f=>?_)
  .have:xs=[]:=List.eq_nil_of_length_eq_zero aa
   subst this
   exact p _ _ (.inl ⟨rfl,rfl,rfl⟩) i
  .have:=out k b [] rfl av (by simpa using hk) f
   simpa using this
 .refine wz C D he d hs E hb G H K hold J (fun g=>.inl ⟨_,⟨ro,pre++([(b,.cells (c9 arr (l.length*size) xs.flatten) e)]++bE)⟩,rfl,?_,?_⟩) (fun g k U hk f=>out k U _ rfl j hk f)
  .have V:(⟨b,0,none⟩:Addr).add (l.length*size)=⟨b,l.length*size,none⟩:=by
    unfold Addr.add
    split
    .rename_i hi;rw[hi]
    .simp
   rw[V]
   have M:l.length*size+xs.length*size<=arr.size:=by rw[w,<-Nat.add_mul];exact Nat.mul_le_mul_right _ g
   have:=wX (ro:=ro) (e:=e) (bE:=bE) (L b (by simp[keys])) (l.length*size) xs.flatten arr 0 (fun v W=>by
    obtain ⟨x,X,Y⟩:=List.mem_flatten.1 W
    exact (I x X).2 v Y) (by rw[a];omega)
   simpa using this
  .refine p _ _ (.inr ⟨b,_,cap,av,rfl,by rw[s0];exact w,by simpa using g,?_,?_,T⟩) (by simpa [Nd,keys] using i)
   .have M:l.length*size+xs.length*size<=arr.size:=by rw[w,<-Nat.add_mul];exact Nat.mul_le_mul_right _ g
    rw[s3 _ _ _ (by rw[a];exact M),ht,List.length_append,List.flatten_append,a]
    rw[List.take_append_of_le_length (by simp[iZ j,a,Nat.add_mul])]
    rw[List.take_of_length_le (by simp[iZ j,a,Nat.add_mul])]
   .intro x d
    rcases List.mem_append.1 d with h|h
    .exact j x h
    .exact r x h
theorem Bu:∀{pre own:List (Nat×Obj)} {b:Nat} {o:Obj},lk pre b=some o->lk (pre++own) b=some o
 |(c,x)::pre,own,b,o,h=>by
  simp only[List.cons_append,lk] at h ⊢
  split
  .rename_i a;rw[if_pos a] at h;exact h
  .rename_i a;rw[if_neg a] at h;exact Bu h
theorem Bv {ro:Addr->Option Value}{own:List (Nat×Obj)}{b:Nat}{cs:Array Value}{e:TypeId}(a:lk own b=some (.cells cs e))(c:∀off sp,ro ⟨b,off,sp⟩=none):∀n i,i+n<=cs.toList.length->af.dS ⟨ro,own⟩ ⟨b,0,none⟩ i n=some ((cs.toList.drop i).take n)
 |0,i,_=>by simp[af.dS]
 |n+1,i,hi=>by
  have d:i<cs.toList.length:=aa
  unfold af.dS
  have f:(⟨b,0,none⟩:Addr).add i=⟨b,i,none⟩:=by
   unfold Addr.add
   split
   .rename_i hi;subst hi;rfl
   .simp
  have g:i<cs.size:=by simpa using d
  simp only[af.get,f,c,if_true,a,Option.bind_some,cellOf,Array.getElem?_eq_getElem g,Bv a c n (i+1) aa]
  rw[List.drop_eq_getElem_cons d,List.take_succ_cons]
  simp
theorem aZ.more {T:Type}{r:cz T}{ro:Addr->Option Value}{e:TypeId}{l xs:List T}{ls ys:List (List Value)}{v:Value}{a:List (Nat×Obj)}(hg:Gr ro e r.n v (ls++ys) a)(hl:ls.length=l.length)(b:ys.length=xs.length)
  (c:∀(i:Nat) (x:T),l[i]?=some x->∃cs:List Value,ls[i]?=some cs/\r.rel ro x cs) (d:∀(i:Nat) (x:T),xs[i]?=some x->∃cs:List Value,ys[i]?=some cs/\r.rel ro x cs) (f:l.length+xs.length<=1000000):aZ r ro e v (l++xs) a:=by
 refine ⟨_,hg,by simp[hl,b],by simpa using f,fun i y hi=>?_⟩
 rcases Nat.lt_or_ge i l.length with h|h
 .rw[List.getElem?_append_left h] at hi
  rw[List.getElem?_append_left aa]
  exact c i y hi
 .rw[List.getElem?_append_right h] at hi
  rw[List.getElem?_append_right aa,hl]
  exact d _ y hi
theorem Bw {T:Type}{r:cz T}{ro:Addr->Option Value}{bw:List (Nat×Obj)}{R:Value->af->Prop}{argTypes:Array TypeId}{g h e o e2:TypeId}{b c:Nat}{s z:Value}{l:List T}{x:T}{cs:Array Value}{own:List (Nat×Obj)}(pre bE:List (Nat×Obj))(p:own=pre++(bw++bE))
  (hg:aZ r ro e s l bw) (q:bg (keys own)) (j:l.length+[x].length<=1000000) (d:r.rel ro x cs.toList) (t:lk pre c=some (.cells cs e2)) (u:∀off sp,ro ⟨c,off,sp⟩=none)
  (w:argTypes[0]?=some g) (A:argTypes[1]?=some h) (he:dF P g=some e) (B:dF P h=some o) (hs:cv P e=some r.n) (C:zeroOf P e=some z) (D:z.cells.size=r.n) (hb:bytesOf P e=some b)
  (E:0<b) (F:b<=10000)
  (G:∀v a,aZ r ro e v (l++[x]) a->∀f,f=pre++(a++bE)->bg (keys f)->∃F0,Le F0 ⟨ro,f⟩/\R v F0):mY P argTypes s (.slice (some ⟨c,0,none⟩) 1 1) R ⟨ro,own⟩:=by
 subst p
 obtain ⟨ls,H,hl,hm,I⟩:=hg
 have J:=q.nd
 intro ty
 have hlen:cs.toList.length=r.n:=r.len d
 refine Bt (xs:=[cs.toList]) (e:=e) (size:=r.n) (z:=z) (l:=ls) w A he B hs C D hb E F H J rfl (fun y k=>?_) ?_ (by simpa [hl] using j) (fun v a K L=>G v a (aZ.more K hl rfl I (fun i y hi=>?_) j) _ rfl ⟨L⟩)
 .simp only[List.mem_singleton] at k;subst k;exact ⟨hlen,r.one d⟩
 .simp only[gX,Nat.one_mul]
  rw[Bv (Bu t) u _ _ aa]
  rw[List.drop_zero,List.take_of_length_le aa]
  simp
 .cases i with
  |zero=>simp at hi;subst hi;exact ⟨cs.toList,rfl,d⟩
  |succ m=>simp at hi
theorem GY {T:Type}{r:cz T}{ro:Addr->Option Value}{bw:List (Nat×Obj)}{R:Value->af->Prop}{argTypes:Array TypeId}{g i e k:TypeId}{d c:Nat}{ad:Option Addr}{s z:Value}{l xs:List T}{own:List (Nat×Obj)}(pre bE:List (Nat×Obj))(m:own=pre++(bw++bE))
  (hg:aZ r ro e s l bw) (o:bg (keys own)) (j:l.length+xs.length<=1000000) (p:aH r ro (.slice ad xs.length c) xs)
  (q:argTypes[0]?=some g) (t:argTypes[1]?=some i) (he:dF P g=some e) (u:dF P i=some k) (hs:cv P e=some r.n) (w:zeroOf P e=some z) (x:z.cells.size=r.n) (hb:bytesOf P e=some d)
  (y:0<d) (A:d<=10000)
  (B:∀v b,aZ r ro e v (l++xs) b->∀f,f=pre++(b++bE)->bg (keys f)->∃F0,Le F0 ⟨ro,f⟩/\R v F0):mY P argTypes s (.slice ad xs.length c) R ⟨ro,own⟩:=by
 subst m
 obtain ⟨ls,C,hl,hm,D⟩:=hg
 have E:=o.nd
 intro ty
 obtain ⟨F,k1,G,H,I⟩:=p.cells ⟨ro,pre++(bw++bE)⟩ (fun a v h=>by simp[af.get,h])
 exact Bt (xs:=F) (e:=e) (size:=r.n) (z:=z) (l:=ls) q t he u hs w x hb y A C E k1.symm G I (by rw[hl,k1];exact j) (fun v b J K=>B v b (aZ.more J hl k1 D H j) _ rfl ⟨K⟩)
theorem aZ.l8 {T:Type}{r:cz T}{ro:Addr->Option Value}{e:TypeId}{v:Value}{l:List T}{bw:List (Nat×Obj)}(h:aZ r ro e v l bw){own:List (Nat×Obj)}(a pre bE:List (Nat×Obj))(f:own=pre++(bw++bE))(g:a=pre++bE)(i:bg (keys own))(j:aJ ro a):
  ∃bf,Ext ro bf/\aJ bf a/\aH r bf v l/\Le ⟨bf,a⟩ ⟨ro,own⟩:=by
 subst f g
 have c:Nd (pre++(bw++bE)):=i.nd
 have m:Apart (keys (pre++bE)) bw:=fun k d hm=>by
  simp only[Nd,cI] at c
  have b:=List.nodup_append.1 c
  simp only[cI,List.mem_append] at hm
  rcases hm with hm|hm
  .exact b.2.2 k hm k (List.mem_append_left _ d) rfl
  .exact (List.nodup_append.1 b.2.1).2.2 k d k hm rfl
 obtain ⟨bf,n,b,o,p⟩:=h.A3 (pre++bE) m rfl j
 refine ⟨bf,n,b,o,p.trans ?_⟩
 have q:((pre++bE)++bw).Perm (pre++(bw++bE)):=by
  rw[List.append_assoc]
  exact List.Perm.append_left pre List.perm_append_comm
 exact Le.ps q (List.Sublist.refl _)
theorem aZ.setAt {T:Type}{r:cz T}{ro:Addr->Option Value}{e:TypeId}{l:List T}{b n cap:Nat}{arr:Array Value}(h:aZ r ro e (.slice (some ⟨b,0,none⟩) n cap) l [(b,.cells arr e)]){i:Nat}{x y:T}(hi:l[i]?=some x){cs:List Value}(m:r.rel ro y cs):
  aZ r ro e (.slice (some ⟨b,0,none⟩) n cap) (l.set i y) [(b,.cells (c9 arr (i*r.n) cs) e)]:=by
 obtain ⟨ls,hg,hl,hm,o⟩:=h
 have C:i<l.length:=(List.getElem?_eq_some_iff.1 hi).1
 have a:=r.len m
 rcases hg with ⟨k,_,_⟩|⟨D,E,p,k,q,hs,hle,ht,c,s⟩
 .cases k
 .cases q
  obtain ⟨rfl,rfl⟩:n=ls.length/\cap=p:=by cases k;exact ⟨rfl,rfl⟩
  have t:i*r.n+cs.length<=arr.size:=by
   rw[hs,a,<-Nat.succ_mul]
   exact Nat.mul_le_mul_right _ aa
  refine ⟨ls.set i cs,.inr ⟨b,_,cap,av,rfl,by rw[s0];exact hs,by simpa using hle,?_,?_,s⟩,by simp[hl],by simpa using hm,fun j z d=>?_⟩
  .rw[s3 _ _ _ t]
   have F:=iZ c
   have f:i<ls.length:=aa
   have e1:(ls.set i cs).flatten=(ls.take i).flatten++cs++(ls.drop (i+1)).flatten:=by
    rw[List.set_eq_take_append_cons_drop,if_pos f]
    simp
   have e2:ls.flatten=(ls.take i).flatten++(ls.drop i).flatten:=by rw[<-List.flatten_append,List.take_append_drop]
   have t1:((ls.take i).flatten).length=i*r.n:=by rw[iZ (fun x h=>c x (List.mem_of_mem_take h)),List.length_take,Nat.min_eq_left aa]
   have u:(ls.drop i).flatten=ls[i]++(ls.drop (i+1)).flatten:=by rw[List.drop_eq_getElem_cons f,List.flatten_cons]
   have t2:ls[i].length=r.n:=c _ (List.getElem_mem f)
   have a1:arr.toList.take (i*r.n)=(ls.take i).flatten:=by
    have:=congrArg (List.take (i*r.n)) ht
    rw[List.take_take,Nat.min_eq_left (Nat.mul_le_mul_right _ aa),e2,List.take_append_of_le_length (Nat.le_of_eq t1.symm),List.take_of_length_le (Nat.le_of_eq t1)] at this
    exact this
   have a2:(arr.toList.take (ls.length*r.n)).drop (i*r.n+cs.length)=(ls.drop (i+1)).flatten:=by
    have t3:((ls.take i).flatten++ls[i]).length=i*r.n+cs.length:=by rw[List.length_append,t1,t2,a]
    rw[ht,e2,u,<-List.append_assoc,List.drop_append_of_le_length (Nat.le_of_eq t3.symm),List.drop_eq_nil_of_le (Nat.le_of_eq t3),List.nil_append]
   rw[a1,e1]
   simp only[List.length_set]
   have v:ls.length*r.n=(i*r.n+cs.length)+(ls.length*r.n - (i*r.n+cs.length)):=by
    have:i*r.n+cs.length<=ls.length*r.n:=by rw[a,<-Nat.succ_mul];exact Nat.mul_le_mul_right _ f
    omega
   rw[v,List.take_append]
   rw[List.take_of_length_le (by rw[List.length_append,t1];omega)]
   congr 1
   have:i*r.n+cs.length+(ls.length*r.n - (i*r.n+cs.length)) - ((ls.take i).flatten++cs).length=ls.length*r.n - (i*r.n+cs.length):=by simp only[List.length_append,t1];omega
   rw[this,<-a2,List.drop_take]
  .intro z w
   rcases List.mem_or_eq_of_mem_set w with h|h
   .exact c z h
   .rw[h];exact a
  .rcases Nat.decEq i j with g|g
   .rw[List.getElem?_set_ne g] at d
    obtain ⟨cs',A,B⟩:=o j z d
    exact ⟨cs',by rw[List.getElem?_set_ne g];exact A,B⟩
   .subst g
    rw[List.getElem?_set_self aa] at d
    obtain rfl:=Option.some.inj d
    exact ⟨cs,List.getElem?_set_self aa,m⟩
end
section
variable {P:Program}{main:Bool}{J:Goroutine->af->Prop}
theorem ay (hJ:Closed P main J){c:Code}{Q:Ex->Act->af->Prop}{a:Act}{F:af}(h:bg (keys F.own)->Wp J c Q a F):Wp J c Q a F:=by
 intro b k cs hb hk;by_cases hw:∃w,Has F w
 .obtain ⟨w,hw⟩:=hw;exact h ⟨hw.nodup⟩ b k cs hb hk
 .exact hJ.step fun w d=>absurd ⟨w,d⟩ hw
end
theorem bg.cons {l:List (Nat×Obj)}{b:Nat}(hb:ax l b)(h:bg (keys l)):bg (b::keys l):=⟨List.nodup_cons.2 ⟨lX hb,h.nd⟩⟩
theorem aJ.nil (ro:Addr->Option Value):aJ ro []:=fun b h=>by cases h
theorem aJ.cons {ro:Addr->Option Value}{b:Nat}{o:Obj}{l:List (Nat×Obj)}(hb:∀off sp,ro ⟨b,off,sp⟩=none)(h:aJ ro l):aJ ro ((b,o)::l):=fun c a=>by
 simp only[keys,List.map_cons,List.mem_cons] at a
 rcases a with rfl|a
 .exact hb
 .exact h c a
theorem aJ.app {ro:Addr->Option Value}{l l':List (Nat×Obj)}(h:aJ ro l)(b:aJ ro l'):aJ ro (l++l'):=fun c a=>by
 rw[cI] at a
 exact (List.mem_append.1 a).elim (h c) (b c)
theorem aJ.hd {ro:Addr->Option Value}{b:Nat}{o:Obj}{l:List (Nat×Obj)}(h:aJ ro ((b,o)::l)):∀off sp,ro ⟨b,off,sp⟩=none:=h b (by simp[keys])
theorem aJ.tl {ro:Addr->Option Value}{x:Nat×Obj}{l:List (Nat×Obj)}(h:aJ ro (x::l)):aJ ro l:=fun c a=>h c (by simp only[keys,List.map_cons,List.mem_cons];exact .inr a)
theorem aJ.l {ro:Addr->Option Value}{l l':List (Nat×Obj)}(h:aJ ro (l++l')):aJ ro l:=fun c a=>h c (by rw[cI];exact List.mem_append_left _ a)
theorem aJ.r {ro:Addr->Option Value}{l l':List (Nat×Obj)}(h:aJ ro (l++l')):aJ ro l':=fun c a=>h c (by rw[cI];exact List.mem_append_right _ a)
theorem aZ.gA {T:Type}{r:cz T}{ro:Addr->Option Value}{e:TypeId}{v:Value}{l:List T}{bw:List (Nat×Obj)}(h:aZ r ro e v l bw):aJ ro bw:=by
 obtain ⟨ls,hg,-⟩:=h;rcases hg with ⟨_,_,rfl⟩|⟨b,arr,cap,_,rfl,_,_,_,_,a⟩
 .exact aJ.nil _
 .exact aJ.cons a (aJ.nil _)
theorem Le.back {ro:Addr->Option Value}{l l':List (Nat×Obj)}(A B O S:List (Nat×Obj))(a:l=A++(B++(O++S)))(b:l'=A++(O++(B++S))):Le ⟨ro,l⟩ ⟨ro,l'⟩:=by
 subst a b;refine Le.ps (m:=A++(O++(B++S))) (List.Perm.append_left A ?_) (List.Sublist.refl _);rw[<-List.append_assoc,<-List.append_assoc];exact List.Perm.append_right S List.perm_append_comm
section
variable {P:Program}{main:Bool}{J:Goroutine->af->Prop}
def tr (J:Goroutine->af->Prop)(ko:Frame)(F:af)(R:Value->af->Prop):Prop:=
 ∀(c:Frame) (cs:List Frame),(∀v F',R v F'->J (G (c.finish v) cs) F')->J (G ko (c::cs)) F
theorem Bx (hJ:Closed P main J){ko:Frame}{ro:Addr->Option Value}{bw:List (Nat×Obj)}{K:Value->af->Prop}{own:List (Nat×Obj)}(pre bE:List (Nat×Obj))(q:own=pre++(bw++bE))(R:Value->List (Nat×Obj)->Prop)(h:∀(main:Bool) (J:Goroutine->af->Prop),Closed P main J->tr J ko ⟨ro,bw⟩ (fun v G=>∃d,R v d/\Le ⟨ro,d⟩ G))
  (hk:∀v d,R v d->∀r,r=pre++(d++bE)->bg (keys r)->∃F0,Le F0 ⟨ro,r⟩/\K v F0):tr J ko ⟨ro,own⟩ K:=by
 subst q
 intro c cs hK
 by_cases hw:∃w,Has ⟨ro,pre++(bw++bE)⟩ w
 .obtain ⟨s,k⟩:=hw
  let F:af:=⟨fun _=>none,pre++bE⟩
  have t:(pre++bE).Sublist (pre++(bw++bE)):=List.Sublist.append_left (List.sublist_append_right bw bE) pre
  have u:bw.Sublist (pre++(bw++bE)):=(List.sublist_append_left bw bE).trans (List.sublist_append_right pre _)
  have B:∀w,Has ⟨ro,pre++(bw++bE)⟩ w->Has F w:=fun w hw=>⟨fun a v h=>(by cases h),fun b o hb=>hw.own b o (t.subset hb),(t.map _).nodup hw.nodup,fun a v h=>(by cases h)⟩
  have C:∀w,Has ⟨ro,pre++(bw++bE)⟩ w->Has ⟨ro,bw⟩ w:=fun w hw=>⟨hw.ro,fun b o hb=>hw.own b o (u.subset hb),(u.map _).nodup hw.nodup,fun a v i hm=>hw.apart a v i ((u.map _).subset hm)⟩
  have hd:∀b,b∈keys bw->b∉keys (pre++bE):=fun b hb hm=>by
   have l:=k.nodup
   simp only[cI] at l
   have D:=List.nodup_append.1 l
   simp only[cI,List.mem_append] at hm
   rcases hm with hm|hm
   .exact D.2.2 b hm b (List.mem_append_left _ hb) rfl
   .exact (List.nodup_append.1 D.2.1).2.2 b hb b hm rfl
  have E:Fits F ⟨ro,bw⟩:=⟨⟨s,C s k,B s k⟩,hd,fun a f hm=>(by cases f)⟩
  have M:m4 F ⟨ro,bw⟩:=fun a f hm=>by
   obtain ⟨v,N⟩:=Option.isSome_iff_exists.1 f
   exact k.apart a v N ((t.map _).subset hm)
  have q:wI J F (G ko (c::cs)) ⟨ro,bw⟩:=by
   refine h main _ (A1 hJ F) c cs fun v H A m l=>?_
   obtain ⟨d,A,hle⟩:=A
   have I:Le ⟨ro,pre++(d++bE)⟩ (H.star F):=by
    refine ⟨fun w hw=>?_,fun b hb=>?_,fun a f=>?_⟩
    .have n:=hle.has w (m.right hw)
     have g:=m.left hw
     have O:∀b,b∈keys d->b∉keys (pre++bE):=fun b hb=>m.own b (hle.own b hb)
     have j:(pre++(d++bE)).Perm (d++(pre++bE)):=by
      rw[<-List.append_assoc,<-List.append_assoc]
      exact List.Perm.append_right bE List.perm_append_comm
     refine ⟨n.ro,fun b o hb=>?_,?_,fun a v i hm=>?_⟩
     .rcases List.mem_append.1 (j.subset hb) with x|x
      .exact n.own b o x
      .exact g.own b o x
     .refine (j.map _).nodup_iff.2 ?_
      rw[List.map_append]
      exact List.nodup_append.2 ⟨n.nodup,g.nodup,fun a f b hb e=>O a f (e▸hb)⟩
     .have L:=(j.map (·.1)).subset hm
      rw[List.map_append] at L
      rcases List.mem_append.1 L with x|x
      .exact n.apart a v i x
      .rcases hle.ro a (by simp only at i;simp[i]) with y|y
       .exact l a y x
       .exact m.own _ y x
    .simp only[af.star,cI,List.mem_append] at hb ⊢
     rcases hb with x|x|x
     .exact .inr (show b∈keys (pre++bE) by rw[cI];exact List.mem_append_left _ x)
     .exact .inl (hle.own b x)
     .exact .inr (show b∈keys (pre++bE) by rw[cI];exact List.mem_append_right _ x)
    .rcases hle.ro a f with x|x
     .exact (ig (.inr x)).imp id (fun z=>by simp only[af.star,cI,List.mem_append];exact .inr z)
     .exact .inr (by simp only[af.star,cI,List.mem_append];exact .inl x)
   have Q:∃fr cs',G (c.finish v) cs=G fr cs':=⟨_,_,rfl⟩
   obtain ⟨fr,cs',S⟩:=Q
   by_cases p:∃w,Has (H.star F) w
   .obtain ⟨w1,p⟩:=p
    obtain ⟨F0,T,U⟩:=hk v d A _ rfl ⟨(I.has w1 p).nodup⟩
    exact hJ.mono (T.trans I) (hK v F0 U)
   .rw[S]
    exact hJ.step fun w g=>absurd ⟨w,g⟩ p
  refine hJ.mono ⟨fun w hw=>E.both (C w hw) (B w hw),fun b hb=>?_,fun a f=>?_⟩ (q E M)
  .have j:(bw++(pre++bE)).Perm (pre++(bw++bE)):=by
    rw[<-List.append_assoc,<-List.append_assoc]
    exact List.Perm.append_right bE List.perm_append_comm
   exact (j.map _).subset hb
  .rcases kV f with x|x
   .cases x
   .exact .inl x
 .exact hJ.step fun w g=>absurd ⟨w,g⟩ hw
theorem GZ (hJ:Closed P main J){f:FuncId}{args:Array Value}{ro:Addr->Option Value}{bw:List (Nat×Obj)}{K:Value->af->Prop}{own:List (Nat×Obj)}(pre bE:List (Nat×Obj))(c:own=pre++(bw++bE))(R:Value->List (Nat×Obj)->Prop)(h:aI P f args ⟨ro,bw⟩ (fun v G=>∃a,R v a/\Le ⟨ro,a⟩ G))
  (hk:∀v a,R v a->∀b,b=pre++(a++bE)->bg (keys b)->∃F0,Le F0 ⟨ro,b⟩/\K v F0):dx P J f args ⟨ro,own⟩ K:=
 Bx hJ (ko:=Frame.enter P f args .normal) pre bE c R h hk
end
attribute [go_sem] Array.size_setIfInBounds
theorem aH.op {T:Type}{r:cz T}{ro:Addr->Option Value}{ad:Option Addr}{n cap:Nat}{l:List T}(h:aH r ro (.slice ad n cap) l):
  l.length<=cap/\l.length<=1000000000000000/\∀i x,l[i]?=some x->∃p cs,ad=some p/\r.rel ro x cs/\∀j v,cs[j]?=some v->ro ((p.add (i*r.n)).add j)=some v:=by
 obtain ⟨d,f,e,a,b,c⟩:=h
 cases e
 exact ⟨a,b,c⟩
theorem bg.sub {l l':List (Nat×Obj)}(A O S:List (Nat×Obj))(a:l=A++S)(b:l'=A++(O++S))(h:bg (keys l')):bg (keys l):=by
 subst a b;exact
 ⟨((List.Sublist.append_left (List.sublist_append_right O S) A).map _).nodup h.nd⟩
theorem bg.back {l l':List (Nat×Obj)}(A B O S:List (Nat×Obj))(a:l=A++(B++(O++S)))(b:l'=A++(O++(B++S)))(h:bg (keys l')):bg (keys l):=by
 subst a b;refine ⟨(List.Perm.map _ (List.Perm.append_left A ?_)).nodup_iff.2 h.nd⟩;rw[<-List.append_assoc,<-List.append_assoc];exact List.Perm.append_right S List.perm_append_comm
theorem fD {ro:Addr->Option Value}{b:Nat}{o:Obj}(pre bE:List (Nat×Obj))(f:bg (keys (pre++((b,o)::bE))))(_hr:∀off sp,ro ⟨b,off,sp⟩=none)(g:aJ ro (pre++bE)):
  Ext ro (b9 ro b o)/\aJ (b9 ro b o) (pre++bE)/\Le ⟨b9 ro b o,pre++bE⟩ ⟨ro,pre++((b,o)::bE)⟩:=by
 have a:(pre++((b,o)::bE)).Perm ((b,o)::(pre++bE)):=List.perm_middle
 have h:Nd ((b,o)::(pre++bE)):=(a.map _).nodup_iff.1 f.nd
 have hb:b∉keys (pre++bE):=(List.nodup_cons.1 h).1
 refine ⟨gY _ _ _,fun c d off sp=>?_,?_⟩
 .have aO:¬c=b:=fun e=>hb (e▸d)
  simp[b9,g c d,aO]
 .have i:Le ⟨b9 ro b o,pre++bE⟩ ⟨ro,(b,o)::(pre++bE)⟩:=kZ (by simp[lk]) (.cons _ (List.Sublist.refl _)) (m6 hb)
  exact i.trans (Le.ps a.symm (List.Sublist.refl _))
section
variable {P:Program}{main:Bool}{J:Goroutine->af->Prop}
theorem eI (hJ:Closed P main J){c:Code}{Q:Ex->Act->af->Prop}{a:Act}{F:af}(h:bg (keys F.own)->aJ F.ro F.own->Wp J c Q a F):Wp J c Q a F:=by
 intro b k cs hb hk;by_cases hw:∃w,Has F w
 .obtain ⟨w,hw⟩:=hw;refine h ⟨hw.nodup⟩ (fun b hb off sp=>?_) b k cs hb hk;cases d:F.ro ⟨b,off,sp⟩ with
  |none=>rfl
  |some v=>exact absurd hb (hw.apart _ v d)
 .exact hJ.step fun w e=>absurd ⟨w,e⟩ hw
end
theorem wY:∀(a:List Value) (arr:Array Value) (k:Nat),k+a.length<=arr.size->∀q,(c9 arr k a)[q]?=if k<=q/\q<k+a.length then a[q - k]? else arr[q]?
 |[],arr,k,h,q=>by
  have:¬(k<=q/\q<k+([]:List Value).length):=av
  rw[if_neg this];rfl
 |v::a,arr,k,h,q=>by
  simp only[List.length_cons] at h
  rw[c9,wY a _ (k+1) (by simp;omega)]
  simp only[List.length_cons]
  by_cases b:k=q
  .subst b
   rw[if_neg aa,if_pos aa,Array.getElem?_setIfInBounds_self_of_lt aa]
   simp
  .by_cases c:k+1<=q/\q<k+1+a.length
   .rw[if_pos c,if_pos aa]
    rw[show q - k=(q - (k+1))+1 by omega]
    simp
   .rw[if_neg c,if_neg aa,Array.getElem?_setIfInBounds_ne b]
theorem aZ.part {T:Type}{r:cz T}{ro:Addr->Option Value}{e:TypeId}{l:List T}{b n cap:Nat}{arr:Array Value}(h:aZ r ro e (.slice (some ⟨b,0,none⟩) n cap) l [(b,.cells arr e)]){i:Nat}{x y:T}(hi:l[i]?=some x)(o:Nat)(a cs cs':List Value)
  (hm:∀j v,cs[j]?=some v->arr[i*r.n+j]?=some v) (hlen:cs.length=r.n) (g:cs'=cs.take o++a++cs.drop (o+a.length)) (z:o+a.length<=cs.length) (k:r.rel ro y cs'):
  aZ r ro e (.slice (some ⟨b,0,none⟩) n cap) (l.set i y) [(b,.cells (c9 arr (i*r.n+o) a) e)]:=by
 have m:=h.setAt hi k
 have d:=r.len k
 have t:i*r.n+r.n<=arr.size:=by
  rcases Nat.eq_zero_or_pos r.n with u|A
  .rw[u];omega
  .have c:r.n - 1<cs.length:=aa
   have:=hm (r.n - 1) cs[r.n - 1] (List.getElem?_eq_getElem c)
   have:=(Array.getElem?_eq_some_iff.1 this).1
   omega
 have e1:c9 arr (i*r.n) cs'=c9 arr (i*r.n+o) a:=by
  apply Array.ext_getElem?
  intro q
  rw[wY cs' arr _ (by rw[d];exact t),wY a arr _ aa]
  by_cases p:i*r.n+o<=q/\q<i*r.n+o+a.length
  .rw[if_pos p,if_pos (by rw[d];omega),g]
   rw[List.append_assoc,List.getElem?_append_right (by simp;omega),List.getElem?_append_left (by simp;omega)]
   congr 1
   simp;omega
  .rw[if_neg p]
   by_cases f:i*r.n<=q/\q<i*r.n+cs'.length
   .rw[if_pos f]
    rw[d] at f
    have w:arr[q]?=cs[q - i*r.n]?:=by
     have c:q - i*r.n<cs.length:=aa
     have:=hm (q - i*r.n) _ (List.getElem?_eq_getElem c)
     rw[show i*r.n+(q - i*r.n)=q by omega] at this
     rw[this,List.getElem?_eq_getElem c]
    rw[w,g]
    rcases Nat.lt_or_ge (q - i*r.n) o with s|s
    .rw[List.append_assoc,List.getElem?_append_left (by simp;omega),List.getElem?_take_of_lt s]
    .have B:o+a.length<=q - i*r.n:=aa
     rw[List.getElem?_append_right (by simp;omega),List.getElem?_drop]
     congr 1
     simp;omega
   .rw[if_neg f]
 rw[e1] at m
 exact m
theorem aZ.elemAt {T:Type}{r:cz T}{ro:Addr->Option Value}{e:TypeId}{b n cap:Nat}{l:List T}{bw:List (Nat×Obj)}(h:aZ r ro e (.slice (some ⟨b,0,none⟩) n cap) l bw){i:Nat}{x:T}(hi:l[i]?=some x):
  ∃arr cs,bw=[(b,.cells arr e)]/\(∀off sp,ro ⟨b,off,sp⟩=none)/\r.rel ro x cs/\∀j v,cs[j]?=some v->arr[i*r.n+j]?=some v:=by
 obtain ⟨g,arr,k,cs,a,c,d,f,hm⟩:=h.elem hi
 cases a
 exact ⟨arr,cs,c,d,f,hm⟩
theorem aZ.By {T:Type}{r:cz T}{ro:Addr->Option Value}{e:TypeId}{ad:Option Addr}{n cap:Nat}{l:List T}{bw:List (Nat×Obj)}(h:aZ r ro e (.slice ad n cap) l bw){i:Nat}{x:T}(hi:l[i]?=some x):
  ∃b arr cs,ad=some ⟨b,0,none⟩/\bw=[(b,.cells arr e)]/\(∀off sp,ro ⟨b,off,sp⟩=none)/\r.rel ro x cs/\∀j v,cs[j]?=some v->arr[i*r.n+j]?=some v:=by
 obtain ⟨a,arr,m,cs,c,d,f,g,hm⟩:=h.elem hi
 injection c with k o p
 exact ⟨a,arr,cs,k,d,f,g,hm⟩
theorem aZ.jJ {T:Type}{r:cz T}{ro:Addr->Option Value}{e:TypeId}{b n cap:Nat}{l:List T}{arr:Array Value}(h:aZ r ro e (.slice (some ⟨b,0,none⟩) n cap) l [(b,.cells arr e)]){i:Nat}{x:T}(hi:l[i]?=some x):
  ∃cs,r.rel ro x cs/\∀j v,cs[j]?=some v->arr[i*r.n+j]?=some v:=by
 obtain ⟨d,cs,a,f,c,hm⟩:=h.elemAt hi
 simp only[List.cons.injEq,Prod.mk.injEq,Obj.cells.injEq,true_and,and_true] at a
 subst a
 exact ⟨cs,c,hm⟩
theorem aZ.tu {T:Type}{r:cz T}{ro:Addr->Option Value}{e:TypeId}{l:List T}{b n cap:Nat}{arr:Array Value}(h:aZ r ro e (.slice (some ⟨b,0,none⟩) n cap) l [(b,.cells arr e)]){i:Nat}{y:T}(hi:i<l.length){cs:List Value}(a:r.rel ro y cs):
  aZ r ro e (.slice (some ⟨b,0,none⟩) n cap) (l.set i y) [(b,.cells (c9 arr (i*r.n) cs) e)]:=h.setAt (List.getElem?_eq_getElem hi) a
theorem aZ.jg {T:Type}{r:cz T}{ro:Addr->Option Value}{e:TypeId}{ad:Option Addr}{n cap:Nat}{l:List T}{bw:List (Nat×Obj)}(h:aZ r ro e (.slice ad n cap) l bw)(a:l.isEmpty=false):
  ∃b arr,ad=some ⟨b,0,none⟩/\bw=[(b,.cells arr e)]/\(∀off sp,ro ⟨b,off,sp⟩=none):=by
 cases l with
 |nil=>cases a
 |cons x l=>
  obtain ⟨b,arr,cs,c,d,f,_⟩:=h.By (i:=0) rfl
  exact ⟨b,arr,c,d,f⟩
theorem aZ.ir {T:Type}{r:cz T}{ro:Addr->Option Value}{e:TypeId}{b n cap:Nat}{l:List T}{bw:List (Nat×Obj)}(h:aZ r ro e (.slice (some ⟨b,0,none⟩) n cap) l bw):∃arr,bw=[(b,.cells arr e)]:=by
 obtain ⟨ls,hg,-⟩:=h;rcases hg with ⟨a,_,_⟩|⟨d,arr,f,a,c,_⟩
 .cases a
 .cases a;exact ⟨arr,c⟩
theorem aZ.count {T:Type}{r:cz T}{ro:Addr->Option Value}{e:TypeId}{ad:Option Addr}{n cap:Nat}{l:List T}{bw:List (Nat×Obj)}(h:aZ r ro e (.slice ad n cap) l bw):l.length=n:=by
 obtain ⟨b,c,a,_⟩:=h.len;cases a;rfl
end Go.Sep
end

/- A part of the proof: QS2. -/
import Derived.Test.YtbpddfapodiemaaGreatDoorQS1
import Derived.WalkKit
import Derived.IntWalk
import Derived.NoCompilerSame
import Derived.Test.YtbpddfapodiemaaGreatDoorProg
set_option linter.all false
section
namespace Go.Sep
open Go Go.Conc
section
variable {α β:Type}{P:Program}{Q:α->af->Prop}{F:af}
@[go_sem] theorem bT (a:α):bq P (Pure.pure a) Q F=Q a F:=rfl
@[go_sem] theorem Nw (a:α):bq P (Sem.pure a) Q F=Q a F:=rfl
@[go_sem] theorem bH {R:β->af->Prop}(x:Sem α)(f:α->Sem β):bq P (x>>= f) R F=bq P x (fun a G=>bq P (f a) R G) F:=propext (Ak x F)
@[go_sem] theorem Ny {R:β->af->Prop}(x:Sem α)(f:α->β):bq P (Functor.map f x) R F=bq P x (fun a G=>R (f a) G) F:=propext (Ak x F)
@[go_sem] theorem dR (c:Prop)[Decidable c](x y:Sem α):bq P (if c then x else y) Q F=if c then bq P x Q F else bq P y Q F:=by split<;>rfl
@[go_sem] theorem AM {Q:Value->af->Prop}(a:Addr):bq P (load a) Q F=∃v,F.get a=some v/\Q v F:=by simp[load,bq]
@[go_sem] theorem Fy {Q:Unit->af->Prop}(a:Addr)(v:Value):bq P (store a v) Q F=∃F',F.mN a v=some F'/\Q () F':=by simp[store,bq]
theorem qy {Q:Nat->af->Prop}(o:Obj):bq P (newObj o) Q F=(o.isChan=false/\∀b,eC F b->Q b (F.push b o)):=rfl
theorem kN {Q:Program->af->Prop}:bq P program Q F=Q P F:=rfl
theorem v8 {Q:Nat->af->Prop}(q:Question):bq P (choose q) Q F=if q.forced then Q 0 F else ∀t,Q (q.cut t) F:=rfl
theorem oF {Q:Obj->af->Prop}(r:Nat):bq P (getObj r) Q F=∃o,F.fL r=some o/\Q o F:=rfl
theorem mQ {Q:Unit->af->Prop}(r:Nat)(o:Obj):bq P (Go.setObj r o) Q F=(o.isChan=false/\(F.fL r).isSome=true/\Q () (F.put r o)):=rfl
theorem Nz (s:String):bq P (stuck s:Sem α) Q F=False:=rfl
theorem NA {Q:Unit->af->Prop}(m:Mark):bq P (mark m) Q F=(qt m=true/\Q () F):=rfl
attribute [go_sem] qy kN v8 oF mQ Nz NA
@[go_sem] theorem dS {Q:TypeDesc->af->Prop}(t:TypeId):bq P (underlying t) Q F=match P.underlying t with|some d=>Q d F|none=>False:=by
 simp only[underlying,bH,kN];cases P.underlying t<;>rfl
@[go_sem] theorem qz {Q:TypeInfo->af->Prop}(t:TypeId):bq P (typeInfo t) Q F=match P.info? t with|some d=>Q d F|none=>False:=by
 simp only[typeInfo,bH,kN];cases P.info? t<;>rfl
def cq (P:Program)(t:TypeId):Option Nat:=(P.info? t).map (·.size)
def zeroOf (P:Program)(t:TypeId):Option Value:=(P.info? t).bind (·.zero)
def bytesOf (P:Program)(t:TypeId):Option Nat:=(P.info? t).map (·.bytes)
@[go_sem] theorem e5 {Q:Nat->af->Prop}(t:TypeId):bq P (sizeOf t) Q F=match cq P t with|some n=>Q n F|none=>False:=by
 simp only[sizeOf,bH,qz,cq];cases P.info? t<;>rfl
@[go_sem] theorem mR {Q:Value->af->Prop}(t:TypeId):bq P (zeroValue t) Q F=match zeroOf P t with|some n=>Q n F|none=>False:=by
 simp only[zeroValue,bH,qz,zeroOf];cases P.info? t with
 |none=>rfl
 |some i=>simp only[Option.bind_some];cases i.zero<;>rfl
def cN (P:Program)(t:TypeId):Option Bool:=(P.underlying t).map fun| .struct _=>true| .array _ _=>true|_=>false
@[go_sem] theorem mS {Q:Bool->af->Prop}(t:TypeId):bq P (isAgg t) Q F=match cN P t with|some n=>Q n F|none=>False:=by
 simp only[isAgg,bH,dS,cN];cases P.underlying t with
 |none=>rfl
 |some d=>cases d<;>rfl
def af.mT (F:af)(a:Addr):Nat->List Value->Prop
 |_,[]=>True
 |i,v::vs=>F.get (a.add i)=some v/\F.mT a (i+1) vs
theorem v9 {Q:Array Value->af->Prop}(a:Addr):∀(vs:List Value) (i:Nat) (acc:Array Value),F.mT a i vs->Q (acc++vs.toArray) F->bq P (loadCellsFrom a i vs.length acc) Q F
 |[],i,acc,_,h=>by simpa [loadCellsFrom,bT] using h
 |v::vs,i,acc,hg,h=>by
  simp only[List.length_cons,loadCellsFrom,bH,AM]
  refine ⟨v,hg.1,v9 a vs (i+1) (acc.push v) hg.2 ?_⟩
  simpa using h
theorem Fz {Q:Value->af->Prop}{t:TypeId}{a:Addr}(vs:List Value)(ht:cN P t=some true)(hs:cq P t=some vs.length)(hg:F.mT a 0 vs)(h:Q (.agg vs.toArray) F):bq P (loadVar t a) Q F:=by
 simp only[loadVar,bH,mS,ht,dR,if_true,e5,hs,loadCells];exact v9 a vs 0 #[] hg (by simpa [bT] using h)
theorem FA {Q:Value->af->Prop}{t:TypeId}{a:Addr}(v:Value)(ht:cN P t=some false)(hg:F.get a=some v)(h:Q v F):bq P (loadVar t a) Q F:=by
 simp only[loadVar,bH,mS,ht,dR,AM];exact ⟨v,hg,h⟩
def af.js (F:af)(a:Addr):Nat->List Value->Option af
 |_,[]=>some F
 |i,v::vs=>match F.mN (a.add i) v with
  |some F'=>F'.js a (i+1) vs
  |none=>none
theorem qA {Q:Unit->af->Prop}(a:Addr):∀(vs:List Value) (i:Nat) (F F':af),F.js a i vs=some F'->Q () F'->bq P (storeCells a vs i) Q F
 |[],i,F,F',hg,h=>by simp only[af.js,Option.some.injEq] at hg;subst hg;simpa [storeCells,bT] using h
 |v::vs,i,F,F',hg,h=>by
  simp only[storeCells,bH,Fy]
  unfold af.js at hg
  split at hg
  .rename_i b c
   exact ⟨b,c,qA a vs (i+1) b F' hg h⟩
  .cases hg
theorem FB {Q:Unit->af->Prop}{t:TypeId}{a:Addr}{v:Value}(F':af)(hs:cq P t=some v.cells.size)(hg:F.js a 0 v.cells.toList=some F')(h:Q () F'):bq P (storeVar t a v) Q F:=by
 simp only[storeVar,bH,e5,hs,ne_eq,not_true_eq_false,if_false];exact qA a _ 0 F F' hg h
@[go_sem] theorem AN {Q:Addr->af->Prop}(t:TypeId)(v:Value):bq P (newVar t v) Q F=∀b,eC F b->Q ⟨b,0,none⟩ (F.push b (.cells v.cells t)):=by
 simp only[newVar,newRow,bH,qy,bT];simp[Obj.isChan]
@[go_sem] theorem sV {Q:Addr->af->Prop}(t:TypeId)(v:Array Value):bq P (newRow t v) Q F=∀b,eC F b->Q ⟨b,0,none⟩ (F.push b (.cells v t)):=by
 simp only[newRow,bH,qy,bT];simp[Obj.isChan]
theorem qB {Q:Addr->af->Prop}(a:Addr):bq P (Instr.sureAddr (.pointer (some a))) Q F=Q a F:=rfl
theorem lT {Q:IntKind×Int->af->Prop}(k:IntKind)(n:Int):bq P (asIntOf (.int k n)) Q F=Q (k,n) F:=rfl
theorem AO {Q:Int->af->Prop}(k:IntKind)(n:Int):bq P (asInt (.int k n)) Q F=Q n F:=rfl
theorem FC {Q:Bool->af->Prop}(b:Bool):bq P (asBool (.bool b)) Q F=Q b F:=rfl
theorem FD {Q:Array Value->af->Prop}(b:Array Value):bq P (asAgg (.agg b)) Q F=Q b F:=rfl
attribute [go_sem] qB lT AO FC FD
end
def slot (a:Act)(i:Nat):Value:=a.tmps.getD i undef
def sz (a:Act):Nat:=a.tmps.size
def bB (a:Act)(d:Option Tmp)(v:Value):Act:=a.put d v
def ev (a:Act)(x:Operand):Value:=a.eval x
theorem NB (a:Act)(t:Nat):ev a (.tmp t)=slot a t:=rfl
theorem NC (a:Act)(v:Value):ev a (.const v)=v:=rfl
theorem ND (a:Act)(g:Nat):ev a (.global g)= .pointer (some ⟨g,0,none⟩):=rfl
theorem NF (a:Act)(f:Nat):ev a (.func f)= .func (.func f) #[] #[]:=rfl
theorem NG (a:Act)(v:Value):bB a none v=a:=rfl
attribute [go_sem] NB NC ND NF NG
@[go_sem] theorem AP (a:Act)(d:Option Tmp)(v:Value):sz (bB a d v)=sz a:=by cases d<;>simp[sz,bB,Act.put]
theorem FE (a:Act)(d:Nat)(v:Value)(h:d<sz a):slot (bB a (some d) v) d=v:=by
 simp only[sz] at h;simp[slot,bB,Act.put,h]
theorem we (a:Act)(d i:Nat)(v:Value)(h:¬d=i):slot (bB a (some d) v) i=slot a i:=by
 simp[slot,bB,Act.put,Array.getElem?_setIfInBounds_ne h]
@[go_sem] theorem NH (a:Act)(d i:Nat)(v:Value)(h:d<sz a):slot (bB a (some d) v) i=if d=i then v else slot a i:=by
 split
 .rename_i e;subst e;exact FE a d v h
 .rename_i e;exact we a d i v e
@[go_sem] theorem AQ (a:Act)(d:Option Tmp)(v:Value):(bB a d v).defers=a.defers:=by cases d<;>rfl
theorem aE.start {P:Program}{f:FuncId}{fn:Func}{c:Code}{n:Nat}{args:Array Value}{F:af}{R:Value->af->Prop}(b:P.funcs[f]?=some fn)(hb:fn.body=some c)(a:fn.ntmps=n)(d:args.size<=n)
  (h:∀main J,Closed P main J->∀A:Act,sz A=n->A.defers=[]->(∀i,slot A i=args.getD i undef)->Wp J c (sR P fn R) A F):aE P f args F R:=
 aE.of_wp b hb fun main J hJ=>h main J hJ _ (by simp[sz,a];omega) rfl fun i=>by
  simp only[slot,a,Array.getD_eq_getD_getElem?]
  rcases Nat.lt_or_ge i args.size with hi|hi
  .rw[Array.getElem?_append_left hi]
  .rw[Array.getElem?_append_right hi,Array.getElem?_replicate,Array.getElem?_eq_none hi]
   split<;>rfl
def dH (P:Program)(t:TypeId):Option TypeId:=match P.underlying t with|some (.slice e)=>some e|_=>none
def lU (P:Program)(t:TypeId):Option (Nat×TypeId):=match P.underlying t with|some (.array n e)=>some (n,e)|_=>none
def c9 (P:Program)(t:TypeId)(n:Nat):Option Nat:=
 match P.underlying t with
 |some (.struct a)=>match a[n]? with
  |some f=>match cq P f.type with
   |some (_+1)=>some f.offset
   |_=>none
  |none=>none
 |_=>none
def wh (P:Program)(t:TypeId)(n:Nat):Option (Nat×Nat×Bool):=
 match P.underlying t with
 |some (.struct a)=>match a[n]? with
  |some f=>match cq P f.type,cN P f.type with
   |some s,some g=>some (f.offset,s,g)
   |_,_=>none
  |none=>none
 |_=>none
def placesOf (P:Program)(t:TypeId):Option (List (Nat×Nat)):=
 match P.underlying t with
 |some (.struct a)=>a.toList.mapM fun f=>(cq P f.type).map fun s=>(f.offset,s)
 |_=>none
def aS (P:Program)(f:FuncId):Bool:=match P.funcs[f]? with|some fn=>!(fn.body.isNone||fn.name== "runtime.NumGoroutine")|none=>false
def af.dJ (F:af)(a:Addr):Nat->Nat->Option (List Value)
 |_,0=>some []
 |i,n+1=>match F.get (a.add i) with
  |some v=>match F.dJ a (i+1) n with
   |some vs=>some (v::vs)
   |none=>none
  |none=>none
theorem wj (F:af)(a:Addr):∀(n i:Nat) (vs:List Value),F.dJ a i n=some vs->F.mT a i vs/\vs.length=n
 |0,i,vs,h=>by simp only[af.dJ,Option.some.injEq] at h;subst h;exact ⟨trivial,rfl⟩
 |n+1,i,vs,h=>by
  unfold af.dJ at h
  split at h
  .rename_i v b
   split at h
   .rename_i ws c
    cases h
    obtain ⟨d,e⟩:=wj F a n (i+1) ws c
    exact ⟨⟨b,d⟩,by simp[e]⟩
   .cases h
  .cases h
def fR (P:Program)(F:af)(t:TypeId)(ad:Addr):Option Value:=
 match cN P t with
 |some false=>F.get ad
 |some true=>match cq P t with
  |some n=>match F.dJ ad 0 n with
   |some vs=>some (.agg vs.toArray)
   |none=>none
  |none=>none
 |none=>none
def sW (P:Program)(F:af)(t:TypeId)(ad:Addr)(v:Value):Option af:=
 match cq P t with
 |some n=>if n=v.cells.size then F.js ad 0 v.cells.toList else none
 |none=>none
theorem AR {P:Program}{F:af}{t:TypeId}{ad:Addr}{v:Value}{Q:Value->af->Prop}(h:fR P F t ad=some v)(a:Q v F):bq P (loadVar t ad) Q F:=by
 unfold fR at h;split at h
 .rename_i hg;exact FA v hg h a
 .rename_i hg;split at h
  .rename_i n b;split at h
   .rename_i vs c;cases h;obtain ⟨d,e⟩:=wj F ad n 0 vs c;exact Fz vs hg (by rw[b,e]) d a
   .cases h
  .cases h
 .cases h
theorem FF {P:Program}{F F':af}{t:TypeId}{ad:Addr}{v:Value}{Q:Unit->af->Prop}(h:sW P F t ad v=some F')(a:Q () F'):bq P (storeVar t ad v) Q F:=by
 unfold sW at h;split at h
 .rename_i n b;split at h
  .rename_i e;exact FB F' (by rw[b,e]) h a
  .cases h
 .cases h
def oG (op:BinOp):Value->Value->Option Value
 | .int k a,.int c b=>if k=c then match op with
   | .add=>some (.int k (k.wrap (a+b)))
   | .sub=>some (.int k (k.wrap (a - b)))
   | .mul=>some (.int k (k.wrap (a*b)))
   | .quo=>if b=0 then none else some (.int k (k.wrap (a.tdiv b)))
   | .rem=>if b=0 then none else some (.int k (a.tmod b))
   | .eql=>some (.bool (a==b))
   | .neq=>some (.bool (a != b))
   | .lss=>some (.bool (decide (a<b)))
   | .leq=>some (.bool (decide (a<=b)))
   | .gtr=>some (.bool (decide (a>b)))
   | .geq=>some (.bool (decide (a≥b)))
   | .shl=>if b<0 then none else some (.int k (k.wrap (a*2 ^ min b.toNat k.bits)))
   | .shr=>if b<0 then none else some (.int k (a.fdiv (2 ^ min b.toNat k.bits)))
   | .and=>some (.int k (k.wrap (BitVec.ofInt k.bits a&&& BitVec.ofInt k.bits b).toNat))
   | .or=>some (.int k (k.wrap (BitVec.ofInt k.bits a|||BitVec.ofInt k.bits b).toNat))
   | .andNot=>some (.int k (k.wrap (BitVec.ofInt k.bits a&&& ~~~(BitVec.ofInt k.bits b)).toNat))
   | .xor=>some (.int k (k.wrap (BitVec.ofInt k.bits a ^^^ BitVec.ofInt k.bits b).toNat))
  else none
 |_,_=>none
theorem ju {P:Program}{s:Sem Value}{Q:Next->af->Prop}{F:af}:bq P (do pure (Next.value (<-s)):Sem Next) Q F=bq P s (fun v G=>Q (.value v) G) F:=by
 simp only[bH,bT]
theorem wm {P:Program}(op:BinOp)(t:TypeId)(x y:Operand)(k c:IntKind)(a b:Int){Q:Unit->af->Prop}{F:af}(h:Q () F):bq P (eqGuard op t x y (.int k a) (.int c b)) Q F:=by
 unfold eqGuard;cases op<;>simp<;>exact h
theorem FG {P:Program}{op:BinOp}{t:TypeId}{x y:Operand}{u v w:Value}{Q:Value->af->Prop}{F:af}(h:oG op u v=some w)(c:Q w F):bq P (do eqGuard op t x y u v;binOp op t u v) Q F:=by
 unfold oG at h;split at h
 case h_2=>cases h
 rename_i k a e b;split at h
 case isFalse=>cases h
 rename_i d;subst d;rw[bH];refine wm op t x y k k a b ?_;cases op<;>simp only[binOp,ne_eq,not_true_eq_false,if_false,Op.intArith,Op.intDiv,Op.intCmp,Op.intBits,Op.shift,dR] at h ⊢<;>first
  |(cases h;done)
  |(cases h;exact c)
  |(split at h
    .cases h
    .rename_i hb;rw[if_neg hb];cases h;exact c)
def mU (op:UnOp):Value->Option Value
 | .int k a=>match op with
  | .neg=>some (.int k (k.wrap (0 - a)))
  |_=>none
 | .bool b=>match op with
  | .not=>some (.bool (!b))
  |_=>none
 |_=>none
theorem FH {P:Program}{op:UnOp}{u w:Value}{Q:Value->af->Prop}{F:af}(h:mU op u=some w)(a:Q w F):bq P (Op.unary op u) Q F:=by
 cases u<;>cases op<;>simp only[mU] at h<;>first|(cases h;done)|(cases h;exact a)
def sX:Value->Value->Option Value
 | .int k x,.int _ y=>some (.int k (if y>x then y else x))
 |_,_=>none
def sY:Value->Value->Option Value
 | .int k x,.int _ y=>some (.int k (if y<x then y else x))
 |_,_=>none
def qC (P:Program)(t:TypeId):Value->Value->Option Value
 | .slice (some ad) len _,.int _ i=>match dH P t with
  |some e=>match cq P e with
   |some n=>if 0<=i/\i<(len:Int) then some (.pointer (some (ad.add (i.toNat*n)))) else none
   |none=>none
  |none=>none
 | .pointer (some ad),.int _ i=>match lU P t with
  |some (len,e)=>match cq P e with
   |some n=>if 0<=i/\i<(len:Int) then some (.pointer (some (ad.add (i.toNat*n)))) else none
   |none=>none
  |none=>none
 |_,_=>none
theorem FI {P:Program}{t:TypeId}{u v w:Value}{Q:Value->af->Prop}{F:af}(h:qC P t u v=some w)(c:Q w F):bq P (Instr.indexAt t u v) Q F:=by
 unfold qC at h;split at h
 .rename_i ad len cap k i;split at h
  case h_2=>cases h
  rename_i e he;split at h
  case h_2=>cases h
  rename_i n a;split at h
  case isFalse=>cases h
  rename_i hi;cases h;have hu:P.underlying t=some (.slice e):=by
   unfold dH at he;split at he
   .rename_i d b;cases he;exact b
   .cases he
  simp only[Instr.indexAt,bH,lT,dS,hu,bT,dR,if_pos hi,e5,a];exact c
 .rename_i ad k i;split at h
  case h_2=>cases h
  rename_i len e he;split at h
  case h_2=>cases h
  rename_i n a;split at h
  case isFalse=>cases h
  rename_i hi;cases h;have hu:P.underlying t=some (.array len e):=by
   unfold lU at he;split at he
   .rename_i f d b;cases he;exact b
   .cases he
  simp only[Instr.indexAt,bH,lT,dS,hu,bT,qB,dR,if_pos hi,e5,a];exact c
 .cases h
def mV (P:Program)(t:TypeId)(x:Value)(lo hi:Option Value):Option Value:=
 match x,dH P t with
 | .slice ad len cap,some e=>match cq P e with
  |some n=>
   match (match lo with|none=>some 0|some (.int _ i)=>if 0<=i then some i.toNat else none|_=>none),(match hi with|none=>some len|some (.int _ i)=>if 0<=i then some i.toNat else none|_=>none) with
   |some l,some h=>if l<=h/\h<=cap then some (.slice (if cap=l then ad else ad.map (·.add (l*n))) (h - l) (cap - l)) else none
   |_,_=>none
  |none=>none
 | .pointer (some ad),none=>match lU P t,lo,hi with
  |some (n,e),none,none=>match cq P e with
   |some _=>some (.slice (some ad) n n)
   |none=>none
  |_,_,_=>none
 |_,_=>none
theorem FJ {P:Program}{t:TypeId}{x w:Value}{lo hi:Option Value}{Q:Value->af->Prop}{F:af}(hlen:∀ad len cap,x= .slice ad len cap->len<=cap)(h:mV P t x lo hi=some w)(c:Q w F):bq P (Instr.sliceAt t x lo hi none) Q F:=by
 unfold mV at h;split at h
 case h_3=>cases h
 case h_2=>
  rename_i ad _;split at h
  case h_2=>cases h
  rename_i n e he;have hu:P.underlying t=some (.array n e):=by
   unfold lU at he;split at he
   .rename_i r m f;cases he;exact f
   .cases he
  split at h
  case h_2=>cases h
  rename_i sz hs;cases h;simp only[Instr.sliceAt,bH,dS,hu,qB,Instr.sliceBounds,bT,e5,hs,Nat.zero_mul,Nat.sub_zero];have:(if n=0 then ad else ad.add 0)=ad:=by split<;>rfl
  rw[this];exact c
 rename_i ad len cap e he;have s:=hlen ad len cap rfl;have hu:P.underlying t=some (.slice e):=by
  unfold dH at he;split at he
  .rename_i m f;cases he;exact f
  .cases he
 split at h
 case h_2=>cases h
 rename_i n d;split at h
 case h_2=>cases h
 rename_i l u a b;split at h
 case isFalse=>cases h
 rename_i hb;cases h;simp only[Instr.sliceAt,bH,dS,hu,Instr.slice,Instr.sliceBounds,bT];cases hi with
 |none=>
  simp only[Option.some.injEq] at b;subst b;simp only[bT];cases lo with
  |none=>
   simp only[Option.some.injEq] at a;subst a;simp only[bT,e5,d];exact c
  |some v=>
   cases v<;>simp only[reduceCtorEq] at a;rename_i k i;split at a
   case isFalse=>cases a
   rename_i g;cases a;have:0<=i/\i<=(len:Int):=⟨g,aa⟩
   simp only[Instr.sliceBound,bH,lT,dR,if_pos this,bT,e5,d];exact c
 |some v=>
  cases v<;>simp only[reduceCtorEq] at b;rename_i k i;split at b
  case isFalse=>cases b
  rename_i g;cases b;have o:0<=i/\i<=(cap:Int):=⟨g,aa⟩
  simp only[Instr.sliceBound,bH,lT,dR,if_pos o,bT];cases lo with
  |none=>
   simp only[Option.some.injEq] at a;subst a;simp only[bT,e5,d];exact c
  |some v=>
   cases v<;>simp only[reduceCtorEq] at a;rename_i y j;split at a
   case isFalse=>cases a
   rename_i p;cases a;have q:0<=j/\j<=((i.toNat:Nat):Int):=⟨p,aa⟩
   simp only[bH,lT,dR,if_pos q,bT,e5,d];exact c
def hO:List Value->List Value->Option Bool
 |[],[]=>some true
 | .int k a::xs,.int c b::ys=>if k=c then match hO xs ys with
   |some r=>some (a==b&&r)
   |none=>none
  else none
 | .bool a::xs,.bool b::ys=>match hO xs ys with
   |some r=>some (a==b&&r)
   |none=>none
 |_,_=>none
theorem sZ:∀{xs ys:List Value} {us vs:List Value} {r:Bool},xs.length=ys.length->hO (xs++us) (ys++vs)=some r->∃r1 r2,hO xs ys=some r1/\hO us vs=some r2/\r=(r1&&r2)
 |[],[],us,vs,r,_,h=>⟨true,r,rfl,h,ax⟩
 |[],y::ys,_,_,_,a,_=>by simp at a
 |x::xs,[],_,_,_,a,_=>by simp at a
 |x::xs,y::ys,us,vs,r,a,h=>by
  have e:xs.length=ys.length:=by simpa using a
  cases x<;>cases y<;>simp only[List.cons_append,hO,reduceCtorEq] at h ⊢
  .split at h
   .rename_i f b
    obtain ⟨r1,r2,c,d,rfl⟩:=sZ e b
    cases h
    exact ⟨_,r2,by rw[c],d,by rw[Bool.and_assoc]⟩
   .cases h
  .split at h
   .rename_i g
    split at h
    .rename_i f b
     obtain ⟨r1,r2,c,d,rfl⟩:=sZ e b
     cases h
     exact ⟨_,r2,by rw[if_pos g,c],d,by rw[Bool.and_assoc]⟩
    .cases h
   .cases h
def Kd:List Bool->List Value->Prop
 |[],[]=>True
 |true::ks,.int _ _::xs=>Kd ks xs
 |false::ks,.bool _::xs=>Kd ks xs
 |_,_=>False
theorem Kd.length:∀{ks:List Bool} {xs:List Value},Kd ks xs->xs.length=ks.length
 |[],[],_=>rfl
 |[],x::xs,h=>by simp[Kd] at h
 |k::ks,[],h=>by cases k<;>simp[Kd] at h
 |k::ks,x::xs,h=>by
  have:Kd ks xs:=by cases k<;>cases x<;>simp only[Kd] at h<;>exact h
  simp[Kd.length this]
theorem Kd.split:∀{ks:List Bool} {ls:List Bool} {xs:List Value},Kd (ks++ls) xs->Kd ks (xs.take ks.length)/\Kd ls (xs.drop ks.length)
 |[],_,_,h=>⟨by simp[Kd],by simpa using h⟩
 |k::ks,ls,[],h=>by cases k<;>simp[Kd] at h
 |k::ks,ls,x::xs,h=>by
  cases k<;>cases x<;>simp only[List.cons_append,Kd] at h
  all_goals
   obtain ⟨a,b⟩:=Kd.split h
   exact ⟨by simpa [Kd] using a,by simpa using b⟩
def qD (P:Program)(g:TypeId->Option (List Bool)):List Field->Nat->Option (List Bool)
 |[],_=>some []
 |f::a,off=>if f.name≠ "_"/\f.offset=off then match g f.type with
   |some ks=>if cq P f.type=some ks.length then match qD P g a (off+ks.length) with
     |some ls=>some (ks++ls)
     |none=>none
    else none
   |none=>none
  else none
def kO (P:Program):Nat->TypeId->Option (List Bool)
 |0,_=>none
 |d+1,t=>match P.underlying t with
  |some .bool=>if cN P t=some false then some [false] else none
  |some (.int _)=>if cN P t=some false then some [true] else none
  |some (.struct a)=>if cN P t=some true/\P.stoodInHeld t=false then qD P (kO P d) a.toList 0 else none
  |some (.array n e)=>if cN P t=some true then match kO P d e with
    |some ks=>if cq P e=some ks.length then some (List.replicate n ks).flatten else none
    |none=>none
   else none
  |_=>none
def Sc (v:Value):Prop:=(∃k a,v= .int k a)\/∃b,v= .bool b
theorem Kd.sc:∀{ks:List Bool} {xs:List Value},Kd ks xs->∀x∈xs,Sc x
 |[],[],_=>by simp
 |[],x::xs,h=>by simp[Kd] at h
 |k::ks,[],h=>by simp
 |k::ks,x::xs,h=>by
  have:Sc x/\Kd ks xs:=by cases k<;>cases x<;>simp only[Kd] at h<;>first|exact ⟨.inl ⟨_,_,rfl⟩,h⟩|exact ⟨.inr ⟨_,rfl⟩,h⟩
  simpa using ⟨this.1,Kd.sc this.2⟩
theorem Sc.cells {v:Value}(h:Sc v):v.cells=#[v]:=by
 rcases h with ⟨k,a,rfl⟩|⟨b,rfl⟩<;>rfl
def Shape (P:Program)(t:TypeId)(v:Value):Prop:=(cN P t=some true->∃xs,v= .agg xs)/\(cN P t=some false->Sc v)
section
variable {P:Program}
theorem s0 {t:TypeId}{xs:Array Value}{off m:Nat}{g:Bool}{Q:Value->af->Prop}{F:af}(hg:cN P t=some g)(hs:cq P t=some m)(hm:g=false->m=1)(e:off+m<=xs.size)
  (d:∀x∈xs.toList,Sc x) (h:∀v,v.cells.toList=(xs.toList.drop off).take m->Shape P t v->Q v F):bq P (part t xs off) Q F:=by
 simp only[part,bH,mS,hg,dR]
 cases g with
 |true=>
  simp only[if_true,bH,e5,hs,bT]
  refine h _ ?_ ⟨fun _=>⟨_,rfl⟩,fun a=>by rw[hg] at a;cases a⟩
  simp only[Value.cells,Array.toList_extract,List.extract_eq_take_drop]
  congr 1;omega
 |false=>
  have:=hm rfl
  subst this
  have b:off<xs.size:=aa
  simp only[Bool.false_eq_true,if_false,Array.getElem?_eq_getElem b,bT]
  have c:=d xs[off] ax
  refine h _ ?_ ⟨fun a=>(by rw[hg] at a;cases a),fun _=>c⟩
  rw[c.cells]
  have:off<xs.toList.length:=by simpa using b
  rw[List.drop_eq_getElem_cons this]
  simp
def wo (P:Program)(d:Nat)(t:TypeId)(ks:List Bool):Prop:=
 ∀(u v:Value) (r:Bool) (Q:Bool->af->Prop) (F:af),Shape P t u->Shape P t v->Kd ks u.cells.toList->Kd ks v.cells.toList->hO u.cells.toList v.cells.toList=some r->Q r F->bq P (Op.equalIn d t u v) Q F
theorem AS {d t:Nat}{ks:List Bool}(h:kO P d t=some ks):∃g,cN P t=some g/\(g=false->ks.length=1):=by
 cases d with
 |zero=>cases h
 |succ d=>
  unfold kO at h;split at h
  .split at h
   .rename_i hg;cases h;exact ⟨_,hg,fun _=>rfl⟩
   .cases h
  .split at h
   .rename_i hg;cases h;exact ⟨_,hg,fun _=>rfl⟩
   .cases h
  .split at h
   .rename_i hg;exact ⟨true,hg.1,fun x=>by cases x⟩
   .cases h
  .split at h
   .rename_i hg;exact ⟨true,hg,fun x=>by cases x⟩
   .cases h
  .cases h
theorem AT {d:Nat}(ih:∀t ks,kO P d t=some ks->wo P d t ks){xs ys:Array Value}{Q:Bool->af->Prop}{F:af}(n:∀x∈xs.toList,Sc x)(o:∀x∈ys.toList,Sc x):
  ∀(c:List Field) (off:Nat) (ks:List Bool) (r:Bool),qD P (kO P d) c off=some ks->Kd ks (xs.toList.drop off)->Kd ks (ys.toList.drop off)->hO (xs.toList.drop off) (ys.toList.drop off)=some r->off<=xs.size->off<=ys.size->Q r F->
  bq P (do
   let x<-forIn c ((none,()):Option Bool×Unit) fun f _=>do
    if f.name≠ "_" then
     if (!(<-Op.equalIn d f.type (<-part f.type xs f.offset) (<-part f.type ys f.offset)))=true then pure (ForInStep.done (some false,())) else pure (ForInStep.yield (none,()))
    else pure (ForInStep.yield (none,()))
   match x.fst with
    |some a=>pure a
    |none=>pure true:Sem Bool) Q F
 |[],off,ks,r,b,e,h,he,_,_,i=>by
  simp only[qD,Option.some.injEq] at b
  subst b
  have j:=e.length
  have l:=h.length
  rw[List.eq_nil_of_length_eq_zero j,List.eq_nil_of_length_eq_zero l] at he
  cases he
  simp only[List.forIn_nil,bH,bT]
  exact i
 |f::c,off,ks,r,b,e,h,he,G,H,i=>by
  unfold qD at b
  split at b
  case isFalse=>cases b
  rename_i m
  obtain ⟨m,rfl⟩:=m
  split at b
  case h_2=>cases b
  rename_i k p
  split at b
  case isFalse=>cases b
  rename_i hs
  split at b
  case h_2=>cases b
  rename_i ls z
  cases b
  obtain ⟨g,hg,q⟩:=AS p
  have A:=e.length
  have B:=h.length
  simp only[List.length_drop,Array.length_toList,List.length_append] at A B
  obtain ⟨C,s⟩:=e.split
  obtain ⟨D,w⟩:=h.split
  rw[List.drop_drop] at s w
  have e1:xs.toList.drop f.offset=(xs.toList.drop f.offset).take k.length++xs.toList.drop (f.offset+k.length):=by
   rw[<-List.drop_drop,List.take_append_drop]
  have e2:ys.toList.drop f.offset=(ys.toList.drop f.offset).take k.length++ys.toList.drop (f.offset+k.length):=by
   rw[<-List.drop_drop,List.take_append_drop]
  rw[e1,e2] at he
  obtain ⟨r1,r2,j,l,rfl⟩:=sZ (by simp;omega) he
  simp only[List.forIn_cons,bH,if_pos m]
  refine s0 hg hs q aa n fun u hu E=>?_
  refine s0 hg hs q aa o fun v y sv=>?_
  refine ih _ _ p u v r1 _ F E sv (by rw[hu];exact C) (by rw[y];exact D) (by rw[hu,y];exact j) ?_
  cases r1 with
  |false=>simpa [bT,dR] using i
  |true=>
   have:=AT ih n o c (f.offset+k.length) ls r2 z s w l aa aa (Q:=Q) (F:=F) (by simpa using i)
   simpa [bT,dR,bH] using this
theorem AU {d e k:Nat}{ks:List Bool}{g:Bool}(t:wo P d e ks)(h:ks.length=k)(hg:cN P e=some g)(j:g=false->ks.length=1)(hs:cq P e=some ks.length){xs ys:Array Value}{Q:Bool->af->Prop}{F:af}(w:∀x∈xs.toList,Sc x)(y:∀x∈ys.toList,Sc x):
  ∀(n i:Nat) (r:Bool),Kd (List.replicate n ks).flatten (xs.toList.drop (i*k))->Kd (List.replicate n ks).flatten (ys.toList.drop (i*k))->hO (xs.toList.drop (i*k)) (ys.toList.drop (i*k))=some r->i*k<=xs.size->i*k<=ys.size->Q r F->
  bq P (do
   let x<-forIn (List.range' i n) ((none,()):Option Bool×Unit) fun i _=>do
    if (!(<-Op.equalIn d e (<-part e xs (i*k)) (<-part e ys (i*k))))=true then pure (ForInStep.done (some false,())) else pure (ForInStep.yield (none,()))
   match x.fst with
    |some a=>pure a
    |none=>pure true:Sem Bool) Q F
 |0,i,r,b,c,he,_,_,f=>by
  have l:=b.length
  have m:=c.length
  rw[List.eq_nil_of_length_eq_zero l,List.eq_nil_of_length_eq_zero m] at he
  cases he
  simp only[List.range'_zero,List.forIn_nil,bH,bT]
  exact f
 |n+1,i,r,b,c,he,E,G,f=>by
  have o:(i+1)*k=i*k+k:=by simp only[Nat.add_mul,Nat.one_mul]
  have B:=b.length
  have C:=c.length
  simp only[List.replicate_succ,List.flatten_cons,List.length_drop,Array.length_toList,List.length_append] at B C
  simp only[List.replicate_succ,List.flatten_cons] at b c
  obtain ⟨z,p⟩:=b.split
  obtain ⟨A,q⟩:=c.split
  rw[h] at z p A q
  rw[List.drop_drop,<-o] at p q
  have e1:xs.toList.drop (i*k)=(xs.toList.drop (i*k)).take k++xs.toList.drop ((i+1)*k):=by
   rw[o,<-List.drop_drop,List.take_append_drop]
  have e2:ys.toList.drop (i*k)=(ys.toList.drop (i*k)).take k++ys.toList.drop ((i+1)*k):=by
   rw[o,<-List.drop_drop,List.take_append_drop]
  rw[e1,e2] at he
  obtain ⟨r1,r2,l,m,rfl⟩:=sZ (by simp;omega) he
  simp only[List.range'_succ,List.forIn_cons,bH]
  refine s0 hg hs j aa w fun u hu D=>?_
  refine s0 hg hs j aa y fun v s sv=>?_
  rw[h] at hu s
  refine t u v r1 _ F D sv (by rw[hu];exact z) (by rw[s];exact A) (by rw[hu,s];exact l) ?_
  cases r1 with
  |false=>simpa [bT,dR] using f
  |true=>
   have:=AU t h hg j hs w y n (i+1) r2 p q m aa aa (Q:=Q) (F:=F) (by simpa using f)
   simpa [bT,dR,bH] using this
theorem wq:∀(d t:Nat) (ks:List Bool),kO P d t=some ks->wo P d t ks
 |0,_,_,h=>by cases h
 |d+1,t,ks,h=>by
  intro u v r Q F i sv hu c he j
  unfold kO at h
  split at h
  .rename_i f
   split at h
   case isFalse=>cases h
   rename_i hg
   cases h
   have a1:=i.2 hg
   have a2:=sv.2 hg
   rw[a1.cells] at he hu
   rw[a2.cells] at he c
   simp only[Op.equalIn,bH,dS,f]
   rcases a1 with ⟨k,a,rfl⟩|⟨a,rfl⟩<;>rcases a2 with ⟨m,b,rfl⟩|⟨b,rfl⟩<;>simp[Kd] at hu c
   simp[hO] at he
   subst he
   simpa [bT] using j
  .rename_i f
   split at h
   case isFalse=>cases h
   rename_i hg
   cases h
   have a1:=i.2 hg
   have a2:=sv.2 hg
   rw[a1.cells] at he hu
   rw[a2.cells] at he c
   simp only[Op.equalIn,bH,dS,f]
   rcases a1 with ⟨k,a,rfl⟩|⟨a,rfl⟩<;>rcases a2 with ⟨m,b,rfl⟩|⟨b,rfl⟩<;>simp[Kd] at hu c
   simp[hO] at he
   obtain ⟨l,rfl⟩:=he
   simpa [bT,dR,l] using j
  .rename_i o f
   split at h
   case isFalse=>cases h
   rename_i hg
   obtain ⟨hg,p⟩:=hg
   obtain ⟨xs,rfl⟩:=i.1 hg
   obtain ⟨ys,rfl⟩:=sv.1 hg
   simp only[Op.equalIn,bH,dS,f,kN,p,Bool.false_eq_true,if_false,dR,bT]
   have:=AT (P:=P) (d:=d) (fun t ks q=>wq d t ks q) (xs:=xs) (ys:=ys) (Q:=Q) (F:=F) hu.sc c.sc o.toList 0 ks r h (by simpa [Value.cells] using hu) (by simpa [Value.cells] using c) (by simpa [Value.cells] using he) aa aa j
   rw[<-Array.forIn_toList]
   simp[bH] at this ⊢
   exact iD (fun a G h=>by rcases a with ⟨_|_,_⟩<;>exact h) _ _ this
  .rename_i n e f
   split at h
   case isFalse=>cases h
   rename_i hg
   split at h
   case h_2=>cases h
   rename_i k l
   split at h
   case isFalse=>cases h
   rename_i hs
   cases h
   obtain ⟨xs,rfl⟩:=i.1 hg
   obtain ⟨ys,rfl⟩:=sv.1 hg
   obtain ⟨g,s,w⟩:=AS l
   simp only[Op.equalIn,bH,dS,f,e5,hs]
   have:=AU (P:=P) (d:=d) (wq d e k l) rfl s w hs (xs:=xs) (ys:=ys) (Q:=Q) (F:=F) hu.sc c.sc n 0 r (by simpa [Value.cells] using hu) (by simpa [Value.cells] using c) (by simpa [Value.cells] using he) ax ax j
   simp only[Std.Legacy.Range.forIn_eq_forIn_range',Std.Legacy.Range.size,Nat.sub_zero,Nat.add_one_sub_one,Nat.div_one]
   simp[bH] at this ⊢
   exact iD (fun a G h=>by rcases a with ⟨_|_,_⟩<;>exact h) _ _ this
  .cases h
def jv:List Bool->List Value->Bool
 |[],[]=>true
 |true::ks,.int _ _::xs=>jv ks xs
 |false::ks,.bool _::xs=>jv ks xs
 |_,_=>false
theorem wu:∀{ks:List Bool} {xs:List Value},jv ks xs=true->Kd ks xs
 |[],[],_=>trivial
 |[],x::xs,h=>by simp[jv] at h
 |k::ks,[],h=>by cases k<;>simp[jv] at h
 |k::ks,x::xs,h=>by
  cases k<;>cases x<;>first
   |(simp only[jv,reduceCtorEq,Bool.false_eq_true] at h;done)
   |exact wu (ks:=ks) (xs:=xs) (by simpa only[jv] using h)
def mW (P:Program)(t:TypeId):Option (List Bool):=if P.eqGuardType P.depth t=false/\cN P t=some true then kO P Op.maxDepth t else none
def mX (P:Program)(t:TypeId):Value->Value->Option Bool
 | .agg xs,.agg ys=>match mW P t with
  |some ks=>if jv ks xs.toList&&jv ks ys.toList then hO xs.toList ys.toList else none
  |none=>none
 |_,_=>none
theorem wv {t:TypeId}{u v:Value}{r:Bool}{Q:Bool->af->Prop}{F:af}(h:mX P t u v=some r)(c:Q r F):bq P (Op.equal t u v) Q F/\P.eqGuardType P.depth t=false/\(∃xs,u= .agg xs)/\∃ys,v= .agg ys:=by
 unfold mX at h;split at h
 case h_2=>cases h
 rename_i xs ys;split at h
 case h_2=>cases h
 rename_i ks a;split at h
 case isFalse=>cases h
 rename_i b;simp only[Bool.and_eq_true] at b;unfold mW at a;split at a
 case isFalse=>cases a
 rename_i hg;refine ⟨?_,hg.1,⟨_,rfl⟩,_,rfl⟩;exact wq _ _ _ a _ _ r Q F ⟨fun _=>⟨_,rfl⟩,fun x=>by rw[hg.2] at x;cases x⟩ ⟨fun _=>⟨_,rfl⟩,fun x=>by rw[hg.2] at x;cases x⟩ (wu b.1) (wu b.2) h c
def wz (P:Program)(t:TypeId):Bool:=match P.underlying t with|some .bool=>true|_=>false
def kP (P:Program)(t:TypeId):Bool:=match P.underlying t with|some (.slice _)=>true|_=>false
def qE (P:Program)(t:TypeId):Value->Value->Option Bool
 | .bool a,.bool b=>if wz P t=true then some (a==b) else none
 | .slice none _ _,.slice b _ _=>if kP P t=true then some b.isNone else none
 | .slice (some _) _ _,.slice none _ _=>if kP P t=true then some false else none
 |_,_=>none
theorem AV {t:TypeId}{u v:Value}{r:Bool}{Q:Bool->af->Prop}{F:af}(h:qE P t u v=some r)(e:Q r F):bq P (Op.equal t u v) Q F/\((∃a b,u= .bool a/\v= .bool b)\/∃a n c b m d,u= .slice a n c/\v= .slice b m d):=by
 obtain ⟨d,hd⟩:∃d,Op.maxDepth=d+1:=⟨_,rfl⟩
 unfold qE at h;split at h
 .split at h
  .rename_i hb;cases h;unfold wz at hb;split at hb
   .rename_i hu;refine ⟨?_,.inl ⟨_,_,rfl,rfl⟩⟩;unfold Op.equal;rw[hd];simp only[Op.equalIn,bH,dS,hu,bT];exact e
   .cases hb
  .cases h
 .split at h
  .rename_i hb;cases h;unfold kP at hb;split at hb
   .rename_i hu;refine ⟨?_,.inr ⟨_,_,_,_,_,_,rfl,rfl⟩⟩;unfold Op.equal;rw[hd];simp only[Op.equalIn,bH,dS,hu,bT];exact e
   .cases hb
  .cases h
 .split at h
  .rename_i hb;cases h;unfold kP at hb;split at hb
   .rename_i hu;refine ⟨?_,.inr ⟨_,_,_,_,_,_,rfl,rfl⟩⟩;unfold Op.equal;rw[hd];simp only[Op.equalIn,bH,dS,hu,bT];exact e
   .cases hb
  .cases h
 .cases h
def qF (P:Program)(op:BinOp)(t:TypeId)(u v:Value):Option Value:=
 match oG op u v with
 |some w=>some w
 |none=>match op with
  | .eql=>match mX P t u v with
   |some r=>some (.bool r)
   |none=>match qE P t u v with
    |some r=>some (.bool r)
    |none=>none
  | .neq=>match mX P t u v with
   |some r=>some (.bool (!r))
   |none=>match qE P t u v with
    |some r=>some (.bool (!r))
    |none=>none
  | .shr=>match u,v with
   | .int k a,.int _ b=>if b<0 then none else some (.int k (a.fdiv (2 ^ min b.toNat k.bits)))
   |_,_=>none
  | .shl=>match u,v with
   | .int k a,.int _ b=>if b<0 then none else some (.int k (k.wrap (a*2 ^ min b.toNat k.bits)))
   |_,_=>none
  |_=>none
theorem FK {op:BinOp}{t:TypeId}{x y:Operand}{u v w:Value}{Q:Value->af->Prop}{F:af}(h:qF P op t u v=some w)(e:Q w F):bq P (do eqGuard op t x y u v;binOp op t u v) Q F:=by
 unfold qF at h;split at h
 .rename_i w' hw;cases h;exact FG hw e
 .split at h
  .split at h
   .rename_i r f;cases h;obtain ⟨g,i,⟨xs,rfl⟩,ys,rfl⟩:=wv (Q:=fun r G=>Q (.bool r) G) f e;simp only[bH,eqGuard,binOp,kN,i,dR,bT];simpa using g
   .split at h
    .rename_i r f;cases h;obtain ⟨g,i⟩:=AV (Q:=fun r G=>Q (.bool r) G) f e;rcases i with ⟨a,b,rfl,rfl⟩|⟨a,n,c,b,m,d,rfl,rfl⟩<;>
     .simp only[bH,eqGuard,binOp,kN,dR,bT];simpa using g
    .cases h
  .split at h
   .rename_i r f;cases h;obtain ⟨g,i,⟨xs,rfl⟩,ys,rfl⟩:=wv (Q:=fun r G=>Q (.bool (!r)) G) f e;simp only[bH,eqGuard,binOp,kN,i,dR,bT];simpa using g
   .split at h
    .rename_i r f;cases h;obtain ⟨g,i⟩:=AV (Q:=fun r G=>Q (.bool (!r)) G) f e;rcases i with ⟨a,b,rfl,rfl⟩|⟨a,n,c,b,m,d,rfl,rfl⟩<;>
     .simp only[bH,eqGuard,binOp,kN,dR,bT];simpa using g
    .cases h
  .split at h
   .split at h
    .cases h
    .rename_i hb;cases h;rw[bH];refine wm .shr t x y _ _ _ _ ?_;simp only[binOp,Op.shift,dR];rw[if_neg hb];exact e
   .cases h
  .split at h
   .split at h
    .cases h
    .rename_i hb;cases h;rw[bH];refine wm .shl t x y _ _ _ _ ?_;simp only[binOp,Op.shift,dR];rw[if_neg hb];exact e
   .cases h
  .cases h
end
theorem wA {P:Program}{t e:TypeId}(h:dH P t=some e):P.underlying t=some (.slice e):=by
 unfold dH at h;split at h
 .rename_i a he;cases h;exact he
 .cases h
theorem AW (n:Nat):∀(r c:Nat),Builtin.growBy n r c<=2 ^ r*(c+768)
 |0,c=>by simp[Builtin.growBy]
 |r+1,c=>by
  unfold Builtin.growBy
  split
  .have:1<=2 ^ (r+1):=Nat.one_le_two_pow
   have:=Nat.mul_le_mul_right (c+768) this
   omega
  .have h:=AW n r (c+(c+768)/4)
   refine Nat.le_trans h ?_
   rw[Nat.pow_succ,Nat.mul_assoc]
   refine Nat.mul_le_mul_left _ ?_
   omega
theorem nextslicecap_le {n c:Nat}(h:c<n)(b:n<=1000000):Builtin.nextslicecap n c<=20000000:=by
 unfold Builtin.nextslicecap;split
 .omega
 .split
  .omega
  .have a:=AW n 4 c;have e:(2:Nat) ^ 4=16:=aB;rw[e] at a;refine Nat.le_trans a ?_;omega
section
variable {P:Program}
theorem AX {Q:Array Value->af->Prop}{F:af}(a:Addr){n:Nat}{vs:List Value}(h:F.dJ a 0 n=some vs)(b:Q vs.toArray F):bq P (loadCells a n) Q F:=by
 obtain ⟨c,d⟩:=wj F a n 0 vs h;subst d;exact v9 a vs 0 #[] c (by simpa using b)
def gO (F:af)(size:Nat):Value->Option (List Value)
 | .slice (some a) n _=>F.dJ a 0 (n*size)
 | .slice none 0 _=>some []
 |_=>none
theorem wB {Q:Array Value->af->Prop}{F:af}{size n:Nat}{ad:Option Addr}{c:Nat}{vs:List Value}(h:gO F size (.slice ad n c)=some vs)(b:Q vs.toArray F):bq P (Builtin.firstCells size n (.slice ad n c)) Q F:=by
 cases ad with
 |none=>
  cases n with
  |zero=>simp only[gO,Option.some.injEq] at h;subst h;exact b
  |succ n=>simp[gO] at h
 |some a=>exact AX a h b
theorem wC {Q:Unit->af->Prop}{F:af}(n:Nat)(h:Q () F):bq P (askRoom n) Q F:=by
 unfold askRoom;rw[dR];split
 .exact ⟨rfl,h⟩
 .exact h
theorem wD {F:af}{Q:Value->af->Prop}{argTypes:Array TypeId}{ty i j e p:TypeId}{size d len cap n c:Nat}{base l:Option Addr}{z:Value}{old new:List Value}
  (q:argTypes[0]?=some i) (r:argTypes[1]?=some j) (he:dH P i=some e) (s:dH P j=some p) (hs:cq P e=some size) (u:zeroOf P e=some z) (hb:bytesOf P e=some d)
  (C:0<d) (v:d<=10000) (w:len+n<=1000000) (hold:gO F size (.slice base len cap)=some old) (m:gO F size (.slice l n c)=some new)
  (f:len+n<=cap->(∃a F',base=some a/\F.js (a.add (len*size)) 0 new=some F'/\Q (.slice base (len+n) cap) F')\/(base=none/\Q (.slice base (len+n) cap) F))
  (x:cap<len+n->∀k b,len+n<=k->eC F b->Q (.slice (some ⟨b,0,none⟩) (len+n) k) (F.push b (.cells (old.toArray++new.toArray++Builtin.zeroCells z.cells (k - (len+n))) e))):
  bq P (Builtin.append_ argTypes ty #[.slice base len cap,.slice l n c]) Q F:=by
 have hu:=wA he
 have y:=wA s
 unfold bytesOf at hb
 obtain ⟨info,hi,rfl⟩:=Option.map_eq_some_iff.1 hb
 simp only[Builtin.append_,q,r,List.getElem?_toArray,List.getElem?_cons_zero,List.getElem?_cons_succ,bH,dS,hu,y,e5,hs,bT,Builtin.lenOf,Bool.false_eq_true,if_false,dR,Bool.not_false,if_true,qz,hi]
 split
 .rename_i hle
  have f:=f hle
  refine wB m ?_
  rcases f with ⟨a,F',rfl,A,g⟩|⟨rfl,g⟩
  .simp only[bH]
   refine qA _ _ 0 F F' (by simpa using A) ?_
   exact g
  .exact g
 .rename_i D
  have B:=nextslicecap_le (n:=len+n) (c:=cap) aa w
  have e1:¬(((len+n:Nat):Int)>IntKind.i64.max/\(false=true\/info.bytes=0)):=by
   rintro ⟨_,h|h⟩
   .cases h
   .omega
  have e2:¬(Builtin.nextslicecap (len+n) cap*info.bytes>2 ^ 48):=by
   have:Builtin.nextslicecap (len+n) cap*info.bytes<=20000000*10000:=Nat.mul_le_mul B v
   omega
  rw[if_neg (by simpa using e1),if_neg e2]
  rw[v8]
  rw[if_neg (by simp[Question.forced])]
  intro t
  have o:len+n<=(Question.appendCap (len+n) cap e).cut t:=Nat.le_add_right _ _
  generalize (Question.appendCap (len+n) cap e).cut t=k at o ⊢
  refine wC _ ?_
  refine wB hold ?_
  refine wB m ?_
  simp only[bH,mR,u,sV,bT]
  exact fun b hb=>x aa k b o hb
end
theorem wE:∀{pre:List (Nat×Obj)} {b:Nat} {o:Obj},av pre b->lk (pre++[(b,o)]) b=some o
 |[],b,o,_=>by simp[lk]
 |(c,x)::pre,b,o,h=>by
  have hc:¬c=b:=fun e=>h.1 e.symm
  simp[lk,hc,wE h.2]
def cY (arr:Array Value)(k:Nat):List Value->Array Value
 |[]=>arr
 |v::vs=>cY (arr.setIfInBounds k v) (k+1) vs
theorem s3:∀(vs:List Value) (arr:Array Value) (k:Nat),(cY arr k vs).size=arr.size
 |[],_,_=>rfl
 |v::vs,arr,k=>by rw[cY,s3 vs];simp
theorem s4:∀(vs:List Value) (arr:Array Value) (k:Nat),k+vs.length<=arr.size->(cY arr k vs).toList=arr.toList.take k++vs++arr.toList.drop (k+vs.length)
 |[],arr,k,_=>by simp[cY]
 |v::vs,arr,k,h=>by
  simp only[List.length_cons] at h
  rw[cY,s4 vs _ _ (by simp;omega)]
  have a:k<arr.toList.length:=by simp;omega
  rw[Array.toList_setIfInBounds]
  have e1:(arr.toList.set k v).take (k+1)=arr.toList.take k++[v]:=by
   rw[List.take_succ_eq_append_getElem (by simpa using a),List.take_set_of_le (Nat.le_refl _)]
   simp
  have e2:(arr.toList.set k v).drop (k+1+vs.length)=arr.toList.drop (k+(v::vs).length):=by
   rw[List.drop_set_of_lt aa]
   congr 1
   simp;omega
  rw[e1,e2]
  simp
def Gr (ro:Addr->Option Value)(e:TypeId)(size:Nat)(v:Value)(l:List (List Value))(bu:List (Nat×Obj)):Prop:=
 (v= .slice none 0 0/\l=[]/\bu=[])\/
 ∃b arr cap,v= .slice (some ⟨b,0,none⟩) l.length cap/\bu=[(b,.cells arr e)]/\arr.size=cap*size/\l.length<=cap/\arr.toList.take (l.length*size)=l.flatten/\(∀x∈l,x.length=size)/\∀off sp,ro ⟨b,off,sp⟩=none
theorem iQ {size:Nat}:∀{l:List (List Value)},(∀x∈l,x.length=size)->l.flatten.length=l.length*size
 |[],_=>by simp
 |x::l,h=>by
  have ih:l.flatten.length=l.length*size:=iQ (fun y a=>h y (List.mem_cons_of_mem _ a))
  simp only[List.flatten_cons,List.length_append,List.length_cons,h x ax,ih,Nat.add_mul,Nat.one_mul]
  omega
theorem AY {ro:Addr->Option Value}{pre:List (Nat×Obj)}{b:Nat}{e:TypeId}{arr:Array Value}(a:av pre b)(c:∀off sp,ro ⟨b,off,sp⟩=none):∀(n i:Nat),i+n<=arr.size->
  af.dJ ⟨ro,pre++[(b,.cells arr e)]⟩ ⟨b,0,none⟩ i n=some ((arr.toList.drop i).take n)
 |0,i,_=>by simp[af.dJ]
 |n+1,i,h=>by
  have f:(⟨b,0,none⟩:Addr).add i=⟨b,i,none⟩:=by
   unfold Addr.add
   split
   .rename_i hi;subst hi;rfl
   .simp
  have d:i<arr.size:=aa
  unfold af.dJ
  have ih:=AY (e:=e) (arr:=arr) a c n (i+1) aa
  simp only[af.get,f,c,if_true,wE a,Option.bind_some,cellOf,Array.getElem?_eq_getElem d,ih]
  have g:i<arr.toList.length:=by simpa using d
  rw[List.drop_eq_getElem_cons g,List.take_succ_cons]
  simp
theorem Gr.gO {ro:Addr->Option Value}{e:TypeId}{size:Nat}{v:Value}{l:List (List Value)}{bu pre:List (Nat×Obj)}(h:Gr ro e size v l bu)(a:∀k∈keys bu,av pre k):
  Go.Sep.gO ⟨ro,pre++bu⟩ size v=some l.flatten:=by
 rcases h with ⟨rfl,rfl,rfl⟩|⟨b,arr,cap,rfl,rfl,hs,c,ht,f,d⟩
 .rfl
 .simp only[Go.Sep.gO]
  have hle:l.length*size<=arr.size:=by rw[hs];exact Nat.mul_le_mul_right _ c
  rw[AY (a b (by simp[keys])) d _ _ aa]
  simp[ht]
def qG (P:Program)(t:TypeId)(parts:List (Nat×Value)):Option Value:=
 match zeroOf P t,placesOf P t with
 |some z,some pl=>match Instr.fill (fun i=>pl[i]?) z.cells parts with
  |some cs=>some (.agg cs)
  |none=>none
 |_,_=>none
theorem AZ {P:Program}{Q:Array (Nat×Nat)->af->Prop}{F:af}:∀(a:List Field) (pl:List (Nat×Nat)) (acc:Array (Nat×Nat)),(a.mapM fun f=>(cq P f.type).map fun s=>(f.offset,s))=some pl->
  Q (acc++pl.toArray) F->bq P (a.foldlM (fun (b:Array (Nat×Nat)) f=>do let s<-sizeOf f.type;pure (b.push (f.offset,s))) acc) Q F
 |[],pl,acc,h,c=>by
  simp at h;subst h
  simpa [bT] using c
 |f::a,pl,acc,h,c=>by
  simp only[List.mapM_cons] at h
  cases hs:cq P f.type with
  |none=>simp[hs] at h
  |some s=>
   cases d:(a.mapM fun f=>(cq P f.type).map fun s=>(f.offset,s)) with
   |none=>simp[hs,d] at h
   |some e=>
    simp[hs,d] at h
    subst h
    simp only[List.foldlM_cons,bH,e5,hs,bT]
    exact AZ a e _ d (by simpa using c)
theorem FL {P:Program}{Q:Array (Nat×Nat)->af->Prop}{F:af}(a:Array Field)(pl:List (Nat×Nat))(h:(a.toList.mapM fun f=>(cq P f.type).map fun s=>(f.offset,s))=some pl)
  (b:Q pl.toArray F):bq P (a.mapM fun f=>do let s<-sizeOf f.type;pure (f.offset,s)) Q F:=by
 rw[Array.mapM_eq_foldlM,<-Array.foldlM_toList]
 have:=AZ (Q:=Q) (F:=F) a.toList pl #[] h (by simpa using b)
 simpa using this
theorem FM {P:Program}{t:TypeId}{parts:Array (Nat×Value)}{w:Value}{Q:Value->af->Prop}{F:af}(h:qG P t parts.toList=some w)(b:Q w F):bq P (Instr.build t parts) Q F:=by
 unfold qG at h;split at h
 case h_2=>cases h
 rename_i z pl c a;split at h
 case h_2=>cases h
 rename_i cs d;cases h;unfold placesOf at a;split at a
 case h_2=>cases a
 rename_i e f;simp only[Instr.build,bH,mR,c,dS,f];refine FL e pl a ?_;simp only[List.getElem?_toArray,d,bT];exact b
def s5 (P:Program)(t:TypeId)(len:Nat)(parts:List (Nat×Value)):Option (TypeId×Array Value):=
 match dH P t with
 |some e=>match cq P e,zeroOf P e with
  |some size,some z=>if len*size<=2 ^ 24/\0<len*size then
    match Instr.fill (fun i=>some (i*size,size)) ((Array.range (len*size)).map (z.cells[· % z.cells.size]!)) parts with
    |some cs=>some (e,cs)
    |none=>none
   else if len*size=0/\parts.isEmpty=true then some (e,#[]) else none
  |_,_=>none
 |none=>none
theorem FN {P:Program}{t:TypeId}{len:Nat}{parts:Array (Nat×Value)}{e:TypeId}{cs:Array Value}{Q:Value->af->Prop}{F:af}(h:s5 P t len parts.toList=some (e,cs))
  (d:∀b,eC F b->Q (.slice (some ⟨b,0,none⟩) len len) (F.push b (.cells cs e))):bq P (Instr.buildSlice t len parts) Q F:=by
 unfold s5 at h
 split at h
 case h_2=>cases h
 rename_i f he
 split at h
 case h_2=>cases h
 rename_i size z hs g
 split at h
 case isFalse=>
  split at h
  case isFalse=>cases h
  rename_i hb
  cases h
  have hu:P.underlying t=some (.slice e):=by
   unfold dH at he
   split at he
   .rename_i f a;cases he;exact a
   .cases he
  have c:¬(len*size>2 ^ 24):=by rw[hb.1];decide
  have i:parts.toList=[]:=List.isEmpty_iff.1 hb.2
  simp only[Instr.buildSlice,bH,dS,hu,e5,hs,dR,if_neg c,if_pos hb.1,bT,i]
  rw[hb.1]
  have e0:Array.range 0=#[]:=rfl
  simp only[e0,Array.map_empty,Instr.fill,bH,sV,bT]
  exact d
 rename_i hb
 split at h
 case h_2=>cases h
 rename_i cs' j
 cases h
 have hu:P.underlying t=some (.slice e):=by
  unfold dH at he
  split at he
  .rename_i f a;cases he;exact a
  .cases he
 have c:¬(len*size>2 ^ 24):=aa
 have k:¬(len*size=0):=aa
 simp only[Instr.buildSlice,bH,dS,hu,e5,hs,dR,if_neg c,if_neg k,mR,g,bT,j,sV]
 exact d
def qH (P:Program)(t:TypeId)(n:Nat):Value->Option Value
 | .agg cs=>match wh P t n with
  |some (off,s,true)=>some (.agg (cs.extract off (off+s)))
  |some (off,_,false)=>cs[off]?
  |none=>none
 |_=>none
theorem FO {P:Program}{t:TypeId}{n:Nat}{u w:Value}{Q:Value->af->Prop}{F:af}(h:qH P t n u=some w)(b:Q w F):bq P (Instr.field t u n) Q F:=by
 cases u<;>simp only[qH,reduceCtorEq] at h;rename_i cs;unfold wh at h;cases hu:P.underlying t with
 |none=>simp[hu] at h
 |some d=>
  cases d<;>simp only[hu,reduceCtorEq] at h;rename_i c;cases a:c[n]? with
  |none=>simp[a] at h
  |some f=>
   simp only[a] at h;cases hs:cq P f.type with
   |none=>simp[hs] at h
   |some s=>
    cases hg:cN P f.type with
    |none=>simp[hs,hg] at h
    |some g=>
     simp only[hs,hg] at h;simp only[Instr.field,bH,dS,hu,a,FD,part,mS,hg,dR];cases g with
     |true=>simp only[Option.some.injEq] at h;subst h;simpa [e5,hs,bT] using b
     |false=>
      simp only at h;simp only[Bool.false_eq_true,if_false,h];exact b
def s6 (n:Nat):Value->Option Value
 | .tuple vs=>vs[n]?
 |_=>none
def mY (P:Program)(src dst:TypeId):Value->Option Value
 | .int _ n=>match P.underlying src,P.underlying dst with
  |some (.int _),some (.int k)=>some (.int k (k.wrap n))
  |_,_=>none
 |_=>none
theorem FP {P:Program}{src dst:TypeId}{u w:Value}{Q:Value->af->Prop}{F:af}(h:mY P src dst u=some w)(a:Q w F):bq P (convert src dst u) Q F:=by
 cases u<;>simp only[mY,reduceCtorEq] at h;rename_i k n;split at h
 .rename_i k1 d b c;cases h;simp only[convert,bH,dS,b,c,Conv.intToInt,bT];exact a
 .cases h
def s7 (P:Program)(t:TypeId):Value->Option Value
 | .slice _ n _=>match dH P t with
  |some _=>some (.int .i64 n)
  |none=>none
 |_=>none
def qI (P:Program)(t:TypeId):Value->Value->Option Value
 | .agg cs,.int _ i=>match lU P t with
  |some (len,e)=>match cq P e,cN P e with
   |some s,some true=>if 0<=i/\i<(len:Int) then some (.agg (cs.extract (i.toNat*s) (i.toNat*s+s))) else none
   |some s,some false=>if 0<=i/\i<(len:Int) then cs[i.toNat*s]? else none
   |_,_=>none
  |none=>none
 | .string s,.int _ i=>match P.underlying t with
  |some .string=>if 0<=i then (s[i.toNat]?).map fun b=>.int .u8 b.toNat else none
  |_=>none
 |_,_=>none
theorem FQ {P:Program}{t:TypeId}{u v w:Value}{Q:Value->af->Prop}{F:af}(h:qI P t u v=some w)(a:Q w F):bq P (Instr.index t u v) Q F:=by
 unfold qI at h;split at h
 case h_3=>cases h
 case h_2=>
  rename_i s k i;split at h
  case h_2=>cases h
  rename_i hu;split at h
  case isFalse=>cases h
  rename_i hi;obtain ⟨b,hb,rfl⟩:=Option.map_eq_some_iff.1 h;simp only[Instr.index,bH,lT,dS,hu,if_pos hi,hb,bT];exact a
 rename_i cs k i;split at h
 case h_2=>cases h
 rename_i len e he;have hu:P.underlying t=some (.array len e):=by
  unfold lU at he;split at he
  .rename_i d f c;cases he;exact c
  .cases he
 split at h
 .rename_i s hs hg;split at h
  case isFalse=>cases h
  rename_i hi;cases h;simp only[Instr.index,bH,lT,dS,hu,dR,if_pos hi,e5,hs,part,mS,hg,if_true,bT];exact a
 .rename_i s hs hg;split at h
  case isFalse=>cases h
  rename_i hi;simp only[Instr.index,bH,lT,dS,hu,dR,if_pos hi,e5,hs,part,mS,hg,Bool.false_eq_true,if_false,h,bT];exact a
 .cases h
def mZ (P:Program)(argTypes:Array TypeId)(s x:Value)(R:Value->af->Prop)(F:af):Prop:=
 ∀ty,bq P (Builtin.append_ argTypes ty #[s,x]) (fun v F=>∃F0,Le F0 F/\R v F0) F
def Oper.oH (o:Oper):Bool:=match o.op with| .call {callee:=.builtin .append, ..}=>true|_=>false
def hU (P:Program)(J:Goroutine->af->Prop)(y:Value)(args:Array Value)(F:af)(R:Value->af->Prop):Prop:=
 match y with
 | .func (.func fn) first captured=>aS P fn=true/\dr P J fn (first++args++captured) F R
 | .func (.yield l) first captured=>first=#[]/\captured=#[]/\∃r,F.fL l=some (.loop r)/\args.size=r.params.size/\jX J l r.fn ((r.params.zip args).foldl (fun tmps (t,a)=>tmps.setIfInBounds t a) r.tmps) r.assign r.body F R
 |_=>False
theorem hU.mono {P:Program}{J:Goroutine->af->Prop}{y:Value}{args:Array Value}{F:af}{R a:Value->af->Prop}(h:hU P J y args F R)(b:∀v F',R v F'->a v F'):hU P J y args F a:=by
 unfold hU at h ⊢;split at h
 .exact ⟨h.1,h.2.mono b⟩
 .obtain ⟨e1,e2,r,c,d,e⟩:=h;exact ⟨e1,e2,r,c,d,e.mono b⟩
 .exact h.elim
theorem FR {P:Program}{J:Goroutine->af->Prop}{fn:FuncId}{first captured args:Array Value}{F:af}{R:Value->af->Prop}:hU P J (.func (.func fn) first captured) args F R=(aS P fn=true/\dr P J fn (first++args++captured) F R):=rfl
def fh (P:Program)(m:Sem Value)(R:Value->af->Prop)(F:af):Prop:=bq P m R F
def c5 (P:Program)(J:Goroutine->af->Prop)(o:Oper)(R:Value->af->Prop)(a:Act)(F:af):Prop:=
 match o.op with
 | .move x| .assign x=>R (ev a x) F
 | .nilCheck x=>match ev a x with
  | .pointer (some _)=>R (ev a x) F
  |_=>False
 | .pick c x y=>match ev a c with
  | .bool b=>R (if b then ev a x else ev a y) F
  |_=>False
 | .alloc t=>match zeroOf P t with
  |some z=>∀b,eC F b->R (.pointer (some ⟨b,0,none⟩)) (F.push b (.cells z.cells t))
  |none=>False
 | .box t x=>∀b,eC F b->R (.pointer (some ⟨b,0,none⟩)) (F.push b (.cells (ev a x).cells t))
 | .build t parts=>match qG P t (parts.map fun (i,x)=>(i,ev a x)).toList with
  |some v=>R v F
  |none=>False
 | .buildSlice t len parts=>match s5 P t len (parts.map fun (i,x)=>(i,ev a x)).toList with
  |some (e,cs)=>∀b,eC F b->R (.slice (some ⟨b,0,none⟩) len len) (F.push b (.cells cs e))
  |none=>False
 | .load t x=>match ev a x with
  | .pointer (some ad)=>match fR P F t ad with
   |some v=>R v F
   |none=>False
  |_=>False
 | .store t x y=>match ev a x with
  | .pointer (some ad)=>match sW P F t ad (ev a y) with
   |some F'=>R undef F'
   |none=>False
  |_=>False
 | .binOp op t x y _=>match qF P op t (ev a x) (ev a y) with
  |some v=>R v F
  |none=>False
 | .unOp op _ x=>match mU op (ev a x) with
  |some v=>R v F
  |none=>False
 | .convert src dst x=>match mY P src dst (ev a x) with
  |some v=>R v F
  |none=>False
 | .makeFunc fn first captured=>R (.func fn (first.map (ev a)) (captured.map (ev a))) F
 | .slice t x lo hi none=>(match ev a x with| .slice _ len cap=>len<=cap| .pointer (some _)=>True|_=>False)/\match mV P t (ev a x) (lo.map (ev a)) (hi.map (ev a)) with
  |some v=>R v F
  |none=>False
 | .fieldAddr s x n=>match ev a x with
  | .pointer (some ad)=>match c9 P s n with
   |some k=>R (.pointer (some (ad.add k))) F
   |none=>False
  |_=>False
 | .field s x n=>match qH P s n (ev a x) with
  |some v=>R v F
  |none=>False
 | .indexAddr t x i=>match qC P t (ev a x) (ev a i) with
  |some v=>R v F
  |none=>False
 | .index t x i=>match qI P t (ev a x) (ev a i) with
  |some v=>R v F
  |none=>False
 | .extract x n=>match s6 n (ev a x) with
  |some v=>R v F
  |none=>False
 | .call {callee:=.value x,args, ..}=>hU P J (ev a x) (args.map (ev a)) F R
 | .call {callee:=.builtin .len,args,argTypes}=>match argTypes[0]?,args[0]? with
  |some t,some x=>match s7 P t (ev a x) with
   |some v=>R v F
   |none=>fh P (Builtin.len_ argTypes o.type (args.map (ev a))) R F
  |_,_=>False
 | .makeMap t r=>fh P (Instr.makeMap t (r.map (ev a))) R F
 | .makeSlice t l c=>fh P (Instr.makeSlice t (ev a l) (ev a c)) R F
 | .mapUpdate t m k x=>fh P (Instr.mapUpdate t (ev a m) (ev a k) (ev a x)>>= fun _=>pure undef) R F
 | .call {callee:=.builtin .clear,args,argTypes}=>fh P (Builtin.clear_ argTypes o.type (args.map (ev a))) R F
 | .call {callee:=.builtin .cap,args,argTypes}=>fh P (Builtin.cap_ argTypes o.type (args.map (ev a))) R F
 | .call {callee:=.builtin .copy,args,argTypes}=>fh P (Builtin.copy_ argTypes o.type (args.map (ev a))) R F
 | .call {callee:=.builtin .append,args,argTypes}=>match args.toList with
  |[x,y]=>mZ P argTypes (ev a x) (ev a y) R F
  |_=>False
 | .call {callee:=.builtin .max,args, ..}=>match args.toList with
  |[x,y]=>match sX (ev a x) (ev a y) with
   |some v=>R v F
   |none=>False
  |_=>False
 | .call {callee:=.builtin .min,args, ..}=>match args.toList with
  |[x,y]=>match sY (ev a x) (ev a y) with
   |some v=>R v F
   |none=>False
  |_=>False
 |_=>False
theorem e6 (a:Act):a.eval=ev a:=rfl
theorem A0 {P:Program}{J:Goroutine->af->Prop}{o:Oper}{R:Value->af->Prop}{D:Deferred->af->Prop}{a:Act}{F:af}(B:Oper.oH o=false)(h:c5 P J o R a F):bq P (execOp a.eval o) (gf P J R D) F:=by
 obtain ⟨dst,op,type,pos,after,guard⟩:=o;unfold execOp;simp only[e6];unfold c5 at h;simp only at h;cases op<;>simp only at h ⊢
 case move x=>exact h
 case assign x=>exact h
 case nilCheck x=>
  split at h
  .rename_i ad g;simp only[g,bT,gf];rw[g] at h;exact h
  .exact h.elim
 case pick c x y=>
  split at h
  .rename_i b hb;simp only[bH,hb,FC,bT,gf];exact h
  .exact h.elim
 case alloc t=>
  split at h
  .rename_i z C;simp only[Instr.alloc,bH,mR,C,AN,bT,gf];exact h
  .exact h.elim
 case box t x=>
  simp only[Instr.box,bH,AN,bT,gf];exact h
 case build t parts=>
  split at h
  .rename_i v d;simp only[bH,bT];exact FM d h
  .exact h.elim
 case buildSlice t len parts=>
  split at h
  .rename_i e cs d;simp only[bH,bT];exact FN d h
  .exact h.elim
 case load t x=>
  split at h
  case h_2=>exact h.elim
  rename_i ad p;split at h
  case h_2=>exact h.elim
  rename_i v d;simp only[Instr.loadAt,bH,p,qB,bT];exact AR d h
 case store t x y=>
  split at h
  case h_2=>exact h.elim
  rename_i ad p;split at h
  case h_2=>exact h.elim
  rename_i F' E;simp only[Instr.storeAt,bH,p,qB,bT];exact FF E h
 case binOp op t x y W=>
  split at h
  case h_2=>exact h.elim
  rename_i v d;rw[ju];exact FK d h
 case unOp op t x=>
  split at h
  case h_2=>exact h.elim
  rename_i v d;rw[ju];exact FH d h
 case convert src dst x=>
  split at h
  case h_2=>exact h.elim
  rename_i v d;rw[ju];exact FP d h
 case makeFunc fn first captured=>
  simp only[Instr.makeFunc,bH,bT,gf];exact h
 case slice t x lo hi G=>
  cases G with
  |some m=>exact h.elim
  |none=>
   simp only at h;obtain ⟨q,h⟩:=h;split at h
   case h_2=>exact h.elim
   rename_i v d;rw[ju];exact FJ (fun ad len cap e=>by rw[e] at q;exact q) d h
 case fieldAddr s x n=>
  split at h
  case h_2=>exact h.elim
  rename_i ad p;split at h
  case h_2=>exact h.elim
  rename_i k j;unfold c9 at j;split at j
  case h_2=>cases j
  rename_i X H;split at j
  case h_2=>cases j
  rename_i f u;split at j
  case h_2=>cases j
  rename_i m hm;cases j;rw[ju];simp only[Instr.fieldAt,bH,dS,H,u,p,qB,fieldPlace,e5,hm];simpa [bT,gf] using h
 case field s x n=>
  split at h
  case h_2=>exact h.elim
  rename_i v d;rw[ju];exact FO d h
 case indexAddr t x i=>
  split at h
  case h_2=>exact h.elim
  rename_i v d;rw[ju];exact FI d h
 case index t x i=>
  split at h
  case h_2=>exact h.elim
  rename_i v d;rw[ju];exact FQ d h
 case extract x n=>
  split at h
  case h_2=>exact h.elim
  rename_i v d;rw[ju];unfold s6 at d;split at d
  .rename_i vs I;simp only[I,Instr.extract,d];exact h
  .cases d
 case makeMap t r=>
  rw[ju];exact h
 case makeSlice t l c=>
  rw[ju];exact h
 case mapUpdate t m k x=>
  unfold fh at h;rw[bH] at h;rw[bH];exact h
 case call c=>
  obtain ⟨callee,args,argTypes⟩:=c;cases callee with
  |value x=>
   simp only at h;unfold hU at h;split at h
   case h_3=>exact h.elim
   .rename_i fn first captured g
    obtain ⟨hc,K⟩:=h;unfold aS at hc;split at hc
    case h_2=>cases hc
    rename_i f u;simp only[Bool.not_eq_true',Bool.or_eq_false_iff] at hc;simp only[resolve,g,Deferred.ofValue,bH,bT,invoke,callFunc,kN,u,hc.1,hc.2,Bool.false_eq_true,if_false,gf];exact K
   .rename_i l first captured g
    obtain ⟨rfl,rfl,r,q,L,M⟩:=h;simp only[resolve,g,Deferred.ofValue,bH,bT,invoke,Instr.yield,Instr.getLoop,Array.append_empty,Array.empty_append,Array.map_map];refine ⟨_,q,?_⟩;have N:∀{α:Type} (x:α) (Q:α->af->Prop) (F:af),bq P (Sem.pure x) Q F=Q x F:=fun _ _ _=>rfl;simp only[bH,N,bT,dR,ne_eq,L,not_true_eq_false,if_false,gf];exact M
  |invoke r m=>exact h.elim
  |builtin b=>
   cases b<;>simp only at h
   case append=>simp[Oper.oH] at B
   case clear=>
    simp only[resolve,bH,bT,invoke,builtin];exact h
   case cap=>
    simp only[resolve,bH,bT,invoke,builtin];exact h
   case copy=>
    simp only[resolve,bH,bT,invoke,builtin];exact h
   case len=>
    split at h
    case h_2=>exact h.elim
    rename_i t x ht g;split at h
    case h_2=>
     simp only[resolve,bH,bT,invoke,builtin];exact h
    rename_i v d;unfold s7 at d;split at d
    case h_2=>cases d
    rename_i ad n cap O;split at d
    case h_2=>cases d
    rename_i e S;have he:=wA S;cases d;have T:(args.map (ev a))[0]?=some (.slice ad n cap):=by simp[g,O]
    simp only[resolve,bH,bT,invoke,builtin,Builtin.len_,ht,T,dS,he];exact h
   case max=>
    split at h
    case h_2=>exact h.elim
    rename_i x y w;split at h
    case h_2=>exact h.elim
    rename_i v d;unfold sX at d;split at d
    case h_2=>cases d
    rename_i k U V y' g A;cases d;simp only[resolve,bH,bT,invoke,builtin,Builtin.max_,Array.toList_map,w,List.map_cons,List.map_nil,List.foldlM_cons,List.foldlM_nil,g,A,Builtin.max2,gf];exact h
   case min=>
    split at h
    case h_2=>exact h.elim
    rename_i x y w;split at h
    case h_2=>exact h.elim
    rename_i v d;unfold sY at d;split at d
    case h_2=>cases d
    rename_i k U V y' g A;cases d;simp only[resolve,bH,bT,invoke,builtin,Builtin.min_,Array.toList_map,w,List.map_cons,List.map_nil,List.foldlM_cons,List.foldlM_nil,g,A,Builtin.min2,gf];exact h
theorem lV {P:Program}{J:Goroutine->af->Prop}{o:Oper}{R:Value->af->Prop}{D:Deferred->af->Prop}{a:Act}{F:af}(h:c5 P J o R a F):bq P (execOp a.eval o) (kL P J R D) F:=
by
 cases b:Oper.oH o with
 |false=>exact iD Fj _ _ (A0 b h)
 |true=>
  obtain ⟨dst,op,type,pos,after,guard⟩:=o
  unfold Oper.oH at b
  split at b
  .rename_i callee args argTypes c
   simp only at c
   subst c
   unfold c5 at h
   simp only at h
   split at h
   case h_2=>exact h.elim
   rename_i x y d
   have e:args=#[x,y]:=by rw[<-Array.toList_inj];simpa using d
   subst e
   unfold execOp
   simp only[e6,resolve,bH,bT,invoke,builtin]
   have:=h type
   simpa [kL,gf,bH,bT] using this
  .cases b
def cQ (ops:Array Oper)(o:Oper)(a:Act):Option Bool:=
 match o.guard with
 |none=>some true
 |some (j,want)=>match (ops[j]?).bind (·.dst) with
  |some d=>match slot a d with
   | .bool b=>some (b==want)
   | .tuple _=>some false
   |_=>none
  |none=>none
theorem cB {ops:Array Oper}{o:Oper}{a:Act}{t:Bool}(h:cQ ops o a=some t):Region.wanted o (yielded ops a.tmps)=t:=by
 unfold cQ at h;unfold Region.wanted;split at h
 .rename_i hg;rw[hg];cases h;rfl
 .rename_i j want hg;rw[hg];split at h
  .rename_i d hd;split at h
   .rename_i b hb;cases h;have ht:a.tmps[d]?=some (.bool b):=by
     unfold slot at hb;rw[Array.getD_eq_getD_getElem?] at hb;cases c:a.tmps[d]? with
     |none=>rw[c] at hb;simp[undef] at hb
     |some v=>rw[c] at hb;simpa using hb
    simp only[yielded,hd,Option.bind_some,ht];cases b<;>cases want<;>rfl
   .rename_i b hb;cases h;simp only[yielded,hd,Option.bind_some];unfold slot at hb;rw[Array.getD_eq_getD_getElem?] at hb;cases c:a.tmps[d]? with
    |none=>rfl
    |some v=>
     rw[c] at hb;simp at hb;subst hb;rfl
   .cases h
  .cases h
def Oper.calls (o:Oper):Bool:=match o.op with| .call {callee:=.value _, ..}=>true| .call {callee:=.builtin .append, ..}=>true| .call {callee:=.builtin .clear, ..}=>true| .call {callee:=.builtin .cap, ..}=>true| .call {callee:=.builtin .copy, ..}=>true| .makeMap ..=>true| .makeSlice ..=>true| .mapUpdate ..=>true|_=>false
def fD (P:Program)(J:Goroutine->af->Prop)(ops:Array Oper)(K:Act->af->Prop):List Oper->Bool->Act->af->Prop
 |[],_,a,F=>K a F
 |o::rest,_,a,F=>match cQ ops o a with
  |some true=>c5 P J o (fun v F'=>fD P J ops K rest (!Oper.calls o) (bB a o.dst v) F') a F
  |some false=>fD P J ops K rest true (bB a o.dst undef) F
  |none=>False
theorem A1 {P:Program}{J:Goroutine->af->Prop}{ops:Array Oper}{K:Act->af->Prop}{go:Bool}{a:Act}{F:af}:fD P J ops K [] go a F=K a F:=rfl
theorem A2 {P:Program}{J:Goroutine->af->Prop}{ops:Array Oper}{K:Act->af->Prop}{o:Oper}{rest:List Oper}{a:Act}{F:af}:fD P J ops K (o::rest) true a F=match cQ ops o a with
  |some true=>c5 P J o (fun v F'=>fD P J ops K rest (!Oper.calls o) (bB a o.dst v) F') a F
  |some false=>fD P J ops K rest true (bB a o.dst undef) F
  |none=>False:=(Eq.refl _).trans (Eq.refl _)
theorem aP {P:Program}{J:Goroutine->af->Prop}{ops:Array Oper}{K:Act->af->Prop}:∀{l:List Oper} {go:Bool} {a:Act} {F:af},fD P J ops K l true a F->fD P J ops K l go a F
 |[],_,_,_,h=>h
 |_::_,_,_,_,h=>h
theorem wF {P:Program}{J:Goroutine->af->Prop}{ops:Array Oper}{K:Act->af->Prop}:∀(l:List Oper) (k:Nat) (go:Bool) (a:Act) (F:af),ops.toList.drop k=l->fD P J ops K l go a F->
  gw P J ops K (List.range' k l.length) a F
 |[],k,_,a,F,_,h=>h
 |o::rest,k,_,a,F,b,h=>by
  have d:ops[k]?=some o:=by
   have:=congrArg List.head? b
   simpa [List.head?_drop] using this
  have c:ops.toList.drop (k+1)=rest:=by
   have:=congrArg List.tail b
   simpa [List.tail_drop] using this
  simp only[List.length_cons,List.range'_succ]
  show ej P J ops k (gw P J ops K (List.range' (k+1) rest.length)) a F
  unfold ej
  simp only[d]
  unfold fD at h
  split at h
  .rename_i hg
   rw[if_pos (cB hg)]
   exact iD (qv (fun v F' e=>wF rest (k+1) _ _ F' c e) (fun _ _ x=>x)) _ _ (lV h)
  .rename_i hg
   rw[if_neg (by rw[cB hg];simp)]
   exact wF rest (k+1) _ _ F c h
  .exact h.elim
theorem aR {P:Program}{main:Bool}{J:Goroutine->af->Prop}{Q:Ex->Act->af->Prop}{a:Act}{F:af}(hJ:Closed P main J){id:Nat}{ops:Array Oper}(h:fD P J ops (Q .normal) ops.toList true a F):Wp J (.region id ops false) Q a F:=by
 refine Fv hJ ?_;have:=wF ops.toList 0 true a F ax h;simpa [List.range_eq_range'] using this
theorem aC {P:Program}{main:Bool}{J:Goroutine->af->Prop}{Q:Ex->Act->af->Prop}{a:Act}{F:af}(hJ:Closed P main J){id:Nat}{ops:Array Oper}{y:Code}(h:fD P J ops (sP J y Q .normal) ops.toList true a F):Wp J (.seq (.region id ops false) y) Q a F:=ah hJ (aR hJ h)
attribute [irreducible] fD
theorem oI {P:Program}{J:Goroutine->af->Prop}{ops:Array Oper}{Q:Act->af->Prop}{S:af->Prop}(i:Nat){b:Oper}(v:Value){fuel:Nat}{listed:Array Bool}{a:Act}{F:af}(hi:ops[i]?=some b)
  (d:(Region.noSelect ops&&Region.free .any ops listed i&&(Region.ready .any ops listed).contains i)=true)
  (hg:cQ ops b a=some true) (e:∀F R,S F->R v F->c5 P J b R a F) (c:S F)
  (h:er P J ops Q S fuel (listed.setIfInBounds i true) (bB a b.dst v) F):er P J ops Q S (fuel+1) listed a F:=
 AA i v hi d (.inl ⟨cB hg,fun F R c f=>lV (e F R c f)⟩) c h
theorem A3 {P:Program}{J:Goroutine->af->Prop}{ops:Array Oper}{Q:Act->af->Prop}{S:af->Prop}(i:Nat){b:Oper}{fuel:Nat}{listed:Array Bool}{a:Act}{F:af}(hi:ops[i]?=some b)
  (c:(Region.noSelect ops&&Region.free .any ops listed i&&(Region.ready .any ops listed).contains i)=true)
  (hg:cQ ops b a=some false) (d:S F)
  (h:er P J ops Q S fuel (listed.setIfInBounds i true) (bB a b.dst undef) F):er P J ops Q S (fuel+1) listed a F:=
 AA i undef hi c (.inr ⟨cB hg,rfl⟩) d h
theorem A4 {P:Program}{J:Goroutine->af->Prop}{ops:Array Oper}{Q:Act->af->Prop}{S:af->Prop}(i:Nat){b:Oper}{fuel:Nat}{listed:Array Bool}{a:Act}{F:af}(hi:ops[i]?=some b)
  (c:Region.ready .any ops listed=[i]) (hg:cQ ops b a=some true)
  (h:c5 P J b (fun v F'=>S F'/\er P J ops Q S fuel (listed.setIfInBounds i true) (bB a b.dst v) F') a F):er P J ops Q S (fuel+1) listed a F:=by
 refine Fs i c ?_
 unfold ej
 simp only[hi]
 rw[if_pos (cB hg)]
 exact lV h
theorem ay {P:Program}{main:Bool}{J:Goroutine->af->Prop}{Q:Ex->Act->af->Prop}{a:Act}{F:af}{B:Prop}(hJ:Closed P main J){id:Nat}{ops:Array Oper}{y:Code}(h:B)(e:fD P J ops (sP J y Q .normal) ops.toList true a F=B:=by conv=>lhs;simp only[*,go_sem]):Wp J (.seq (.region id ops false) y) Q a F:=ah hJ (aR hJ (e▸h))
theorem aF {P:Program}{main:Bool}{J:Goroutine->af->Prop}{Q:Ex->Act->af->Prop}{a:Act}{F:af}{B:Prop}(hJ:Closed P main J){id:Nat}{ops:Array Oper}(h:B)(e:fD P J ops (Q .normal) ops.toList true a F=B:=by conv=>lhs;simp only[*,go_sem]):Wp J (.region id ops false) Q a F:=aR hJ (e▸h)
theorem oJ {P:Program}{main:Bool}{J:Goroutine->af->Prop}{Q:Ex->Act->af->Prop}{a:Act}{F:af}{B:Prop}(hJ:Closed P main J)(h:B)(e:Q .normal a F=B:=by conv=>lhs;simp only[*,go_sem]):Wp J .skip Q a F:=aO hJ (e▸h)
theorem b9 {J:Goroutine->af->Prop}{Q:Ex->Act->af->Prop}{a:Act}{F:af}{B:Prop}(h:B)(e:Q .ret a F=B:=by conv=>lhs;simp only[*,go_sem]):Wp J .ret Q a F:=aQ (e▸h)
attribute [go_sem] List.isEmpty_nil List.isEmpty_cons undef A1 A2 Oper.calls Bool.not_true Bool.not_false cQ c5 af.push af.get af.put lk jq cellOf fR sW af.dJ af.js af.mN bV frozenAt qF mX qE Option.isNone_none Option.isNone_some hO jv oG mU sX sY qC qI mV qH s6 mY s7 qG s5
theorem add_zero' (a:Addr):a.add 0=a:=rfl
theorem lW (a:Addr)(m n:Nat):(a.add m).add n=a.add (m+n):=by
 unfold Addr.add;by_cases hm:m=0
 .subst hm;simp
 .by_cases b:n=0
  .subst b;simp[hm]
  .have:¬m+n=0:=aa;simp[hm,b,this,Nat.add_assoc]
theorem lX (b o n:Nat):(⟨b,o,none⟩:Addr).add n=⟨b,o+n,none⟩:=by
 unfold Addr.add;by_cases a:n=0
 .subst a;simp
 .simp[a]
attribute [go_sem] add_zero' lW lX Nat.add_assoc Int.reduceLE Int.reduceLT Int.reduceToNat Int.toNat_zero Int.le_refl
attribute [go_sem] Value.cells Instr.fill sR iP vW sP FR
attribute [go_sem] and_true true_and Array.getD_eq_getD_getElem? List.getElem?_toArray List.getElem?_cons_zero List.getElem?_cons_succ List.getElem?_nil Option.getD_some Option.getD_none Option.bind_some Option.bind_none Option.map_some Option.map_none
attribute [go_sem] Nat.reduceLT Nat.reduceEqDiff Nat.reduceAdd Nat.reduceMul Nat.reduceSub if_true if_false reduceIte reduceCtorEq List.setIfInBounds_toArray List.set_cons_zero List.set_cons_succ
attribute [go_sem] List.map_toArray List.map_cons List.map_nil List.append_toArray List.cons_append List.nil_append List.append_nil Array.append_empty Array.empty_append List.toList_toArray List.length_cons List.length_nil List.size_toArray ne_eq not_true_eq_false not_false_eq_true forall_const
theorem fj {ro:Addr->Option Value}{own:List (Nat×Obj)}{b:Nat}(h:eC ⟨ro,own⟩ b):∀off sp,ro ⟨b,off,sp⟩=none:=h.ro
theorem gk {ro:Addr->Option Value}{own:List (Nat×Obj)}{b:Nat}(h:eC ⟨ro,own⟩ b):av own b:=h.own
def qJ (P:Program)(F:af)(a:Act):ResultVar->Option Value
 | .tmp t=>some (slot a t)
 | .cell ad t=>match slot a ad with
  | .pointer (some p)=>fR P F t p
  |_=>none
def m0 (P:Program)(F:af)(a:Act):List ResultVar->Option (List Value)
 |[]=>some []
 |r::rs=>match qJ P F a r with
  |some v=>match m0 P F a rs with
   |some vs=>some (v::vs)
   |none=>none
  |none=>none
def m3 (P:Program)(F:af)(a:Act)(rs:List ResultVar):Option Value:=
 match m0 P F a rs with
 |some [v]=>some v
 |some vs=>some (.tuple vs.toArray)
 |none=>none
attribute [go_sem] qJ m0 m3
theorem wH {P:Program}{F:af}{a:Act}{Q:Array Value->af->Prop}:∀(rs:List ResultVar) (vs:List Value) (acc:Array Value),m0 P F a rs=some vs->Q (acc++vs.toArray) F->
  bq P (rs.foldlM (fun (b:Array Value) r=>do let x<-(match r with| .tmp t=>pure (a.tmps.getD t undef)| .cell ad t=>do loadVar t (<-asAddr (a.tmps.getD ad undef)):Sem Value);pure (b.push x)) acc) Q F
 |[],vs,acc,h,d=>by
  simp only[m0,Option.some.injEq] at h;subst h
  simpa [bT] using d
 |r::rs,vs,acc,h,d=>by
  unfold m0 at h
  split at h
  case h_2=>cases h
  rename_i v c
  split at h
  case h_2=>cases h
  rename_i ws g
  cases h
  have e:=wH rs ws (acc.push v) g (Q:=Q) (by simpa using d)
  simp only[List.foldlM_cons,bH]
  cases r with
  |tmp t=>
   simp only[qJ,Option.some.injEq,slot] at c
   subst c
   simpa only[bT] using e
  |cell ad t=>
   simp only[qJ] at c
   split at c
   .rename_i p f
    unfold slot at f
    simp only[bH,f,asAddr,bT]
    exact AR c e
   .cases c
theorem s8 {P:Program}{fn:Func}{rs:List ResultVar}{F:af}{a:Act}{v:Value}{R:Value->af->Prop}(d:fn.results=rs.toArray)(h:m3 P F a rs=some v)(c:R v F):bq P (results fn a.tmps) R F:=by
 unfold results;rw[d,bH,Array.mapM_eq_foldlM,<-Array.foldlM_toList];unfold m3 at h;split at h
 case h_3=>cases h
 .rename_i x b;cases h;exact wH rs [v] #[] b (by simpa [bT] using c)
 .rename_i vs e b;cases h;refine wH rs vs #[] b ?_;simp only[Array.empty_append,bT];split
  .rename_i hs;simp at hs;obtain ⟨v,rfl⟩:=List.length_eq_one_iff.1 hs;exact absurd rfl (e v)
  .exact c
def jw (P:Program)(rs:List ResultVar)(R:Value->af->Prop):Ex->Act->af->Prop
 | .exit _,_,_=>False
 |_,a,F=>a.defers=[]/\match m3 P F a rs with|some v=>R v F|none=>False
attribute [go_sem] jw
theorem aE.go {P:Program}{f:FuncId}{fn:Func}{c:Code}{n:Nat}{rs:List ResultVar}{args:Array Value}{F:af}{R:Value->af->Prop}(g:P.funcs[f]?=some fn)(hb:fn.body=some c)(j:fn.ntmps=n)(k:fn.results=rs.toArray)(l:args.size<=n)
  (h:∀main J,Closed P main J->∀A:Act,sz A=n->A.defers=[]->(∀i,slot A i=args.getD i undef)->Wp J c (jw P rs R) A F):aE P f args F R:=
 aE.start g hb j l fun main J hJ A m o p=>(h main J hJ A m o p).mono fun e a F d=>by
  cases e with
  |exit i=>exact d
  |_=>
   obtain ⟨hd,b⟩:=d
   split at b
   .rename_i v q
    show iP P a.defers _ F
    rw[hd]
    exact s8 k q b
   .exact b.elim
def dw (n m:Nat):Array Bool:=(Array.range n).map fun i=>decide (i<m)
def qK (ops:Array Oper)(m:Nat):Bool:=
 Region.noSelect ops&&decide (m<=ops.size)&&((List.range m).all fun i=>Region.free .any ops (dw ops.size i) i&&(Region.ready .any ops (dw ops.size i)).contains i)&&
 ((List.range (ops.size - m)).all fun j=>decide (Region.ready .any ops (dw ops.size (m+j))=[m+j]))&&decide (Region.ready .any ops (dw ops.size ops.size)=[])
def FT (D:List Nat)(L:List (List Nat))(x y:Nat):Bool:=RegionTabs.apart ⟨#[],D.toArray,L.toArray⟩ x y
def wI (A:List (List Nat))(D:List Nat)(L:List (List Nat))(n m:Nat):Bool:=
 decide (m<=n)&&((List.range m).all fun k=>(A.getD k []).all (fun x=>decide (x<k))&&(List.range n).all fun j=>decide (j<=k)||(A.getD j []).contains k||FT D L k j)&&
 ((List.range (n - m)).all fun t=>(A.getD (m+t) []).all (fun x=>decide (x<m+t))&&(List.range (n - (m+t+1))).all fun u=>!(A.getD (m+t+1+u) []).all (fun x=>decide (x<m+t)))
section
variable {ops:Array Oper}
theorem A5 {n k i:Nat}(h:i<n):(dw n k).getD i true=decide (i<k):=by
 simp[dw,Array.getD_eq_getD_getElem?,h]
theorem FU {n k i:Nat}(a:k<=n):(dw n k).getD i false=decide (i<k):=by
 rcases Nat.lt_or_ge i n with h|h
 .simp[dw,Array.getD_eq_getD_getElem?,h]
 .have:¬i<k:=aa;simp[dw,Array.getD_eq_getD_getElem?,Array.getElem?_eq_none,h,this]
theorem wJ {A:List (List Nat)}{k:Nat}(a:Region.tabAfter .any ops=A)(b:k<=ops.size):
  Region.ready .any ops (dw ops.size k)=(List.range ops.size).filter fun i=>!decide (i<k)&&(A.getD i []).all fun x=>decide (x<k):=by
 have hlen:A.length=ops.size:=by rw[<-a];simp[Region.tabAfter]
 rw[<-RegionTabs.ready_eq]
 unfold RegionTabs.ready RegionTabs.of
 simp only[a,List.size_toArray,hlen]
 apply List.filter_congr
 intro i hi
 have c:i<ops.size:=List.mem_range.1 hi
 rw[A5 c]
 congr 1
 rw[List.getElem?_toArray,List.getD_eq_getElem?_getD,List.getElem?_eq_getElem aa]
 simp only[Option.map_some,Option.getD_some]
 congr 1
 funext x
 exact FU b
theorem filter_one {k:Nat}{p:Nat->Bool}(b:p k=true):∀(n:Nat),k<n->(∀i,i<n->i≠k->p i=false)->(List.range n).filter p=[k]
 |0,c,_=>by omega
 |n+1,c,a=>by
  rw[List.range_succ,List.filter_append]
  by_cases e:k=n
  .subst e
   have:(List.range k).filter p=[]:=by
    rw[List.filter_eq_nil_iff]
    intro i hi
    have d:=List.mem_range.1 hi
    rw[a i aa aa];simp
   rw[this];simp[b]
  .rw[filter_one b n aa fun i hi=>a i aa]
   simp[a n aa (fun x=>e x.symm)]
theorem FV {m n:Nat}(A:List (List Nat))(D:List Nat)(L:List (List Nat))(hs:Region.noSelect ops=true)(f:ops.size=n)(a:Region.tabAfter .any ops=A)(g:Region.tabDst ops=D)(k:Region.tabLooks ops=L)(h:wI A D L n m=true):qK ops m=true:=by
 subst f;have hlen:A.length=ops.size:=by rw[<-a];simp[Region.tabAfter]
 simp only[wI,Bool.and_eq_true,decide_eq_true_eq,List.all_eq_true,List.mem_range] at h;obtain ⟨⟨hm,c⟩,d⟩:=h;simp only[qK,Bool.and_eq_true,decide_eq_true_eq,List.all_eq_true,List.mem_range];refine ⟨⟨⟨⟨hs,hm⟩,fun i hi=>⟨?_,?_⟩⟩,fun j b=>?_⟩,?_⟩
 .rw[<-RegionTabs.free_eq];unfold RegionTabs.free;have e1:(RegionTabs.of .any ops).after=A.toArray:=by simp[RegionTabs.of,a]
  rw[e1,List.size_toArray,hlen];simp only[Bool.and_eq_true,decide_eq_true_eq,List.all_eq_true,List.mem_range];refine ⟨aa,fun j b=>?_⟩;have:=(c i hi).2 j b;simp only[Bool.or_eq_true,decide_eq_true_eq] at this;simp only[Bool.or_eq_true];rcases this with (hle|hc)|l
  .rcases Nat.lt_or_eq_of_le hle with x|x
   .left;left;right;rw[A5 aa];simpa using x
   .left;left;left;simpa using x
  .left;right;simpa [Array.getD_eq_getD_getElem?,List.getD_eq_getElem?_getD] using hc
  .right;have e:RegionTabs.of .any ops=⟨A.toArray,D.toArray,L.toArray⟩:=by simp[RegionTabs.of,a,g,k]
   rw[e];exact l
 .rw[wJ a aa];rw[List.contains_iff_mem,List.mem_filter];refine ⟨List.mem_range.2 aa,?_⟩;have:=(c i hi).1;simpa [List.all_eq_true] using this
 .have o:m+j<ops.size:=aa;rw[wJ a aa];refine filter_one ?_ _ o fun i hi aN=>?_
  .have:=(d j b).1;simpa [List.all_eq_true] using this
  .rcases Nat.lt_or_ge i (m+j) with x|x
   .simp[x]
   .have:=(d j b).2 (i - (m+j+1)) aa;rw[show m+j+1+(i - (m+j+1))=i by omega] at this;simp only[Bool.not_eq_true'] at this;simp only[this,Bool.and_false]
 .rw[wJ a (Nat.le_refl _)];rw[List.filter_eq_nil_iff];intro i hi;have:=List.mem_range.1 hi;simp[this]
def wK (n:Nat)(k:Nat->Bool):Bool:=Nat.casesOn n (k 0) fun m=>k (m+1)
def qL:List Nat->(List Nat->Bool)->Bool
 |[],k=>k []
 |x::xs,k=>wK x fun y=>qL xs fun ys=>k (y::ys)
def qM:List (List Nat)->(List (List Nat)->Bool)->Bool
 |[],k=>k []
 |x::xs,k=>qL x fun y=>qM xs fun ys=>k (y::ys)
theorem A6 (n:Nat)(k:Nat->Bool):wK n k=k n:=by cases n<;>rfl
theorem wL:∀(l:List Nat) (k:List Nat->Bool),qL l k=k l
 |[],_=>rfl
 |x::xs,k=>by rw[qL,A6,wL xs]
theorem A7:∀(l:List (List Nat)) (k:List (List Nat)->Bool),qM l k=k l
 |[],_=>rfl
 |x::xs,k=>by rw[qM,wL,A7 xs]
def oK (ops:Array Oper)(m:Nat):Bool:=Region.noSelect ops&&qM (Region.tabAfter .any ops) fun A=>qL (Region.tabDst ops) fun D=>qM (Region.tabLooks ops) fun L=>wK ops.size fun n=>wI A D L n m
theorem A8 {m:Nat}(h:oK ops m=true):qK ops m=true:=by
 simp only[oK,Bool.and_eq_true,A7,wL,A6] at h;exact FV _ _ _ h.1 rfl rfl rfl rfl h.2
end
def jx:List (Nat×Obj)->List (Nat×Obj)->Prop
 |[],_=>True
 |(b,o)::l,own=>lk own b=some o/\jx l own
def Knows (F0 F:af):Prop:=(∀a v,F0.ro a=some v->F.ro a=some v)/\(∀a,a.block∈keys F0.own->F0.ro a=none->F.ro a=none)/\jx F0.own F.own
theorem jx.lk:∀{l own:List (Nat×Obj)} {b:Nat} {o:Obj},jx l own->lk l b=some o->Go.Sep.lk own b=some o
 |[],_,_,_,_,h=>by cases h
 |(c,x)::l,own,b,o,a,h=>by
  unfold Go.Sep.lk at h
  split at h
  .rename_i e;cases h;exact e▸a.1
  .exact jx.lk a.2 h
theorem Knows.get {F0 F:af}(h:Knows F0 F){a:Addr}{v:Value}(hg:F0.get a=some v):F.get a=some v:=by
 unfold af.get at hg ⊢;cases b:F0.ro a with
 |some x=>rw[b] at hg;rw[h.1 a x b];exact hg
 |none=>
  rw[b] at hg;simp only at hg;split at hg
  .rename_i hs;obtain ⟨o,c,hc⟩:=Option.bind_eq_some_iff.1 hg;rw[h.2.1 a (fC (iA c)) b];simp only;rw[if_pos hs,h.2.2.lk c];exact hc
  .cases hg
theorem FW {ro:Addr->Option Value}{l own:List (Nat×Obj)}:Knows ⟨ro,l⟩ ⟨ro,own⟩=jx l own:=
 propext ⟨fun h=>h.2.2,fun h=>⟨fun _ _ x=>x,fun _ _ x=>x,h⟩⟩
theorem FX {ro aW:Addr->Option Value}{l own:List (Nat×Obj)}(c:∀a v,ro a=some v->aW a=some v)(d:∀b∈keys l,∀off sp,aW ⟨b,off,sp⟩=none)(h:jx l own):Knows ⟨ro,l⟩ ⟨aW,own⟩:=
 ⟨c,fun a e _=>d a.block e a.off a.spot,h⟩
theorem Knows.mT {F0 F:af}(h:Knows F0 F){a:Addr}:∀{n i:Nat} {vs:List Value},F0.dJ a i n=some vs->F.dJ a i n=some vs
 |0,_,_,hg=>hg
 |n+1,i,vs,hg=>by
  unfold af.dJ at hg ⊢
  split at hg
  case h_2=>cases hg
  rename_i v b
  split at hg
  case h_2=>cases hg
  rename_i ws c
  rw[h.get b,h.mT c]
  exact hg
theorem Knows.fR {P:Program}{F0 F:af}(h:Knows F0 F){t:TypeId}{ad:Addr}{v:Value}(hg:fR P F0 t ad=some v):Go.Sep.fR P F t ad=some v:=by
 unfold Go.Sep.fR at hg ⊢;split at hg
 .exact h.get hg
 .split at hg
  case h_2=>cases hg
  rename_i n b;split at hg
  case h_2=>cases hg
  rename_i vs a;rw[h.mT a];exact hg
 .cases hg
def jy (P:Program)(o:Oper)(a:Act):Option Value:=
 match o.op with
 | .move x| .assign x=>some (ev a x)
 | .nilCheck x=>match ev a x with
  | .pointer (some ad)=>some (.pointer (some ad))
  |_=>none
 | .pick c x y=>match ev a c with
  | .bool b=>some (if b then ev a x else ev a y)
  |_=>none
 | .build t parts=>qG P t (parts.map fun (i,x)=>(i,ev a x)).toList
 | .binOp op t x y _=>qF P op t (ev a x) (ev a y)
 | .unOp op _ x=>mU op (ev a x)
 | .convert src dst x=>mY P src dst (ev a x)
 | .makeFunc fn first captured=>some (.func fn (first.map (ev a)) (captured.map (ev a)))
 | .slice t x lo hi none=>match ev a x with
  | .slice ad len cap=>if len<=cap then mV P t (.slice ad len cap) (lo.map (ev a)) (hi.map (ev a)) else none
  | .pointer (some ad)=>mV P t (.pointer (some ad)) (lo.map (ev a)) (hi.map (ev a))
  |_=>none
 | .fieldAddr s x n=>match ev a x with
  | .pointer (some ad)=>match c9 P s n with
   |some k=>some (.pointer (some (ad.add k)))
   |none=>none
  |_=>none
 | .field s x n=>qH P s n (ev a x)
 | .indexAddr t x i=>qC P t (ev a x) (ev a i)
 | .index t x i=>qI P t (ev a x) (ev a i)
 | .extract x n=>s6 n (ev a x)
 | .call {callee:=.builtin .len,args,argTypes}=>match argTypes[0]?,args[0]? with
  |some t,some x=>s7 P t (ev a x)
  |_,_=>none
 | .call {callee:=.builtin .max,args, ..}=>match args.toList with
  |[x,y]=>sX (ev a x) (ev a y)
  |_=>none
 | .call {callee:=.builtin .min,args, ..}=>match args.toList with
  |[x,y]=>sY (ev a x) (ev a y)
  |_=>none
 |_=>none
theorem s9 {P:Program}{J:Goroutine->af->Prop}{o:Oper}{a:Act}{v:Value}{R:Value->af->Prop}{F:af}(h:jy P o a=some v)(d:R v F):c5 P J o R a F:=by
 obtain ⟨dst,op,type,pos,after,guard⟩:=o;unfold jy at h;unfold c5;cases op<;>simp only[reduceCtorEq] at h ⊢
 case move x=>cases h;exact d
 case assign x=>cases h;exact d
 case nilCheck x=>
  split at h
  .rename_i ad e;cases h;rw[e];exact d
  .cases h
 case pick c x y=>
  split at h
  .rename_i b hb;cases h;try rw[hb]
   exact d
  .cases h
 case build t parts=>rw[h];exact d
 case binOp=>rw[h];exact d
 case unOp=>rw[h];exact d
 case convert=>rw[h];exact d
 case makeFunc=>cases h;exact d
 case slice t x lo hi g=>
  cases g with
  |some m=>cases h
  |none=>
   simp only at h ⊢;split at h
   case h_3=>cases h
   case h_2=>
    rename_i ad e;rw[e];exact ⟨trivial,by rw[h];exact d⟩
   rename_i ad len cap e;split at h
   case isFalse=>cases h
   rename_i hc;rw[e];exact ⟨hc,by rw[h];exact d⟩
 case fieldAddr s x n=>
  split at h
  case h_2=>cases h
  rename_i ad e;split at h
  case h_2=>cases h
  rename_i k i;cases h;try rw[e]
  try simp only[i]
  exact d
 case field=>rw[h];exact d
 case indexAddr=>rw[h];exact d
 case index=>rw[h];exact d
 case extract=>rw[h];exact d
 case call c=>
  obtain ⟨callee,args,argTypes⟩:=c;cases callee with
  |value x=>cases h
  |invoke r m=>cases h
  |builtin b=>
   cases b<;>simp only[reduceCtorEq] at h ⊢
   case len=>
    split at h
    case h_2=>cases h
    rename_i t x ht e;simp only[ht,e,h];exact d
   case max=>
    split at h
    case h_2=>cases h
    rename_i x y f;simp only[f,h];exact d
   case min=>
    split at h
    case h_2=>cases h
    rename_i x y f;simp only[f,h];exact d
def Plain (P:Program)(J:Goroutine->af->Prop)(F0:af)(f:FuncId)(args:Array Value)(v:Value):Prop:=
 ∀F,Knows F0 F->dr P J f args F (fun a F'=>a=v/\F'=F)
def eI (P:Program)(J:Goroutine->af->Prop)(ops:Array Oper)(F0:af)(K:Act->Prop):List Oper->Bool->Act->Prop
 |[],_,a=>K a
 |o::rest,_,a=>match cQ ops o a with
  |some false=>eI P J ops F0 K rest true (bB a o.dst undef)
  |some true=>match o.op with
   | .load t x=>match ev a x with
    | .pointer (some ad)=>match fR P F0 t ad with
     |some v=>eI P J ops F0 K rest true (bB a o.dst v)
     |none=>False
    |_=>False
   | .call {callee:=.value x,args, ..}=>match ev a x with
    | .func (.func fn) first captured=>aS P fn=true/\∃v,Plain P J F0 fn (first++args.map (ev a)++captured) v/\eI P J ops F0 K rest false (bB a o.dst v)
    |_=>False
   |_=>match jy P o a with
    |some v=>eI P J ops F0 K rest true (bB a o.dst v)
    |none=>False
  |none=>False
theorem FY {P:Program}{J:Goroutine->af->Prop}{ops:Array Oper}{F0:af}{K:Act->Prop}{go:Bool}{a:Act}:eI P J ops F0 K [] go a=K a:=rfl
theorem FZ {P:Program}{J:Goroutine->af->Prop}{ops:Array Oper}{F0:af}{K:Act->Prop}{o:Oper}{rest:List Oper}{a:Act}:eI P J ops F0 K (o::rest) true a=match cQ ops o a with
  |some false=>eI P J ops F0 K rest true (bB a o.dst undef)
  |some true=>match o.op with
   | .load t x=>match ev a x with
    | .pointer (some ad)=>match fR P F0 t ad with
     |some v=>eI P J ops F0 K rest true (bB a o.dst v)
     |none=>False
    |_=>False
   | .call {callee:=.value x,args, ..}=>match ev a x with
    | .func (.func fn) first captured=>aS P fn=true/\∃v,Plain P J F0 fn (first++args.map (ev a)++captured) v/\eI P J ops F0 K rest false (bB a o.dst v)
    |_=>False
   |_=>match jy P o a with
    |some v=>eI P J ops F0 K rest true (bB a o.dst v)
    |none=>False
  |none=>False:=(Eq.refl _).trans (Eq.refl _)
theorem ck {P:Program}{J:Goroutine->af->Prop}{ops:Array Oper}{F0:af}{K:Act->Prop}:∀{l:List Oper} {go:Bool} {a:Act},eI P J ops F0 K l true a->eI P J ops F0 K l go a
 |[],_,_,h=>h
 |_::_,_,_,h=>h
theorem tc {n m:Nat}(h:m<n):(dw n m).setIfInBounds m true=dw n (m+1):=by
 apply Array.ext
 .simp[dw]
 .intro i a b;simp[dw] at a b;rw[Array.getElem_setIfInBounds (by simp[dw];omega)];by_cases e:m=i
  .subst e;simp[dw]
  .simp only[if_neg e,dw,Array.getElem_map,Array.getElem_range];rw[decide_eq_decide];omega
theorem A9 (n:Nat):dw n 0=Array.replicate n false:=by
 apply Array.ext
 .simp[dw]
 .intro i a b;simp[dw]
section
variable {P:Program}{main:Bool}{J:Goroutine->af->Prop}{ops:Array Oper}{Q:Act->af->Prop}{F0:af}
theorem td {K:Act->Prop}(m:Nat)(hm:m<=ops.size)(r:Region.noSelect ops=true)(s:∀i,i<m->(Region.free .any ops (dw ops.size i) i&&(Region.ready .any ops (dw ops.size i)).contains i)=true)
  {F:af} (b:Knows F0 F) (hK:∀a,K a->er P J ops Q (Knows F0) (ops.size - m) (dw ops.size m) a F):
  ∀(l:List Oper) (k:Nat) (go:Bool) (a:Act),(ops.toList.take m).drop k=l->k<=m->eI P J ops F0 K l go a->er P J ops Q (Knows F0) (ops.size - k) (dw ops.size k) a F
 |[],k,_,a,c,z,h=>by
  have:k=m:=by
   have:=congrArg List.length c
   simp at this
   omega
  subst this
  exact hK a h
 |o::rest,k,_,a,c,z,h=>by
  have g:k<m:=by
   rcases Nat.lt_or_ge k m with x|x
   .exact x
   .rw[List.drop_eq_nil_of_le (by simp;omega)] at c;cases c
  have j:ops[k]?=some o:=by
   have:=congrArg List.head? c
   rw[List.head?_drop,List.getElem?_take_of_lt g] at this
   simpa using this
  have w:(ops.toList.take m).drop (k+1)=rest:=by
   have:=congrArg List.tail c
   simpa [List.tail_drop] using this
  have hc:=s k g
  have e:ops.size - k=(ops.size - (k+1))+1:=aa
  have y:=tc (n:=ops.size) (m:=k) aa
  have p:(Region.noSelect ops&&Region.free .any ops (dw ops.size k) k&&(Region.ready .any ops (dw ops.size k)).contains k)=true:=by
   rw[r,Bool.true_and];exact hc
  rw[e]
  unfold eI at h
  split at h
  .rename_i hg
   exact A3 k j p hg b (by rw[y];exact td m hm r s b hK rest (k+1) _ _ w g h)
  .rename_i hg
   have next:∀go v,eI P J ops F0 K rest go (bB a o.dst v)->er P J ops Q (Knows F0) (ops.size - (k+1)) ((dw ops.size k).setIfInBounds k true) (bB a o.dst v) F:=fun go v d=>by
    rw[y];exact td m hm r s b hK rest (k+1) _ _ w g d
   split at h
   .rename_i t x u
    split at h
    case h_2=>exact h.elim
    rename_i ad A
    split at h
    case h_2=>exact h.elim
    rename_i v d
    refine oI k v j p hg (fun F R q f=>?_) b (next _ v h)
    unfold c5
    simp only[u,A,q.fR d]
    exact f
   .rename_i x args argTypes u
    split at h
    case h_2=>exact h.elim
    rename_i fn first captured B
    obtain ⟨C,v,D,h⟩:=h
    refine oI k v j p hg (fun F R q f=>?_) b (next _ v h)
    unfold c5
    simp only[u,B]
    exact ⟨C,(D F q).mono fun G F' E=>by obtain ⟨rfl,rfl⟩:=E;exact f⟩
   .split at h
    case h_2=>exact h.elim
    rename_i v d
    exact oI k v j p hg (fun F R q f=>s9 d f) b (next _ v h)
  .exact h.elim
def fl (P:Program)(J:Goroutine->af->Prop)(ops:Array Oper)(F0:af)(Q:Act->af->Prop):List Oper->Bool->Act->af->Prop
 |[],_,a,F=>Q a F
 |o::rest,_,a,F=>match cQ ops o a with
  |some true=>c5 P J o (fun v F'=>Knows F0 F'/\fl P J ops F0 Q rest (!Oper.calls o) (bB a o.dst v) F') a F
  |_=>False
theorem F1 {P:Program}{J:Goroutine->af->Prop}{ops:Array Oper}{F0:af}{Q:Act->af->Prop}{go:Bool}{a:Act}{F:af}:fl P J ops F0 Q [] go a F=Q a F:=rfl
theorem F2 {P:Program}{J:Goroutine->af->Prop}{ops:Array Oper}{F0:af}{Q:Act->af->Prop}{o:Oper}{rest:List Oper}{a:Act}{F:af}:fl P J ops F0 Q (o::rest) true a F=match cQ ops o a with
  |some true=>c5 P J o (fun v F'=>Knows F0 F'/\fl P J ops F0 Q rest (!Oper.calls o) (bB a o.dst v) F') a F
  |_=>False:=(Eq.refl _).trans (Eq.refl _)
theorem m4 {P:Program}{J:Goroutine->af->Prop}{ops:Array Oper}{F0:af}{Q:Act->af->Prop}:∀{l:List Oper} {go:Bool} {a:Act} {F:af},fl P J ops F0 Q l true a F->fl P J ops F0 Q l go a F
 |[],_,_,_,h=>h
 |_::_,_,_,_,h=>h
theorem m5 (m:Nat)(i:∀j,j<ops.size - m->Region.ready .any ops (dw ops.size (m+j))=[m+j])(n:Region.ready .any ops (dw ops.size ops.size)=[]):
  ∀(l:List Oper) (k:Nat) (go:Bool) (a:Act) (F:af),m<=k->k<=ops.size->ops.toList.drop k=l->fl P J ops F0 Q l go a F->er P J ops Q (Knows F0) (ops.size - k) (dw ops.size k) a F
 |[],k,_,a,F,q,s,f,h=>by
  have:k=ops.size:=by
   have:=congrArg List.length f
   simp at this
   omega
  subst this
  exact AB n h _
 |o::rest,k,_,a,F,q,s,f,h=>by
  have u:k<ops.size:=by
   rcases Nat.lt_or_ge k ops.size with x|x
   .exact x
   .rw[List.drop_eq_nil_of_le (by simpa using x)] at f;cases f
  have w:ops[k]?=some o:=by
   have:=congrArg List.head? f
   simpa [List.head?_drop] using this
  have y:ops.toList.drop (k+1)=rest:=by
   have:=congrArg List.tail f
   simpa [List.tail_drop] using this
  have e:ops.size - k=(ops.size - (k+1))+1:=aa
  have hc:=i (k - m) aa
  rw[show m+(k - m)=k by omega] at hc
  rw[e]
  unfold fl at h
  split at h
  .rename_i hg
   refine A4 k w hc hg ?_
   refine tf ?_ h
   rintro v F' ⟨z,g⟩
   refine ⟨z,?_⟩
   rw[tc u]
   exact m5 m i n rest (k+1) _ _ F' aa aa y g
  .exact h.elim
where
 tf {o:Oper} {a:Act} {F:af} {R p:Value->af->Prop} (d:∀v F,R v F->p v F) (h:c5 P J o R a F):c5 P J o p a F:=by
  obtain ⟨dst,op,type,pos,after,guard⟩:=o
  unfold c5 at h ⊢
  cases op<;>simp only at h ⊢<;>first
   |exact h.elim
   |exact d _ _ h
   |exact fun b hb=>d _ _ (h b hb)
   |exact iD (fun v F h=>d v F h) _ _ h
   |(split at h<;>first
     |exact h.elim
     |exact d _ _ h
     |exact fun b hb=>d _ _ (h b hb)
     |(split at h<;>first|exact h.elim|exact d _ _ h|exact fun b hb=>d _ _ (h b hb)))
   |skip
  case slice t x lo hi A=>
   cases A with
   |some m=>exact h.elim
   |none=>
    refine ⟨h.1,?_⟩
    have g:=h.2
    revert g
    cases mV P t (ev a x) (lo.map (ev a)) (hi.map (ev a)) with
    |some v=>exact fun x=>d _ _ x
    |none=>exact fun x=>x
  case call c=>
   obtain ⟨callee,args,argTypes⟩:=c
   cases callee with
   |value x=>
    exact hU.mono h d
   |invoke r m=>exact h.elim
   |builtin b=>
    cases b<;>simp only at h ⊢<;>first
     |exact h.elim
     |(split at h<;>first|exact h.elim|exact fun ty=>iD (fun v F ⟨F0,hle,h⟩=>⟨F0,hle,d _ _ h⟩) _ _ (h ty))
     |exact iD (fun v F h=>d v F h) _ _ h
     |(split at h<;>first|exact h.elim|(split at h<;>first|exact h.elim|exact d _ _ h|exact iD (fun v F h=>d v F h) _ _ h))
theorem ef {Q:Ex->Act->af->Prop}(hJ:Closed P main J)(e:P.follows .mixedOrders=true)(m:Nat){id:Nat}{a:Act}{F:af}(F0:af)(f:Knows F0 F)(g:oK ops m=true)
  (h:eI P J ops F0 (fun b=>fl P J ops F0 (Q .normal) (ops.toList.drop m) true b F) (ops.toList.take m) true a):Wp J (.region id ops true) Q a F:=by
 have c:=A8 g
 simp only[qK,Bool.and_eq_true,decide_eq_true_eq,List.all_eq_true,List.mem_range] at c
 obtain ⟨⟨⟨⟨j,d⟩,k⟩,l⟩,n⟩:=c
 refine vY hJ (Knows F0) e ?_
 rw[<-A9]
 have:=td (P:=P) (J:=J) (Q:=Q .normal) m d j (fun i hi=>by have:=k i hi;simpa using this) f (fun b o=>m5 m l n _ m _ b F (Nat.le_refl _) d rfl o) _ 0 true a ax (Nat.zero_le _) h
 simpa using this
theorem bI (hJ:Closed P main J){F0:af}{f:FuncId}{args:Array Value}{v:Value}(h:∀F,Knows F0 F->aE P f args F.cM (fun a _=>a=v)):Plain P J F0 f args v:=
 fun F b=>v7 (h F b) main J hJ
end
attribute [irreducible] eI fl
attribute [go_sem] jx FW jy FY FZ F1 F2 sQ List.take_succ_cons List.take_zero List.drop_succ_cons List.drop_zero Array.zipIdx_toArray List.zipIdx_cons List.zipIdx_nil List.foldl_toArray List.foldl_toArray' decide_eq_true_eq Bool.and_false Bool.false_and Bool.and_self Bool.true_and Bool.and_true List.foldl_cons List.foldl_nil decide_false decide_true Bool.or_false Bool.false_or Bool.or_self Bool.or_true Bool.true_or gt_iff_lt Nat.reduceGT Nat.lt_irrefl Bool.false_eq_true Nat.zero_add Nat.add_zero Nat.not_lt_zero
section
variable {P:Program}{main:Bool}{J:Goroutine->af->Prop}{Q:Ex->Act->af->Prop}{a:Act}{F:af}
theorem bf (hJ:Closed P main J){f:FuncId}{args:Array Value}{F:af}{K:Value->af->Prop}(v:Value)(h:aE P f args F.cM (fun a _=>a=v))(b:K v F):dr P J f args F K:=
 (v7 h main J hJ).mono fun a F' c=>by obtain ⟨rfl,rfl⟩:=c;exact b
theorem eD (hJ:Closed P main J){c:Operand}{x y:Code}(hc:ev a c= .bool true)(h:Wp J x Q a F):Wp J (.cond c x y) Q a F:=vV hJ true hc h
theorem eu (hJ:Closed P main J){c:Operand}{x y:Code}(hc:ev a c= .bool false)(h:Wp J y Q a F):Wp J (.cond c x y) Q a F:=vV hJ false hc h
theorem F3 (hJ:Closed P main J){c:Operand}{x y:Code}(b:Bool)(hc:ev a c= .bool b)(d:b=true->Wp J x Q a F)(e:b=false->Wp J y Q a F):Wp J (.cond c x y) Q a F:=by
 refine vV hJ b hc ?_;cases b
 .exact e rfl
 .exact d rfl
theorem cH (hJ:Closed P main J){c:Code}{F':af}(hle:Le F F')(h:Wp J c Q a F):Wp J c Q a F':=h.le (hJ:=hJ) hle
theorem Le.sub {ro:Addr->Option Value}{l l':List (Nat×Obj)}(h:l.Sublist l'):Le ⟨ro,l⟩ ⟨ro,l'⟩:=by
 have c:(keys l).Sublist (keys l'):=h.map _;exact ⟨fun w hw=>⟨hw.ro,fun b o hb=>hw.own b o (h.subset hb),c.nodup hw.nodup,fun a v d hm=>hw.apart a v d (c.subset hm)⟩,fun b hb=>c.subset hb,fun a e=>.inl e⟩
theorem wM (hJ:Closed P main J){c:Code}(I:Nat->Act->af->Prop)(n:Nat)(b:I n a F)(hs:∀n a F,I n a F->Wp J c (sQ (fun m a F=>∃F0,Le F0 F/\I m a F0) n Q) a F):Wp J (.loop c) Q a F:=
 AF hJ (fun m a F=>∃F0,Le F0 F/\I m a F0) n ⟨F,Le.refl F,b⟩ fun n a F ⟨F0,hle,d⟩=>cH hJ hle (hs n a F0 d)
end
def iE:List Nat->Nat->Bool
 |[],_=>false
 |w::ws,i=>i==w||iE ws i
abbrev In (ws:List Nat)(i:Nat):Prop:=iE ws i=true
structure cR (ws:List Nat)(a a0:Act):Prop where
 size:sz a=sz a0
 defers:a.defers=a0.defers
 fS:∀i,¬In ws i->slot a i=slot a0 i
theorem cR.refl (ws:List Nat)(a:Act):cR ws a a:=⟨rfl,rfl,fun _ _=>rfl⟩
theorem cR.trans {ws:List Nat}{a b c:Act}(h:cR ws a b)(k:cR ws b c):cR ws a c:=⟨h.size.trans k.size,h.defers.trans k.defers,fun i hi=>(h.fS i hi).trans (k.fS i hi)⟩
theorem cR.sub {ws c:List Nat}{a b:Act}(hs:∀i,In ws i->In c i)(h:cR ws a b):cR c a b:=⟨h.size,h.defers,fun i hi=>h.fS i fun x=>hi (hs i x)⟩
theorem F4 {ws:List Nat}{a:Act}:cR ws a a=True:=eq_true (cR.refl ws a)
theorem F5 {ws:List Nat}{a a0:Act}{d:Nat}{v:Value}(h:iE ws d=true):cR ws (bB a (some d) v) a0=cR ws a a0:=by
 apply propext;constructor
 .intro k;refine ⟨by rw[<-k.size,AP],by rw[<-k.defers,AQ],fun i hi=>?_⟩;rw[<-k.fS i hi,we _ _ _ _ (fun e=>hi (by subst e;exact h))]
 .intro k;refine ⟨by rw[<-k.size,AP],by rw[<-k.defers,AQ],fun i hi=>?_⟩;rw[<-k.fS i hi,we _ _ _ _ (fun e=>hi (by subst e;exact h))]
def fE (ws a:List Nat):Bool:=ws.all fun w=>iE a w
theorem Ba:∀{ws:List Nat} {i:Nat},iE ws i=true->i∈ws
 |[],_,h=>by cases h
 |w::ws,i,h=>by
  simp only[iE,Bool.or_eq_true,beq_iff_eq] at h
  rcases h with h|h
  .rw[h];exact List.mem_cons_self
  .exact List.mem_cons_of_mem _ (Ba h)
theorem cR.fE {ws c:List Nat}{a b:Act}(h:cR ws a b)(hs:Sep.fE ws c=true):cR c a b:=h.sub fun i hi=>by
 have:=Ba hi
 exact List.all_eq_true.1 hs i this
def rg:Nat->Nat->List Nat->List Nat
 |_,0,ws=>ws
 |a,n+1,ws=>a::rg (a+1) n ws
theorem Bb:∀(n a i:Nat) (ws:List Nat),iE (rg a n ws) i=(decide (a<=i)&&decide (i<a+n)||iE ws i)
 |0,a,i,ws=>by
  show iE ws i=_
  cases h:(decide (a<=i)&&decide (i<a+0)) with
  |false=>rfl
  |true=>rw[Bool.and_eq_true,decide_eq_true_eq,decide_eq_true_eq] at h;omega
 |n+1,a,i,ws=>by
  show (i==a||iE (rg (a+1) n ws) i)=_
  rw[Bb n (a+1) i ws,<-Bool.or_assoc]
  congr 1
  rw[Bool.eq_iff_iff]
  simp only[Bool.or_eq_true,Bool.and_eq_true,decide_eq_true_eq,beq_iff_eq]
  omega
attribute [go_sem] Bb Nat.reduceLeDiff Nat.reduceLT Nat.reduceAdd
attribute [go_sem] iE F4 F5 or_true true_or or_false false_or Nat.reduceBEq
section
variable {P:Program}{main:Bool}{J:Goroutine->af->Prop}{Q:Ex->Act->af->Prop}{a:Act}{F:af}
theorem bY (hJ:Closed P main J){c:Code}(ws:List Nat)(I:Nat->Act->af->Prop)(n:Nat)(h:I n a F)
  (hs:∀n b F',cR ws b a->I n b F'->Wp J c (sQ (fun m a2 d=>cR ws a2 b/\∃F0,Le F0 d/\I m a2 F0) n Q) b F'):Wp J (.loop c) Q a F:=
 AF hJ (fun m a2 d=>cR ws a2 a/\∃F0,Le F0 d/\I m a2 F0) n ⟨.refl ws a,F,Le.refl F,h⟩ fun n b F' ⟨g,F0,hle,j⟩=>
  cH hJ hle ((hs n b F0 g j).mono fun e a2 d f=>by
   cases e with
   |normal=>obtain ⟨m,hm,k,l⟩:=f;exact ⟨m,hm,k.trans g,l⟩
   |exit i=>exact f
   |ret=>exact f)
end
def Ext (ro aW:Addr->Option Value):Prop:=∀a v,ro a=some v->aW a=some v
theorem Ext.refl (ro:Addr->Option Value):Ext ro ro:=fun _ _ h=>h
theorem Ext.trans {r s t:Addr->Option Value}(h:Ext r s)(k:Ext s t):Ext r t:=fun a v x=>k a v (h a v x)
def b7 (ro:Addr->Option Value)(b:Nat)(o:Obj):Addr->Option Value:=fun a=>match ro a with
 |some v=>some v
 |none=>if a.block=b/\a.spot=none then cellOf o a.off else none
theorem gP (ro:Addr->Option Value)(b:Nat)(o:Obj):Ext ro (b7 ro b o):=fun a v h=>by simp[b7,h]
theorem fF {ro:Addr->Option Value}{b off:Nat}{o:Obj}(h:∀off sp,ro ⟨b,off,sp⟩=none):b7 ro b o ⟨b,off,none⟩=cellOf o off:=by simp[b7,h]
theorem kQ {ro:Addr->Option Value}{own d:List (Nat×Obj)}{b:Nat}{o:Obj}(g:lk own b=some o)(hs:d.Sublist own)(hb:av d b):Le ⟨b7 ro b o,d⟩ ⟨ro,own⟩:=by
 have f:(keys d).Sublist (keys own):=hs.map _;have hm:=iA g;have i:b∉keys d:=by
  clear g hs f hm
  induction d with
  |nil=>simp[keys]
  |cons x l ih=>
   simp only[keys,List.map_cons,List.mem_cons,not_or];exact ⟨hb.1,ih hb.2⟩
 refine ⟨fun w hw=>⟨fun a v h=>?_,fun c x hc=>hw.own c x (hs.subset hc),f.nodup hw.nodup,fun a v h hc=>?_⟩,fun c hc=>f.subset hc,fun a j=>?_⟩
 .replace h:b7 ro b o a=some v:=h;unfold b7 at h;split at h
  .rename_i x e;cases h;exact hw.ro _ _ e
  .split at h
   .rename_i hc;have:=hw.own b o hm;rw[<-hc.1] at this;cases o<;>simp only[cellOf,reduceCtorEq] at h;simp[World.cell?,this,hc.2,h]
   .cases h
 .replace h:b7 ro b o a=some v:=h;unfold b7 at h;split at h
  .rename_i x e;exact hw.apart a x e (f.subset hc)
  .split at h
   .rename_i k;rw[k.1] at hc;exact i hc
   .cases h
 .obtain ⟨v,h⟩:=Option.isSome_iff_exists.1 j;replace h:b7 ro b o a=some v:=h;unfold b7 at h;split at h
  .rename_i x e;exact .inl (by simp[e])
  .split at h
   .rename_i hc;exact .inr (by rw[hc.1];exact fC hm)
   .cases h
def eJ (P:Program)(f:FuncId)(args:Array Value)(ro:Addr->Option Value)(R:Value->(Addr->Option Value)->Prop):Prop:=
 aE P f args ⟨ro,[]⟩ (fun v G=>∃aW,Ext ro aW/\Le ⟨aW,[]⟩ G/\R v aW)
def m6 (F G:af):Prop:=∀a,(G.ro a).isSome=true->a.block∉keys F.own
def wN (J:Goroutine->af->Prop)(F:af)(g:Goroutine)(G:af):Prop:=Fits F G->m6 F G->J g (G.star F)
theorem Bc {P:Program}{main:Bool}{J:Goroutine->af->Prop}(hJ:Closed P main J)(F:af):Closed P main (wN J F) where
 mono {g G K} hle h c i:=by
  have n:=c.le hle
  have A:m6 F G:=fun a d=>(hle.ro a d).elim (i a) (c.own _)
  refine hJ.mono ⟨fun w hw=>n.both (hle.has w (c.right hw)) (c.left hw),fun b hb=>?_,fun a d=>?_⟩ (h n A)
  .simp only[af.star,cE,List.mem_append] at hb ⊢
   exact hb.imp (hle.own b) id
  .rcases kM d with x|x
   .exact (hH (.inl x)).imp id (fun y=>by simp only[af.star,cE,List.mem_append];exact .inr y)
   .rcases hle.ro a x with y|y
    .exact (hH (.inr y)).imp id (fun z=>by simp only[af.star,cE,List.mem_append];exact .inr z)
    .exact .inr (by simp only[af.star,cE,List.mem_append];exact .inl y)
 step {fr cs G} h c i:=by
  refine hJ.step fun w hw=>?_
  have B:=c.right hw
  have f:=c.left hw
  obtain ⟨g',w',es,k,hgo,hu,p,C,D⟩:=h w B
  have q:Has F w':=by
   refine ⟨fun a v l=>?_,fun b o hb=>?_,f.nodup,f.apart⟩
   .have s:=f.ro a v l
    have E:=f.iC (a:=a) (by simp[l])
    unfold World.cell? at s ⊢
    rw[hu.frame _ E (c.ro a (by simp[l]))]
    exact s
   .rw[hu.frame b (f.lt (fC hb)) (fun hm=>c.own b hm (fC hb))]
    exact f.own b o hb
  have t:Fits F k:=by
   refine ⟨⟨w',p,q⟩,fun b hb hm=>?_,fun a d hm=>?_⟩
   .rcases hu.own b hb with x|x
    .exact c.own b x hm
    .have:=f.lt hm;omega
   .rcases hu.own _ hm with x|x
    .exact c.ro a d x
    .have:=f.iC d;omega
  have H:m6 F k:=fun a d hm=>by
   rcases hu.ro a d with x|x|x
   .exact i a x hm
   .exact c.own _ x hm
   .have:=f.lt hm;omega
  refine ⟨g',w',es,k.star F,hgo,⟨hu.os,hu.tape,hu.output,hu.size,fun b hb i=>hu.frame b hb fun hm=>i ?_,fun a d=>?_,fun b hb=>?_⟩,t.both p q,fun e he=>?_,D t H⟩
  .simp only[af.star,cE,List.mem_append];exact .inl hm
  .rcases kM d with x|x
   .exact (hH (.inl x)).imp id (fun y=>.inl (by simp only[af.star,cE,List.mem_append];exact .inr y))
   .rcases hu.ro a x with y|y|y
    .exact (hH (.inr y)).imp id (fun z=>.inl (by simp only[af.star,cE,List.mem_append];exact .inr z))
    .exact .inr (.inl (by simp only[af.star,cE,List.mem_append];exact .inl y))
    .exact .inr (.inr y)
  .simp only[af.star,cE,List.mem_append] at hb ⊢
   rcases hb with hb|hb
   .exact (hu.own b hb).imp .inl id
   .exact .inl (.inr hb)
  .have u:∀b,iB G w.heap.size w'.heap.size b->iB (G.star F) w.heap.size w'.heap.size b:=fun b hb=>hb.imp (fun x=>by simp only[af.star,cE,List.mem_append];exact .inl x) id
   rcases C e he with ⟨a,wr,rfl,j|⟨I,j⟩⟩|⟨r,wr,rfl,j⟩|⟨m,rfl,hm⟩
   .exact .inl ⟨a,wr,rfl,.inl (u _ j)⟩
   .rcases hH (F:=F) (.inr j) with y|y
    .exact .inl ⟨a,wr,rfl,.inr ⟨I,y⟩⟩
    .exact .inl ⟨a,wr,rfl,.inl (.inl (by simp only[af.star,cE,List.mem_append];exact .inr y))⟩
   .exact .inr (.inl ⟨r,wr,rfl,u _ j⟩)
   .exact .inr (.inr ⟨m,rfl,hm⟩)
section
variable {P:Program}{main:Bool}{J:Goroutine->af->Prop}
theorem wO (hJ:Closed P main J){f:FuncId}{args:Array Value}{ro:Addr->Option Value}{own:List (Nat×Obj)}{K:Value->af->Prop}(R:Value->(Addr->Option Value)->Prop)(h:eJ P f args ro R)
  (r:∀v aW,Ext ro aW->(∀b∈keys own,∀off sp,aW ⟨b,off,sp⟩=none)->R v aW->K v ⟨aW,own⟩):dr P J f args ⟨ro,own⟩ K:=by
 intro c cs hK
 by_cases hw:∃w,Has ⟨ro,own⟩ w
 .obtain ⟨i,j⟩:=hw
  let F:af:=⟨fun _=>none,own⟩
  have m:∀w,Has ⟨ro,own⟩ w->Has F w:=fun w hw=>⟨fun a v h=>(by cases h),hw.own,hw.nodup,fun a v h=>(by cases h)⟩
  have n:∀w,Has ⟨ro,own⟩ w->Has ⟨ro,[]⟩ w:=fun w hw=>⟨hw.ro,fun b o hb=>(by cases hb),List.nodup_nil,fun a v e hm=>(by cases hm)⟩
  have p:Fits F ⟨ro,[]⟩:=⟨⟨i,n i j,m i j⟩,fun b hb=>(by cases hb),fun a d hm=>(by cases hm)⟩
  have s:m6 F ⟨ro,[]⟩:=fun a d hm=>by
   obtain ⟨v,t⟩:=Option.isSome_iff_exists.1 d
   exact j.apart a v t hm
  have u:wN J F (G (Frame.enter P f args .normal) (c::cs)) ⟨ro,[]⟩:=by
   refine h main _ (Bc hJ F) c cs fun v G k l y=>?_
   obtain ⟨aW,A,hle,k⟩:=k
   have q:∀a,(aW a).isSome=true->a.block∉keys own:=fun a d=>(hle.ro a d).elim (y a) (l.own _)
   refine hJ.mono (F:=⟨aW,own⟩) ⟨fun w hw=>?_,fun b hb=>?_,fun a d=>?_⟩ (hK v ⟨aW,own⟩ (r v aW A (fun b hb off sp=>?_) k))
   .have B:=hle.has w (l.right hw)
    have g:=l.left hw
    exact ⟨B.ro,g.own,g.nodup,fun a v e=>q a (by simp only at e;simp[e])⟩
   .simp only[af.star,cE,List.mem_append];exact .inr hb
   .rcases hle.ro a d with x|x
    .exact (hH (.inr x)).imp id (fun z=>by simp only[af.star,cE,List.mem_append];exact .inr z)
    .exact .inr (by simp only[af.star,cE,List.mem_append];exact .inl x)
   .cases e:aW ⟨b,off,sp⟩ with
    |none=>rfl
    |some v=>exact absurd hb (q ⟨b,off,sp⟩ (by simp[e]))
  refine hJ.mono ⟨fun w hw=>p.both (n w hw) (m w hw),fun b hb=>?_,fun a d=>?_⟩ (u p s)
  .simpa [af.star,F] using hb
  .rcases kM d with x|x
   .cases x
   .exact .inl x
 .exact hJ.step fun w g=>absurd ⟨w,g⟩ hw
end
attribute [go_sem] beq_self_eq_true beq_iff_eq beq_true beq_false Int.toNat_natCast Int.natCast_nonneg Int.ofNat_lt Nat.zero_mul Nat.mul_one List.length_map Bool.not_eq_true Bool.not_not decide_not
inductive Fl (σ ρ:Type) where
 |nx (s:σ)
 |bk (s:σ)
 |br (k:Nat) (s:σ)
 |rt (r:ρ)
def ai {α β:Type}(x:Option α)(f:α->Option β):Option β:=match x with
 |some a=>f a
 |none=>none
theorem gx {α β:Type}{x:Option α}{f:α->Option β}{r:β}(h:ai x f=some r):∃a,x=some a/\f a=some r:=by
 cases x with
 |none=>cases h
 |some a=>exact ⟨a,rfl,h⟩
theorem jz {α:Type}{b:Bool}{x y:Option α}{r:α}(h:cond b x y=some r):(b=true/\x=some r)\/(b=false/\y=some r):=by
 cases b
 .exact .inr ⟨rfl,h⟩
 .exact .inl ⟨rfl,h⟩
def aG {σ ρ τ:Type}(o:Fl σ ρ)(f:σ->Option τ)(g:Nat->σ->Option τ)(h:ρ->Option τ):Option τ:=match o with
 | .nx s=>f s
 | .bk s=>f s
 | .br k s=>g k s
 | .rt r=>h r
def aY {σ ρ:Type}(f:σ->Option (Fl σ ρ)):Nat->σ->Option (Fl σ ρ)
 |0,_=>none
 |n+1,s=>ai (f s) fun o=>match o with
  | .nx s'=>aY f n s'
  | .bk s'=>some (.nx s')
  | .br k s'=>some (.br k s')
  | .rt r=>some (.rt r)
def bU {α σ ρ:Type}(f:Nat->α->σ->Option (Fl σ ρ)):Nat->List α->σ->Option (Fl σ ρ)
 |_,[],s=>some (.nx s)
 |i,x::l,s=>ai (f i x s) fun o=>match o with
  | .nx s'=>bU f (i+1) l s'
  | .bk s'=>some (.nx s')
  | .br k s'=>some (.br k s')
  | .rt r=>some (.rt r)
def fu:Nat:=1000000000000000000
def bt {α:Type}(l:List α)(i:Int):Option α:=if 0<=i then l[i.toNat]? else none
theorem cv {α:Type}{l:List α}{i:Int}{x:α}(h:bt l i=some x):0<=i/\i<l.length/\l[i.toNat]?=some x:=by
 unfold bt at h;split at h
 .rename_i a;obtain ⟨hi,_⟩:=List.getElem?_eq_some_iff.1 h;exact ⟨a,aa,h⟩
 .cases h
def dc {α:Type}(l xs:List α):Option (List α):=if l.length+xs.length<=1000000 then some (l++xs) else none
theorem dg {α:Type}{l xs r:List α}(h:dc l xs=some r):l.length+xs.length<=1000000/\r=l++xs:=by
 unfold dc at h;split at h
 .rename_i a;cases h;exact ⟨a,rfl⟩
 .cases h
def jA {α:Type}(l:List α)(lo hi:Int):Option (List α):=if 0<=lo/\lo<=hi/\hi<=l.length then some ((l.take hi.toNat).drop lo.toNat) else none
theorem qN {α:Type}{l r:List α}{lo hi:Int}(h:jA l lo hi=some r):0<=lo/\lo<=hi/\hi<=l.length/\r=(l.take hi.toNat).drop lo.toNat:=by
 unfold jA at h;split at h
 .rename_i a;cases h;exact ⟨a.1,a.2.1,a.2.2,rfl⟩
 .cases h
def gm (a b:Int):Option Int:=if b=0 then none else some (IntKind.i64.wrap (a.tdiv b))
theorem kR {a b r:Int}(h:gm a b=some r):¬b=0/\IntKind.i64.wrap (a.tdiv b)=r:=by
 unfold gm at h;split at h
 .cases h
 .rename_i c;cases h;exact ⟨c,rfl⟩
def m7 (a b:Int):Option Int:=if b=0 then none else some (a.tmod b)
theorem wP {a b r:Int}(h:m7 a b=some r):¬b=0/\a.tmod b=r:=by
 unfold m7 at h;split at h
 .cases h
 .rename_i c;cases h;exact ⟨c,rfl⟩
def wQ (a b:Int):Option Int:=if b<0 then none else some (IntKind.i64.wrap (a*2 ^ min b.toNat 64))
theorem F6 {a b r:Int}(h:wQ a b=some r):¬b<0/\IntKind.i64.wrap (a*2 ^ min b.toNat 64)=r:=by
 unfold wQ at h;split at h
 .cases h
 .rename_i c;cases h;exact ⟨c,rfl⟩
def wR (a b:Int):Option Int:=if b<0 then none else some (a.fdiv (2 ^ min b.toNat 64))
theorem F7 {a b r:Int}(h:wR a b=some r):¬b<0/\a.fdiv (2 ^ min b.toNat 64)=r:=by
 unfold wR at h;split at h
 .cases h
 .rename_i c;cases h;exact ⟨c,rfl⟩
def Be (a b:Int):Int:=IntKind.i64.wrap (BitVec.ofInt 64 a&&& BitVec.ofInt 64 b).toNat
theorem F8 (a b:Int):IntKind.i64.wrap (BitVec.ofInt IntKind.i64.bits a&&& BitVec.ofInt IntKind.i64.bits b).toNat=Be a b:=rfl
attribute [go_sem ↓] F8
def F9 (a b:Int):Int:=IntKind.u8.wrap (BitVec.ofInt 8 a&&& BitVec.ofInt 8 b).toNat
theorem Ga (a b:Int):IntKind.u8.wrap (BitVec.ofInt IntKind.u8.bits a&&& BitVec.ofInt IntKind.u8.bits b).toNat=F9 a b:=rfl
attribute [go_sem ↓] Ga
def qO (a b:Int):Option Int:=if b<0 then none else some (IntKind.u64.wrap (a*2 ^ min b.toNat IntKind.u64.bits))
theorem wS {a b r:Int}(h:qO a b=some r):¬b<0/\IntKind.u64.wrap (a*2 ^ min b.toNat IntKind.u64.bits)=r:=by
 unfold qO at h;split at h
 .cases h
 .rename_i c;cases h;exact ⟨c,rfl⟩
def wT (a b:Int):Option Int:=if b<0 then none else some (a.fdiv (2 ^ min b.toNat IntKind.u64.bits))
theorem Gb {a b r:Int}(h:wT a b=some r):¬b<0/\a.fdiv (2 ^ min b.toNat IntKind.u64.bits)=r:=by
 unfold wT at h;split at h
 .cases h
 .rename_i c;cases h;exact ⟨c,rfl⟩
def iR (a b:Int):Int:=IntKind.u64.wrap (BitVec.ofInt 64 a&&& BitVec.ofInt 64 b).toNat
theorem Gc (a b:Int):IntKind.u64.wrap (BitVec.ofInt IntKind.u64.bits a&&& BitVec.ofInt IntKind.u64.bits b).toNat=iR a b:=rfl
def iF (a b:Int):Int:=IntKind.u64.wrap (BitVec.ofInt 64 a ^^^ BitVec.ofInt 64 b).toNat
theorem Gd (a b:Int):IntKind.u64.wrap (BitVec.ofInt IntKind.u64.bits a ^^^ BitVec.ofInt IntKind.u64.bits b).toNat=iF a b:=rfl
attribute [go_sem ↓] Gc Gd
theorem cI {n:Nat}(h:n<1000000000000000):IntKind.i64.wrap ((n:Int)+1)=((n+1:Nat):Int):=by
 simp only[IntKind.wrap,IntKind.bits,IntKind.signed];simp;omega
theorem dK {α:Type}{l:List α}{i:Nat}{x:α}(h:l[i]?=some x):l.drop i=x::l.drop (i+1):=by
 obtain ⟨hi,rfl⟩:=List.getElem?_eq_some_iff.1 h;exact List.drop_eq_getElem_cons hi
theorem cast_zero:((0:Nat):Int)=0:=rfl
attribute [go_sem] cast_zero
theorem Ge (l:List Value)(i j:Nat):(l.toArray).extract i j=((l.drop i).take (j - i)).toArray:=by
 apply Array.ext';simp[List.extract_eq_drop_take]
attribute [go_sem] Ge
structure cw (T:Type) where
 n:Nat
 rel:(Addr->Option Value)->T->List Value->Prop
 mono:∀{ro aW:Addr->Option Value} {x:T} {cs:List Value},Ext ro aW->rel ro x cs->rel aW x cs
 len:∀{ro:Addr->Option Value} {x:T} {cs:List Value},rel ro x cs->cs.length=n
 one:∀{ro:Addr->Option Value} {x:T} {cs:List Value},rel ro x cs->∀v∈cs,bV v=true
def ia {T:Type}(n:Nat)(c:T->List Value)(h:∀x,(c x).length=n)(a:∀x,∀v∈c x,bV v=true):cw T:=
 ⟨n,fun _ x cs=>cs=c x,fun _ h=>h,fun e=>by rw[e];exact h _,fun e=>by rw[e];exact a _⟩
def rI:cw Int:=ia 1 (fun n=>[.int .i64 n]) (fun _=>rfl) (fun _ v a=>by simp at a;subst a;rfl)
def rB:cw Bool:=ia 1 (fun n=>[.bool n]) (fun _=>rfl) (fun _ v a=>by simp at a;subst a;rfl)
def aI {T:Type}(r:cw T)(ro:Addr->Option Value)(s:Value)(l:List T):Prop:=
 ∃ad cap,s= .slice ad l.length cap/\l.length<=cap/\l.length<=1000000000000000/\∀i x,l[i]?=some x->∃p cs,ad=some p/\r.rel ro x cs/\∀j v,cs[j]?=some v->ro ((p.add (i*r.n)).add j)=some v
theorem aI.mono {T:Type}{r:cw T}{ro aW:Addr->Option Value}{s:Value}{l:List T}(h:aI r ro s l)(a:Ext ro aW):aI r aW s l:=by
 obtain ⟨ad,cap,b,c,d,e⟩:=h;refine ⟨ad,cap,b,c,d,fun i x hi=>?_⟩;obtain ⟨p,cs,f,hc,hm⟩:=e i x hi;exact ⟨p,cs,f,r.mono a hc,fun j v g=>a _ _ (hm j v g)⟩
theorem aI.nil {T:Type}(r:cw T)(ro:Addr->Option Value):aI r ro (.slice none 0 0) []:=⟨none,0,rfl,Nat.le_refl _,ax,fun i x h=>by simp at h⟩
def rL {T:Type}(r:cw T):cw (List T):=
 ⟨1,fun ro l cs=>∃s,cs=[s]/\aI r ro s l,fun d ⟨s,a,b⟩=>⟨s,a,b.mono d⟩,fun ⟨s,a,_⟩=>by rw[a];rfl,fun ⟨s,a,ad,cap,b,_⟩ v c=>by rw[a] at c;simp at c;subst c;rw[b];rfl⟩
theorem aI.part {T:Type}{r:cw T}{ro:Addr->Option Value}{ad:Option Addr}{cap:Nat}{l:List T}(h:aI r ro (.slice ad l.length cap) l)(lo hi:Nat)(f:lo<=hi)(g:hi<=l.length):
  aI r ro (.slice (if cap=lo then ad else ad.map (·.add (lo*r.n))) (hi - lo) (cap - lo)) ((l.take hi).drop lo):=by
 obtain ⟨k,m,e,o,q,b⟩:=h
 cases e
 have hlen:((l.take hi).drop lo).length=hi - lo:=by simp;omega
 refine ⟨_,cap - lo,by rw[hlen],by rw[hlen];omega,by rw[hlen];omega,fun i x a=>?_⟩
 rw[List.getElem?_drop,List.getElem?_take] at a
 split at a
 case isFalse=>cases a
 obtain ⟨p,cs,c,hc,hm⟩:=b _ x a
 have s:lo+i<l.length:=(List.getElem?_eq_some_iff.1 a).1
 refine ⟨p.add (lo*r.n),cs,?_,hc,fun j v d=>?_⟩
 .have aN:¬cap=lo:=aa
  rw[if_neg aN,c];rfl
 .have:=hm j v d
  rw[lW] at this
  rw[lW,lW]
  rw[show lo*r.n+(i*r.n+j)=(lo+i)*r.n+j by rw[Nat.add_mul];omega]
  exact this
def Apart (ks:List Nat)(bu:List (Nat×Obj)):Prop:=∀k∈keys bu,k∉ks
theorem Apart.nil (ks:List Nat):Apart ks []:=fun k h=>(by cases h)
theorem lY:∀{l:List (Nat×Obj)} {b:Nat},av l b->b∉keys l
 |[],_,_=>by simp[keys]
 |(c,o)::l,b,h=>by simp only[keys,List.map_cons,List.mem_cons,not_or];exact ⟨h.1,lY h.2⟩
theorem m8:∀{l:List (Nat×Obj)} {b:Nat},b∉keys l->av l b
 |[],_,_=>trivial
 |(c,o)::l,b,h=>by simp only[keys,List.map_cons,List.mem_cons,not_or] at h;exact ⟨h.1,m8 h.2⟩
theorem Apart.push {ks:List Nat}{bu:List (Nat×Obj)}{b:Nat}(h:Apart ks bu)(hb:av bu b):Apart (b::ks) bu:=fun k a=>by
 simp only[List.mem_cons,not_or]
 exact ⟨fun e=>lY hb (e▸a),h k a⟩
theorem Apart.drop {ks:List Nat}{bu:List (Nat×Obj)}{b:Nat}(h:Apart (b::ks) bu):Apart ks bu:=fun k a=>(by have:=h k a;simp only[List.mem_cons,not_or] at this;exact this.2)
def bg {T:Type}(r:cw T)(ro:Addr->Option Value)(e:TypeId)(v:Value)(l:List T)(bu:List (Nat×Obj)):Prop:=
 ∃ls:List (List Value),Gr ro e r.n v ls bu/\ls.length=l.length/\l.length<=1000000/\∀(i:Nat) (x:T),l[i]?=some x->∃cs:List Value,ls[i]?=some cs/\r.rel ro x cs
theorem bg.nil {T:Type}(r:cw T)(ro:Addr->Option Value)(e:TypeId):bg r ro e (.slice none 0 0) [] []:=⟨[],.inl ⟨rfl,rfl,rfl⟩,rfl,ax,fun i x h=>by simp at h⟩
theorem bg.len {T:Type}{r:cw T}{ro:Addr->Option Value}{e:TypeId}{v:Value}{l:List T}{bu:List (Nat×Obj)}(h:bg r ro e v l bu):∃ad cap,v= .slice ad l.length cap/\l.length<=cap:=by
 obtain ⟨ls,hg,a,-⟩:=h;rcases hg with ⟨rfl,rfl,rfl⟩|⟨b,arr,cap,rfl,rfl,hs,hle,-⟩
 .exact ⟨none,0,by rw[<-a];rfl,by rw[<-a];exact Nat.le_refl _⟩
 .exact ⟨_,cap,by rw[a],aa⟩
def aJ (ro:Addr->Option Value)(own:List (Nat×Obj)):Prop:=∀b∈keys own,∀off sp,ro ⟨b,off,sp⟩=none
theorem bg.mono {T:Type}{r:cw T}{ro aW:Addr->Option Value}{e:TypeId}{v:Value}{l:List T}{bu:List (Nat×Obj)}(h:bg r ro e v l bu)(d:Ext ro aW)(f:aJ aW bu):bg r aW e v l bu:=by
 obtain ⟨ls,hg,g,hm,j⟩:=h;refine ⟨ls,?_,g,hm,fun i x hi=>?_⟩
 .rcases hg with h|⟨b,arr,cap,c,a,k,m,n,o,p⟩
  .exact .inl h
  .exact .inr ⟨b,arr,cap,c,a,k,m,n,o,f b (by rw[a];simp[keys])⟩
 .obtain ⟨cs,c,a⟩:=j i x hi;exact ⟨cs,c,r.mono d a⟩
theorem Apart.fresh {pre bu:List (Nat×Obj)}{ks:List Nat}(h:Apart ks bu)(a:keys pre=ks):∀k∈keys bu,av pre k:=fun k b=>m8 (by rw[a];exact h k b)
theorem qP {n:Nat}:∀(ls:List (List Value)) (i:Nat) (cs:List Value),(∀x∈ls,x.length=n)->ls[i]?=some cs->∀j v,cs[j]?=some v->ls.flatten[i*n+j]?=some v
 |[],i,cs,_,h,_,_,_=>by simp at h
 |y::ls,0,cs,b,h,j,v,a=>by
  simp at h;subst h
  have:j<y.length:=(List.getElem?_eq_some_iff.1 a).1
  simp only[Nat.zero_mul,Nat.zero_add,List.flatten_cons]
  rw[List.getElem?_append_left this]
  exact a
 |y::ls,i+1,cs,b,h,j,v,a=>by
  simp at h
  have ih:=qP ls i cs (fun x d=>b x (by simp[d])) h j v a
  have c:=b y ax
  simp only[List.flatten_cons]
  rw[List.getElem?_append_right (by rw[c,Nat.add_mul];omega)]
  rw[show (i+1)*n+j - y.length=i*n+j by rw[c,Nat.add_mul];omega]
  exact ih
theorem bg.Bf {T:Type}{r:cw T}{ro:Addr->Option Value}{e:TypeId}{v:Value}{l:List T}{bu:List (Nat×Obj)}{ks:List Nat}(h:bg r ro e v l bu)(pre:List (Nat×Obj))(k:Apart ks bu)(m:keys pre=ks)(d:aJ ro pre):
  ∃aW,Ext ro aW/\aJ aW pre/\aI r aW v l/\Le ⟨aW,pre⟩ ⟨ro,pre++bu⟩:=by
 obtain ⟨ls,hg,f,hm,o⟩:=h
 rcases hg with ⟨rfl,rfl,rfl⟩|⟨b,arr,cap,rfl,rfl,hs,hle,ht,g,p⟩
 .have:l=[]:=List.eq_nil_of_length_eq_zero (by simpa using f.symm)
  subst this
  exact ⟨ro,Ext.refl ro,d,aI.nil r ro,by rw[List.append_nil];exact Le.refl _⟩
 .have hb:b∉keys pre:=by rw[m];exact k b (by simp[keys])
  refine ⟨b7 ro b (.cells arr e),gP _ _ _,fun c hc off sp=>?_,⟨some ⟨b,0,none⟩,cap,by rw[f],aa,aa,fun i x hi=>?_⟩,kQ ?_ (List.sublist_append_left _ _) (m8 hb)⟩
  .have aN:¬c=b:=fun e=>hb (e▸hc)
   simp[b7,d c hc,aN]
  .obtain ⟨cs,q,s⟩:=o i x hi
   refine ⟨_,cs,rfl,r.mono (gP _ _ _) s,fun j v t=>?_⟩
   have a:=qP ls i cs g q j v t
   rw[lW,lX,Nat.zero_add,fF p]
   have u:i*r.n+j<ls.length*r.n:=by
    have:=(List.getElem?_eq_some_iff.1 a).1
    rw[iQ g] at this
    exact this
   rw[<-ht,List.getElem?_take_of_lt u] at a
   simpa [cellOf] using a
  .have:∀(pre:List (Nat×Obj)),b∉keys pre->lk (pre++[(b,Obj.cells arr e)]) b=some (.cells arr e):=fun pre h=>wE (m8 h)
   exact this pre hb
theorem bg.elem {T:Type}{r:cw T}{ro:Addr->Option Value}{e:TypeId}{v:Value}{l:List T}{bu:List (Nat×Obj)}(h:bg r ro e v l bu){i:Nat}{x:T}(hi:l[i]?=some x):
  ∃b arr cap cs,v= .slice (some ⟨b,0,none⟩) l.length cap/\bu=[(b,.cells arr e)]/\(∀off sp,ro ⟨b,off,sp⟩=none)/\r.rel ro x cs/\∀j v,cs[j]?=some v->arr[i*r.n+j]?=some v:=by
 obtain ⟨ls,hg,f,hm,g⟩:=h
 obtain ⟨cs,c,k⟩:=g i x hi
 rcases hg with ⟨rfl,rfl,rfl⟩|⟨b,arr,cap,rfl,rfl,hs,hle,ht,d,m⟩
 .simp at c
 .refine ⟨b,arr,cap,cs,by rw[f],rfl,m,k,fun j v o=>?_⟩
  have a:=qP ls i cs d c j v o
  have p:i*r.n+j<ls.length*r.n:=by
   have:=(List.getElem?_eq_some_iff.1 a).1
   rw[iQ d] at this
   exact this
  rw[<-ht,List.getElem?_take_of_lt p] at a
  simpa using a
theorem aZ {ro:Addr->Option Value}{own:List (Nat×Obj)}:Ext ro (af.cM ⟨ro,own⟩).ro:=fun a v h=>by simp[af.cM,af.get,h]
theorem cg {ro:Addr->Option Value}{own:List (Nat×Obj)}{F:af}(h:Knows ⟨ro,own⟩ F):Ext ro F.cM.ro:=fun a v b=>by
 have:F.ro a=some v:=h.1 a v b
 simp[af.cM,af.get,this]
theorem aI.qQ {T:Type}{r:cw T}{ro:Addr->Option Value}{ad:Option Addr}{cap:Nat}{l x:List T}(h:aI r ro (.slice ad l.length cap) l)(lo hi:Nat)(b:lo<=hi)(c:hi<=l.length)(d:x=(l.take hi).drop lo):
  ∃a,(if cap=lo then ad else ad.map (·.add (lo*r.n)))=a/\hi - lo=x.length/\aI r ro (.slice a x.length (cap - lo)) x:=by
 subst d
 have hlen:((l.take hi).drop lo).length=hi - lo:=by simp;omega
 refine ⟨_,rfl,hlen.symm,?_⟩
 rw[hlen]
 exact h.part lo hi b c
theorem aI.one {T:Type}{r:cw T}{ro:Addr->Option Value}{own:List (Nat×Obj)}{b:Nat}{x:T}{cs:Array Value}{e:TypeId}(a:∀off sp,ro ⟨b,off,sp⟩=none)(d:lk own b=some (.cells cs e))(h:r.rel ro x cs.toList):
  aI r (b7 ro b (.cells cs e)) (.slice (some ⟨b,0,none⟩) 1 1) [x]:=by
 refine ⟨some ⟨b,0,none⟩,1,rfl,Nat.le_refl _,ax,fun i y hi=>?_⟩
 have:i=0/\y=x:=by
  cases i with
  |zero=>simp at hi;exact ⟨rfl,hi.symm⟩
  |succ i=>simp at hi
 obtain ⟨rfl,rfl⟩:=this
 refine ⟨_,_,rfl,r.mono (gP _ _ _) h,fun j v c=>?_⟩
 rw[Nat.zero_mul,add_zero',lX,Nat.zero_add,fF a]
 simpa [cellOf] using c
theorem aI.flat {T:Type}{r:cw T}{ro:Addr->Option Value}{b:Nat}{cs:Array Value}{e:TypeId}(c:T->List Value)(l:List T)(hc:∀x,r.rel ro x (c x))(a:∀off sp,ro ⟨b,off,sp⟩=none)(d:cs.toList=(l.map c).flatten)(hlen:l.length<=1000000000000000):
  aI r (b7 ro b (.cells cs e)) (.slice (some ⟨b,0,none⟩) l.length l.length) l:=by
 refine ⟨some ⟨b,0,none⟩,l.length,rfl,Nat.le_refl _,hlen,fun i x hi=>⟨_,c x,rfl,r.mono (gP _ _ _) (hc x),fun j v f=>?_⟩⟩
 have g:(l.map c)[i]?=some (c x):=by rw[List.getElem?_map,hi];rfl
 have h:∀y∈l.map c,y.length=r.n:=fun y k=>by
  obtain ⟨z,_,rfl⟩:=List.mem_map.1 k
  exact r.len (hc z)
 have:=qP (l.map c) i (c x) h g j v f
 rw[lX,lX,Nat.zero_add,fF a]
 rw[<-d] at this
 simpa [cellOf] using this
theorem kS {ro:Addr->Option Value}{own:List (Nat×Obj)}{b:Nat}{o:Obj}(d:lk own b=some o):Ext (b7 ro b o) (af.cM ⟨ro,own⟩).ro:=fun a v h=>by
 unfold b7 at h
 simp only[af.cM,af.get]
 split at h
 .rename_i x c;rw[c];exact h
 .rename_i c
  split at h
  .rename_i hc
   rw[c]
   simp only
   rw[if_pos hc.2,hc.1,d]
   exact h
  .cases h
section
variable {P:Program}{main:Bool}{J:Goroutine->af->Prop}
theorem ie (hJ:Closed P main J){f:FuncId}{args:Array Value}{F F':af}{K:Value->af->Prop}(hle:Le F F')(h:dr P J f args F K):dr P J f args F' K:=fun c cs k=>hJ.mono hle (h c cs k)
end
theorem bg.bd {T:Type}{r:cw T}{ro:Addr->Option Value}{e:TypeId}{v:Value}{l:List T}{bu:List (Nat×Obj)}(h:bg r ro e v l bu):l.length<=1000000:=by
 obtain ⟨ls,_,_,hm,_⟩:=h;exact hm
theorem aE.Bf {P:Program}{f:FuncId}{args:Array Value}{ro:Addr->Option Value}{R:Value->Prop}(h:aE P f args ⟨ro,[]⟩ (fun v _=>R v)):aE P f args ⟨ro,[]⟩ (fun v G=>R v/\G=⟨ro,[]⟩):=by
 intro main J hJ c cs hK
 exact v7 (F:=⟨ro,[]⟩) (R:=R) (by
  have e:af.cM ⟨ro,[]⟩=⟨ro,[]⟩:=by
   simp only[af.cM,af.mk.injEq,and_true];funext a;simp only[af.get];cases ro a with
   |none=>simp[lk]
   |some v=>rfl
  rw[e];exact h) main J hJ c cs hK
end Go.Sep
end
section
namespace Go.Sep
open Go Go.Conc Go.ConcM
open Go.ConcN (sumTo upd sumTo_upd upd_ne upd_same)
def eK (P:Program)(Φ:Goroutine->af->Prop)(g:Goroutine)(F:af):Prop:=
 ∀(bK:Loc->Prop) (gs:Array Goroutine) (w:World) (sl:Option (Nat×Nat)) (t:Trace) (q:Nat->Nat),jY P bK g F gs w t q->
  ∃(N:Nat) (cp:Array Goroutine) (w':World) (c:Option (Nat×Nat)) (a:Trace) (d:Nat->Nat) (g':Goroutine) (F':af) (b:Loc->Prop),
   runNT P N (crowd gs w sl) t=(.next (crowd cp w' c),a)/\jY P b g' F' cp w' a d/\fQ F F' w w'/\(∀l,b l->bK l\/¬l.low w.heap.size)/\Φ g' F'
theorem eK.done {P:Program}{Φ:Goroutine->af->Prop}{g:Goroutine}{F:af}(h:Φ g F):eK P Φ g F:=
 fun bK gs w sl t q a=>⟨0,gs,w,sl,t,q,g,F,bK,rfl,a,.refl _ _,fun _ h=>.inl h,h⟩
theorem qR (P:Program)(Φ:Goroutine->af->Prop):Closed P true (eK P Φ) where
 mono hle h bK gs w sl t q b:=by
  obtain ⟨N,cp,w',z,A,B,g',F',C,g,D,hu,E,H⟩:=h bK gs w sl t q ⟨b.g0,b.lv,b.gj,hle.has w b.has,fun l hs I=>b.apart l hs (hle.g9 I),b.low⟩
  exact ⟨N,cp,w',z,A,B,g',F',C,g,D,hu.le hle,E,H⟩
 step {fr cs F} h bK gs w sl t q b:=by
  obtain ⟨N,k,d,m,a3,n,t1,J,g,a4,p,r,K,L⟩:=sS (P:=P) (a:=G fr cs) rfl _ gs w sl t q (Nat.le_refl _) b.g0 b.lv b.gj
  obtain ⟨g',w',es,F',hgo,hu,M,O,hJ⟩:=h (w.at m) (b.has.at m)
  have c:eB F F' w w':=⟨hu.os,hu.tape,hu.output,hu.size,hu.frame,hu.ro,hu.own⟩
  have Q:=runT_crowd_go (P:=P) (sl:=n) (i:=0) p (show stepG P (0==0) (G fr cs) (w.at m)=_ from hgo)
  have R:0<k.size:=(Array.getElem?_eq_some_iff.1 p).1
  have s:=jY.next (P:=P) b.apart b.low c
  obtain ⟨S,T,w2,U,t2,V,W,X,Y,Z,ab,ad,ae,al⟩:=hJ bK ((k.map (woken P (G fr cs) g' w')).setIfInBounds 0 g') w' n (t1++MemOp.ofEvents 0 (G fr cs).frame.fn (G fr cs).frame.place es) J
   {g0:=by simp[R]
    lv:=⟨fun j x f u=>by
     have aN:0≠j:=aa
     rw[Array.getElem?_setIfInBounds_ne aN,Array.getElem?_map] at u
     obtain ⟨y,ao,rfl⟩:=Option.map_eq_some_iff.1 u
     have v:=r.old j y f ao
     rw[woken_quitsD v,Deaf_other t1 aa _ (fun op o=>by obtain ⟨e,_,rfl⟩:=Go.Conc.mem_ofEvents o;rfl)]
     exact v,fun j f=>by
     rw[Deaf_other t1 (g':=0) (by simp at f;omega) _ (fun op o=>by obtain ⟨e,_,rfl⟩:=Go.Conc.mem_ofEvents o;rfl)]
     exact r.above j (by simpa using f)⟩
    gj:=(K.mono c.size).own fun e he=>AG b.has c.size b.apart b.low (O e he)
    has:=M
    apart:=s.1
    low:=s.2}
  refine ⟨N+1+S,T,w2,U,t2,V,W,X,Y,?_,ab,(fQ.qx c).trans ad,fun l ar=>(ae l ar).imp id fun a0 a2=>a0 (Loc.low_mono c.size a2),al⟩
  have:runNT P (N+1) (crowd gs w sl) t=(.next (crowd ((k.map (woken P (G fr cs) g' w')).setIfInBounds 0 g') w' n),t1++MemOp.ofEvents 0 (G fr cs).frame.fn (G fr cs).frame.place es):=by
   rw[runNT_add,g]
   simp only[runNT,L,Q]
  rw[jZ this]
  exact Z
def gq (P:Program)(f:FuncId)(args:Array Value)(F:af)(R:Value->af->Prop):Prop:=∀Φ,dr P (eK P Φ) f args F R
theorem Bg {P:Program}{f:FuncId}{args:Array Value}{ro:Addr->Option Value}{own:List (Nat×Obj)}{R:Value->af->Prop}(h:gq P f args ⟨ro,[]⟩ R):
  gq P f args ⟨ro,own⟩ (fun v F'=>∃G,R v G/\F'=G.star ⟨ro,own⟩/\Fits ⟨ro,own⟩ G/\m6 ⟨ro,own⟩ G):=by
 intro Φ c cs hK bK gs w sl t q d
 let Fr:af:=⟨ro,own⟩
 have H:jY P bK (G (Frame.enter P f args .normal) (c::cs)) ⟨ro,[]⟩ gs w t q:=
  ⟨d.g0,d.lv,d.gj,⟨d.has.ro,fun b o hb=>(by cases hb),List.nodup_nil,fun a v j hm=>(by cases hm)⟩,fun l hs i=>d.apart l hs (by
   cases l with
   |cell a=>exact i.elim (fun x=>by cases x) .inr
   |obj r=>cases i
   |_=>exact i),d.low⟩
 obtain ⟨N,cp,w',I,s,u,g',F',A,j,g,hu,n,v,rfl,p⟩:=h (fun g' F'=>∃v,g'=G (c.finish v) cs/\R v F') c cs (fun v F' p=>eK.done ⟨v,rfl,p⟩) bK gs w sl t q H
 have B:Has Fr w':=⟨fun a v j=>by
  have C:=d.has.ro a v j
  have J:=d.has.iC (a:=a) (by rw[j];rfl)
  unfold World.cell? at C ⊢
  rw[hu.frame _ J (fun hm=>by cases hm)]
  exact C,fun b o hb=>by
  rw[hu.frame b (d.has.lt (fC hb)) (fun hm=>by cases hm)]
  exact d.has.own b o hb,d.has.nodup,d.has.apart⟩
 have D:Fits Fr F':=⟨⟨w',g.has,B⟩,fun b hb hm=>by
  rcases hu.own b hb with x|x
  .cases x
  .have:=d.has.lt (b:=b) hm;omega,fun a k hm=>by
  rcases hu.own _ hm with x|x
  .cases x
  .have:=d.has.iC (a:=a) k;omega⟩
 have K:m6 Fr F':=fun a k hm=>by
  rcases hu.ro a k with x|x|x
  .obtain ⟨y,L⟩:=Option.isSome_iff_exists.1 x
   exact d.has.apart a y L hm
  .cases x
  .have:=d.has.lt (b:=a.block) hm;omega
 have M:jY P A (G (c.finish v) cs) (F'.star Fr) cp w' s u:=by
  refine ⟨g.g0,g.lv,g.gj,D.both g.has B,fun l hs i=>?_,g.low⟩
  have E:∀b,b∈keys own->(l= .obj b\/∃a,l= .cell a/\a.block=b)->False:=fun b hb m=>by
   rcases n l hs with x|x
   .refine d.apart l x ?_
    rcases m with rfl|⟨a,rfl,e⟩
    .exact hb
    .exact .inl (e▸hb)
   .refine x ?_
    have:=d.has.lt (b:=b) hb
    rcases m with rfl|⟨a,rfl,e⟩
    .exact this
    .show a.block<_;rw[e];exact this
  cases l with
  |cell a=>
   rcases i with x|x
   .simp only[af.star,cE,List.mem_append] at x
    rcases x with x|x
    .exact g.apart _ hs (.inl x)
    .exact E _ x (.inr ⟨a,rfl,rfl⟩)
   .rcases kM x with y|y
    .rcases n _ hs with z|z
     .exact d.apart _ z (.inr y)
     .exact z (d.has.iC (a:=a) y)
    .exact g.apart _ hs (.inr y)
  |obj r=>
   simp only[af.g9,af.star,cE,List.mem_append] at i
   rcases i with x|x
   .exact g.apart _ hs x
   .exact E _ x (.inl rfl)
  |_=>exact i
 obtain ⟨O,Q,w2,S,t2,T,U,V,W,X,Y,Z,ab,ad⟩:=hK v (F'.star Fr) ⟨F',p,rfl,D,K⟩ A cp w' I s u M
 have ae:fQ ⟨ro,own⟩ (F'.star Fr) w w':=⟨hu.os,hu.tape,hu.output,hu.size,fun b hb F=>hu.frame b hb (fun x=>by cases x),fun a k=>by
  rcases kM k with y|y
  .exact .inl y
  .rcases hu.ro a y with z|z|z
   .exact .inl z
   .cases z
   .exact .inr (.inr z),fun b hb=>by
  simp only[af.star,cE,List.mem_append] at hb
  rcases hb with x|x
  .rcases hu.own b x with y|y
   .cases y
   .exact .inr y
  .exact .inl x⟩
 exact ⟨N+O,Q,w2,S,t2,T,U,V,W,by rw[jZ j];exact X,Y,ae.trans Z,fun l m=>(ab l m).elim (n l) fun F=>.inr fun al=>F (Loc.low_mono hu.size al),ad⟩
theorem gq.go {P:Program}{f:FuncId}{fn:Func}{c:Code}{n:Nat}{rs:List ResultVar}{args:Array Value}{F:af}{R:Value->af->Prop}(j:P.funcs[f]?=some fn)(hb:fn.body=some c)(d:fn.ntmps=n)(k:fn.results=rs.toArray)(m:args.size<=n)
  (h:∀Φ,Closed P true (eK P Φ)->∀A:Act,sz A=n->A.defers=[]->(∀i,slot A i=args.getD i undef)->Wp (eK P Φ) c (jw P rs R) A F):gq P f args F R:=fun Φ=>by
 refine dr.of_wp (qR P Φ) j hb ?_
 refine (h Φ (qR P Φ) _ (by simp[sz,d];omega) rfl fun i=>?_).mono fun e a F g=>?_
 .simp only[slot,d,Array.getD_eq_getD_getElem?]
  rcases Nat.lt_or_ge i args.size with hi|hi
  .rw[Array.getElem?_append_left hi]
  .rw[Array.getElem?_append_right hi,Array.getElem?_replicate,Array.getElem?_eq_none hi]
   split<;>rfl
 .cases e with
  |exit i=>exact g
  |_=>
   obtain ⟨hd,b⟩:=g
   split at b
   .rename_i v l
    show iP P a.defers _ F
    rw[hd]
    exact s8 k l b
   .exact b.elim
def qS (P:Program)(f:FuncId)(args:Array Value)(ro:Addr->Option Value)(R:Value->(Addr->Option Value)->Prop):Prop:=
 gq P f args ⟨ro,[]⟩ (fun v G=>∃aW,Ext ro aW/\Le ⟨aW,[]⟩ G/\R v aW)
theorem Gf {P:Program}{Φ:Goroutine->af->Prop}{f:FuncId}{args:Array Value}{ro:Addr->Option Value}{own:List (Nat×Obj)}{K:Value->af->Prop}(R:Value->(Addr->Option Value)->Prop)
  (h:qS P f args ro R) (k:∀v aW,Ext ro aW->(∀b∈keys own,∀off sp,aW ⟨b,off,sp⟩=none)->R v aW->K v ⟨aW,own⟩):dr P (eK P Φ) f args ⟨ro,own⟩ K:=by
 intro c cs hK
 refine Bg (own:=own) h Φ c cs fun v F' l=>?_
 obtain ⟨G,⟨aW,m,hle,n⟩,rfl,e,o⟩:=l
 have i:∀a,(aW a).isSome=true->a.block∉keys own:=fun a g=>(hle.ro a g).elim (o a) (e.own _)
 refine (qR P Φ).mono (F:=⟨aW,own⟩) ⟨fun w hw=>?_,fun b hb=>?_,fun a g=>?_⟩ (hK v ⟨aW,own⟩ (k v aW m (fun b hb off sp=>?_) n))
 .have p:=hle.has w (e.right hw)
  have j:=e.left hw
  exact ⟨p.ro,j.own,j.nodup,fun a v d=>i a (by simp only at d;simp[d])⟩
 .simp only[af.star,cE,List.mem_append];exact .inr hb
 .rcases hle.ro a g with x|x
  .exact (hH (.inr x)).imp id (fun z=>by simp only[af.star,cE,List.mem_append];exact .inr z)
  .exact .inr (by simp only[af.star,cE,List.mem_append];exact .inl x)
 .cases d:aW ⟨b,off,sp⟩ with
  |none=>rfl
  |some v=>exact absurd hb (i ⟨b,off,sp⟩ (by simp[d]))
theorem wU {P:Program}{Φ:Goroutine->af->Prop}{f:FuncId}{args:Array Value}{ro:Addr->Option Value}{own:List (Nat×Obj)}{K:Value->af->Prop}(v:Value)
  (h:gq P f args ⟨ro,[]⟩ (fun d _=>d=v)) (e:K v ⟨ro,own⟩):dr P (eK P Φ) f args ⟨ro,own⟩ K:=by
 intro c cs hK
 refine Bg (own:=own) h Φ c cs fun d F' g=>?_
 obtain ⟨G,rfl,rfl,i,k⟩:=g
 refine (qR P Φ).mono (F:=⟨ro,own⟩) ⟨fun w hw=>i.left hw,fun b hb=>?_,fun a j=>?_⟩ (hK d ⟨ro,own⟩ e)
 .simp only[af.star,cE,List.mem_append];exact .inr hb
 .exact (hH (.inl j)).imp id (fun z=>by simp only[af.star,cE,List.mem_append];exact .inr z)
end Go.Sep
end
section
namespace Go.Sep
open Go Go.Conc Go.ConcM
def Bh (P:Program)(R:Value->af->Prop)(g:Goroutine)(F:af):Prop:=
 ∃(fr:Frame) (fn:Func) (t:Nat) (v:Value),g=G fr []/\fr.kind= .normal/\P.inits.idxOf? fr.fn=none/\fr.mode= .returning/\fr.defers=[]/\P.funcs[fr.fn]?=some fn/\fn.results=#[.tmp t]/\fr.tmps.getD t undef=v/\R v F
def m9 (P:Program)(f:FuncId)(args:Array Value)(F:af)(R:Value->af->Prop):Prop:=
 ∀Φ:Goroutine->af->Prop,(∀g F',Bh P R g F'->Φ g F')->eK P Φ (G (Frame.enter P f args .normal) []) F
theorem m9.go {P:Program}{f:FuncId}{fn:Func}{c:Code}{n t:Nat}{args:Array Value}{F:af}{R:Value->af->Prop}(g:P.funcs[f]?=some fn)(hb:fn.body=some c)(j:fn.ntmps=n)(o:fn.results=[.tmp t].toArray)(x:args.size<=n)(hi:P.inits.idxOf? f=none)
  (h:∀Φ,Closed P true (eK P Φ)->∀A:Act,sz A=n->A.defers=[]->(∀i,slot A i=args.getD i undef)->Wp (eK P Φ) c (jw P [.tmp t] R) A F):m9 P f args F R:=by
 intro Φ p
 have hJ:=qR P Φ
 let b:Frame:={(default:Frame) with fn:=f,kind:=.normal}
 have q:Frame.enter P f args .normal=on b {tmps:=args++Array.replicate (fn.ntmps - args.size) undef,defers:=[]} [.code c]:=by
  simp[Frame.enter,on,g,hb,b]
  rfl
 rw[q]
 have k:∀(a:Act) (F':af) (fr:Frame),fr.kind= .normal->fr.mode= .returning->fr.defers=a.defers->fr.fn=f->fr.tmps=a.tmps->jw P [.tmp t] R .normal a F'->eK P Φ (G fr []) F':=by
  intro a F' fr r s u l v d
  obtain ⟨hd,w⟩:=d
  refine eK.done (p _ _ ⟨fr,fn,t,_,rfl,r,by rw[l];exact hi,s,by rw[u,hd],by rw[l];exact g,o,rfl,?_⟩)
  rw[v]
  simpa [m3,m0,qJ,slot] using w
 refine h Φ hJ _ (by simp[sz,j];omega) rfl (fun i=>?_) b [] [] ⟨by simp[b],.inl rfl⟩ fun e m F' d=>?_
 .simp only[slot,j,Array.getD_eq_getD_getElem?]
  rcases Nat.lt_or_ge i args.size with hi|hi
  .rw[Array.getElem?_append_left hi]
  .rw[Array.getElem?_append_right hi,Array.getElem?_replicate,Array.getElem?_eq_none hi]
   split<;>rfl
 .cases e with
  |normal=>exact hJ.move (fun _=>mP rfl) (k m F' _ rfl rfl rfl rfl rfl d)
  |exit i=>exact d.elim
  |ret=>exact fun y=>hJ.move (fun _=>stepG_ret' rfl) (k m F' _ rfl rfl rfl rfl rfl d)
theorem m9.ends {P:Program}{f:FuncId}{args:Array Value}{F:af}{R:Value->af->Prop}(h:m9 P f args F R){W:World}(i:Has F W){a:Value->World->Prop}
  (j:∀v F' w',R v F'->fQ F F' W w'->a v w'):
  ∃M last o w' b,runNT P (M+1) (solo (G (Frame.enter P f args .normal) []) W) #[]=(.ended o w',b)/\runN P M (solo (G (Frame.enter P f args .normal) []) W)= .next last/\step P last= .ended o w'/\Go.Conc.Good P a last o w' b:=by
 obtain ⟨N,cp,w',k,b,B,g',F',l,g,c,hu,_,fr,fn,t,v,rfl,m,hi,n,p,q,r,s,u⟩:=h (Bh P R) (fun _ _ x=>x) (fun _=>False) #[G (Frame.enter P f args .normal) []] W none #[] (fun _=>0)
  ⟨rfl,leavers_one P _,past_nil.mono (Nat.zero_le _),i,fun _ x=>x.elim,fun _ x=>x.elim⟩
 have hg:Goes P true AtRel (fun _ _ _=>False) (AtEnd P l w'.heap.size a) 0 (G fr []) w':=by
  refine Goes.stop fun C ⟨d,hd⟩=>?_
  subst hd
  refine ⟨rfl,v,seen P fr.fn #[],?_,fun e he=>?_,j v F' _ u ⟨hu.os,hu.tape,hu.output,hu.size,hu.frame,hu.ro,hu.own⟩⟩
  .have w:fr.tmps[t]?.getD undef=v:=by rw[<-s,Array.getD_eq_getD_getElem?]
   simp[G,stepG,unwind,n,p,q,results,r,w,doReturn,GStep.after,Sem.runT,m,hi]
  .exact absurd (mem_seen he) ax
 obtain ⟨y,last,o,w2,t2,e1,e2,z,A⟩:=beside_ends (sl:=k) (fun _ _ _ x=>x.elim) c.g0 c.lv c.gj hg
 refine ⟨N+y,last,o,w2,t2,?_,?_,z,A⟩
 .rw[solo_eq_crowd,Nat.add_assoc,jZ g,e1]
 .rw[solo_eq_crowd,runN_add]
  have:=runNT_fst P N (crowd #[G (Frame.enter P f args .normal) []] W none) #[]
  rw[g] at this
  rw[<-this]
  exact e2
end Go.Sep
end
section
namespace Go.Proofs.YtbpddfapodiemaaGreatDoor
open Go Go.Sep Go.Proofs
set_option maxRecDepth 100000
theorem mixed:Tryz.prog.follows .mixedOrders=true:=aj
@[go_sem] theorem NI:cN Tryz.prog 3=some false:=aj
@[go_sem] theorem gy:cq Tryz.prog 3=some 1:=aj
theorem gz:bytesOf Tryz.prog 3=some 8:=aj
@[go_sem] theorem gA:zeroOf Tryz.prog 3=some (.int .i64 0):=aj
@[go_sem] theorem NJ:cN Tryz.prog 4=some false:=aj
@[go_sem] theorem Bi:cq Tryz.prog 4=some 1:=aj
@[go_sem] theorem Gg:zeroOf Tryz.prog 4=some (.bool false):=aj
@[go_sem] theorem NK:wz Tryz.prog 4=true:=aj
@[go_sem] theorem NL:cN Tryz.prog 23=some true:=aj
@[go_sem] theorem Gh:cq Tryz.prog 23=some 2:=aj
theorem Gi:bytesOf Tryz.prog 23=some 16:=aj
@[go_sem] theorem wV:zeroOf Tryz.prog 23=some (.agg #[.int .i64 0,.int .i64 0]):=aj
@[go_sem] theorem NM:mW Tryz.prog 23=some [true,true]:=aj
@[go_sem] theorem NN:c9 Tryz.prog 23 0=some 0:=aj
@[go_sem] theorem NO:c9 Tryz.prog 23 1=some 1:=aj
@[go_sem] theorem NP:placesOf Tryz.prog 23=some [(0,1),(1,1)]:=aj
@[go_sem] theorem NQ:cN Tryz.prog 24=some false:=aj
@[go_sem] theorem NR:cq Tryz.prog 24=some 1:=aj
@[go_sem] theorem NS:kP Tryz.prog 24=true:=aj
@[go_sem] theorem Bj:dH Tryz.prog 24=some 125:=aj
@[go_sem] theorem NT:cN Tryz.prog 25=some false:=aj
@[go_sem] theorem NU:cq Tryz.prog 25=some 1:=aj
@[go_sem] theorem NV:kP Tryz.prog 25=true:=aj
@[go_sem] theorem lZ:dH Tryz.prog 25=some 159:=aj
@[go_sem] theorem NW:cN Tryz.prog 26=some false:=aj
@[go_sem] theorem NX:cq Tryz.prog 26=some 1:=aj
@[go_sem] theorem NY:kP Tryz.prog 26=true:=aj
@[go_sem] theorem Bl:dH Tryz.prog 26=some 66:=aj
@[go_sem] theorem NZ:cN Tryz.prog 27=some false:=aj
@[go_sem] theorem N0:cq Tryz.prog 27=some 1:=aj
@[go_sem] theorem N1:kP Tryz.prog 27=true:=aj
@[go_sem] theorem eV:dH Tryz.prog 27=some 86:=aj
@[go_sem] theorem N2:cN Tryz.prog 29=some true:=aj
@[go_sem] theorem N3:cq Tryz.prog 29=some 8:=aj
@[go_sem] theorem N4:zeroOf Tryz.prog 29=some (.agg #[.int .i64 0,.int .i64 0,.int .i64 0,.int .i64 0,.slice none 0 0,.slice none 0 0,.slice none 0 0,.slice none 0 0]):=aj
@[go_sem] theorem N5:c9 Tryz.prog 29 0=some 0:=aj
@[go_sem] theorem N6:c9 Tryz.prog 29 1=some 1:=aj
@[go_sem] theorem N7:c9 Tryz.prog 29 2=some 2:=aj
@[go_sem] theorem N8:c9 Tryz.prog 29 3=some 4:=aj
@[go_sem] theorem N9:c9 Tryz.prog 29 4=some 5:=aj
@[go_sem] theorem Oa:c9 Tryz.prog 29 5=some 6:=aj
@[go_sem] theorem Ob:c9 Tryz.prog 29 6=some 7:=aj
@[go_sem] theorem Oc:placesOf Tryz.prog 29=some [(0,1),(1,1),(2,2),(4,1),(5,1),(6,1),(7,1)]:=aj
@[go_sem] theorem Od:cN Tryz.prog 32=some false:=aj
@[go_sem] theorem Oe:cq Tryz.prog 32=some 1:=aj
@[go_sem] theorem Of:zeroOf Tryz.prog 32=some (.int .i64 0):=aj
@[go_sem] theorem Og:cN Tryz.prog 35=some false:=aj
@[go_sem] theorem oL:cq Tryz.prog 35=some 1:=aj
theorem oM:bytesOf Tryz.prog 35=some 24:=aj
@[go_sem] theorem oN:zeroOf Tryz.prog 35=some (.slice none 0 0):=aj
@[go_sem] theorem Oh:kP Tryz.prog 35=true:=aj
@[go_sem] theorem dU:dH Tryz.prog 35=some 3:=aj
@[go_sem] theorem Oi:cN Tryz.prog 61=some true:=aj
@[go_sem] theorem Oj:cq Tryz.prog 61=some 2:=aj
@[go_sem] theorem Ok:zeroOf Tryz.prog 61=some (.agg #[.int .i64 0,.int .i64 0]):=aj
@[go_sem] theorem Ol:c9 Tryz.prog 61 0=some 0:=aj
@[go_sem] theorem Om:c9 Tryz.prog 61 1=some 1:=aj
@[go_sem] theorem On:placesOf Tryz.prog 61=some [(0,1),(1,1)]:=aj
@[go_sem] theorem Oo:cN Tryz.prog 64=some true:=aj
@[go_sem] theorem Oq:cq Tryz.prog 64=some 2:=aj
@[go_sem] theorem Ot:zeroOf Tryz.prog 64=some (.agg #[.int .i64 0,.int .i64 0]):=aj
@[go_sem] theorem Ou:c9 Tryz.prog 64 0=some 0:=aj
@[go_sem] theorem Ov:c9 Tryz.prog 64 1=some 1:=aj
@[go_sem] theorem Ow:placesOf Tryz.prog 64=some [(0,1),(1,1)]:=aj
@[go_sem] theorem Ox:cN Tryz.prog 66=some true:=aj
@[go_sem] theorem Gj:cq Tryz.prog 66=some 3:=aj
theorem Gk:bytesOf Tryz.prog 66=some 24:=aj
@[go_sem] theorem Gl:zeroOf Tryz.prog 66=some (.agg #[.int .i64 0,.int .i64 0,.int .i64 0]):=aj
@[go_sem] theorem Oy:c9 Tryz.prog 66 0=some 0:=aj
@[go_sem] theorem Oz:c9 Tryz.prog 66 1=some 1:=aj
@[go_sem] theorem OA:placesOf Tryz.prog 66=some [(0,1),(1,2)]:=aj
@[go_sem] theorem OB:cN Tryz.prog 86=some true:=aj
@[go_sem] theorem iS:cq Tryz.prog 86=some 2:=aj
theorem iT:bytesOf Tryz.prog 86=some 16:=aj
@[go_sem] theorem iU:zeroOf Tryz.prog 86=some (.agg #[.int .i64 0,.bool false]):=aj
@[go_sem] theorem OC:c9 Tryz.prog 86 0=some 0:=aj
@[go_sem] theorem OD:c9 Tryz.prog 86 1=some 1:=aj
@[go_sem] theorem OE:placesOf Tryz.prog 86=some [(0,1),(1,1)]:=aj
@[go_sem] theorem OF:cN Tryz.prog 92=some true:=aj
@[go_sem] theorem OG:cq Tryz.prog 92=some 8:=aj
@[go_sem] theorem OH:zeroOf Tryz.prog 92=some (.agg #[.int .i64 0,.int .i64 0,.int .i64 0,.int .i64 0,.slice none 0 0,.slice none 0 0,.slice none 0 0,.slice none 0 0]):=aj
@[go_sem] theorem OI:c9 Tryz.prog 92 0=some 0:=aj
@[go_sem] theorem OJ:placesOf Tryz.prog 92=some [(0,8)]:=aj
@[go_sem] theorem OK:cN Tryz.prog 93=some false:=aj
@[go_sem] theorem OL:cq Tryz.prog 93=some 1:=aj
@[go_sem] theorem Bm:dH Tryz.prog 93=some 133:=aj
@[go_sem] theorem OM:cN Tryz.prog 95=some true:=aj
@[go_sem] theorem ON:cq Tryz.prog 95=some 9:=aj
@[go_sem] theorem OO:zeroOf Tryz.prog 95=some (.agg #[.int .i64 0,.int .i64 0,.int .i64 0,.int .i64 0,.slice none 0 0,.slice none 0 0,.slice none 0 0,.slice none 0 0,.slice none 0 0]):=aj
@[go_sem] theorem OP:c9 Tryz.prog 95 0=some 0:=aj
@[go_sem] theorem OQ:c9 Tryz.prog 95 1=some 8:=aj
@[go_sem] theorem OR:placesOf Tryz.prog 95=some [(0,8),(8,1)]:=aj
@[go_sem] theorem oO:dH Tryz.prog 98=some 105:=aj
@[go_sem] theorem OS:cN Tryz.prog 99=some false:=aj
@[go_sem] theorem OT:cq Tryz.prog 99=some 1:=aj
@[go_sem] theorem OU:zeroOf Tryz.prog 99=some (.slice none 0 0):=aj
@[go_sem] theorem Bn:dH Tryz.prog 99=some 101:=aj
@[go_sem] theorem OV:cN Tryz.prog 101=some true:=aj
@[go_sem] theorem Gm:cq Tryz.prog 101=some 2:=aj
theorem Gn:bytesOf Tryz.prog 101=some 16:=aj
@[go_sem] theorem Gq:zeroOf Tryz.prog 101=some (.agg #[.int .i64 0,.int .i64 0]):=aj
@[go_sem] theorem OW:mW Tryz.prog 101=some [true,true]:=aj
@[go_sem] theorem OX:c9 Tryz.prog 101 0=some 0:=aj
@[go_sem] theorem OY:c9 Tryz.prog 101 1=some 1:=aj
@[go_sem] theorem OZ:placesOf Tryz.prog 101=some [(0,1),(1,1)]:=aj
@[go_sem] theorem O0:cN Tryz.prog 103=some true:=aj
@[go_sem] theorem O1:cq Tryz.prog 103=some 3:=aj
@[go_sem] theorem O2:zeroOf Tryz.prog 103=some (.agg #[.int .i64 0,.int .i64 0,.int .i64 0]):=aj
@[go_sem] theorem O3:mW Tryz.prog 103=some [true,true,true]:=aj
@[go_sem] theorem O4:c9 Tryz.prog 103 0=some 0:=aj
@[go_sem] theorem O5:c9 Tryz.prog 103 1=some 1:=aj
@[go_sem] theorem O6:placesOf Tryz.prog 103=some [(0,1),(1,2)]:=aj
@[go_sem] theorem O7:cN Tryz.prog 105=some true:=aj
@[go_sem] theorem wW:cq Tryz.prog 105=some 6:=aj
theorem wX:bytesOf Tryz.prog 105=some 48:=aj
@[go_sem] theorem wY:zeroOf Tryz.prog 105=some (.agg #[.int .i64 0,.int .i64 0,.int .i64 0,.int .i64 0,.int .i64 0,.int .i64 0]):=aj
@[go_sem] theorem O8:c9 Tryz.prog 105 0=some 0:=aj
@[go_sem] theorem O9:c9 Tryz.prog 105 1=some 3:=aj
@[go_sem] theorem Pa:c9 Tryz.prog 105 2=some 4:=aj
@[go_sem] theorem Pb:wh Tryz.prog 105 2=some (4,2,true):=aj
@[go_sem] theorem Pd:placesOf Tryz.prog 105=some [(0,3),(3,1),(4,2)]:=aj
@[go_sem] theorem iV:dH Tryz.prog 110=some 35:=aj
@[go_sem] theorem Pe:cN Tryz.prog 116=some false:=aj
@[go_sem] theorem Pf:cq Tryz.prog 116=some 1:=aj
@[go_sem] theorem Pg:zeroOf Tryz.prog 116=some .nilFunc:=aj
@[go_sem] theorem Pj:cN Tryz.prog 125=some true:=aj
@[go_sem] theorem Gs:cq Tryz.prog 125=some 2:=aj
theorem Gt:bytesOf Tryz.prog 125=some 16:=aj
@[go_sem] theorem wZ:zeroOf Tryz.prog 125=some (.agg #[.int .i64 0,.int .i64 0]):=aj
@[go_sem] theorem Pk:c9 Tryz.prog 125 0=some 0:=aj
@[go_sem] theorem Pm:c9 Tryz.prog 125 1=some 1:=aj
@[go_sem] theorem Pn:placesOf Tryz.prog 125=some [(0,1),(1,1)]:=aj
@[go_sem] theorem Po:cN Tryz.prog 131=some false:=aj
@[go_sem] theorem Pp:cq Tryz.prog 131=some 1:=aj
@[go_sem] theorem Pq:zeroOf Tryz.prog 131=some .nilFunc:=aj
@[go_sem] theorem Pt:cN Tryz.prog 133=some true:=aj
@[go_sem] theorem Gu:cq Tryz.prog 133=some 3:=aj
theorem Gv:bytesOf Tryz.prog 133=some 24:=aj
@[go_sem] theorem Gw:zeroOf Tryz.prog 133=some (.agg #[.int .i64 0,.int .i64 0,.int .i64 0]):=aj
@[go_sem] theorem Pu:mW Tryz.prog 133=some [true,true,true]:=aj
@[go_sem] theorem Pv:lU Tryz.prog 133=some (3,3):=aj
@[go_sem] theorem Pw:cN Tryz.prog 137=some false:=aj
@[go_sem] theorem Px:cq Tryz.prog 137=some 1:=aj
@[go_sem] theorem Py:zeroOf Tryz.prog 137=some (.map none):=aj
@[go_sem] theorem Bo:dH Tryz.prog 143=some 23:=aj
@[go_sem] theorem Pz:cN Tryz.prog 150=some false:=aj
@[go_sem] theorem PA:cN Tryz.prog 159=some true:=aj
@[go_sem] theorem tg:cq Tryz.prog 159=some 2:=aj
theorem th:bytesOf Tryz.prog 159=some 16:=aj
@[go_sem] theorem tj:zeroOf Tryz.prog 159=some (.agg #[.int .i64 0,.int .i64 0]):=aj
@[go_sem] theorem PB:c9 Tryz.prog 159 0=some 0:=aj
@[go_sem] theorem PC:c9 Tryz.prog 159 1=some 1:=aj
@[go_sem] theorem PD:placesOf Tryz.prog 159=some [(0,1),(1,1)]:=aj
@[go_sem] theorem PE:dH Tryz.prog 166=some 116:=aj
@[go_sem] theorem PF:cN Tryz.prog 172=some false:=aj
@[go_sem] theorem PG:cq Tryz.prog 172=some 1:=aj
@[go_sem] theorem PI:zeroOf Tryz.prog 172=some (.slice none 0 0):=aj
@[go_sem] theorem PJ:dH Tryz.prog 172=some 4:=aj
@[go_sem] theorem PK:c9 Tryz.prog 177 0=some 0:=aj
@[go_sem] theorem PL:c9 Tryz.prog 177 1=some 1:=aj
@[go_sem] theorem PM:zeroOf Tryz.prog 179=some (.agg #[.int .i32 0,.int .u32 0]):=aj
@[go_sem] theorem PN:c9 Tryz.prog 179 1=some 0:=aj
@[go_sem] theorem PO:c9 Tryz.prog 184 2=some 0:=aj
@[go_sem] theorem PR:zeroOf Tryz.prog 186=some (.agg #[.int .u64 0,.int .u32 0]):=aj
@[go_sem] theorem PS:c9 Tryz.prog 186 1=some 0:=aj
@[go_sem] theorem PU:c9 Tryz.prog 186 2=some 1:=aj
@[go_sem] theorem PV:cN Tryz.prog 196=some true:=aj
@[go_sem] theorem PW:cq Tryz.prog 196=some 5:=aj
@[go_sem] theorem PX:lU Tryz.prog 196=some (5,116):=aj
@[go_sem] theorem PY:cN Tryz.prog 250=some false:=aj
@[go_sem] theorem PZ:cq Tryz.prog 250=some 1:=aj
@[go_sem] theorem P1:zeroOf Tryz.prog 250=some (.int .u64 0):=aj
@[go_sem] theorem P2:aS Tryz.prog 2=true:=aj
@[go_sem] theorem P3:aS Tryz.prog 3=true:=aj
@[go_sem] theorem P4:aS Tryz.prog 4=true:=aj
@[go_sem] theorem P5:aS Tryz.prog 5=true:=aj
@[go_sem] theorem P6:aS Tryz.prog 6=true:=aj
@[go_sem] theorem P7:aS Tryz.prog 7=true:=aj
@[go_sem] theorem P8:aS Tryz.prog 8=true:=aj
@[go_sem] theorem P9:aS Tryz.prog 9=true:=aj
@[go_sem] theorem Qa:aS Tryz.prog 10=true:=aj
@[go_sem] theorem Qb:aS Tryz.prog 11=true:=aj
@[go_sem] theorem Qc:aS Tryz.prog 12=true:=aj
@[go_sem] theorem Qd:aS Tryz.prog 13=true:=aj
@[go_sem] theorem Qe:aS Tryz.prog 14=true:=aj
@[go_sem] theorem Qf:aS Tryz.prog 15=true:=aj
@[go_sem] theorem Qg:aS Tryz.prog 16=true:=aj
@[go_sem] theorem Qh:aS Tryz.prog 17=true:=aj
@[go_sem] theorem Qi:aS Tryz.prog 18=true:=aj
@[go_sem] theorem Qj:aS Tryz.prog 19=true:=aj
@[go_sem] theorem Qk:aS Tryz.prog 20=true:=aj
@[go_sem] theorem Ql:aS Tryz.prog 21=true:=aj
@[go_sem] theorem Qm:aS Tryz.prog 22=true:=aj
@[go_sem] theorem Qo:aS Tryz.prog 23=true:=aj
@[go_sem] theorem Qp:aS Tryz.prog 24=true:=aj
@[go_sem] theorem Qq:aS Tryz.prog 25=true:=aj
@[go_sem] theorem Qr:aS Tryz.prog 26=true:=aj
@[go_sem] theorem Qs:aS Tryz.prog 27=true:=aj
@[go_sem] theorem Qt:aS Tryz.prog 28=true:=aj
@[go_sem] theorem Qu:aS Tryz.prog 29=true:=aj
@[go_sem] theorem Qv:aS Tryz.prog 30=true:=aj
@[go_sem] theorem Qw:aS Tryz.prog 31=true:=aj
@[go_sem] theorem Qx:aS Tryz.prog 32=true:=aj
@[go_sem] theorem Qy:aS Tryz.prog 33=true:=aj
@[go_sem] theorem Qz:aS Tryz.prog 34=true:=aj
@[go_sem] theorem QA:aS Tryz.prog 35=true:=aj
@[go_sem] theorem QB:aS Tryz.prog 36=true:=aj
@[go_sem] theorem QC:aS Tryz.prog 37=true:=aj
@[go_sem] theorem QD:aS Tryz.prog 38=true:=aj
@[go_sem] theorem QE:aS Tryz.prog 39=true:=aj
@[go_sem] theorem QF:aS Tryz.prog 40=true:=aj
@[go_sem] theorem QG:aS Tryz.prog 41=true:=aj
@[go_sem] theorem QH:aS Tryz.prog 42=true:=aj
@[go_sem] theorem QI:aS Tryz.prog 43=true:=aj
@[go_sem] theorem QJ:aS Tryz.prog 44=true:=aj
@[go_sem] theorem QK:aS Tryz.prog 45=true:=aj
@[go_sem] theorem QL:aS Tryz.prog 46=true:=aj
@[go_sem] theorem QM:aS Tryz.prog 47=true:=aj
@[go_sem] theorem QN:aS Tryz.prog 48=true:=aj
@[go_sem] theorem QO:aS Tryz.prog 49=true:=aj
@[go_sem] theorem QS:aS Tryz.prog 50=true:=aj
@[go_sem] theorem QT:aS Tryz.prog 51=true:=aj
@[go_sem] theorem QU:aS Tryz.prog 52=true:=aj
@[go_sem] theorem QV:aS Tryz.prog 53=true:=aj
@[go_sem] theorem QW:aS Tryz.prog 54=true:=aj
@[go_sem] theorem QX:aS Tryz.prog 55=true:=aj
@[go_sem] theorem QY:aS Tryz.prog 56=true:=aj
@[go_sem] theorem QZ:aS Tryz.prog 57=true:=aj
@[go_sem] theorem Q0:aS Tryz.prog 58=true:=aj
@[go_sem] theorem Q1:aS Tryz.prog 59=true:=aj
@[go_sem] theorem Q2:aS Tryz.prog 60=true:=aj
@[go_sem] theorem Q3:aS Tryz.prog 61=true:=aj
@[go_sem] theorem Q4:aS Tryz.prog 62=true:=aj
@[go_sem] theorem Q5:aS Tryz.prog 63=true:=aj
@[go_sem] theorem Q6:aS Tryz.prog 64=true:=aj
@[go_sem] theorem Q7:aS Tryz.prog 65=true:=aj
@[go_sem] theorem Q8:aS Tryz.prog 66=true:=aj
@[go_sem] theorem Q9:aS Tryz.prog 67=true:=aj
@[go_sem] theorem Ra:aS Tryz.prog 68=true:=aj
@[go_sem] theorem Rb:aS Tryz.prog 69=true:=aj
@[go_sem] theorem Rc:aS Tryz.prog 70=true:=aj
@[go_sem] theorem Re:aS Tryz.prog 71=true:=aj
@[go_sem] theorem Rf:aS Tryz.prog 72=true:=aj
@[go_sem] theorem Rg:aS Tryz.prog 73=true:=aj
@[go_sem] theorem Rh:aS Tryz.prog 74=true:=aj
@[go_sem] theorem Ri:aS Tryz.prog 75=true:=aj
@[go_sem] theorem Rj:aS Tryz.prog 76=true:=aj
@[go_sem] theorem Rl:aS Tryz.prog 77=true:=aj
@[go_sem] theorem Rm:aS Tryz.prog 78=true:=aj
@[go_sem] theorem Rn:aS Tryz.prog 79=true:=aj
@[go_sem] theorem Ro:aS Tryz.prog 80=true:=aj
@[go_sem] theorem Rp:aS Tryz.prog 81=true:=aj
@[go_sem] theorem Rq:aS Tryz.prog 82=true:=aj
@[go_sem] theorem Rr:aS Tryz.prog 83=true:=aj
@[go_sem] theorem Rs:aS Tryz.prog 84=true:=aj
@[go_sem] theorem Rt:aS Tryz.prog 85=true:=aj
@[go_sem] theorem Ru:aS Tryz.prog 86=true:=aj
@[go_sem] theorem Rv:aS Tryz.prog 87=true:=aj
@[go_sem] theorem Rw:aS Tryz.prog 88=true:=aj
@[go_sem] theorem Rx:aS Tryz.prog 89=true:=aj
@[go_sem] theorem Ry:aS Tryz.prog 90=true:=aj
@[go_sem] theorem Rz:aS Tryz.prog 91=true:=aj
@[go_sem] theorem RA:aS Tryz.prog 92=true:=aj
@[go_sem] theorem RB:aS Tryz.prog 93=true:=aj
@[go_sem] theorem RD:aS Tryz.prog 94=true:=aj
@[go_sem] theorem RE:aS Tryz.prog 95=true:=aj
@[go_sem] theorem RF:aS Tryz.prog 96=true:=aj
@[go_sem] theorem RG:aS Tryz.prog 97=true:=aj
@[go_sem] theorem RH:aS Tryz.prog 98=true:=aj
@[go_sem] theorem RI:aS Tryz.prog 99=true:=aj
@[go_sem] theorem RJ:aS Tryz.prog 100=true:=aj
@[go_sem] theorem RK:aS Tryz.prog 101=true:=aj
@[go_sem] theorem RL:aS Tryz.prog 102=true:=aj
@[go_sem] theorem RN:aS Tryz.prog 103=true:=aj
@[go_sem] theorem RO:aS Tryz.prog 104=true:=aj
@[go_sem] theorem RP:aS Tryz.prog 105=true:=aj
@[go_sem] theorem RQ:aS Tryz.prog 106=true:=aj
@[go_sem] theorem RR:aS Tryz.prog 107=true:=aj
@[go_sem] theorem RS:aS Tryz.prog 108=true:=aj
@[go_sem] theorem RU:aS Tryz.prog 109=true:=aj
@[go_sem] theorem RV:aS Tryz.prog 110=true:=aj
@[go_sem] theorem RX:aS Tryz.prog 111=true:=aj
@[go_sem] theorem RY:aS Tryz.prog 112=true:=aj
@[go_sem] theorem RZ:aS Tryz.prog 113=true:=aj
@[go_sem] theorem R1:aS Tryz.prog 114=true:=aj
@[go_sem] theorem R2:aS Tryz.prog 115=true:=aj
@[go_sem] theorem R3:aS Tryz.prog 116=true:=aj
@[go_sem] theorem R4:aS Tryz.prog 117=true:=aj
@[go_sem] theorem R5:aS Tryz.prog 118=true:=aj
@[go_sem] theorem R6:aS Tryz.prog 119=true:=aj
@[go_sem] theorem R7:aS Tryz.prog 120=true:=aj
@[go_sem] theorem R8:aS Tryz.prog 121=true:=aj
@[go_sem] theorem R9:aS Tryz.prog 122=true:=aj
@[go_sem] theorem Sa:aS Tryz.prog 123=true:=aj
@[go_sem] theorem Sb:aS Tryz.prog 124=true:=aj
@[go_sem] theorem Sd:aS Tryz.prog 125=true:=aj
@[go_sem] theorem Bp:aS Tryz.prog 126=true:=aj
@[go_sem] theorem Se:aS Tryz.prog 127=true:=aj
@[go_sem] theorem Sf:aS Tryz.prog 128=true:=aj
@[go_sem] theorem Sg:aS Tryz.prog 129=true:=aj
@[go_sem] theorem Si:aS Tryz.prog 130=true:=aj
@[go_sem] theorem Gx:aS Tryz.prog 131=true:=aj
@[go_sem] theorem Gy:aS Tryz.prog 132=true:=aj
@[go_sem] theorem Gz:aS Tryz.prog 133=true:=aj
@[go_sem] theorem Sj:aS Tryz.prog 134=true:=aj
@[go_sem] theorem Sk:aS Tryz.prog 135=true:=aj
@[go_sem] theorem Sl:aS Tryz.prog 136=true:=aj
@[go_sem] theorem Sn:aS Tryz.prog 137=true:=aj
@[go_sem] theorem So:aS Tryz.prog 138=true:=aj
@[go_sem] theorem Sp:aS Tryz.prog 139=true:=aj
@[go_sem] theorem Sq:aS Tryz.prog 140=true:=aj
@[go_sem] theorem Sr:aS Tryz.prog 141=true:=aj
@[go_sem] theorem Ss:aS Tryz.prog 142=true:=aj
@[go_sem] theorem Su:aS Tryz.prog 143=true:=aj
@[go_sem] theorem Sv:aS Tryz.prog 144=true:=aj
@[go_sem] theorem Sw:aS Tryz.prog 145=true:=aj
@[go_sem] theorem Sx:aS Tryz.prog 146=true:=aj
@[go_sem] theorem Sy:aS Tryz.prog 147=true:=aj
@[go_sem] theorem Sz:aS Tryz.prog 148=true:=aj
@[go_sem] theorem SA:aS Tryz.prog 149=true:=aj
@[go_sem] theorem SB:aS Tryz.prog 150=true:=aj
@[go_sem] theorem SC:aS Tryz.prog 157=true:=aj
@[go_sem] theorem Bq:aS Tryz.prog 158=true:=aj
@[go_sem] theorem w5:aS Tryz.prog 160=true:=aj
@[go_sem] theorem GA:aS Tryz.prog 161=true:=aj
@[go_sem] theorem SD:aS Tryz.prog 164=true:=aj
@[go_sem] theorem GB:aS Tryz.prog 165=true:=aj
@[go_sem] theorem GC:aS Tryz.prog 166=true:=aj
@[go_sem] theorem GD:aS Tryz.prog 169=true:=aj
@[go_sem] theorem SE:aS Tryz.prog 172=true:=aj
@[go_sem] theorem SF:aS Tryz.prog 173=true:=aj
@[go_sem] theorem SG:aS Tryz.prog 174=true:=aj
@[go_sem] theorem SH:aS Tryz.prog 175=true:=aj
@[go_sem] theorem SI:aS Tryz.prog 176=true:=aj
@[go_sem] theorem SJ:aS Tryz.prog 177=true:=aj
@[go_sem] theorem SK:aS Tryz.prog 178=true:=aj
@[go_sem] theorem SL:aS Tryz.prog 179=true:=aj
@[go_sem] theorem SM:aS Tryz.prog 184=true:=aj
@[go_sem] theorem GF:aS Tryz.prog 186=true:=aj
@[go_sem] theorem GG:aS Tryz.prog 188=true:=aj
@[go_sem] theorem SN:aS Tryz.prog 190=true:=aj
@[go_sem] theorem SO:aS Tryz.prog 191=true:=aj
@[go_sem] theorem SP:aS Tryz.prog 192=true:=aj
@[go_sem] theorem SQ:aS Tryz.prog 193=true:=aj
@[go_sem] theorem SS:aS Tryz.prog 194=true:=aj
@[go_sem] theorem SU:aS Tryz.prog 195=true:=aj
@[go_sem] theorem SV:aS Tryz.prog 196=true:=aj
@[go_sem] theorem SW:aS Tryz.prog 197=true:=aj
@[go_sem] theorem SX:aS Tryz.prog 198=true:=aj
@[go_sem] theorem SY:aS Tryz.prog 199=true:=aj
@[go_sem] theorem SZ:aS Tryz.prog 200=true:=aj
@[go_sem] theorem S0:aS Tryz.prog 201=true:=aj
@[go_sem] theorem S1:aS Tryz.prog 209=true:=aj
@[go_sem] theorem S2:aS Tryz.prog 210=true:=aj
@[go_sem] theorem S3:aS Tryz.prog 211=true:=aj
@[go_sem] theorem S4:aS Tryz.prog 212=true:=aj
@[go_sem] theorem S5:aS Tryz.prog 213=true:=aj
@[go_sem] theorem S6:aS Tryz.prog 214=true:=aj
@[go_sem] theorem S7:aS Tryz.prog 231=true:=aj
@[go_sem] theorem S8:aS Tryz.prog 232=true:=aj
@[go_sem] theorem S9:aS Tryz.prog 233=true:=aj
@[go_sem] theorem Ta:aS Tryz.prog 234=true:=aj
@[go_sem] theorem Tb:aS Tryz.prog 235=true:=aj
@[go_sem] theorem Tc:aS Tryz.prog 239=true:=aj
end Go.Proofs.YtbpddfapodiemaaGreatDoor
end
section
namespace Go.Sep
open Go Go.Conc
def kT (o:Oper):Option (TypeId×Nat):=match o.op,o.dst,o.guard with
 | .alloc t,some d,none=>some (t,d)
 |_,_,_=>none
def Br (ops:Array Oper)(m:Nat):Bool:=
 oK ops (m+1)&&decide (m+2<=ops.size)&&
 (match (ops[m]?).bind kT,(ops[m+1]?).bind kT with|some (_,d),some (_,a)=>!(d==a)|_,_=>false)&&
 decide (Region.ready .any ops (dw ops.size m)=[m,m+1])&&decide (Region.ready .any ops ((dw ops.size m).setIfInBounds (m+1) true)=[m])
theorem Bs {ro:Addr->Option Value}{x y:Nat×Obj}{l:List (Nat×Obj)}:Le ⟨ro,x::y::l⟩ ⟨ro,y::x::l⟩:=by
 have c:∀b,b∈keys (x::y::l)↔b∈keys (y::x::l):=fun b=>by
  simp only[keys,List.map_cons,List.mem_cons];exact ⟨fun h=>by rcases h with h|h|h;exact .inr (.inl h);exact .inl h;exact .inr (.inr h),fun h=>by rcases h with h|h|h;exact .inr (.inl h);exact .inl h;exact .inr (.inr h)⟩
 refine ⟨fun w hw=>⟨hw.ro,fun b o hb=>hw.own b o ?_,?_,fun a v h hm=>hw.apart a v h ((c _).1 hm)⟩,fun b hb=>(c b).1 hb,fun a d=>.inl d⟩
 .rcases List.mem_cons.1 hb with h|h
  .exact List.mem_cons_of_mem _ (h▸List.mem_cons_self)
  .rcases List.mem_cons.1 h with h|h
   .exact h▸List.mem_cons_self
   .exact List.mem_cons_of_mem _ (List.mem_cons_of_mem _ h)
 .have:=hw.nodup;simp only[keys,List.map_cons,List.nodup_cons,List.mem_cons,not_or] at this ⊢;exact ⟨⟨fun e=>this.1.1 e.symm,this.2.1⟩,this.1.2,this.2.2⟩
section
variable {P:Program}{main:Bool}{J:Goroutine->af->Prop}{ops:Array Oper}{Q:Act->af->Prop}{F0:af}
theorem Bt {o:Oper}{t:TypeId}{d:Nat}(h:kT o=some (t,d)):o.op= .alloc t/\o.dst=some d/\o.guard=none:=by
 unfold kT at h;split at h
 .rename_i a b c;cases h;exact ⟨a,b,c⟩
 .cases h
theorem qT {o:Oper}{a:Act}(h:o.guard=none):cQ ops o a=some true:=by unfold cQ;rw[h]
theorem w6 {o:Oper}{t:TypeId}{a:Act}{F:af}{z:Value}{R:Value->af->Prop}{D:Deferred->af->Prop}(d:o.op= .alloc t)(e:zeroOf P t=some z)
  (h:∀b,eC F b->∃c,Le c (F.push b (.cells z.cells t))/\R (.pointer (some ⟨b,0,none⟩)) c):bq P (execOp a.eval o) (kL P J R D) F:=by
 have:Oper.oH o=false:=by unfold Oper.oH;rw[d]
 refine A0 (R:=fun v F=>∃c,Le c F/\R v c) this ?_
 unfold c5
 rw[d]
 simp only[e]
 exact h
theorem GH (m:Nat){o1 o2:Oper}{rest:List Oper}{t1 t2 d1 d2:Nat}(hm:m+2<=ops.size)(y:ops[m]?=some o1)(A:ops[m+1]?=some o2)(M:kT o1=some (t1,d1))(N:kT o2=some (t2,d2)){q:Value}(B:zeroOf P t2=some q)(hd:¬d1=d2)
  (C:ops.toList.drop (m+2)=rest) (D:Region.ready .any ops (dw ops.size m)=[m,m+1]) (E:Region.ready .any ops ((dw ops.size m).setIfInBounds (m+1) true)=[m])
  (G:∀j,j<ops.size - (m+1)->Region.ready .any ops (dw ops.size (m+1+j))=[m+1+j]) (H:Region.ready .any ops (dw ops.size ops.size)=[])
  {a:Act} {F:af} (r:Knows F0 F) (h:fl P J ops F0 Q (o1::o2::rest) true a F):er P J ops Q (Knows F0) (ops.size - m) (dw ops.size m) a F:=by
 obtain ⟨e1,s,t⟩:=Bt M
 obtain ⟨e2,I,K⟩:=Bt N
 have O:ops.size - m=(ops.size - (m+1))+1:=aa
 have R:ops.size - (m+1)=(ops.size - (m+2))+1:=aa
 unfold fl at h
 rw[qT t] at h
 simp only at h
 have k:∃z,zeroOf P t1=some z:=by
  unfold c5 at h
  rw[e1] at h
  simp only at h
  split at h
  .rename_i z S;exact ⟨z,S⟩
  .exact h.elim
 obtain ⟨g,k⟩:=k
 have u:∀b,eC F b->Knows F0 (F.push b (.cells g.cells t1))/\fl P J ops F0 Q (o2::rest) (!Oper.calls o1) (bB a (some d1) (.pointer (some ⟨b,0,none⟩))) (F.push b (.cells g.cells t1)):=by
  unfold c5 at h
  rw[e1] at h
  simp only[k,s] at h
  exact h
 have T:∀b,eC F b->∀f,eC (F.push b (.cells g.cells t1)) f->Knows F0 ((F.push b (.cells g.cells t1)).push f (.cells q.cells t2))/\
   fl P J ops F0 Q rest (!Oper.calls o2) (bB (bB a (some d1) (.pointer (some ⟨b,0,none⟩))) (some d2) (.pointer (some ⟨f,0,none⟩))) ((F.push b (.cells g.cells t1)).push f (.cells q.cells t2)):=by
  intro b hb
  have:=(u b hb).2
  unfold fl at this
  rw[qT K] at this
  simp only at this
  unfold c5 at this
  rw[e2] at this
  simp only[B,I] at this
  exact this
 have L:=tc (n:=ops.size) (m:=m) aa
 have U:=tc (n:=ops.size) (m:=m+1) aa
 rw[O]
 refine ⟨fun p=>(by rw[D] at p;cases p),fun i hi=>?_⟩
 rw[D] at hi
 simp only[List.mem_cons,List.not_mem_nil,or_false] at hi
 rcases hi with hi|hi
 .subst hi
  unfold ej
  simp only[y]
  rw[if_pos (cB (qT t))]
  refine w6 e1 k fun b hb=>⟨_,Le.refl _,(u b hb).1,?_⟩
  rw[L,s]
  exact m5 (i+1) G H (o2::rest) (i+1) _ _ _ (Nat.le_refl _) aa (by
   have:=List.drop_eq_getElem_cons (l:=ops.toList) (i:=i+1) (by simp;omega)
   rw[this,C]
   obtain ⟨_,he⟩:=Array.getElem?_eq_some_iff.1 A
   simp[he]) (u b hb).2
 .subst hi
  unfold ej
  simp only[A]
  rw[if_pos (cB (qT K))]
  refine w6 e2 B fun f v=>⟨_,Le.refl _,?_,?_⟩
  .refine ⟨r.1,r.2.1,?_⟩
   have V:∀(l own:List (Nat×Obj)),av own f->jx l own->jx l ((f,.cells q.cells t2)::own):=fun l own W w=>by
    induction l with
    |nil=>trivial
    |cons x l ih=>
     obtain ⟨c,o⟩:=x
     refine ⟨?_,ih w.2⟩
     have hc:¬f=c:=fun e=>lY W (e▸fC (iA w.1))
     simp only[lk,if_neg hc]
     exact w.1
   exact V _ _ v.own r.2.2
  .rw[R]
   refine ⟨fun p=>(by rw[E] at p;cases p),fun i hi=>?_⟩
   rw[E] at hi
   simp only[List.mem_cons,List.not_mem_nil,or_false] at hi
   subst hi
   unfold ej
   simp only[y]
   rw[if_pos (cB (qT t))]
   refine w6 e1 k fun b hb=>?_
   have X:eC F b:=⟨hb.ro,hb.own.2⟩
   have aN:¬f=b:=fun e=>hb.own.1 e.symm
   have Y:eC (F.push b (.cells g.cells t1)) f:=⟨v.ro,⟨aN,v.own⟩⟩
   obtain ⟨Z,ab⟩:=T b X f Y
   refine ⟨_,Bs,Z,?_⟩
   have ad:bB (bB a o2.dst (.pointer (some ⟨f,0,none⟩))) o1.dst (.pointer (some ⟨b,0,none⟩))=bB (bB a (some d1) (.pointer (some ⟨b,0,none⟩))) (some d2) (.pointer (some ⟨f,0,none⟩)):=by
    rw[s,I]
    exact Act.put_comm a _ _ (fun d ae=>by cases ae;intro e;cases e;exact hd rfl)
   have hs:((dw ops.size i).setIfInBounds (i+1) true).setIfInBounds i true=dw ops.size (i+2):=by
    rw[Array.setIfInBounds_comm _ _ (by omega:i+1≠i),L,U]
   show er P J ops Q (Knows F0) (ops.size - (i+2)) _ (bB (bB a o2.dst _) o1.dst _) _
   rw[hs,ad]
   exact m5 (i+1) G H rest (i+2) _ _ _ aa hm C ab
theorem tn {Q:Ex->Act->af->Prop}(hJ:Closed P main J)(o:P.follows .mixedOrders=true)(m:Nat){id:Nat}{a:Act}{F:af}(F0:af)(e:Knows F0 F)(f:Br ops m=true)(t2:TypeId){p:Value}(g:((ops[m+1]?).bind kT).map (·.1)=some t2)(q:zeroOf P t2=some p)
  (h:eI P J ops F0 (fun j=>fl P J ops F0 (Q .normal) (ops.toList.drop m) true j F) (ops.toList.take m) true a):Wp J (.region id ops true) Q a F:=by
 simp only[Br,Bool.and_eq_true,decide_eq_true_eq] at f
 obtain ⟨⟨⟨⟨r,hm⟩,b⟩,s⟩,t⟩:=f
 have k:=A8 r
 simp only[qK,Bool.and_eq_true,decide_eq_true_eq,List.all_eq_true,List.mem_range] at k
 obtain ⟨⟨⟨⟨u,D⟩,v⟩,w⟩,x⟩:=k
 cases c:(ops[m]?).bind kT with
 |none=>rw[c] at b;cases b
 |some y=>
  cases d:(ops[m+1]?).bind kT with
  |none=>rw[c,d] at b;cases b
  |some z=>
   obtain ⟨t1,d1⟩:=y
   obtain ⟨A,d2⟩:=z
   rw[d] at g
   obtain rfl:A=t2:=by simpa using g
   rw[c,d] at b
   obtain ⟨o1,e1,a1⟩:=Option.bind_eq_some_iff.1 c
   obtain ⟨o2,e2,a2⟩:=Option.bind_eq_some_iff.1 d
   have hd:¬d1=d2:=by simpa using b
   have B:ops.toList.drop m=o1::o2::ops.toList.drop (m+2):=by
    obtain ⟨C,c1⟩:=Array.getElem?_eq_some_iff.1 e1
    obtain ⟨b2,c2⟩:=Array.getElem?_eq_some_iff.1 e2
    rw[List.drop_eq_getElem_cons (l:=ops.toList) (i:=m) (by simpa using C),List.drop_eq_getElem_cons (l:=ops.toList) (i:=m+1) (by simpa using b2)]
    simp[c1,c2]
   refine vY hJ (Knows F0) o ?_
   rw[<-A9]
   have:=td (P:=P) (J:=J) (Q:=Q .normal) m aa u (fun i hi=>by have:=v i aa;simpa using this) e (fun j n=>by
    rw[B] at n
    exact GH (F0:=F0) m hm e1 e2 a1 a2 q hd rfl s t w x e n) _ 0 true a ax (Nat.zero_le _) h
   simpa using this
end
def pick (ops:Array Oper):List Nat->List Oper
 |[]=>[]
 |i::is=>match ops[i]? with
  |some o=>o::pick ops is
  |none=>pick ops is
def w7:List Nat->Array Bool->Array Bool
 |[],L=>L
 |i::is,L=>w7 is (L.setIfInBounds i true)
def tq (ops:Array Oper):List Nat->Array Bool->Bool
 |[],_=>true
 |i::is,L=>Region.free .any ops L i&&(Region.ready .any ops L).contains i&&(ops[i]?).isSome&&tq ops is (L.setIfInBounds i true)
def qU (ops:Array Oper):List Nat->Array Bool->Bool
 |[],L=>decide (Region.ready .any ops L=[])
 |i::is,L=>decide (Region.ready .any ops L=[i])&&(ops[i]?).isSome&&qU ops is (L.setIfInBounds i true)
def Bu (ops:Array Oper)(is a:List Nat):Bool:=
 Region.noSelect ops&&tq ops is (Array.replicate ops.size false)&&qU ops a (w7 is (Array.replicate ops.size false))&&decide (is.length+a.length=ops.size)
section
variable {P:Program}{main:Bool}{J:Goroutine->af->Prop}{ops:Array Oper}{Q:Act->af->Prop}{F0:af}
theorem Bv {K:Act->Prop}(l:Region.noSelect ops=true){F:af}(b:Knows F0 F)(fuel:Nat):
  ∀(is:List Nat) (L:Array Bool) (go:Bool) (a:Act),tq ops is L=true->eI P J ops F0 K (pick ops is) go a->(∀m,K m->er P J ops Q (Knows F0) fuel (w7 is L) m F)->
   er P J ops Q (Knows F0) (fuel+is.length) L a F
 |[],L,go,a,_,h,hK=>by unfold pick eI at h;exact hK a h
 |i::is,L,go,a,hc,h,hK=>by
  simp only[tq,Bool.and_eq_true] at hc
  obtain ⟨⟨⟨c1,c2⟩,c3⟩,c4⟩:=hc
  obtain ⟨o,c⟩:=Option.isSome_iff_exists.1 c3
  have g:(Region.noSelect ops&&Region.free .any ops L i&&(Region.ready .any ops L).contains i)=true:=by rw[l,c1,c2];rfl
  have n:pick ops (i::is)=o::pick ops is:=by simp only[pick,c]
  rw[n] at h
  have e:fuel+(i::is).length=(fuel+is.length)+1:=by simp only[List.length_cons];omega
  rw[e]
  have next:∀go v,eI P J ops F0 K (pick ops is) go (bB a o.dst v)->er P J ops Q (Knows F0) (fuel+is.length) (L.setIfInBounds i true) (bB a o.dst v) F:=fun go v d=>
   Bv l b fuel is _ go _ c4 d hK
  unfold eI at h
  split at h
  .rename_i hg
   exact A3 i c g hg b (next true undef h)
  .rename_i hg
   split at h
   .rename_i t x k
    split at h
    case h_2=>exact h.elim
    rename_i ad p
    split at h
    case h_2=>exact h.elim
    rename_i v d
    refine oI i v c g hg (fun F R j f=>?_) b (next _ v h)
    unfold c5
    simp only[k,p,j.fR d]
    exact f
   .rename_i x args argTypes k
    split at h
    case h_2=>exact h.elim
    rename_i fn first captured q
    obtain ⟨r,v,s,h⟩:=h
    refine oI i v c g hg (fun F R j f=>?_) b (next _ v h)
    unfold c5
    simp only[k,q]
    exact ⟨r,(s F j).mono fun w F' u=>by obtain ⟨rfl,rfl⟩:=u;exact f⟩
   .split at h
    case h_2=>exact h.elim
    rename_i v d
    exact oI i v c g hg (fun F R j f=>s9 d f) b (next _ v h)
  .exact h.elim
theorem Bw:∀(b:List Nat) (L:Array Bool) (go:Bool) (a:Act) (F:af),qU ops b L=true->fl P J ops F0 Q (pick ops b) go a F->er P J ops Q (Knows F0) b.length L a F
 |[],L,go,a,F,hc,h=>by
  simp only[qU,decide_eq_true_eq] at hc
  unfold pick fl at h
  exact AB hc h _
 |j::b,L,go,a,F,hc,h=>by
  simp only[qU,Bool.and_eq_true,decide_eq_true_eq] at hc
  obtain ⟨⟨c1,c3⟩,c4⟩:=hc
  obtain ⟨o,c⟩:=Option.isSome_iff_exists.1 c3
  have d:pick ops (j::b)=o::pick ops b:=by simp only[pick,c]
  rw[d] at h
  unfold fl at h
  split at h
  .rename_i hg
   refine A4 j c c1 hg ?_
   refine m5.tf ?_ h
   rintro v F' ⟨e,f⟩
   exact ⟨e,Bw b _ _ _ F' c4 f⟩
  .exact h.elim
theorem GI {Q:Ex->Act->af->Prop}(hJ:Closed P main J)(e:P.follows .mixedOrders=true)(is b:List Nat){id:Nat}{a:Act}{F:af}(F0:af)(f:Knows F0 F)(d:Bu ops is b=true)
  (h:eI P J ops F0 (fun c=>fl P J ops F0 (Q .normal) (pick ops b) true c F) (pick ops is) true a):Wp J (.region id ops true) Q a F:=by
 simp only[Bu,Bool.and_eq_true,decide_eq_true_eq] at d
 obtain ⟨⟨⟨g,i⟩,j⟩,l⟩:=d
 refine vY hJ (Knows F0) e ?_
 have:=Bv (P:=P) (J:=J) (Q:=Q .normal) g f b.length is _ true a i h (fun c k=>Bw b _ true c F j k)
 rwa [show b.length+is.length=ops.size by omega] at this
end
attribute [go_sem] pick
inductive kU where
 |done
 |rd (i:Nat) (p:kU)
 |one (i:Nat) (p:kU)
 |two (i:Nat) (p:kU) (j:Nat) (q:kU)
inductive l5 where
 |done
 |rd (o:Oper) (p:l5)
 |one (o:Oper) (p:l5)
 |two (o:Oper) (p:l5) (o':Oper) (q:l5)
 |bad
def kU.opers (ops:Array Oper):kU->l5
 | .done=>.done
 | .rd i p=>match ops[i]? with
  |some o=>.rd o (p.opers ops)
  |none=>.bad
 | .one i p=>match ops[i]? with
  |some o=>.one o (p.opers ops)
  |none=>.bad
 | .two i p j q=>match ops[i]?,ops[j]? with
  |some o,some o'=>.two o (p.opers ops) o' (q.opers ops)
  |_,_=>.bad
def kU.len:kU->Nat
 | .done=>0
 | .rd _ p=>p.len+1
 | .one _ p=>p.len+1
 | .two _ p _ q=>max p.len q.len+1
def gD (P:Program)(J:Goroutine->af->Prop)(ops:Array Oper)(F0:af)(Q:Act->af->Prop):l5->Bool->Act->af->Prop
 | .done,_,a,F=>Q a F
 | .bad,_,_,_=>False
 | .rd o p,_,a,F=>match cQ ops o a with
  |some false=>gD P J ops F0 Q p true (bB a o.dst undef) F
  |some true=>match o.op with
   | .load t x=>match ev a x with
    | .pointer (some ad)=>match fR P F0 t ad with
     |some v=>gD P J ops F0 Q p true (bB a o.dst v) F
     |none=>False
    |_=>False
   | .call {callee:=.value x,args, ..}=>match ev a x with
    | .func (.func fn) first captured=>aS P fn=true/\∃v,Plain P J F0 fn (first++args.map (ev a)++captured) v/\gD P J ops F0 Q p false (bB a o.dst v) F
    |_=>False
   |_=>match jy P o a with
    |some v=>gD P J ops F0 Q p true (bB a o.dst v) F
    |none=>False
  |none=>False
 | .one o p,_,a,F=>match cQ ops o a with
  |some true=>c5 P J o (fun v F'=>Knows F0 F'/\gD P J ops F0 Q p (!Oper.calls o) (bB a o.dst v) F') a F
  |_=>False
 | .two o p o' q,_,a,F=>(match cQ ops o a with
  |some true=>c5 P J o (fun v F'=>Knows F0 F'/\gD P J ops F0 Q p (!Oper.calls o) (bB a o.dst v) F') a F
  |_=>False)/\(match cQ ops o' a with
  |some true=>c5 P J o' (fun v F'=>Knows F0 F'/\gD P J ops F0 Q q (!Oper.calls o') (bB a o'.dst v) F') a F
  |_=>False)
theorem GJ {P:Program}{J:Goroutine->af->Prop}{ops:Array Oper}{F0:af}{Q:Act->af->Prop}{go:Bool}{a:Act}{F:af}:gD P J ops F0 Q .done go a F=Q a F:=rfl
theorem GK {P:Program}{J:Goroutine->af->Prop}{ops:Array Oper}{F0:af}{Q:Act->af->Prop}{o:Oper}{p:l5}{a:Act}{F:af}:gD P J ops F0 Q (.rd o p) true a F=match cQ ops o a with
  |some false=>gD P J ops F0 Q p true (bB a o.dst undef) F
  |some true=>match o.op with
   | .load t x=>match ev a x with
    | .pointer (some ad)=>match fR P F0 t ad with
     |some v=>gD P J ops F0 Q p true (bB a o.dst v) F
     |none=>False
    |_=>False
   | .call {callee:=.value x,args, ..}=>match ev a x with
    | .func (.func fn) first captured=>aS P fn=true/\∃v,Plain P J F0 fn (first++args.map (ev a)++captured) v/\gD P J ops F0 Q p false (bB a o.dst v) F
    |_=>False
   |_=>match jy P o a with
    |some v=>gD P J ops F0 Q p true (bB a o.dst v) F
    |none=>False
  |none=>False:=(Eq.refl _).trans (Eq.refl _)
theorem GL {P:Program}{J:Goroutine->af->Prop}{ops:Array Oper}{F0:af}{Q:Act->af->Prop}{o:Oper}{p:l5}{a:Act}{F:af}:gD P J ops F0 Q (.one o p) true a F=match cQ ops o a with
  |some true=>c5 P J o (fun v F'=>Knows F0 F'/\gD P J ops F0 Q p (!Oper.calls o) (bB a o.dst v) F') a F
  |_=>False:=(Eq.refl _).trans (Eq.refl _)
attribute [irreducible] gD
attribute [go_sem] GJ GK GL kU.opers
theorem Bx {F:af}{a:Addr}:∀(cs:List Value) (i:Nat),(∀j v,cs[j]?=some v->F.get (a.add (i+j))=some v)->F.dJ a i cs.length=some cs
 |[],i,_=>rfl
 |v::cs,i,h=>by
  have b:=h 0 v rfl
  rw[Nat.add_zero] at b
  have ih:=Bx cs (i+1) (fun j w hw=>by
   have:=h (j+1) w (by simpa using hw)
   rwa [show i+(j+1)=i+1+j by omega] at this)
  simp only[List.length_cons,af.dJ,b,ih]
theorem By {F:af}{a:Addr}:∀(m i k:Nat) (d c:List Value),F.dJ a i m=some d->F.dJ a (i+m) k=some c->F.dJ a i (m+k)=some (d++c)
 |0,i,k,d,c,b,e=>by
  simp only[af.dJ,Option.some.injEq] at b
  subst b
  rw[Nat.zero_add]
  simpa using e
 |m+1,i,k,d,c,b,e=>by
  unfold af.dJ at b
  split at b
  case h_2=>cases b
  rename_i v f
  split at b
  case h_2=>cases b
  rename_i vs g
  cases b
  have ih:=By m (i+1) k vs c g (by rwa [show i+1+m=i+(m+1) by omega])
  rw[show m+1+k=(m+k)+1 by omega]
  simp only[af.dJ,f,ih,List.cons_append]
theorem aI.cells {T:Type}{r:cw T}{ro:Addr->Option Value}{ad:Option Addr}{c:Nat}{l:List T}(h:aI r ro (.slice ad l.length c) l)(F:af)(z:∀a v,ro a=some v->F.get a=some v):
  ∃b:List (List Value),b.length=l.length/\(∀x∈b,x.length=r.n/\∀v∈x,bV v=true)/\(∀(i:Nat) (x:T),l[i]?=some x->∃cs,b[i]?=some cs/\r.rel ro x cs)/\gO F r.n (.slice ad l.length c)=some b.flatten:=by
 obtain ⟨G,H,e,_,_,he⟩:=h
 cases e
 cases m:l with
 |nil=>subst m;refine ⟨[],rfl,ax,ax,?_⟩;cases ad<;>simp[gO,af.dJ]
 |cons A l0=>
  obtain ⟨p,I,B,-,-⟩:=he 0 A (by rw[m];rfl)
  subst B
  rw[<-m]
  have key:∀k,k<=l.length->∃b:List (List Value),b.length=k/\(∀x∈b,x.length=r.n/\∀v∈x,bV v=true)/\(∀(i:Nat) (x:T),i<k->l[i]?=some x->∃cs,b[i]?=some cs/\r.rel ro x cs)/\F.dJ p 0 (k*r.n)=some b.flatten:=by
   intro k
   induction k with
   |zero=>intro _;exact ⟨[],rfl,ax,ax,by simp[af.dJ]⟩
   |succ k ih=>
    intro J
    obtain ⟨b,f,o,q,s⟩:=ih aa
    have d:l[k]?=some l[k]:=List.getElem?_eq_getElem aa
    obtain ⟨K,cs,C,t,hm⟩:=he k _ d
    cases C
    have w:=r.len t
    refine ⟨b++[cs],by simp[f],fun y D=>?_,fun i x hi u=>?_,?_⟩
    .rcases List.mem_append.1 D with h|h
     .exact o y h
     .simp only[List.mem_singleton] at h;subst h;exact ⟨w,r.one t⟩
    .rcases Nat.lt_or_ge i k with h|h
     .obtain ⟨cs',a1,a2⟩:=q i x h u
      exact ⟨cs',by rw[List.getElem?_append_left aa];exact a1,a2⟩
     .have:i=k:=aa
      subst this
      rw[d] at u
      obtain rfl:=Option.some.inj u
      exact ⟨cs,by rw[List.getElem?_append_right aa];simp[f],t⟩
    .rw[Nat.succ_mul]
     have g:=Bx (F:=F) (a:=p) cs (k*r.n) (fun j v E=>z _ _ (by have:=hm j v E;rwa [lW] at this))
     rw[w] at g
     have:=By (k*r.n) 0 r.n b.flatten cs s (by rw[Nat.zero_add];exact g)
     rw[this]
     simp
  obtain ⟨b,f,o,q,s⟩:=key l.length (Nat.le_refl _)
  exact ⟨b,f,o,fun i x d=>q i x (List.getElem?_eq_some_iff.1 d).1 d,s⟩
theorem bg.empty {T:Type}{r:cw T}{ro:Addr->Option Value}{e:TypeId}{b:Nat}(a:∀off sp,ro ⟨b,off,sp⟩=none):bg r ro e (.slice (some ⟨b,0,none⟩) 0 0) [] [(b,.cells #[] e)]:=
 ⟨[],.inr ⟨b,#[],0,rfl,rfl,ax,Nat.le_refl _,ax,ax,a⟩,rfl,ax,fun i x h=>by simp at h⟩
theorem Bz {ro:Addr->Option Value}{x:Nat×Obj}{l:List (Nat×Obj)}:Le ⟨ro,l++[x]⟩ ⟨ro,x::l⟩:=by
 have d:∀b,b∈keys (l++[x])↔b∈keys (x::l):=fun b=>by
  simp only[keys,List.map_append,List.map_cons,List.map_nil,List.mem_append,List.mem_cons,List.not_mem_nil,or_false];exact Or.comm
 refine ⟨fun w hw=>⟨hw.ro,fun b o hb=>hw.own b o ?_,?_,fun a v h hm=>hw.apart a v h ((d _).1 hm)⟩,fun b hb=>(d b).1 hb,fun a c=>.inl c⟩
 .rcases List.mem_append.1 hb with h|h
  .exact List.mem_cons_of_mem _ h
  .simp only[List.mem_singleton] at h;rw[h];exact List.mem_cons_self
 .have:=hw.nodup;simp only[keys,List.map_cons,List.nodup_cons] at this;simp only[keys,List.map_append,List.map_cons,List.map_nil];rw[List.nodup_append];refine ⟨this.2,ax,fun a c b hb e=>?_⟩;simp only[List.mem_singleton] at hb;subst hb;exact this.1 (e▸c)
theorem qV {P:Program}{T:Type}{r:cw T}{ro:Addr->Option Value}{rest:List (Nat×Obj)}{ks:List Nat}{R:Value->af->Prop}{argTypes:Array TypeId}{m o e y:TypeId}{f b c:Nat}{ad:Option Addr}{z:Value}{xs:List T}
  (A:∀off sp,ro ⟨b,off,sp⟩=none) (B:av rest b) (p:keys rest=ks) (hlen:xs.length<=1000000) (C:aI r ro (.slice ad xs.length c) xs)
  (D:argTypes[0]?=some m) (E:argTypes[1]?=some o) (he:dH P m=some e) (F:dH P o=some y) (hs:cq P e=some r.n) (G:zeroOf P e=some z) (H:z.cells.size=r.n) (hb:bytesOf P e=some f)
  (I:0<f) (J:f<=10000)
  (q:∀v g,bg r ro e v xs g->Apart ks g->R v ⟨ro,rest++g⟩):mZ P argTypes (.slice (some ⟨b,0,none⟩) 0 0) (.slice ad xs.length c) R ⟨ro,(b,.cells #[] e)::rest⟩:=by
 intro ty
 obtain ⟨d,k1,K,L,M⟩:=C.cells ⟨ro,(b,.cells #[] e)::rest⟩ (fun a v h=>by simp[af.get,h])
 have s:∀x∈d,x.length=r.n:=fun x h=>(K x h).1
 have i:=iQ s
 refine wD (old:=[]) D E he F hs G hb I J (by simpa using hlen) (by simp[gO,af.dJ]) M (fun hc=>?_) (fun hc k t l u=>?_)
 .have N:xs.length=0:=aa
  have O:xs=[]:=List.eq_nil_of_length_eq_zero N
  have Q:d=[]:=List.eq_nil_of_length_eq_zero aa
  subst O Q
  refine .inl ⟨_,_,rfl,rfl,⟨ro,rest++[(b,.cells #[] e)]⟩,Bz,q _ _ (bg.empty A) fun k l=>?_⟩
  simp only[keys,List.map_cons,List.map_nil,List.mem_singleton] at l
  subst l
  rw[<-p]
  exact lY B
 .refine ⟨⟨ro,rest++[(t,.cells (([]:List Value).toArray++d.flatten.toArray++Builtin.zeroCells z.cells (k - (0+xs.length))) e)]⟩,Bz.trans (Le.sub (.cons₂ _ (.cons _ (List.Sublist.refl _)))),q _ _ ?_ fun j w=>?_⟩
  .refine ⟨d,.inr ⟨t,_,k,by rw[k1,Nat.zero_add],rfl,?_,aa,?_,s,u.ro⟩,k1,hlen,L⟩
   .simp only[List.nil_append,Array.size_append,List.size_toArray,List.length_nil,Builtin.zeroCells,Array.size_map,Array.size_range,i,H,k1]
    rw[Nat.zero_add,<-Nat.add_mul]
    congr 1;omega
   .simp only[Array.toList_append,List.nil_append]
    rw[List.take_append_of_le_length (by simp[i])]
    rw[List.take_of_length_le (by simp[i])]
  .simp only[keys,List.map_cons,List.map_nil,List.mem_singleton] at w
   subst w
   rw[<-p]
   exact lY u.own.2
theorem tr:∀{pre bC:List (Nat×Obj)} {b:Nat} {o:Obj},av pre b->lk (pre++((b,o)::bC)) b=some o
 |[],bC,b,o,_=>by simp[lk]
 |(c,x)::pre,bC,b,o,h=>by
  have hc:¬c=b:=fun e=>h.1 e.symm
  simp[lk,hc,tr h.2]
theorem BA:∀{pre bC:List (Nat×Obj)} {b:Nat} {o x:Obj},av pre b->jq (pre++((b,o)::bC)) b x=pre++((b,x)::bC)
 |[],bC,b,o,x,_=>by simp[jq]
 |(c,y)::pre,bC,b,o,x,h=>by
  have hc:¬c=b:=fun e=>h.1 e.symm
  simp[jq,hc,BA h.2]
theorem tu {ro:Addr->Option Value}{pre bC:List (Nat×Obj)}{b:Nat}{e:TypeId}(a:av pre b)(o:Nat):∀(vs:List Value) (arr:Array Value) (i:Nat),(∀v∈vs,bV v=true)->o+i+vs.length<=arr.size->
  af.js ⟨ro,pre++((b,.cells arr e)::bC)⟩ ⟨b,o,none⟩ i vs=some ⟨ro,pre++((b,.cells (cY arr (o+i) vs) e)::bC)⟩
 |[],arr,i,_,_=>rfl
 |v::vs,arr,i,c,h=>by
  simp only[List.length_cons] at h
  have d:(⟨b,o,none⟩:Addr).add i=⟨b,o+i,none⟩:=by
   unfold Addr.add
   split
   .rename_i hi;subst hi;rfl
   .rfl
  unfold af.js
  have:af.mN ⟨ro,pre++((b,.cells arr e)::bC)⟩ ((⟨b,o,none⟩:Addr).add i) v=some ⟨ro,pre++((b,.cells (arr.setIfInBounds (o+i) v) e)::bC)⟩:=by
   have f:o+i<arr.size:=aa
   simp[af.mN,d,tr a,c v ax,f,frozenAt,af.put,BA a]
  rw[this]
  simp only
  rw[tu a o vs _ (i+1) (fun x g=>c x (by simp[g])) (by simp;omega)]
  rw[cY]
  congr 1
theorem BB {ro:Addr->Option Value}{pre bC:List (Nat×Obj)}{b:Nat}{e:TypeId}{arr:Array Value}(a:av pre b)(c:∀off sp,ro ⟨b,off,sp⟩=none):∀(n i:Nat),i+n<=arr.size->
  af.dJ ⟨ro,pre++((b,.cells arr e)::bC)⟩ ⟨b,0,none⟩ i n=some ((arr.toList.drop i).take n)
 |0,i,_=>by simp[af.dJ]
 |n+1,i,h=>by
  have f:(⟨b,0,none⟩:Addr).add i=⟨b,i,none⟩:=by
   unfold Addr.add
   split
   .rename_i hi;subst hi;rfl
   .simp
  have d:i<arr.size:=aa
  unfold af.dJ
  have ih:=BB (e:=e) (arr:=arr) (bC:=bC) a c n (i+1) aa
  simp only[af.get,f,c,if_true,tr a,Option.bind_some,cellOf,Array.getElem?_eq_getElem d,ih]
  have g:i<arr.toList.length:=by simpa using d
  rw[List.drop_eq_getElem_cons g,List.take_succ_cons]
  simp
theorem Gr.GM {ro:Addr->Option Value}{e:TypeId}{size:Nat}{v:Value}{l:List (List Value)}{bu pre bC:List (Nat×Obj)}(h:Gr ro e size v l bu)(a:∀k∈keys bu,av pre k):
  Go.Sep.gO ⟨ro,pre++(bu++bC)⟩ size v=some l.flatten:=by
 rcases h with ⟨rfl,rfl,rfl⟩|⟨b,arr,cap,rfl,rfl,hs,c,ht,f,d⟩
 .rfl
 .simp only[Go.Sep.gO,List.cons_append,List.nil_append]
  have hle:l.length*size<=arr.size:=by rw[hs];exact Nat.mul_le_mul_right _ c
  rw[BB (a b (by simp[keys])) d _ _ aa]
  simp[ht]
theorem Le.ps {ro:Addr->Option Value}{l m l':List (Nat×Obj)}(e:l.Perm m)(hs:m.Sublist l'):Le ⟨ro,l⟩ ⟨ro,l'⟩:=by
 have c:(keys m).Sublist (keys l'):=hs.map _;have d:(keys l).Perm (keys m):=e.map _;exact ⟨fun w hw=>⟨hw.ro,fun b o hb=>hw.own b o (hs.subset (e.subset hb)),d.nodup_iff.2 (c.nodup hw.nodup),fun a v f hm=>hw.apart a v f (c.subset (d.subset hm))⟩,fun b hb=>c.subset (d.subset hb),fun a g=>.inl g⟩
structure bh (ks:List Nat):Prop where
 nd:ks.Nodup
abbrev Nd (l:List (Nat×Obj)):Prop:=(keys l).Nodup
theorem Nd.fresh {pre bu bC:List (Nat×Obj)}(h:Nd (pre++(bu++bC))):∀k∈keys bu,av pre k:=fun k a=>by
 refine m8 fun hm=>?_
 simp only[Nd,cE] at h
 exact (List.nodup_append.1 h).2.2 k hm k (List.mem_append_left _ a) rfl
theorem Nd.push {l:List (Nat×Obj)}{b:Nat}{o:Obj}(h:Nd l)(hb:av l b):Nd ((b,o)::l):=by
 simp only[Nd,keys,List.map_cons,List.nodup_cons];exact ⟨lY hb,h⟩
theorem Nd.drop {pre bu bC:List (Nat×Obj)}(h:Nd (pre++(bu++bC))):Nd (pre++bC):=
 ((List.Sublist.append_left (List.sublist_append_right bu bC) pre).map _).nodup h
theorem Nd.ins {pre bu bC:List (Nat×Obj)}{b:Nat}{o:Obj}(h:Nd (pre++(bu++bC)))(hb:av (pre++(bu++bC)) b):Nd (pre++([(b,o)]++bC)):=by
 have a:Nd ((b,o)::(pre++bC)):=h.drop.push (m8 fun hm=>lY hb (((List.Sublist.append_left (List.sublist_append_right bu bC) pre).map _).subset hm));have:(pre++([(b,o)]++bC)).Perm ((b,o)::(pre++bC)):=List.perm_middle;exact (this.map _).nodup_iff.2 a
section
variable {P:Program}
theorem BC {ro:Addr->Option Value}{pre bu bC:List (Nat×Obj)}{R:Value->af->Prop}{argTypes:Array TypeId}{ty A B e O:TypeId}{size o n c:Nat}{C:Option Addr}{s z:Value}{l xs:List (List Value)}
  (D:argTypes[0]?=some A) (E:argTypes[1]?=some B) (he:dH P A=some e) (d:dH P B=some O) (hs:cq P e=some size) (G:zeroOf P e=some z) (Q:z.cells.size=size) (hb:bytesOf P e=some o)
  (H:0<o) (I:o<=10000) (hg:Gr ro e size s l bu) (i:Nd (pre++(bu++bC))) (S:n=xs.length) (J:∀x∈xs,x.length=size/\∀v∈x,bV v=true) (K:gO ⟨ro,pre++(bu++bC)⟩ size (.slice C n c)=some xs.flatten)
  (L:l.length+xs.length<=1000000)
  (p:∀v q,Gr ro e size v (l++xs) q->Nd (pre++(q++bC))->∃F0,Le F0 ⟨ro,pre++(q++bC)⟩/\R v F0):
  bq P (Builtin.append_ argTypes ty #[s,.slice C n c]) (fun v F=>∃F0,Le F0 F/\R v F0) ⟨ro,pre++(bu++bC)⟩:=by
 subst S
 have M:=i.fresh
 have hold:=hg.GM (bC:=bC) M
 have r:∀x∈xs,x.length=size:=fun x h=>(J x h).1
 have a:=iQ r
 have out:∀(k b:Nat) (old:List Value),old=l.flatten->(∀x∈l,x.length=size)->l.length+xs.length<=k->eC ⟨ro,pre++(bu++bC)⟩ b->
   ∃F0,Le F0 (af.push ⟨ro,pre++(bu++bC)⟩ b (.cells (old.toArray++xs.flatten.toArray++Builtin.zeroCells z.cells (k - (l.length+xs.length))) e))/\R (.slice (some ⟨b,0,none⟩) (l.length+xs.length) k) F0:=by
  intro k b old T t g f
  subst T
  have u:=iQ t
  have w:=p (.slice (some ⟨b,0,none⟩) (l.length+xs.length) k) [(b,.cells (l.flatten.toArray++xs.flatten.toArray++Builtin.zeroCells z.cells (k - (l.length+xs.length))) e)] (.inr ⟨b,_,k,ax,rfl,?_,by simpa using g,?_,?_,f.ro⟩) (i.ins f.own)
  .obtain ⟨F0,hle,w⟩:=w
   refine ⟨F0,hle.trans ?_,w⟩
   exact Le.ps (m:=(b,.cells (l.flatten.toArray++xs.flatten.toArray++Builtin.zeroCells z.cells (k - (l.length+xs.length))) e)::(pre++bC)) List.perm_middle (.cons₂ _ (List.Sublist.append_left (List.sublist_append_right bu bC) pre))
  .simp only[Array.size_append,List.size_toArray,Builtin.zeroCells,Array.size_map,Array.size_range,u,a,Q]
   rw[<-Nat.add_mul,<-Nat.add_mul]
   congr 1;omega
  .simp only[Array.toList_append,List.length_append,List.flatten_append]
   rw[List.take_append_of_le_length (by simp[u,a,Nat.add_mul])]
   rw[List.take_of_length_le (by simp[u,a,Nat.add_mul])]
  .intro x d
   rcases List.mem_append.1 d with h|h
   .exact t x h
   .exact r x h
 rcases id hg with ⟨rfl,rfl,rfl⟩|⟨b,arr,cap,rfl,rfl,y,t,ht,j,U⟩
 .refine wD D E he d hs G hb H I (by simpa using L) hold K (fun hc=>.inr ⟨rfl,?_⟩) (fun hc k b g f=>?_)
  .have:xs=[]:=List.eq_nil_of_length_eq_zero aa
   subst this
   exact p _ _ (.inl ⟨rfl,rfl,rfl⟩) i
  .have:=out k b [] rfl ax (by simpa using g) f
   simpa using this
 .refine wD D E he d hs G hb H I L hold K (fun hc=>.inl ⟨_,⟨ro,pre++([(b,.cells (cY arr (l.length*size) xs.flatten) e)]++bC)⟩,rfl,?_,?_⟩) (fun hc k V g f=>out k V _ rfl j g f)
  .have W:(⟨b,0,none⟩:Addr).add (l.length*size)=⟨b,l.length*size,none⟩:=by
    unfold Addr.add
    split
    .rename_i hi;rw[hi]
    .simp
   rw[W]
   have N:l.length*size+xs.length*size<=arr.size:=by rw[y,<-Nat.add_mul];exact Nat.mul_le_mul_right _ hc
   have:=tu (ro:=ro) (e:=e) (bC:=bC) (M b (by simp[keys])) (l.length*size) xs.flatten arr 0 (fun v X=>by
    obtain ⟨x,Y,Z⟩:=List.mem_flatten.1 X
    exact (J x Y).2 v Z) (by rw[a];omega)
   simpa using this
  .refine p _ _ (.inr ⟨b,_,cap,ax,rfl,by rw[s3];exact y,by simpa using hc,?_,?_,U⟩) (by simpa [Nd,keys] using i)
   .have N:l.length*size+xs.length*size<=arr.size:=by rw[y,<-Nat.add_mul];exact Nat.mul_le_mul_right _ hc
    rw[s4 _ _ _ (by rw[a];exact N),ht,List.length_append,List.flatten_append,a]
    rw[List.take_append_of_le_length (by simp[iQ j,a,Nat.add_mul])]
    rw[List.take_of_length_le (by simp[iQ j,a,Nat.add_mul])]
   .intro x d
    rcases List.mem_append.1 d with h|h
    .exact j x h
    .exact r x h
theorem BD:∀{pre own:List (Nat×Obj)} {b:Nat} {o:Obj},lk pre b=some o->lk (pre++own) b=some o
 |(c,x)::pre,own,b,o,h=>by
  simp only[List.cons_append,lk] at h ⊢
  split
  .rename_i hc;rw[if_pos hc] at h;exact h
  .rename_i hc;rw[if_neg hc] at h;exact BD h
theorem BE {ro:Addr->Option Value}{own:List (Nat×Obj)}{b:Nat}{cs:Array Value}{e:TypeId}(a:lk own b=some (.cells cs e))(c:∀off sp,ro ⟨b,off,sp⟩=none):∀n i,i+n<=cs.toList.length->af.dJ ⟨ro,own⟩ ⟨b,0,none⟩ i n=some ((cs.toList.drop i).take n)
 |0,i,_=>by simp[af.dJ]
 |n+1,i,hi=>by
  have d:i<cs.toList.length:=aa
  unfold af.dJ
  have f:(⟨b,0,none⟩:Addr).add i=⟨b,i,none⟩:=by
   unfold Addr.add
   split
   .rename_i hi;subst hi;rfl
   .simp
  have g:i<cs.size:=by simpa using d
  simp only[af.get,f,c,if_true,a,Option.bind_some,cellOf,Array.getElem?_eq_getElem g,BE a c n (i+1) aa]
  rw[List.drop_eq_getElem_cons d,List.take_succ_cons]
  simp
theorem bg.more {T:Type}{r:cw T}{ro:Addr->Option Value}{e:TypeId}{l xs:List T}{ls ys:List (List Value)}{v:Value}{a:List (Nat×Obj)}(hg:Gr ro e r.n v (ls++ys) a)(b:ls.length=l.length)(c:ys.length=xs.length)
  (d:∀(i:Nat) (x:T),l[i]?=some x->∃cs:List Value,ls[i]?=some cs/\r.rel ro x cs) (f:∀(i:Nat) (x:T),xs[i]?=some x->∃cs:List Value,ys[i]?=some cs/\r.rel ro x cs) (g:l.length+xs.length<=1000000):bg r ro e v (l++xs) a:=by
 refine ⟨_,hg,by simp[b,c],by simpa using g,fun i y hi=>?_⟩
 rcases Nat.lt_or_ge i l.length with h|h
 .rw[List.getElem?_append_left h] at hi
  rw[List.getElem?_append_left aa]
  exact d i y hi
 .rw[List.getElem?_append_right h] at hi
  rw[List.getElem?_append_right aa,b]
  exact f _ y hi
theorem BG {T:Type}{r:cw T}{ro:Addr->Option Value}{bu:List (Nat×Obj)}{R:Value->af->Prop}{argTypes:Array TypeId}{g h e p e2:TypeId}{b c:Nat}{s z:Value}{l:List T}{x:T}{cs:Array Value}{own:List (Nat×Obj)}(pre bC:List (Nat×Obj))(q:own=pre++(bu++bC))
  (hg:bg r ro e s l bu) (t:bh (keys own)) (j:l.length+[x].length<=1000000) (d:r.rel ro x cs.toList) (u:lk pre c=some (.cells cs e2)) (w:∀off sp,ro ⟨c,off,sp⟩=none)
  (A:argTypes[0]?=some g) (B:argTypes[1]?=some h) (he:dH P g=some e) (C:dH P h=some p) (hs:cq P e=some r.n) (D:zeroOf P e=some z) (E:z.cells.size=r.n) (hb:bytesOf P e=some b)
  (F:0<b) (G:b<=10000)
  (H:∀v a,bg r ro e v (l++[x]) a->∀f,f=pre++(a++bC)->bh (keys f)->∃F0,Le F0 ⟨ro,f⟩/\R v F0):mZ P argTypes s (.slice (some ⟨c,0,none⟩) 1 1) R ⟨ro,own⟩:=by
 subst q
 obtain ⟨ls,I,k,hm,J⟩:=hg
 have K:=t.nd
 intro ty
 have hlen:cs.toList.length=r.n:=r.len d
 refine BC (xs:=[cs.toList]) (e:=e) (size:=r.n) (z:=z) (l:=ls) A B he C hs D E hb F G I K rfl (fun y o=>?_) ?_ (by simpa [k] using j) (fun v a L M=>H v a (bg.more L k rfl J (fun i y hi=>?_) j) _ rfl ⟨M⟩)
 .simp only[List.mem_singleton] at o;subst o;exact ⟨hlen,r.one d⟩
 .simp only[gO,Nat.one_mul]
  rw[BE (BD u) w _ _ aa]
  rw[List.drop_zero,List.take_of_length_le aa]
  simp
 .cases i with
  |zero=>simp at hi;subst hi;exact ⟨cs.toList,rfl,d⟩
  |succ m=>simp at hi
theorem GN {T:Type}{r:cw T}{ro:Addr->Option Value}{bu:List (Nat×Obj)}{R:Value->af->Prop}{argTypes:Array TypeId}{g i e m:TypeId}{d c:Nat}{ad:Option Addr}{s z:Value}{l xs:List T}{own:List (Nat×Obj)}(pre bC:List (Nat×Obj))(o:own=pre++(bu++bC))
  (hg:bg r ro e s l bu) (p:bh (keys own)) (j:l.length+xs.length<=1000000) (q:aI r ro (.slice ad xs.length c) xs)
  (t:argTypes[0]?=some g) (u:argTypes[1]?=some i) (he:dH P g=some e) (w:dH P i=some m) (hs:cq P e=some r.n) (x:zeroOf P e=some z) (y:z.cells.size=r.n) (hb:bytesOf P e=some d)
  (A:0<d) (B:d<=10000)
  (C:∀v b,bg r ro e v (l++xs) b->∀f,f=pre++(b++bC)->bh (keys f)->∃F0,Le F0 ⟨ro,f⟩/\R v F0):mZ P argTypes s (.slice ad xs.length c) R ⟨ro,own⟩:=by
 subst o
 obtain ⟨ls,D,k,hm,E⟩:=hg
 have F:=p.nd
 intro ty
 obtain ⟨G,k1,H,I,J⟩:=q.cells ⟨ro,pre++(bu++bC)⟩ (fun a v h=>by simp[af.get,h])
 exact BC (xs:=G) (e:=e) (size:=r.n) (z:=z) (l:=ls) t u he w hs x y hb A B D F k1.symm H J (by rw[k,k1];exact j) (fun v b K L=>C v b (bg.more K k k1 E I j) _ rfl ⟨L⟩)
theorem bg.l6 {T:Type}{r:cw T}{ro:Addr->Option Value}{e:TypeId}{v:Value}{l:List T}{bu:List (Nat×Obj)}(h:bg r ro e v l bu){own:List (Nat×Obj)}(a pre bC:List (Nat×Obj))(f:own=pre++(bu++bC))(g:a=pre++bC)(i:bh (keys own))(j:aJ ro a):
  ∃aW,Ext ro aW/\aJ aW a/\aI r aW v l/\Le ⟨aW,a⟩ ⟨ro,own⟩:=by
 subst f g
 have c:Nd (pre++(bu++bC)):=i.nd
 have m:Apart (keys (pre++bC)) bu:=fun k d hm=>by
  simp only[Nd,cE] at c
  have b:=List.nodup_append.1 c
  simp only[cE,List.mem_append] at hm
  rcases hm with hm|hm
  .exact b.2.2 k hm k (List.mem_append_left _ d) rfl
  .exact (List.nodup_append.1 b.2.1).2.2 k d k hm rfl
 obtain ⟨aW,n,b,o,p⟩:=h.Bf (pre++bC) m rfl j
 refine ⟨aW,n,b,o,p.trans ?_⟩
 have q:((pre++bC)++bu).Perm (pre++(bu++bC)):=by
  rw[List.append_assoc]
  exact List.Perm.append_left pre List.perm_append_comm
 exact Le.ps q (List.Sublist.refl _)
theorem bg.setAt {T:Type}{r:cw T}{ro:Addr->Option Value}{e:TypeId}{l:List T}{b n cap:Nat}{arr:Array Value}(h:bg r ro e (.slice (some ⟨b,0,none⟩) n cap) l [(b,.cells arr e)]){i:Nat}{x y:T}(hi:l[i]?=some x){cs:List Value}(m:r.rel ro y cs):
  bg r ro e (.slice (some ⟨b,0,none⟩) n cap) (l.set i y) [(b,.cells (cY arr (i*r.n) cs) e)]:=by
 obtain ⟨ls,hg,o,hm,p⟩:=h
 have D:i<l.length:=(List.getElem?_eq_some_iff.1 hi).1
 have a:=r.len m
 rcases hg with ⟨k,_,_⟩|⟨E,F,q,k,s,hs,hle,ht,c,t⟩
 .cases k
 .cases s
  obtain ⟨rfl,rfl⟩:n=ls.length/\cap=q:=by cases k;exact ⟨rfl,rfl⟩
  have u:i*r.n+cs.length<=arr.size:=by
   rw[hs,a,<-Nat.succ_mul]
   exact Nat.mul_le_mul_right _ aa
  refine ⟨ls.set i cs,.inr ⟨b,_,cap,ax,rfl,by rw[s3];exact hs,by simpa using hle,?_,?_,t⟩,by simp[o],by simpa using hm,fun j z d=>?_⟩
  .rw[s4 _ _ _ u]
   have G:=iQ c
   have f:i<ls.length:=aa
   have e1:(ls.set i cs).flatten=(ls.take i).flatten++cs++(ls.drop (i+1)).flatten:=by
    rw[List.set_eq_take_append_cons_drop,if_pos f]
    simp
   have e2:ls.flatten=(ls.take i).flatten++(ls.drop i).flatten:=by rw[<-List.flatten_append,List.take_append_drop]
   have t1:((ls.take i).flatten).length=i*r.n:=by rw[iQ (fun x h=>c x (List.mem_of_mem_take h)),List.length_take,Nat.min_eq_left aa]
   have v:(ls.drop i).flatten=ls[i]++(ls.drop (i+1)).flatten:=by rw[List.drop_eq_getElem_cons f,List.flatten_cons]
   have t2:ls[i].length=r.n:=c _ (List.getElem_mem f)
   have a1:arr.toList.take (i*r.n)=(ls.take i).flatten:=by
    have:=congrArg (List.take (i*r.n)) ht
    rw[List.take_take,Nat.min_eq_left (Nat.mul_le_mul_right _ aa),e2,List.take_append_of_le_length (Nat.le_of_eq t1.symm),List.take_of_length_le (Nat.le_of_eq t1)] at this
    exact this
   have a2:(arr.toList.take (ls.length*r.n)).drop (i*r.n+cs.length)=(ls.drop (i+1)).flatten:=by
    have t3:((ls.take i).flatten++ls[i]).length=i*r.n+cs.length:=by rw[List.length_append,t1,t2,a]
    rw[ht,e2,v,<-List.append_assoc,List.drop_append_of_le_length (Nat.le_of_eq t3.symm),List.drop_eq_nil_of_le (Nat.le_of_eq t3),List.nil_append]
   rw[a1,e1]
   simp only[List.length_set]
   have w:ls.length*r.n=(i*r.n+cs.length)+(ls.length*r.n - (i*r.n+cs.length)):=by
    have:i*r.n+cs.length<=ls.length*r.n:=by rw[a,<-Nat.succ_mul];exact Nat.mul_le_mul_right _ f
    omega
   rw[w,List.take_append]
   rw[List.take_of_length_le (by rw[List.length_append,t1];omega)]
   congr 1
   have:i*r.n+cs.length+(ls.length*r.n - (i*r.n+cs.length)) - ((ls.take i).flatten++cs).length=ls.length*r.n - (i*r.n+cs.length):=by simp only[List.length_append,t1];omega
   rw[this,<-a2,List.drop_take]
  .intro z A
   rcases List.mem_or_eq_of_mem_set A with h|h
   .exact c z h
   .rw[h];exact a
  .rcases Nat.decEq i j with g|g
   .rw[List.getElem?_set_ne g] at d
    obtain ⟨cs',B,C⟩:=p j z d
    exact ⟨cs',by rw[List.getElem?_set_ne g];exact B,C⟩
   .subst g
    rw[List.getElem?_set_self aa] at d
    obtain rfl:=Option.some.inj d
    exact ⟨cs,List.getElem?_set_self aa,m⟩
end
section
variable {P:Program}{main:Bool}{J:Goroutine->af->Prop}
theorem aD (hJ:Closed P main J){c:Code}{Q:Ex->Act->af->Prop}{a:Act}{F:af}(h:bh (keys F.own)->Wp J c Q a F):Wp J c Q a F:=by
 intro b k cs hb d;by_cases hw:∃w,Has F w
 .obtain ⟨w,hw⟩:=hw;exact h ⟨hw.nodup⟩ b k cs hb d
 .exact hJ.step fun w e=>absurd ⟨w,e⟩ hw
end
theorem bh.cons {l:List (Nat×Obj)}{b:Nat}(hb:av l b)(h:bh (keys l)):bh (b::keys l):=⟨List.nodup_cons.2 ⟨lY hb,h.nd⟩⟩
theorem aJ.nil (ro:Addr->Option Value):aJ ro []:=fun b h=>by cases h
theorem aJ.cons {ro:Addr->Option Value}{b:Nat}{o:Obj}{l:List (Nat×Obj)}(hb:∀off sp,ro ⟨b,off,sp⟩=none)(h:aJ ro l):aJ ro ((b,o)::l):=fun c hc=>by
 simp only[keys,List.map_cons,List.mem_cons] at hc
 rcases hc with rfl|hc
 .exact hb
 .exact h c hc
theorem aJ.app {ro:Addr->Option Value}{l l':List (Nat×Obj)}(h:aJ ro l)(a:aJ ro l'):aJ ro (l++l'):=fun c hc=>by
 rw[cE] at hc
 exact (List.mem_append.1 hc).elim (h c) (a c)
theorem aJ.hd {ro:Addr->Option Value}{b:Nat}{o:Obj}{l:List (Nat×Obj)}(h:aJ ro ((b,o)::l)):∀off sp,ro ⟨b,off,sp⟩=none:=h b (by simp[keys])
theorem aJ.tl {ro:Addr->Option Value}{x:Nat×Obj}{l:List (Nat×Obj)}(h:aJ ro (x::l)):aJ ro l:=fun c hc=>h c (by simp only[keys,List.map_cons,List.mem_cons];exact .inr hc)
theorem aJ.l {ro:Addr->Option Value}{l l':List (Nat×Obj)}(h:aJ ro (l++l')):aJ ro l:=fun c hc=>h c (by rw[cE];exact List.mem_append_left _ hc)
theorem aJ.r {ro:Addr->Option Value}{l l':List (Nat×Obj)}(h:aJ ro (l++l')):aJ ro l':=fun c hc=>h c (by rw[cE];exact List.mem_append_right _ hc)
theorem bg.jB {T:Type}{r:cw T}{ro:Addr->Option Value}{e:TypeId}{v:Value}{l:List T}{bu:List (Nat×Obj)}(h:bg r ro e v l bu):aJ ro bu:=by
 obtain ⟨ls,hg,-⟩:=h;rcases hg with ⟨_,_,rfl⟩|⟨b,arr,cap,_,rfl,_,_,_,_,a⟩
 .exact aJ.nil _
 .exact aJ.cons a (aJ.nil _)
theorem Le.back {ro:Addr->Option Value}{l l':List (Nat×Obj)}(A B O S:List (Nat×Obj))(a:l=A++(B++(O++S)))(b:l'=A++(O++(B++S))):Le ⟨ro,l⟩ ⟨ro,l'⟩:=by
 subst a b;refine Le.ps (m:=A++(O++(B++S))) (List.Perm.append_left A ?_) (List.Sublist.refl _);rw[<-List.append_assoc,<-List.append_assoc];exact List.Perm.append_right S List.perm_append_comm
section
variable {P:Program}{main:Bool}{J:Goroutine->af->Prop}
def tv (J:Goroutine->af->Prop)(j0:Frame)(F:af)(R:Value->af->Prop):Prop:=
 ∀(c:Frame) (cs:List Frame),(∀v F',R v F'->J (G (c.finish v) cs) F')->J (G j0 (c::cs)) F
theorem BH (hJ:Closed P main J){j0:Frame}{ro:Addr->Option Value}{bu:List (Nat×Obj)}{K:Value->af->Prop}{own:List (Nat×Obj)}(pre bC:List (Nat×Obj))(q:own=pre++(bu++bC))(R:Value->List (Nat×Obj)->Prop)(h:∀(main:Bool) (J:Goroutine->af->Prop),Closed P main J->tv J j0 ⟨ro,bu⟩ (fun v G=>∃d,R v d/\Le ⟨ro,d⟩ G))
  (M:∀v d,R v d->∀r,r=pre++(d++bC)->bh (keys r)->∃F0,Le F0 ⟨ro,r⟩/\K v F0):tv J j0 ⟨ro,own⟩ K:=by
 subst q
 intro c cs hK
 by_cases hw:∃w,Has ⟨ro,pre++(bu++bC)⟩ w
 .obtain ⟨s,k⟩:=hw
  let F:af:=⟨fun _=>none,pre++bC⟩
  have t:(pre++bC).Sublist (pre++(bu++bC)):=List.Sublist.append_left (List.sublist_append_right bu bC) pre
  have u:bu.Sublist (pre++(bu++bC)):=(List.sublist_append_left bu bC).trans (List.sublist_append_right pre _)
  have B:∀w,Has ⟨ro,pre++(bu++bC)⟩ w->Has F w:=fun w hw=>⟨fun a v h=>(by cases h),fun b o hb=>hw.own b o (t.subset hb),(t.map _).nodup hw.nodup,fun a v h=>(by cases h)⟩
  have C:∀w,Has ⟨ro,pre++(bu++bC)⟩ w->Has ⟨ro,bu⟩ w:=fun w hw=>⟨hw.ro,fun b o hb=>hw.own b o (u.subset hb),(u.map _).nodup hw.nodup,fun a v i hm=>hw.apart a v i ((u.map _).subset hm)⟩
  have hd:∀b,b∈keys bu->b∉keys (pre++bC):=fun b hb hm=>by
   have l:=k.nodup
   simp only[cE] at l
   have D:=List.nodup_append.1 l
   simp only[cE,List.mem_append] at hm
   rcases hm with hm|hm
   .exact D.2.2 b hm b (List.mem_append_left _ hb) rfl
   .exact (List.nodup_append.1 D.2.1).2.2 b hb b hm rfl
  have E:Fits F ⟨ro,bu⟩:=⟨⟨s,C s k,B s k⟩,hd,fun a f hm=>(by cases f)⟩
  have N:m6 F ⟨ro,bu⟩:=fun a f hm=>by
   obtain ⟨v,O⟩:=Option.isSome_iff_exists.1 f
   exact k.apart a v O ((t.map _).subset hm)
  have q:wN J F (G j0 (c::cs)) ⟨ro,bu⟩:=by
   refine h main _ (Bc hJ F) c cs fun v H A m l=>?_
   obtain ⟨d,A,hle⟩:=A
   have I:Le ⟨ro,pre++(d++bC)⟩ (H.star F):=by
    refine ⟨fun w hw=>?_,fun b hb=>?_,fun a f=>?_⟩
    .have n:=hle.has w (m.right hw)
     have g:=m.left hw
     have Q:∀b,b∈keys d->b∉keys (pre++bC):=fun b hb=>m.own b (hle.own b hb)
     have j:(pre++(d++bC)).Perm (d++(pre++bC)):=by
      rw[<-List.append_assoc,<-List.append_assoc]
      exact List.Perm.append_right bC List.perm_append_comm
     refine ⟨n.ro,fun b o hb=>?_,?_,fun a v i hm=>?_⟩
     .rcases List.mem_append.1 (j.subset hb) with x|x
      .exact n.own b o x
      .exact g.own b o x
     .refine (j.map _).nodup_iff.2 ?_
      rw[List.map_append]
      exact List.nodup_append.2 ⟨n.nodup,g.nodup,fun a f b hb e=>Q a f (e▸hb)⟩
     .have L:=(j.map (·.1)).subset hm
      rw[List.map_append] at L
      rcases List.mem_append.1 L with x|x
      .exact n.apart a v i x
      .rcases hle.ro a (by simp only at i;simp[i]) with y|y
       .exact l a y x
       .exact m.own _ y x
    .simp only[af.star,cE,List.mem_append] at hb ⊢
     rcases hb with x|x|x
     .exact .inr (show b∈keys (pre++bC) by rw[cE];exact List.mem_append_left _ x)
     .exact .inl (hle.own b x)
     .exact .inr (show b∈keys (pre++bC) by rw[cE];exact List.mem_append_right _ x)
    .rcases hle.ro a f with x|x
     .exact (hH (.inr x)).imp id (fun z=>by simp only[af.star,cE,List.mem_append];exact .inr z)
     .exact .inr (by simp only[af.star,cE,List.mem_append];exact .inl x)
   have S:∃fr cs',G (c.finish v) cs=G fr cs':=⟨_,_,rfl⟩
   obtain ⟨fr,cs',T⟩:=S
   by_cases p:∃w,Has (H.star F) w
   .obtain ⟨w1,p⟩:=p
    obtain ⟨F0,U,V⟩:=M v d A _ rfl ⟨(I.has w1 p).nodup⟩
    exact hJ.mono (U.trans I) (hK v F0 V)
   .rw[T]
    exact hJ.step fun w g=>absurd ⟨w,g⟩ p
  refine hJ.mono ⟨fun w hw=>E.both (C w hw) (B w hw),fun b hb=>?_,fun a f=>?_⟩ (q E N)
  .have j:(bu++(pre++bC)).Perm (pre++(bu++bC)):=by
    rw[<-List.append_assoc,<-List.append_assoc]
    exact List.Perm.append_right bC List.perm_append_comm
   exact (j.map _).subset hb
  .rcases kM f with x|x
   .cases x
   .exact .inl x
 .exact hJ.step fun w g=>absurd ⟨w,g⟩ hw
theorem GO (hJ:Closed P main J){f:FuncId}{args:Array Value}{ro:Addr->Option Value}{bu:List (Nat×Obj)}{K:Value->af->Prop}{own:List (Nat×Obj)}(pre bC:List (Nat×Obj))(c:own=pre++(bu++bC))(R:Value->List (Nat×Obj)->Prop)(h:aE P f args ⟨ro,bu⟩ (fun v G=>∃a,R v a/\Le ⟨ro,a⟩ G))
  (d:∀v a,R v a->∀b,b=pre++(a++bC)->bh (keys b)->∃F0,Le F0 ⟨ro,b⟩/\K v F0):dr P J f args ⟨ro,own⟩ K:=
 BH hJ (j0:=Frame.enter P f args .normal) pre bC c R h d
end
attribute [go_sem] Array.size_setIfInBounds
theorem aI.op {T:Type}{r:cw T}{ro:Addr->Option Value}{ad:Option Addr}{n cap:Nat}{l:List T}(h:aI r ro (.slice ad n cap) l):
  l.length<=cap/\l.length<=1000000000000000/\∀i x,l[i]?=some x->∃p cs,ad=some p/\r.rel ro x cs/\∀j v,cs[j]?=some v->ro ((p.add (i*r.n)).add j)=some v:=by
 obtain ⟨d,f,e,a,b,c⟩:=h
 cases e
 exact ⟨a,b,c⟩
theorem bh.sub {l l':List (Nat×Obj)}(A O S:List (Nat×Obj))(a:l=A++S)(b:l'=A++(O++S))(h:bh (keys l')):bh (keys l):=by
 subst a b;exact
 ⟨((List.Sublist.append_left (List.sublist_append_right O S) A).map _).nodup h.nd⟩
theorem bh.back {l l':List (Nat×Obj)}(A B O S:List (Nat×Obj))(a:l=A++(B++(O++S)))(b:l'=A++(O++(B++S)))(h:bh (keys l')):bh (keys l):=by
 subst a b;refine ⟨(List.Perm.map _ (List.Perm.append_left A ?_)).nodup_iff.2 h.nd⟩;rw[<-List.append_assoc,<-List.append_assoc];exact List.Perm.append_right S List.perm_append_comm
theorem fG {ro:Addr->Option Value}{b:Nat}{o:Obj}(pre bC:List (Nat×Obj))(d:bh (keys (pre++((b,o)::bC))))(_hr:∀off sp,ro ⟨b,off,sp⟩=none)(f:aJ ro (pre++bC)):
  Ext ro (b7 ro b o)/\aJ (b7 ro b o) (pre++bC)/\Le ⟨b7 ro b o,pre++bC⟩ ⟨ro,pre++((b,o)::bC)⟩:=by
 have a:(pre++((b,o)::bC)).Perm ((b,o)::(pre++bC)):=List.perm_middle
 have g:Nd ((b,o)::(pre++bC)):=(a.map _).nodup_iff.1 d.nd
 have hb:b∉keys (pre++bC):=(List.nodup_cons.1 g).1
 refine ⟨gP _ _ _,fun c hc off sp=>?_,?_⟩
 .have aN:¬c=b:=fun e=>hb (e▸hc)
  simp[b7,f c hc,aN]
 .have h:Le ⟨b7 ro b o,pre++bC⟩ ⟨ro,(b,o)::(pre++bC)⟩:=kQ (by simp[lk]) (.cons _ (List.Sublist.refl _)) (m8 hb)
  exact h.trans (Le.ps a.symm (List.Sublist.refl _))
section
variable {P:Program}{main:Bool}{J:Goroutine->af->Prop}
theorem fH (hJ:Closed P main J){c:Code}{Q:Ex->Act->af->Prop}{a:Act}{F:af}(h:bh (keys F.own)->aJ F.ro F.own->Wp J c Q a F):Wp J c Q a F:=by
 intro b k cs hb d;by_cases hw:∃w,Has F w
 .obtain ⟨w,hw⟩:=hw;refine h ⟨hw.nodup⟩ (fun b hb off sp=>?_) b k cs hb d;cases e:F.ro ⟨b,off,sp⟩ with
  |none=>rfl
  |some v=>exact absurd hb (hw.apart _ v e)
 .exact hJ.step fun w f=>absurd ⟨w,f⟩ hw
end
theorem w8:∀(vs:List Value) (arr:Array Value) (k:Nat),k+vs.length<=arr.size->∀q,(cY arr k vs)[q]?=if k<=q/\q<k+vs.length then vs[q - k]? else arr[q]?
 |[],arr,k,h,q=>by
  have:¬(k<=q/\q<k+([]:List Value).length):=ax
  rw[if_neg this];rfl
 |v::vs,arr,k,h,q=>by
  simp only[List.length_cons] at h
  rw[cY,w8 vs _ (k+1) (by simp;omega)]
  simp only[List.length_cons]
  by_cases a:k=q
  .subst a
   rw[if_neg aa,if_pos aa,Array.getElem?_setIfInBounds_self_of_lt aa]
   simp
  .by_cases b:k+1<=q/\q<k+1+vs.length
   .rw[if_pos b,if_pos aa]
    rw[show q - k=(q - (k+1))+1 by omega]
    simp
   .rw[if_neg b,if_neg aa,Array.getElem?_setIfInBounds_ne a]
theorem bg.part {T:Type}{r:cw T}{ro:Addr->Option Value}{e:TypeId}{l:List T}{b n cap:Nat}{arr:Array Value}(h:bg r ro e (.slice (some ⟨b,0,none⟩) n cap) l [(b,.cells arr e)]){i:Nat}{x y:T}(hi:l[i]?=some x)(o:Nat)(vs cs cs':List Value)
  (hm:∀j v,cs[j]?=some v->arr[i*r.n+j]?=some v) (hlen:cs.length=r.n) (f:cs'=cs.take o++vs++cs.drop (o+vs.length)) (w:o+vs.length<=cs.length) (g:r.rel ro y cs'):
  bg r ro e (.slice (some ⟨b,0,none⟩) n cap) (l.set i y) [(b,.cells (cY arr (i*r.n+o) vs) e)]:=by
 have k:=h.setAt hi g
 have c:=r.len g
 have s:i*r.n+r.n<=arr.size:=by
  rcases Nat.eq_zero_or_pos r.n with t|z
  .rw[t];omega
  .have a:r.n - 1<cs.length:=aa
   have:=hm (r.n - 1) cs[r.n - 1] (List.getElem?_eq_getElem a)
   have:=(Array.getElem?_eq_some_iff.1 this).1
   omega
 have e1:cY arr (i*r.n) cs'=cY arr (i*r.n+o) vs:=by
  apply Array.ext_getElem?
  intro q
  rw[w8 cs' arr _ (by rw[c];exact s),w8 vs arr _ aa]
  by_cases m:i*r.n+o<=q/\q<i*r.n+o+vs.length
  .rw[if_pos m,if_pos (by rw[c];omega),f]
   rw[List.append_assoc,List.getElem?_append_right (by simp;omega),List.getElem?_append_left (by simp;omega)]
   congr 1
   simp;omega
  .rw[if_neg m]
   by_cases d:i*r.n<=q/\q<i*r.n+cs'.length
   .rw[if_pos d]
    rw[c] at d
    have u:arr[q]?=cs[q - i*r.n]?:=by
     have a:q - i*r.n<cs.length:=aa
     have:=hm (q - i*r.n) _ (List.getElem?_eq_getElem a)
     rw[show i*r.n+(q - i*r.n)=q by omega] at this
     rw[this,List.getElem?_eq_getElem a]
    rw[u,f]
    rcases Nat.lt_or_ge (q - i*r.n) o with p|p
    .rw[List.append_assoc,List.getElem?_append_left (by simp;omega),List.getElem?_take_of_lt p]
    .have A:o+vs.length<=q - i*r.n:=aa
     rw[List.getElem?_append_right (by simp;omega),List.getElem?_drop]
     congr 1
     simp;omega
   .rw[if_neg d]
 rw[e1] at k
 exact k
theorem bg.elemAt {T:Type}{r:cw T}{ro:Addr->Option Value}{e:TypeId}{b n cap:Nat}{l:List T}{bu:List (Nat×Obj)}(h:bg r ro e (.slice (some ⟨b,0,none⟩) n cap) l bu){i:Nat}{x:T}(hi:l[i]?=some x):
  ∃arr cs,bu=[(b,.cells arr e)]/\(∀off sp,ro ⟨b,off,sp⟩=none)/\r.rel ro x cs/\∀j v,cs[j]?=some v->arr[i*r.n+j]?=some v:=by
 obtain ⟨f,arr,g,cs,a,c,d,hc,hm⟩:=h.elem hi
 cases a
 exact ⟨arr,cs,c,d,hc,hm⟩
theorem bg.BI {T:Type}{r:cw T}{ro:Addr->Option Value}{e:TypeId}{ad:Option Addr}{n cap:Nat}{l:List T}{bu:List (Nat×Obj)}(h:bg r ro e (.slice ad n cap) l bu){i:Nat}{x:T}(hi:l[i]?=some x):
  ∃b arr cs,ad=some ⟨b,0,none⟩/\bu=[(b,.cells arr e)]/\(∀off sp,ro ⟨b,off,sp⟩=none)/\r.rel ro x cs/\∀j v,cs[j]?=some v->arr[i*r.n+j]?=some v:=by
 obtain ⟨a,arr,k,cs,c,d,f,hc,hm⟩:=h.elem hi
 injection c with g m o
 exact ⟨a,arr,cs,g,d,f,hc,hm⟩
theorem bg.jD {T:Type}{r:cw T}{ro:Addr->Option Value}{e:TypeId}{b n cap:Nat}{l:List T}{arr:Array Value}(h:bg r ro e (.slice (some ⟨b,0,none⟩) n cap) l [(b,.cells arr e)]){i:Nat}{x:T}(hi:l[i]?=some x):
  ∃cs,r.rel ro x cs/\∀j v,cs[j]?=some v->arr[i*r.n+j]?=some v:=by
 obtain ⟨c,cs,a,d,hc,hm⟩:=h.elemAt hi
 simp only[List.cons.injEq,Prod.mk.injEq,Obj.cells.injEq,true_and,and_true] at a
 subst a
 exact ⟨cs,hc,hm⟩
theorem bg.tw {T:Type}{r:cw T}{ro:Addr->Option Value}{e:TypeId}{l:List T}{b n cap:Nat}{arr:Array Value}(h:bg r ro e (.slice (some ⟨b,0,none⟩) n cap) l [(b,.cells arr e)]){i:Nat}{y:T}(hi:i<l.length){cs:List Value}(a:r.rel ro y cs):
  bg r ro e (.slice (some ⟨b,0,none⟩) n cap) (l.set i y) [(b,.cells (cY arr (i*r.n) cs) e)]:=h.setAt (List.getElem?_eq_getElem hi) a
theorem bg.iW {T:Type}{r:cw T}{ro:Addr->Option Value}{e:TypeId}{ad:Option Addr}{n cap:Nat}{l:List T}{bu:List (Nat×Obj)}(h:bg r ro e (.slice ad n cap) l bu)(a:l.isEmpty=false):
  ∃b arr,ad=some ⟨b,0,none⟩/\bu=[(b,.cells arr e)]/\(∀off sp,ro ⟨b,off,sp⟩=none):=by
 cases l with
 |nil=>cases a
 |cons x l=>
  obtain ⟨b,arr,cs,c,d,f,_⟩:=h.BI (i:=0) rfl
  exact ⟨b,arr,c,d,f⟩
theorem bg.ig {T:Type}{r:cw T}{ro:Addr->Option Value}{e:TypeId}{b n cap:Nat}{l:List T}{bu:List (Nat×Obj)}(h:bg r ro e (.slice (some ⟨b,0,none⟩) n cap) l bu):∃arr,bu=[(b,.cells arr e)]:=by
 obtain ⟨ls,hg,-⟩:=h;rcases hg with ⟨a,_,_⟩|⟨d,arr,f,a,c,_⟩
 .cases a
 .cases a;exact ⟨arr,c⟩
theorem bg.count {T:Type}{r:cw T}{ro:Addr->Option Value}{e:TypeId}{ad:Option Addr}{n cap:Nat}{l:List T}{bu:List (Nat×Obj)}(h:bg r ro e (.slice ad n cap) l bu):l.length=n:=by
 obtain ⟨b,c,a,_⟩:=h.len;cases a;rfl
end Go.Sep
end

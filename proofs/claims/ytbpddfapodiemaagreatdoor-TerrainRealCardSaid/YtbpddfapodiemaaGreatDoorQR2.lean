/- A part of the proof: QR2. -/
import Derived.Test.YtbpddfapodiemaaGreatDoorQR1
import Derived.WalkKit
import Derived.IntWalk
import Derived.NoCompilerSame
import Derived.Test.YtbpddfapodiemaaGreatDoorProg
set_option linter.all false
section
namespace Go.Sep
open Go Go.Conc
section
variable {α β:Type}{P:Program}{Q:α->af->Prop}{F:af}
@[go_sem] theorem bT (a:α):bu P (Pure.pure a) Q F=Q a F:=rfl
@[go_sem] theorem N1 (a:α):bu P (Sem.pure a) Q F=Q a F:=rfl
@[go_sem] theorem bH {R:β->af->Prop}(x:Sem α)(f:α->Sem β):bu P (x>>= f) R F=bu P x (fun a G=>bu P (f a) R G) F:=propext (Af x F)
@[go_sem] theorem N2 {R:β->af->Prop}(x:Sem α)(f:α->β):bu P (Functor.map f x) R F=bu P x (fun a G=>R (f a) G) F:=propext (Af x F)
@[go_sem] theorem dO (c:Prop)[Decidable c](x y:Sem α):bu P (if c then x else y) Q F=if c then bu P x Q F else bu P y Q F:=by split<;>rfl
@[go_sem] theorem AI {Q:Value->af->Prop}(a:Addr):bu P (load a) Q F=∃v,F.get a=some v/\Q v F:=by simp[load,bu]
@[go_sem] theorem Fg {Q:Unit->af->Prop}(a:Addr)(v:Value):bu P (store a v) Q F=∃F',F.mS a v=some F'/\Q () F':=by simp[store,bu]
theorem qu {Q:Nat->af->Prop}(o:Obj):bu P (newObj o) Q F=(o.isChan=false/\∀b,eB F b->Q b (F.push b o)):=rfl
theorem kR {Q:Program->af->Prop}:bu P program Q F=Q P F:=rfl
theorem v9 {Q:Nat->af->Prop}(q:Question):bu P (choose q) Q F=if q.forced then Q 0 F else ∀t,Q (q.cut t) F:=rfl
theorem oD {Q:Obj->af->Prop}(r:Nat):bu P (getObj r) Q F=∃o,F.fL r=some o/\Q o F:=rfl
theorem mV {Q:Unit->af->Prop}(r:Nat)(o:Obj):bu P (Go.setObj r o) Q F=(o.isChan=false/\(F.fL r).isSome=true/\Q () (F.put r o)):=rfl
theorem N3 (s:String):bu P (stuck s:Sem α) Q F=False:=rfl
theorem N4 {Q:Unit->af->Prop}(m:Mark):bu P (mark m) Q F=(qo m=true/\Q () F):=rfl
attribute [go_sem] qu kR v9 oD mV N3 N4
@[go_sem] theorem dP {Q:TypeDesc->af->Prop}(t:TypeId):bu P (underlying t) Q F=match P.underlying t with|some d=>Q d F|none=>False:=by
 simp only[underlying,bH,kR];cases P.underlying t<;>rfl
@[go_sem] theorem qv {Q:TypeInfo->af->Prop}(t:TypeId):bu P (typeInfo t) Q F=match P.info? t with|some d=>Q d F|none=>False:=by
 simp only[typeInfo,bH,kR];cases P.info? t<;>rfl
def cj (P:Program)(t:TypeId):Option Nat:=(P.info? t).map (·.size)
def zeroOf (P:Program)(t:TypeId):Option Value:=(P.info? t).bind (·.zero)
def bytesOf (P:Program)(t:TypeId):Option Nat:=(P.info? t).map (·.bytes)
@[go_sem] theorem eY {Q:Nat->af->Prop}(t:TypeId):bu P (sizeOf t) Q F=match cj P t with|some n=>Q n F|none=>False:=by
 simp only[sizeOf,bH,qv,cj];cases P.info? t<;>rfl
@[go_sem] theorem mW {Q:Value->af->Prop}(t:TypeId):bu P (zeroValue t) Q F=match zeroOf P t with|some n=>Q n F|none=>False:=by
 simp only[zeroValue,bH,qv,zeroOf];cases P.info? t with
 |none=>rfl
 |some i=>simp only[Option.bind_some];cases i.zero<;>rfl
def cM (P:Program)(t:TypeId):Option Bool:=(P.underlying t).map fun| .struct _=>true| .array _ _=>true|_=>false
@[go_sem] theorem mX {Q:Bool->af->Prop}(t:TypeId):bu P (isAgg t) Q F=match cM P t with|some n=>Q n F|none=>False:=by
 simp only[isAgg,bH,dP,cM];cases P.underlying t with
 |none=>rfl
 |some d=>cases d<;>rfl
def af.mY (F:af)(a:Addr):Nat->List Value->Prop
 |_,[]=>True
 |i,v::vs=>F.get (a.add i)=some v/\F.mY a (i+1) vs
theorem we {Q:Array Value->af->Prop}(a:Addr):∀(vs:List Value) (i:Nat) (acc:Array Value),F.mY a i vs->Q (acc++vs.toArray) F->bu P (loadCellsFrom a i vs.length acc) Q F
 |[],i,acc,_,h=>by simpa [loadCellsFrom,bT] using h
 |v::vs,i,acc,hg,h=>by
  simp only[List.length_cons,loadCellsFrom,bH,AI]
  refine ⟨v,hg.1,we a vs (i+1) (acc.push v) hg.2 ?_⟩
  simpa using h
theorem Fh {Q:Value->af->Prop}{t:TypeId}{a:Addr}(vs:List Value)(ht:cM P t=some true)(hs:cj P t=some vs.length)(hg:F.mY a 0 vs)(h:Q (.agg vs.toArray) F):bu P (loadVar t a) Q F:=by
 simp only[loadVar,bH,mX,ht,dO,if_true,eY,hs,loadCells];exact we a vs 0 #[] hg (by simpa [bT] using h)
theorem Fi {Q:Value->af->Prop}{t:TypeId}{a:Addr}(v:Value)(ht:cM P t=some false)(hg:F.get a=some v)(h:Q v F):bu P (loadVar t a) Q F:=by
 simp only[loadVar,bH,mX,ht,dO,AI];exact ⟨v,hg,h⟩
def af.jy (F:af)(a:Addr):Nat->List Value->Option af
 |_,[]=>some F
 |i,v::vs=>match F.mS (a.add i) v with
  |some F'=>F'.jy a (i+1) vs
  |none=>none
theorem qw {Q:Unit->af->Prop}(a:Addr):∀(vs:List Value) (i:Nat) (F F':af),F.jy a i vs=some F'->Q () F'->bu P (storeCells a vs i) Q F
 |[],i,F,F',hg,h=>by simp only[af.jy,Option.some.injEq] at hg;subst hg;simpa [storeCells,bT] using h
 |v::vs,i,F,F',hg,h=>by
  simp only[storeCells,bH,Fg]
  unfold af.jy at hg
  split at hg
  .rename_i b c
   exact ⟨b,c,qw a vs (i+1) b F' hg h⟩
  .cases hg
theorem Fj {Q:Unit->af->Prop}{t:TypeId}{a:Addr}{v:Value}(F':af)(hs:cj P t=some v.cells.size)(hg:F.jy a 0 v.cells.toList=some F')(h:Q () F'):bu P (storeVar t a v) Q F:=by
 simp only[storeVar,bH,eY,hs,ne_eq,not_true_eq_false,if_false];exact qw a _ 0 F F' hg h
@[go_sem] theorem AJ {Q:Addr->af->Prop}(t:TypeId)(v:Value):bu P (newVar t v) Q F=∀b,eB F b->Q ⟨b,0,none⟩ (F.push b (.cells v.cells t)):=by
 simp only[newVar,newRow,bH,qu,bT];simp[Obj.isChan]
@[go_sem] theorem sU {Q:Addr->af->Prop}(t:TypeId)(v:Array Value):bu P (newRow t v) Q F=∀b,eB F b->Q ⟨b,0,none⟩ (F.push b (.cells v t)):=by
 simp only[newRow,bH,qu,bT];simp[Obj.isChan]
theorem qx {Q:Addr->af->Prop}(a:Addr):bu P (Instr.sureAddr (.pointer (some a))) Q F=Q a F:=rfl
theorem lW {Q:IntKind×Int->af->Prop}(k:IntKind)(n:Int):bu P (asIntOf (.int k n)) Q F=Q (k,n) F:=rfl
theorem AK {Q:Int->af->Prop}(k:IntKind)(n:Int):bu P (asInt (.int k n)) Q F=Q n F:=rfl
theorem Fo {Q:Bool->af->Prop}(b:Bool):bu P (asBool (.bool b)) Q F=Q b F:=rfl
theorem Fp {Q:Array Value->af->Prop}(b:Array Value):bu P (asAgg (.agg b)) Q F=Q b F:=rfl
attribute [go_sem] qx lW AK Fo Fp
end
def slot (a:Act)(i:Nat):Value:=a.tmps.getD i undef
def sz (a:Act):Nat:=a.tmps.size
def bB (a:Act)(d:Option Tmp)(v:Value):Act:=a.put d v
def ev (a:Act)(x:Operand):Value:=a.eval x
theorem N5 (a:Act)(t:Nat):ev a (.tmp t)=slot a t:=rfl
theorem N6 (a:Act)(v:Value):ev a (.const v)=v:=rfl
theorem N7 (a:Act)(g:Nat):ev a (.global g)= .pointer (some ⟨g,0,none⟩):=rfl
theorem N8 (a:Act)(f:Nat):ev a (.func f)= .func (.func f) #[] #[]:=rfl
theorem N9 (a:Act)(v:Value):bB a none v=a:=rfl
attribute [go_sem] N5 N6 N7 N8 N9
@[go_sem] theorem AL (a:Act)(d:Option Tmp)(v:Value):sz (bB a d v)=sz a:=by cases d<;>simp[sz,bB,Act.put]
theorem Fq (a:Act)(d:Nat)(v:Value)(h:d<sz a):slot (bB a (some d) v) d=v:=by
 simp only[sz] at h;simp[slot,bB,Act.put,h]
theorem wh (a:Act)(d i:Nat)(v:Value)(h:¬d=i):slot (bB a (some d) v) i=slot a i:=by
 simp[slot,bB,Act.put,Array.getElem?_setIfInBounds_ne h]
@[go_sem] theorem Oa (a:Act)(d i:Nat)(v:Value)(h:d<sz a):slot (bB a (some d) v) i=if d=i then v else slot a i:=by
 split
 .rename_i e;subst e;exact Fq a d v h
 .rename_i e;exact wh a d i v e
@[go_sem] theorem AM (a:Act)(d:Option Tmp)(v:Value):(bB a d v).defers=a.defers:=by cases d<;>rfl
theorem aD.start {P:Program}{f:FuncId}{fn:Func}{c:Code}{n:Nat}{args:Array Value}{F:af}{R:Value->af->Prop}(b:P.funcs[f]?=some fn)(hb:fn.body=some c)(a:fn.ntmps=n)(d:args.size<=n)
  (h:∀main J,Closed P main J->∀A:Act,sz A=n->A.defers=[]->(∀i,slot A i=args.getD i undef)->Wp J c (sQ P fn R) A F):aD P f args F R:=
 aD.of_wp b hb fun main J hJ=>h main J hJ _ (by simp[sz,a];omega) rfl fun i=>by
  simp only[slot,a,Array.getD_eq_getD_getElem?]
  rcases Nat.lt_or_ge i args.size with hi|hi
  .rw[Array.getElem?_append_left hi]
  .rw[Array.getElem?_append_right hi,Array.getElem?_replicate,Array.getElem?_eq_none hi]
   split<;>rfl
def dD (P:Program)(t:TypeId):Option TypeId:=match P.underlying t with|some (.slice e)=>some e|_=>none
def lX (P:Program)(t:TypeId):Option (Nat×TypeId):=match P.underlying t with|some (.array n e)=>some (n,e)|_=>none
def dc (P:Program)(t:TypeId)(n:Nat):Option Nat:=
 match P.underlying t with
 |some (.struct fs)=>match fs[n]? with
  |some f=>match cj P f.type with
   |some (_+1)=>some f.offset
   |_=>none
  |none=>none
 |_=>none
def wj (P:Program)(t:TypeId)(n:Nat):Option (Nat×Nat×Bool):=
 match P.underlying t with
 |some (.struct fs)=>match fs[n]? with
  |some f=>match cj P f.type,cM P f.type with
   |some s,some g=>some (f.offset,s,g)
   |_,_=>none
  |none=>none
 |_=>none
def placesOf (P:Program)(t:TypeId):Option (List (Nat×Nat)):=
 match P.underlying t with
 |some (.struct fs)=>fs.toList.mapM fun f=>(cj P f.type).map fun s=>(f.offset,s)
 |_=>none
def aR (P:Program)(f:FuncId):Bool:=match P.funcs[f]? with|some fn=>!(fn.body.isNone||fn.name== "runtime.NumGoroutine")|none=>false
def af.dJ (F:af)(a:Addr):Nat->Nat->Option (List Value)
 |_,0=>some []
 |i,n+1=>match F.get (a.add i) with
  |some v=>match F.dJ a (i+1) n with
   |some vs=>some (v::vs)
   |none=>none
  |none=>none
theorem wm (F:af)(a:Addr):∀(n i:Nat) (vs:List Value),F.dJ a i n=some vs->F.mY a i vs/\vs.length=n
 |0,i,vs,h=>by simp only[af.dJ,Option.some.injEq] at h;subst h;exact ⟨trivial,rfl⟩
 |n+1,i,vs,h=>by
  unfold af.dJ at h
  split at h
  .rename_i v b
   split at h
   .rename_i ws c
    cases h
    obtain ⟨d,e⟩:=wm F a n (i+1) ws c
    exact ⟨⟨b,d⟩,by simp[e]⟩
   .cases h
  .cases h
def fV (P:Program)(F:af)(t:TypeId)(ad:Addr):Option Value:=
 match cM P t with
 |some false=>F.get ad
 |some true=>match cj P t with
  |some n=>match F.dJ ad 0 n with
   |some vs=>some (.agg vs.toArray)
   |none=>none
  |none=>none
 |none=>none
def sV (P:Program)(F:af)(t:TypeId)(ad:Addr)(v:Value):Option af:=
 match cj P t with
 |some n=>if n=v.cells.size then F.jy ad 0 v.cells.toList else none
 |none=>none
theorem AN {P:Program}{F:af}{t:TypeId}{ad:Addr}{v:Value}{Q:Value->af->Prop}(h:fV P F t ad=some v)(a:Q v F):bu P (loadVar t ad) Q F:=by
 unfold fV at h;split at h
 .rename_i hg;exact Fi v hg h a
 .rename_i hg;split at h
  .rename_i n b;split at h
   .rename_i vs c;cases h;obtain ⟨d,e⟩:=wm F ad n 0 vs c;exact Fh vs hg (by rw[b,e]) d a
   .cases h
  .cases h
 .cases h
theorem Fs {P:Program}{F F':af}{t:TypeId}{ad:Addr}{v:Value}{Q:Unit->af->Prop}(h:sV P F t ad v=some F')(a:Q () F'):bu P (storeVar t ad v) Q F:=by
 unfold sV at h;split at h
 .rename_i n b;split at h
  .rename_i e;exact Fj F' (by rw[b,e]) h a
  .cases h
 .cases h
def oE (op:BinOp):Value->Value->Option Value
 | .int k a,.int c b=>if k=c then match op with
   | .add=>some (.int k (k.wrap (a+b)))
   | .sub=>some (.int k (k.wrap (a - b)))
   | .mul=>some (.int k (k.wrap (a*b)))
   | .quo=>if b=0 then none else some (.int k (k.wrap (a.tdiv b)))
   | .rem=>if b=0 then none else some (.int k (a.tmod b))
   | .eql=>some (.bool (a==b))
   | .neq=>some (.bool (a != b))
   | .lss=>some (.bool (decide (a<b)))
   | .leq=>some (.bool (decide (a<=b)))
   | .gtr=>some (.bool (decide (a>b)))
   | .geq=>some (.bool (decide (a≥b)))
   | .shl=>if b<0 then none else some (.int k (k.wrap (a*2 ^ min b.toNat k.bits)))
   | .shr=>if b<0 then none else some (.int k (a.fdiv (2 ^ min b.toNat k.bits)))
   | .and=>some (.int k (k.wrap (BitVec.ofInt k.bits a&&& BitVec.ofInt k.bits b).toNat))
   | .or=>some (.int k (k.wrap (BitVec.ofInt k.bits a|||BitVec.ofInt k.bits b).toNat))
   | .andNot=>some (.int k (k.wrap (BitVec.ofInt k.bits a&&& ~~~(BitVec.ofInt k.bits b)).toNat))
   | .xor=>some (.int k (k.wrap (BitVec.ofInt k.bits a ^^^ BitVec.ofInt k.bits b).toNat))
  else none
 |_,_=>none
theorem jz {P:Program}{s:Sem Value}{Q:Next->af->Prop}{F:af}:bu P (do pure (Next.value (<-s)):Sem Next) Q F=bu P s (fun v G=>Q (.value v) G) F:=by
 simp only[bH,bT]
theorem wo {P:Program}(op:BinOp)(t:TypeId)(x y:Operand)(k c:IntKind)(a b:Int){Q:Unit->af->Prop}{F:af}(h:Q () F):bu P (eqGuard op t x y (.int k a) (.int c b)) Q F:=by
 unfold eqGuard;cases op<;>simp<;>exact h
theorem Ft {P:Program}{op:BinOp}{t:TypeId}{x y:Operand}{u v w:Value}{Q:Value->af->Prop}{F:af}(h:oE op u v=some w)(c:Q w F):bu P (do eqGuard op t x y u v;binOp op t u v) Q F:=by
 unfold oE at h;split at h
 case h_2=>cases h
 rename_i k a e b;split at h
 case isFalse=>cases h
 rename_i d;subst d;rw[bH];refine wo op t x y k k a b ?_;cases op<;>simp only[binOp,ne_eq,not_true_eq_false,if_false,Op.intArith,Op.intDiv,Op.intCmp,Op.intBits,Op.shift,dO] at h ⊢<;>first
  |(cases h;done)
  |(cases h;exact c)
  |(split at h
    .cases h
    .rename_i hb;rw[if_neg hb];cases h;exact c)
def mZ (op:UnOp):Value->Option Value
 | .int k a=>match op with
  | .neg=>some (.int k (k.wrap (0 - a)))
  |_=>none
 | .bool b=>match op with
  | .not=>some (.bool (!b))
  |_=>none
 |_=>none
theorem Fu {P:Program}{op:UnOp}{u w:Value}{Q:Value->af->Prop}{F:af}(h:mZ op u=some w)(a:Q w F):bu P (Op.unary op u) Q F:=by
 cases u<;>cases op<;>simp only[mZ] at h<;>first|(cases h;done)|(cases h;exact a)
def sW:Value->Value->Option Value
 | .int k x,.int _ y=>some (.int k (if y>x then y else x))
 |_,_=>none
def sX:Value->Value->Option Value
 | .int k x,.int _ y=>some (.int k (if y<x then y else x))
 |_,_=>none
def qy (P:Program)(t:TypeId):Value->Value->Option Value
 | .slice (some ad) len _,.int _ i=>match dD P t with
  |some e=>match cj P e with
   |some n=>if 0<=i/\i<(len:Int) then some (.pointer (some (ad.add (i.toNat*n)))) else none
   |none=>none
  |none=>none
 | .pointer (some ad),.int _ i=>match lX P t with
  |some (len,e)=>match cj P e with
   |some n=>if 0<=i/\i<(len:Int) then some (.pointer (some (ad.add (i.toNat*n)))) else none
   |none=>none
  |none=>none
 |_,_=>none
theorem Fv {P:Program}{t:TypeId}{u v w:Value}{Q:Value->af->Prop}{F:af}(h:qy P t u v=some w)(c:Q w F):bu P (Instr.indexAt t u v) Q F:=by
 unfold qy at h;split at h
 .rename_i ad len cap k i;split at h
  case h_2=>cases h
  rename_i e he;split at h
  case h_2=>cases h
  rename_i n a;split at h
  case isFalse=>cases h
  rename_i hi;cases h;have hu:P.underlying t=some (.slice e):=by
   unfold dD at he;split at he
   .rename_i d b;cases he;exact b
   .cases he
  simp only[Instr.indexAt,bH,lW,dP,hu,bT,dO,if_pos hi,eY,a];exact c
 .rename_i ad k i;split at h
  case h_2=>cases h
  rename_i len e he;split at h
  case h_2=>cases h
  rename_i n a;split at h
  case isFalse=>cases h
  rename_i hi;cases h;have hu:P.underlying t=some (.array len e):=by
   unfold lX at he;split at he
   .rename_i f d b;cases he;exact b
   .cases he
  simp only[Instr.indexAt,bH,lW,dP,hu,bT,qx,dO,if_pos hi,eY,a];exact c
 .cases h
def m0 (P:Program)(t:TypeId)(x:Value)(lo hi:Option Value):Option Value:=
 match x,dD P t with
 | .slice ad len cap,some e=>match cj P e with
  |some n=>
   match (match lo with|none=>some 0|some (.int _ i)=>if 0<=i then some i.toNat else none|_=>none),(match hi with|none=>some len|some (.int _ i)=>if 0<=i then some i.toNat else none|_=>none) with
   |some l,some h=>if l<=h/\h<=cap then some (.slice (if cap=l then ad else ad.map (·.add (l*n))) (h - l) (cap - l)) else none
   |_,_=>none
  |none=>none
 | .pointer (some ad),none=>match lX P t,lo,hi with
  |some (n,e),none,none=>match cj P e with
   |some _=>some (.slice (some ad) n n)
   |none=>none
  |_,_,_=>none
 |_,_=>none
theorem Fw {P:Program}{t:TypeId}{x w:Value}{lo hi:Option Value}{Q:Value->af->Prop}{F:af}(hlen:∀ad len cap,x= .slice ad len cap->len<=cap)(h:m0 P t x lo hi=some w)(c:Q w F):bu P (Instr.sliceAt t x lo hi none) Q F:=by
 unfold m0 at h;split at h
 case h_3=>cases h
 case h_2=>
  rename_i ad _;split at h
  case h_2=>cases h
  rename_i n e he;have hu:P.underlying t=some (.array n e):=by
   unfold lX at he;split at he
   .rename_i r m f;cases he;exact f
   .cases he
  split at h
  case h_2=>cases h
  rename_i sz hs;cases h;simp only[Instr.sliceAt,bH,dP,hu,qx,Instr.sliceBounds,bT,eY,hs,Nat.zero_mul,Nat.sub_zero];have:(if n=0 then ad else ad.add 0)=ad:=by split<;>rfl
  rw[this];exact c
 rename_i ad len cap e he;have s:=hlen ad len cap rfl;have hu:P.underlying t=some (.slice e):=by
  unfold dD at he;split at he
  .rename_i m f;cases he;exact f
  .cases he
 split at h
 case h_2=>cases h
 rename_i n d;split at h
 case h_2=>cases h
 rename_i l u a b;split at h
 case isFalse=>cases h
 rename_i hb;cases h;simp only[Instr.sliceAt,bH,dP,hu,Instr.slice,Instr.sliceBounds,bT];cases hi with
 |none=>
  simp only[Option.some.injEq] at b;subst b;simp only[bT];cases lo with
  |none=>
   simp only[Option.some.injEq] at a;subst a;simp only[bT,eY,d];exact c
  |some v=>
   cases v<;>simp only[reduceCtorEq] at a;rename_i k i;split at a
   case isFalse=>cases a
   rename_i g;cases a;have:0<=i/\i<=(len:Int):=⟨g,aa⟩
   simp only[Instr.sliceBound,bH,lW,dO,if_pos this,bT,eY,d];exact c
 |some v=>
  cases v<;>simp only[reduceCtorEq] at b;rename_i k i;split at b
  case isFalse=>cases b
  rename_i g;cases b;have o:0<=i/\i<=(cap:Int):=⟨g,aa⟩
  simp only[Instr.sliceBound,bH,lW,dO,if_pos o,bT];cases lo with
  |none=>
   simp only[Option.some.injEq] at a;subst a;simp only[bT,eY,d];exact c
  |some v=>
   cases v<;>simp only[reduceCtorEq] at a;rename_i y j;split at a
   case isFalse=>cases a
   rename_i p;cases a;have q:0<=j/\j<=((i.toNat:Nat):Int):=⟨p,aa⟩
   simp only[bH,lW,dO,if_pos q,bT,eY,d];exact c
def hH:List Value->List Value->Option Bool
 |[],[]=>some true
 | .int k a::xs,.int c b::ys=>if k=c then match hH xs ys with
   |some r=>some (a==b&&r)
   |none=>none
  else none
 | .bool a::xs,.bool b::ys=>match hH xs ys with
   |some r=>some (a==b&&r)
   |none=>none
 |_,_=>none
theorem sY:∀{xs ys:List Value} {us vs:List Value} {r:Bool},xs.length=ys.length->hH (xs++us) (ys++vs)=some r->∃r1 r2,hH xs ys=some r1/\hH us vs=some r2/\r=(r1&&r2)
 |[],[],us,vs,r,_,h=>⟨true,r,rfl,h,au⟩
 |[],y::ys,_,_,_,a,_=>by simp at a
 |x::xs,[],_,_,_,a,_=>by simp at a
 |x::xs,y::ys,us,vs,r,a,h=>by
  have e:xs.length=ys.length:=by simpa using a
  cases x<;>cases y<;>simp only[List.cons_append,hH,reduceCtorEq] at h ⊢
  .split at h
   .rename_i f b
    obtain ⟨r1,r2,c,d,rfl⟩:=sY e b
    cases h
    exact ⟨_,r2,by rw[c],d,by rw[Bool.and_assoc]⟩
   .cases h
  .split at h
   .rename_i g
    split at h
    .rename_i f b
     obtain ⟨r1,r2,c,d,rfl⟩:=sY e b
     cases h
     exact ⟨_,r2,by rw[if_pos g,c],d,by rw[Bool.and_assoc]⟩
    .cases h
   .cases h
def Kd:List Bool->List Value->Prop
 |[],[]=>True
 |true::ks,.int _ _::xs=>Kd ks xs
 |false::ks,.bool _::xs=>Kd ks xs
 |_,_=>False
theorem Kd.length:∀{ks:List Bool} {xs:List Value},Kd ks xs->xs.length=ks.length
 |[],[],_=>rfl
 |[],x::xs,h=>by simp[Kd] at h
 |k::ks,[],h=>by cases k<;>simp[Kd] at h
 |k::ks,x::xs,h=>by
  have:Kd ks xs:=by cases k<;>cases x<;>simp only[Kd] at h<;>exact h
  simp[Kd.length this]
theorem Kd.split:∀{ks:List Bool} {ls:List Bool} {xs:List Value},Kd (ks++ls) xs->Kd ks (xs.take ks.length)/\Kd ls (xs.drop ks.length)
 |[],_,_,h=>⟨by simp[Kd],by simpa using h⟩
 |k::ks,ls,[],h=>by cases k<;>simp[Kd] at h
 |k::ks,ls,x::xs,h=>by
  cases k<;>cases x<;>simp only[List.cons_append,Kd] at h
  all_goals
   obtain ⟨a,b⟩:=Kd.split h
   exact ⟨by simpa [Kd] using a,by simpa using b⟩
def qz (P:Program)(g:TypeId->Option (List Bool)):List Field->Nat->Option (List Bool)
 |[],_=>some []
 |f::fs,off=>if f.name≠ "_"/\f.offset=off then match g f.type with
   |some ks=>if cj P f.type=some ks.length then match qz P g fs (off+ks.length) with
     |some ls=>some (ks++ls)
     |none=>none
    else none
   |none=>none
  else none
def kS (P:Program):Nat->TypeId->Option (List Bool)
 |0,_=>none
 |d+1,t=>match P.underlying t with
  |some .bool=>if cM P t=some false then some [false] else none
  |some (.int _)=>if cM P t=some false then some [true] else none
  |some (.struct fs)=>if cM P t=some true/\P.stoodInHeld t=false then qz P (kS P d) fs.toList 0 else none
  |some (.array n e)=>if cM P t=some true then match kS P d e with
    |some ks=>if cj P e=some ks.length then some (List.replicate n ks).flatten else none
    |none=>none
   else none
  |_=>none
def Sc (v:Value):Prop:=(∃k a,v= .int k a)\/∃b,v= .bool b
theorem Kd.sc:∀{ks:List Bool} {xs:List Value},Kd ks xs->∀x∈xs,Sc x
 |[],[],_=>by simp
 |[],x::xs,h=>by simp[Kd] at h
 |k::ks,[],h=>by simp
 |k::ks,x::xs,h=>by
  have:Sc x/\Kd ks xs:=by cases k<;>cases x<;>simp only[Kd] at h<;>first|exact ⟨.inl ⟨_,_,rfl⟩,h⟩|exact ⟨.inr ⟨_,rfl⟩,h⟩
  simpa using ⟨this.1,Kd.sc this.2⟩
theorem Sc.cells {v:Value}(h:Sc v):v.cells=#[v]:=by
 rcases h with ⟨k,a,rfl⟩|⟨b,rfl⟩<;>rfl
def Shape (P:Program)(t:TypeId)(v:Value):Prop:=(cM P t=some true->∃xs,v= .agg xs)/\(cM P t=some false->Sc v)
section
variable {P:Program}
theorem sZ {t:TypeId}{xs:Array Value}{off m:Nat}{g:Bool}{Q:Value->af->Prop}{F:af}(hg:cM P t=some g)(hs:cj P t=some m)(hm:g=false->m=1)(e:off+m<=xs.size)
  (d:∀x∈xs.toList,Sc x) (h:∀v,v.cells.toList=(xs.toList.drop off).take m->Shape P t v->Q v F):bu P (part t xs off) Q F:=by
 simp only[part,bH,mX,hg,dO]
 cases g with
 |true=>
  simp only[if_true,bH,eY,hs,bT]
  refine h _ ?_ ⟨fun _=>⟨_,rfl⟩,fun a=>by rw[hg] at a;cases a⟩
  simp only[Value.cells,Array.toList_extract,List.extract_eq_take_drop]
  congr 1;omega
 |false=>
  have:=hm rfl
  subst this
  have b:off<xs.size:=aa
  simp only[Bool.false_eq_true,if_false,Array.getElem?_eq_getElem b,bT]
  have c:=d xs[off] au
  refine h _ ?_ ⟨fun a=>(by rw[hg] at a;cases a),fun _=>c⟩
  rw[c.cells]
  have:off<xs.toList.length:=by simpa using b
  rw[List.drop_eq_getElem_cons this]
  simp
def wq (P:Program)(d:Nat)(t:TypeId)(ks:List Bool):Prop:=
 ∀(u v:Value) (r:Bool) (Q:Bool->af->Prop) (F:af),Shape P t u->Shape P t v->Kd ks u.cells.toList->Kd ks v.cells.toList->hH u.cells.toList v.cells.toList=some r->Q r F->bu P (Op.equalIn d t u v) Q F
theorem AO {d t:Nat}{ks:List Bool}(h:kS P d t=some ks):∃g,cM P t=some g/\(g=false->ks.length=1):=by
 cases d with
 |zero=>cases h
 |succ d=>
  unfold kS at h;split at h
  .split at h
   .rename_i hg;cases h;exact ⟨_,hg,fun _=>rfl⟩
   .cases h
  .split at h
   .rename_i hg;cases h;exact ⟨_,hg,fun _=>rfl⟩
   .cases h
  .split at h
   .rename_i hg;exact ⟨true,hg.1,fun x=>by cases x⟩
   .cases h
  .split at h
   .rename_i hg;exact ⟨true,hg,fun x=>by cases x⟩
   .cases h
  .cases h
theorem AP {d:Nat}(ih:∀t ks,kS P d t=some ks->wq P d t ks){xs ys:Array Value}{Q:Bool->af->Prop}{F:af}(m:∀x∈xs.toList,Sc x)(n:∀x∈ys.toList,Sc x):
  ∀(fs:List Field) (off:Nat) (ks:List Bool) (r:Bool),qz P (kS P d) fs off=some ks->Kd ks (xs.toList.drop off)->Kd ks (ys.toList.drop off)->hH (xs.toList.drop off) (ys.toList.drop off)=some r->off<=xs.size->off<=ys.size->Q r F->
  bu P (do
   let x<-forIn fs ((none,()):Option Bool×Unit) fun f _=>do
    if f.name≠ "_" then
     if (!(<-Op.equalIn d f.type (<-part f.type xs f.offset) (<-part f.type ys f.offset)))=true then pure (ForInStep.done (some false,())) else pure (ForInStep.yield (none,()))
    else pure (ForInStep.yield (none,()))
   match x.fst with
    |some a=>pure a
    |none=>pure true:Sem Bool) Q F
 |[],off,ks,r,b,c,e,he,_,_,h=>by
  simp only[qz,Option.some.injEq] at b
  subst b
  have i:=c.length
  have j:=e.length
  rw[List.eq_nil_of_length_eq_zero i,List.eq_nil_of_length_eq_zero j] at he
  cases he
  simp only[List.forIn_nil,bH,bT]
  exact h
 |f::fs,off,ks,r,b,c,e,he,E,G,h=>by
  unfold qz at b
  split at b
  case isFalse=>cases b
  rename_i l
  obtain ⟨l,rfl⟩:=l
  split at b
  case h_2=>cases b
  rename_i k o
  split at b
  case isFalse=>cases b
  rename_i hs
  split at b
  case h_2=>cases b
  rename_i ls y
  cases b
  obtain ⟨g,hg,p⟩:=AO o
  have z:=c.length
  have A:=e.length
  simp only[List.length_drop,Array.length_toList,List.length_append] at z A
  obtain ⟨B,q⟩:=c.split
  obtain ⟨C,s⟩:=e.split
  rw[List.drop_drop] at q s
  have e1:xs.toList.drop f.offset=(xs.toList.drop f.offset).take k.length++xs.toList.drop (f.offset+k.length):=by
   rw[<-List.drop_drop,List.take_append_drop]
  have e2:ys.toList.drop f.offset=(ys.toList.drop f.offset).take k.length++ys.toList.drop (f.offset+k.length):=by
   rw[<-List.drop_drop,List.take_append_drop]
  rw[e1,e2] at he
  obtain ⟨r1,r2,i,j,rfl⟩:=sY (by simp;omega) he
  simp only[List.forIn_cons,bH,if_pos l]
  refine sZ hg hs p aa m fun u hu D=>?_
  refine sZ hg hs p aa n fun v w sv=>?_
  refine ih _ _ o u v r1 _ F D sv (by rw[hu];exact B) (by rw[w];exact C) (by rw[hu,w];exact i) ?_
  cases r1 with
  |false=>simpa [bT,dO] using h
  |true=>
   have:=AP ih m n fs (f.offset+k.length) ls r2 y q s j aa aa (Q:=Q) (F:=F) (by simpa using h)
   simpa [bT,dO,bH] using this
theorem AQ {d e k:Nat}{ks:List Bool}{g:Bool}(t:wq P d e ks)(h:ks.length=k)(hg:cM P e=some g)(j:g=false->ks.length=1)(hs:cj P e=some ks.length){xs ys:Array Value}{Q:Bool->af->Prop}{F:af}(w:∀x∈xs.toList,Sc x)(y:∀x∈ys.toList,Sc x):
  ∀(n i:Nat) (r:Bool),Kd (List.replicate n ks).flatten (xs.toList.drop (i*k))->Kd (List.replicate n ks).flatten (ys.toList.drop (i*k))->hH (xs.toList.drop (i*k)) (ys.toList.drop (i*k))=some r->i*k<=xs.size->i*k<=ys.size->Q r F->
  bu P (do
   let x<-forIn (List.range' i n) ((none,()):Option Bool×Unit) fun i _=>do
    if (!(<-Op.equalIn d e (<-part e xs (i*k)) (<-part e ys (i*k))))=true then pure (ForInStep.done (some false,())) else pure (ForInStep.yield (none,()))
   match x.fst with
    |some a=>pure a
    |none=>pure true:Sem Bool) Q F
 |0,i,r,b,c,he,_,_,f=>by
  have l:=b.length
  have m:=c.length
  rw[List.eq_nil_of_length_eq_zero l,List.eq_nil_of_length_eq_zero m] at he
  cases he
  simp only[List.range'_zero,List.forIn_nil,bH,bT]
  exact f
 |n+1,i,r,b,c,he,E,G,f=>by
  have o:(i+1)*k=i*k+k:=by simp only[Nat.add_mul,Nat.one_mul]
  have B:=b.length
  have C:=c.length
  simp only[List.replicate_succ,List.flatten_cons,List.length_drop,Array.length_toList,List.length_append] at B C
  simp only[List.replicate_succ,List.flatten_cons] at b c
  obtain ⟨z,p⟩:=b.split
  obtain ⟨A,q⟩:=c.split
  rw[h] at z p A q
  rw[List.drop_drop,<-o] at p q
  have e1:xs.toList.drop (i*k)=(xs.toList.drop (i*k)).take k++xs.toList.drop ((i+1)*k):=by
   rw[o,<-List.drop_drop,List.take_append_drop]
  have e2:ys.toList.drop (i*k)=(ys.toList.drop (i*k)).take k++ys.toList.drop ((i+1)*k):=by
   rw[o,<-List.drop_drop,List.take_append_drop]
  rw[e1,e2] at he
  obtain ⟨r1,r2,l,m,rfl⟩:=sY (by simp;omega) he
  simp only[List.range'_succ,List.forIn_cons,bH]
  refine sZ hg hs j aa w fun u hu D=>?_
  refine sZ hg hs j aa y fun v s sv=>?_
  rw[h] at hu s
  refine t u v r1 _ F D sv (by rw[hu];exact z) (by rw[s];exact A) (by rw[hu,s];exact l) ?_
  cases r1 with
  |false=>simpa [bT,dO] using f
  |true=>
   have:=AQ t h hg j hs w y n (i+1) r2 p q m aa aa (Q:=Q) (F:=F) (by simpa using f)
   simpa [bT,dO,bH] using this
theorem wu:∀(d t:Nat) (ks:List Bool),kS P d t=some ks->wq P d t ks
 |0,_,_,h=>by cases h
 |d+1,t,ks,h=>by
  intro u v r Q F i sv hu c he j
  unfold kS at h
  split at h
  .rename_i f
   split at h
   case isFalse=>cases h
   rename_i hg
   cases h
   have a1:=i.2 hg
   have a2:=sv.2 hg
   rw[a1.cells] at he hu
   rw[a2.cells] at he c
   simp only[Op.equalIn,bH,dP,f]
   rcases a1 with ⟨k,a,rfl⟩|⟨a,rfl⟩<;>rcases a2 with ⟨m,b,rfl⟩|⟨b,rfl⟩<;>simp[Kd] at hu c
   simp[hH] at he
   subst he
   simpa [bT] using j
  .rename_i f
   split at h
   case isFalse=>cases h
   rename_i hg
   cases h
   have a1:=i.2 hg
   have a2:=sv.2 hg
   rw[a1.cells] at he hu
   rw[a2.cells] at he c
   simp only[Op.equalIn,bH,dP,f]
   rcases a1 with ⟨k,a,rfl⟩|⟨a,rfl⟩<;>rcases a2 with ⟨m,b,rfl⟩|⟨b,rfl⟩<;>simp[Kd] at hu c
   simp[hH] at he
   obtain ⟨l,rfl⟩:=he
   simpa [bT,dO,l] using j
  .rename_i fs f
   split at h
   case isFalse=>cases h
   rename_i hg
   obtain ⟨hg,o⟩:=hg
   obtain ⟨xs,rfl⟩:=i.1 hg
   obtain ⟨ys,rfl⟩:=sv.1 hg
   simp only[Op.equalIn,bH,dP,f,kR,o,Bool.false_eq_true,if_false,dO,bT]
   have:=AP (P:=P) (d:=d) (fun t ks p=>wu d t ks p) (xs:=xs) (ys:=ys) (Q:=Q) (F:=F) hu.sc c.sc fs.toList 0 ks r h (by simpa [Value.cells] using hu) (by simpa [Value.cells] using c) (by simpa [Value.cells] using he) aa aa j
   rw[<-Array.forIn_toList]
   simp[bH] at this ⊢
   exact iC (fun a G h=>by rcases a with ⟨_|_,_⟩<;>exact h) _ _ this
  .rename_i n e f
   split at h
   case isFalse=>cases h
   rename_i hg
   split at h
   case h_2=>cases h
   rename_i k l
   split at h
   case isFalse=>cases h
   rename_i hs
   cases h
   obtain ⟨xs,rfl⟩:=i.1 hg
   obtain ⟨ys,rfl⟩:=sv.1 hg
   obtain ⟨g,q,s⟩:=AO l
   simp only[Op.equalIn,bH,dP,f,eY,hs]
   have:=AQ (P:=P) (d:=d) (wu d e k l) rfl q s hs (xs:=xs) (ys:=ys) (Q:=Q) (F:=F) hu.sc c.sc n 0 r (by simpa [Value.cells] using hu) (by simpa [Value.cells] using c) (by simpa [Value.cells] using he) au au j
   simp only[Std.Legacy.Range.forIn_eq_forIn_range',Std.Legacy.Range.size,Nat.sub_zero,Nat.add_one_sub_one,Nat.div_one]
   simp[bH] at this ⊢
   exact iC (fun a G h=>by rcases a with ⟨_|_,_⟩<;>exact h) _ _ this
  .cases h
def jA:List Bool->List Value->Bool
 |[],[]=>true
 |true::ks,.int _ _::xs=>jA ks xs
 |false::ks,.bool _::xs=>jA ks xs
 |_,_=>false
theorem wv:∀{ks:List Bool} {xs:List Value},jA ks xs=true->Kd ks xs
 |[],[],_=>trivial
 |[],x::xs,h=>by simp[jA] at h
 |k::ks,[],h=>by cases k<;>simp[jA] at h
 |k::ks,x::xs,h=>by
  cases k<;>cases x<;>first
   |(simp only[jA,reduceCtorEq,Bool.false_eq_true] at h;done)
   |exact wv (ks:=ks) (xs:=xs) (by simpa only[jA] using h)
def m3 (P:Program)(t:TypeId):Option (List Bool):=if P.eqGuardType P.depth t=false/\cM P t=some true then kS P Op.maxDepth t else none
def m4 (P:Program)(t:TypeId):Value->Value->Option Bool
 | .agg xs,.agg ys=>match m3 P t with
  |some ks=>if jA ks xs.toList&&jA ks ys.toList then hH xs.toList ys.toList else none
  |none=>none
 |_,_=>none
theorem wz {t:TypeId}{u v:Value}{r:Bool}{Q:Bool->af->Prop}{F:af}(h:m4 P t u v=some r)(c:Q r F):bu P (Op.equal t u v) Q F/\P.eqGuardType P.depth t=false/\(∃xs,u= .agg xs)/\∃ys,v= .agg ys:=by
 unfold m4 at h;split at h
 case h_2=>cases h
 rename_i xs ys;split at h
 case h_2=>cases h
 rename_i ks a;split at h
 case isFalse=>cases h
 rename_i b;simp only[Bool.and_eq_true] at b;unfold m3 at a;split at a
 case isFalse=>cases a
 rename_i hg;refine ⟨?_,hg.1,⟨_,rfl⟩,_,rfl⟩;exact wu _ _ _ a _ _ r Q F ⟨fun _=>⟨_,rfl⟩,fun x=>by rw[hg.2] at x;cases x⟩ ⟨fun _=>⟨_,rfl⟩,fun x=>by rw[hg.2] at x;cases x⟩ (wv b.1) (wv b.2) h c
def wA (P:Program)(t:TypeId):Bool:=match P.underlying t with|some .bool=>true|_=>false
def kT (P:Program)(t:TypeId):Bool:=match P.underlying t with|some (.slice _)=>true|_=>false
def qA (P:Program)(t:TypeId):Value->Value->Option Bool
 | .bool a,.bool b=>if wA P t=true then some (a==b) else none
 | .slice none _ _,.slice b _ _=>if kT P t=true then some b.isNone else none
 | .slice (some _) _ _,.slice none _ _=>if kT P t=true then some false else none
 |_,_=>none
theorem AR {t:TypeId}{u v:Value}{r:Bool}{Q:Bool->af->Prop}{F:af}(h:qA P t u v=some r)(e:Q r F):bu P (Op.equal t u v) Q F/\((∃a b,u= .bool a/\v= .bool b)\/∃a n c b m d,u= .slice a n c/\v= .slice b m d):=by
 obtain ⟨d,hd⟩:∃d,Op.maxDepth=d+1:=⟨_,rfl⟩
 unfold qA at h;split at h
 .split at h
  .rename_i hb;cases h;unfold wA at hb;split at hb
   .rename_i hu;refine ⟨?_,.inl ⟨_,_,rfl,rfl⟩⟩;unfold Op.equal;rw[hd];simp only[Op.equalIn,bH,dP,hu,bT];exact e
   .cases hb
  .cases h
 .split at h
  .rename_i hb;cases h;unfold kT at hb;split at hb
   .rename_i hu;refine ⟨?_,.inr ⟨_,_,_,_,_,_,rfl,rfl⟩⟩;unfold Op.equal;rw[hd];simp only[Op.equalIn,bH,dP,hu,bT];exact e
   .cases hb
  .cases h
 .split at h
  .rename_i hb;cases h;unfold kT at hb;split at hb
   .rename_i hu;refine ⟨?_,.inr ⟨_,_,_,_,_,_,rfl,rfl⟩⟩;unfold Op.equal;rw[hd];simp only[Op.equalIn,bH,dP,hu,bT];exact e
   .cases hb
  .cases h
 .cases h
def qB (P:Program)(op:BinOp)(t:TypeId)(u v:Value):Option Value:=
 match oE op u v with
 |some w=>some w
 |none=>match op with
  | .eql=>match m4 P t u v with
   |some r=>some (.bool r)
   |none=>match qA P t u v with
    |some r=>some (.bool r)
    |none=>none
  | .neq=>match m4 P t u v with
   |some r=>some (.bool (!r))
   |none=>match qA P t u v with
    |some r=>some (.bool (!r))
    |none=>none
  | .shr=>match u,v with
   | .int k a,.int _ b=>if b<0 then none else some (.int k (a.fdiv (2 ^ min b.toNat k.bits)))
   |_,_=>none
  | .shl=>match u,v with
   | .int k a,.int _ b=>if b<0 then none else some (.int k (k.wrap (a*2 ^ min b.toNat k.bits)))
   |_,_=>none
  |_=>none
theorem Fx {op:BinOp}{t:TypeId}{x y:Operand}{u v w:Value}{Q:Value->af->Prop}{F:af}(h:qB P op t u v=some w)(e:Q w F):bu P (do eqGuard op t x y u v;binOp op t u v) Q F:=by
 unfold qB at h;split at h
 .rename_i w' hw;cases h;exact Ft hw e
 .split at h
  .split at h
   .rename_i r f;cases h;obtain ⟨g,i,⟨xs,rfl⟩,ys,rfl⟩:=wz (Q:=fun r G=>Q (.bool r) G) f e;simp only[bH,eqGuard,binOp,kR,i,dO,bT];simpa using g
   .split at h
    .rename_i r f;cases h;obtain ⟨g,i⟩:=AR (Q:=fun r G=>Q (.bool r) G) f e;rcases i with ⟨a,b,rfl,rfl⟩|⟨a,n,c,b,m,d,rfl,rfl⟩<;>
     .simp only[bH,eqGuard,binOp,kR,dO,bT];simpa using g
    .cases h
  .split at h
   .rename_i r f;cases h;obtain ⟨g,i,⟨xs,rfl⟩,ys,rfl⟩:=wz (Q:=fun r G=>Q (.bool (!r)) G) f e;simp only[bH,eqGuard,binOp,kR,i,dO,bT];simpa using g
   .split at h
    .rename_i r f;cases h;obtain ⟨g,i⟩:=AR (Q:=fun r G=>Q (.bool (!r)) G) f e;rcases i with ⟨a,b,rfl,rfl⟩|⟨a,n,c,b,m,d,rfl,rfl⟩<;>
     .simp only[bH,eqGuard,binOp,kR,dO,bT];simpa using g
    .cases h
  .split at h
   .split at h
    .cases h
    .rename_i hb;cases h;rw[bH];refine wo .shr t x y _ _ _ _ ?_;simp only[binOp,Op.shift,dO];rw[if_neg hb];exact e
   .cases h
  .split at h
   .split at h
    .cases h
    .rename_i hb;cases h;rw[bH];refine wo .shl t x y _ _ _ _ ?_;simp only[binOp,Op.shift,dO];rw[if_neg hb];exact e
   .cases h
  .cases h
end
theorem wB {P:Program}{t e:TypeId}(h:dD P t=some e):P.underlying t=some (.slice e):=by
 unfold dD at h;split at h
 .rename_i a he;cases h;exact he
 .cases h
theorem AS (n:Nat):∀(r c:Nat),Builtin.growBy n r c<=2 ^ r*(c+768)
 |0,c=>by simp[Builtin.growBy]
 |r+1,c=>by
  unfold Builtin.growBy
  split
  .have:1<=2 ^ (r+1):=Nat.one_le_two_pow
   have:=Nat.mul_le_mul_right (c+768) this
   omega
  .have h:=AS n r (c+(c+768)/4)
   refine Nat.le_trans h ?_
   rw[Nat.pow_succ,Nat.mul_assoc]
   refine Nat.mul_le_mul_left _ ?_
   omega
theorem nextslicecap_le {n c:Nat}(h:c<n)(b:n<=1000000):Builtin.nextslicecap n c<=20000000:=by
 unfold Builtin.nextslicecap;split
 .omega
 .split
  .omega
  .have a:=AS n 4 c;have e:(2:Nat) ^ 4=16:=aB;rw[e] at a;refine Nat.le_trans a ?_;omega
section
variable {P:Program}
theorem AT {Q:Array Value->af->Prop}{F:af}(a:Addr){n:Nat}{vs:List Value}(h:F.dJ a 0 n=some vs)(b:Q vs.toArray F):bu P (loadCells a n) Q F:=by
 obtain ⟨c,d⟩:=wm F a n 0 vs h;subst d;exact we a vs 0 #[] c (by simpa using b)
def gL (F:af)(size:Nat):Value->Option (List Value)
 | .slice (some a) n _=>F.dJ a 0 (n*size)
 | .slice none 0 _=>some []
 |_=>none
theorem wC {Q:Array Value->af->Prop}{F:af}{size n:Nat}{ad:Option Addr}{c:Nat}{vs:List Value}(h:gL F size (.slice ad n c)=some vs)(b:Q vs.toArray F):bu P (Builtin.firstCells size n (.slice ad n c)) Q F:=by
 cases ad with
 |none=>
  cases n with
  |zero=>simp only[gL,Option.some.injEq] at h;subst h;exact b
  |succ n=>simp[gL] at h
 |some a=>exact AT a h b
theorem wD {Q:Unit->af->Prop}{F:af}(n:Nat)(h:Q () F):bu P (askRoom n) Q F:=by
 unfold askRoom;rw[dO];split
 .exact ⟨rfl,h⟩
 .exact h
theorem wE {F:af}{Q:Value->af->Prop}{argTypes:Array TypeId}{ty i j e p:TypeId}{size d len cap n c:Nat}{base l:Option Addr}{z:Value}{old new:List Value}
  (q:argTypes[0]?=some i) (r:argTypes[1]?=some j) (he:dD P i=some e) (s:dD P j=some p) (hs:cj P e=some size) (u:zeroOf P e=some z) (hb:bytesOf P e=some d)
  (C:0<d) (v:d<=10000) (w:len+n<=1000000) (hold:gL F size (.slice base len cap)=some old) (m:gL F size (.slice l n c)=some new)
  (f:len+n<=cap->(∃a F',base=some a/\F.jy (a.add (len*size)) 0 new=some F'/\Q (.slice base (len+n) cap) F')\/(base=none/\Q (.slice base (len+n) cap) F))
  (x:cap<len+n->∀k b,len+n<=k->eB F b->Q (.slice (some ⟨b,0,none⟩) (len+n) k) (F.push b (.cells (old.toArray++new.toArray++Builtin.zeroCells z.cells (k - (len+n))) e))):
  bu P (Builtin.append_ argTypes ty #[.slice base len cap,.slice l n c]) Q F:=by
 have hu:=wB he
 have y:=wB s
 unfold bytesOf at hb
 obtain ⟨info,hi,rfl⟩:=Option.map_eq_some_iff.1 hb
 simp only[Builtin.append_,q,r,List.getElem?_toArray,List.getElem?_cons_zero,List.getElem?_cons_succ,bH,dP,hu,y,eY,hs,bT,Builtin.lenOf,Bool.false_eq_true,if_false,dO,Bool.not_false,if_true,qv,hi]
 split
 .rename_i hle
  have f:=f hle
  refine wC m ?_
  rcases f with ⟨a,F',rfl,A,g⟩|⟨rfl,g⟩
  .simp only[bH]
   refine qw _ _ 0 F F' (by simpa using A) ?_
   exact g
  .exact g
 .rename_i D
  have B:=nextslicecap_le (n:=len+n) (c:=cap) aa w
  have e1:¬(((len+n:Nat):Int)>IntKind.i64.max/\(false=true\/info.bytes=0)):=by
   rintro ⟨_,h|h⟩
   .cases h
   .omega
  have e2:¬(Builtin.nextslicecap (len+n) cap*info.bytes>2 ^ 48):=by
   have:Builtin.nextslicecap (len+n) cap*info.bytes<=20000000*10000:=Nat.mul_le_mul B v
   omega
  rw[if_neg (by simpa using e1),if_neg e2]
  rw[v9]
  rw[if_neg (by simp[Question.forced])]
  intro t
  have o:len+n<=(Question.appendCap (len+n) cap e).cut t:=Nat.le_add_right _ _
  generalize (Question.appendCap (len+n) cap e).cut t=k at o ⊢
  refine wD _ ?_
  refine wC hold ?_
  refine wC m ?_
  simp only[bH,mW,u,sU,bT]
  exact fun b hb=>x aa k b o hb
end
theorem wF:∀{pre:List (Nat×Obj)} {b:Nat} {o:Obj},av pre b->lk (pre++[(b,o)]) b=some o
 |[],b,o,_=>by simp[lk]
 |(c,x)::pre,b,o,h=>by
  have hc:¬c=b:=fun e=>h.1 e.symm
  simp[lk,hc,wF h.2]
def cZ (arr:Array Value)(k:Nat):List Value->Array Value
 |[]=>arr
 |v::vs=>cZ (arr.setIfInBounds k v) (k+1) vs
theorem s0:∀(vs:List Value) (arr:Array Value) (k:Nat),(cZ arr k vs).size=arr.size
 |[],_,_=>rfl
 |v::vs,arr,k=>by rw[cZ,s0 vs];simp
theorem s3:∀(vs:List Value) (arr:Array Value) (k:Nat),k+vs.length<=arr.size->(cZ arr k vs).toList=arr.toList.take k++vs++arr.toList.drop (k+vs.length)
 |[],arr,k,_=>by simp[cZ]
 |v::vs,arr,k,h=>by
  simp only[List.length_cons] at h
  rw[cZ,s3 vs _ _ (by simp;omega)]
  have a:k<arr.toList.length:=by simp;omega
  rw[Array.toList_setIfInBounds]
  have e1:(arr.toList.set k v).take (k+1)=arr.toList.take k++[v]:=by
   rw[List.take_succ_eq_append_getElem (by simpa using a),List.take_set_of_le (Nat.le_refl _)]
   simp
  have e2:(arr.toList.set k v).drop (k+1+vs.length)=arr.toList.drop (k+(v::vs).length):=by
   rw[List.drop_set_of_lt aa]
   congr 1
   simp;omega
  rw[e1,e2]
  simp
def Gr (ro:Addr->Option Value)(e:TypeId)(size:Nat)(v:Value)(l:List (List Value))(bx:List (Nat×Obj)):Prop:=
 (v= .slice none 0 0/\l=[]/\bx=[])\/
 ∃b arr cap,v= .slice (some ⟨b,0,none⟩) l.length cap/\bx=[(b,.cells arr e)]/\arr.size=cap*size/\l.length<=cap/\arr.toList.take (l.length*size)=l.flatten/\(∀x∈l,x.length=size)/\∀off sp,ro ⟨b,off,sp⟩=none
theorem iY {size:Nat}:∀{l:List (List Value)},(∀x∈l,x.length=size)->l.flatten.length=l.length*size
 |[],_=>by simp
 |x::l,h=>by
  have ih:l.flatten.length=l.length*size:=iY (fun y a=>h y (List.mem_cons_of_mem _ a))
  simp only[List.flatten_cons,List.length_append,List.length_cons,h x au,ih,Nat.add_mul,Nat.one_mul]
  omega
theorem AU {ro:Addr->Option Value}{pre:List (Nat×Obj)}{b:Nat}{e:TypeId}{arr:Array Value}(a:av pre b)(c:∀off sp,ro ⟨b,off,sp⟩=none):∀(n i:Nat),i+n<=arr.size->
  af.dJ ⟨ro,pre++[(b,.cells arr e)]⟩ ⟨b,0,none⟩ i n=some ((arr.toList.drop i).take n)
 |0,i,_=>by simp[af.dJ]
 |n+1,i,h=>by
  have f:(⟨b,0,none⟩:Addr).add i=⟨b,i,none⟩:=by
   unfold Addr.add
   split
   .rename_i hi;subst hi;rfl
   .simp
  have d:i<arr.size:=aa
  unfold af.dJ
  have ih:=AU (e:=e) (arr:=arr) a c n (i+1) aa
  simp only[af.get,f,c,if_true,wF a,Option.bind_some,cellOf,Array.getElem?_eq_getElem d,ih]
  have g:i<arr.toList.length:=by simpa using d
  rw[List.drop_eq_getElem_cons g,List.take_succ_cons]
  simp
theorem Gr.gL {ro:Addr->Option Value}{e:TypeId}{size:Nat}{v:Value}{l:List (List Value)}{bx pre:List (Nat×Obj)}(h:Gr ro e size v l bx)(a:∀k∈keys bx,av pre k):
  Go.Sep.gL ⟨ro,pre++bx⟩ size v=some l.flatten:=by
 rcases h with ⟨rfl,rfl,rfl⟩|⟨b,arr,cap,rfl,rfl,hs,c,ht,f,d⟩
 .rfl
 .simp only[Go.Sep.gL]
  have hle:l.length*size<=arr.size:=by rw[hs];exact Nat.mul_le_mul_right _ c
  rw[AU (a b (by simp[keys])) d _ _ aa]
  simp[ht]
def qC (P:Program)(t:TypeId)(parts:List (Nat×Value)):Option Value:=
 match zeroOf P t,placesOf P t with
 |some z,some pl=>match Instr.fill (fun i=>pl[i]?) z.cells parts with
  |some cs=>some (.agg cs)
  |none=>none
 |_,_=>none
theorem AV {P:Program}{Q:Array (Nat×Nat)->af->Prop}{F:af}:∀(fs:List Field) (pl:List (Nat×Nat)) (acc:Array (Nat×Nat)),(fs.mapM fun f=>(cj P f.type).map fun s=>(f.offset,s))=some pl->
  Q (acc++pl.toArray) F->bu P (fs.foldlM (fun (b:Array (Nat×Nat)) f=>do let s<-sizeOf f.type;pure (b.push (f.offset,s))) acc) Q F
 |[],pl,acc,h,a=>by
  simp at h;subst h
  simpa [bT] using a
 |f::fs,pl,acc,h,a=>by
  simp only[List.mapM_cons] at h
  cases hs:cj P f.type with
  |none=>simp[hs] at h
  |some s=>
   cases c:(fs.mapM fun f=>(cj P f.type).map fun s=>(f.offset,s)) with
   |none=>simp[hs,c] at h
   |some d=>
    simp[hs,c] at h
    subst h
    simp only[List.foldlM_cons,bH,eY,hs,bT]
    exact AV fs d _ c (by simpa using a)
theorem Fy {P:Program}{Q:Array (Nat×Nat)->af->Prop}{F:af}(fs:Array Field)(pl:List (Nat×Nat))(h:(fs.toList.mapM fun f=>(cj P f.type).map fun s=>(f.offset,s))=some pl)
  (a:Q pl.toArray F):bu P (fs.mapM fun f=>do let s<-sizeOf f.type;pure (f.offset,s)) Q F:=by
 rw[Array.mapM_eq_foldlM,<-Array.foldlM_toList]
 have:=AV (Q:=Q) (F:=F) fs.toList pl #[] h (by simpa using a)
 simpa using this
theorem Fz {P:Program}{t:TypeId}{parts:Array (Nat×Value)}{w:Value}{Q:Value->af->Prop}{F:af}(h:qC P t parts.toList=some w)(b:Q w F):bu P (Instr.build t parts) Q F:=by
 unfold qC at h;split at h
 case h_2=>cases h
 rename_i z pl c a;split at h
 case h_2=>cases h
 rename_i cs d;cases h;unfold placesOf at a;split at a
 case h_2=>cases a
 rename_i fs e;simp only[Instr.build,bH,mW,c,dP,e];refine Fy fs pl a ?_;simp only[List.getElem?_toArray,d,bT];exact b
def s4 (P:Program)(t:TypeId)(len:Nat)(parts:List (Nat×Value)):Option (TypeId×Array Value):=
 match dD P t with
 |some e=>match cj P e,zeroOf P e with
  |some size,some z=>if len*size<=2 ^ 24/\0<len*size then
    match Instr.fill (fun i=>some (i*size,size)) ((Array.range (len*size)).map (z.cells[· % z.cells.size]!)) parts with
    |some cs=>some (e,cs)
    |none=>none
   else if len*size=0/\parts.isEmpty=true then some (e,#[]) else none
  |_,_=>none
 |none=>none
theorem FA {P:Program}{t:TypeId}{len:Nat}{parts:Array (Nat×Value)}{e:TypeId}{cs:Array Value}{Q:Value->af->Prop}{F:af}(h:s4 P t len parts.toList=some (e,cs))
  (d:∀b,eB F b->Q (.slice (some ⟨b,0,none⟩) len len) (F.push b (.cells cs e))):bu P (Instr.buildSlice t len parts) Q F:=by
 unfold s4 at h
 split at h
 case h_2=>cases h
 rename_i f he
 split at h
 case h_2=>cases h
 rename_i size z hs g
 split at h
 case isFalse=>
  split at h
  case isFalse=>cases h
  rename_i hb
  cases h
  have hu:P.underlying t=some (.slice e):=by
   unfold dD at he
   split at he
   .rename_i f a;cases he;exact a
   .cases he
  have c:¬(len*size>2 ^ 24):=by rw[hb.1];decide
  have i:parts.toList=[]:=List.isEmpty_iff.1 hb.2
  simp only[Instr.buildSlice,bH,dP,hu,eY,hs,dO,if_neg c,if_pos hb.1,bT,i]
  rw[hb.1]
  have e0:Array.range 0=#[]:=rfl
  simp only[e0,Array.map_empty,Instr.fill,bH,sU,bT]
  exact d
 rename_i hb
 split at h
 case h_2=>cases h
 rename_i cs' j
 cases h
 have hu:P.underlying t=some (.slice e):=by
  unfold dD at he
  split at he
  .rename_i f a;cases he;exact a
  .cases he
 have c:¬(len*size>2 ^ 24):=aa
 have k:¬(len*size=0):=aa
 simp only[Instr.buildSlice,bH,dP,hu,eY,hs,dO,if_neg c,if_neg k,mW,g,bT,j,sU]
 exact d
def qD (P:Program)(t:TypeId)(n:Nat):Value->Option Value
 | .agg cs=>match wj P t n with
  |some (off,s,true)=>some (.agg (cs.extract off (off+s)))
  |some (off,_,false)=>cs[off]?
  |none=>none
 |_=>none
theorem FB {P:Program}{t:TypeId}{n:Nat}{u w:Value}{Q:Value->af->Prop}{F:af}(h:qD P t n u=some w)(b:Q w F):bu P (Instr.field t u n) Q F:=by
 cases u<;>simp only[qD,reduceCtorEq] at h;rename_i cs;unfold wj at h;cases hu:P.underlying t with
 |none=>simp[hu] at h
 |some d=>
  cases d<;>simp only[hu,reduceCtorEq] at h;rename_i fs;cases a:fs[n]? with
  |none=>simp[a] at h
  |some f=>
   simp only[a] at h;cases hs:cj P f.type with
   |none=>simp[hs] at h
   |some s=>
    cases hg:cM P f.type with
    |none=>simp[hs,hg] at h
    |some g=>
     simp only[hs,hg] at h;simp only[Instr.field,bH,dP,hu,a,Fp,part,mX,hg,dO];cases g with
     |true=>simp only[Option.some.injEq] at h;subst h;simpa [eY,hs,bT] using b
     |false=>
      simp only at h;simp only[Bool.false_eq_true,if_false,h];exact b
def s5 (n:Nat):Value->Option Value
 | .tuple vs=>vs[n]?
 |_=>none
def m5 (P:Program)(src dst:TypeId):Value->Option Value
 | .int _ n=>match P.underlying src,P.underlying dst with
  |some (.int _),some (.int k)=>some (.int k (k.wrap n))
  |_,_=>none
 |_=>none
theorem FC {P:Program}{src dst:TypeId}{u w:Value}{Q:Value->af->Prop}{F:af}(h:m5 P src dst u=some w)(a:Q w F):bu P (convert src dst u) Q F:=by
 cases u<;>simp only[m5,reduceCtorEq] at h;rename_i k n;split at h
 .rename_i k1 d b c;cases h;simp only[convert,bH,dP,b,c,Conv.intToInt,bT];exact a
 .cases h
def s6 (P:Program)(t:TypeId):Value->Option Value
 | .slice _ n _=>match dD P t with
  |some _=>some (.int .i64 n)
  |none=>none
 |_=>none
def qE (P:Program)(t:TypeId):Value->Value->Option Value
 | .agg cs,.int _ i=>match lX P t with
  |some (len,e)=>match cj P e,cM P e with
   |some s,some true=>if 0<=i/\i<(len:Int) then some (.agg (cs.extract (i.toNat*s) (i.toNat*s+s))) else none
   |some s,some false=>if 0<=i/\i<(len:Int) then cs[i.toNat*s]? else none
   |_,_=>none
  |none=>none
 | .string s,.int _ i=>match P.underlying t with
  |some .string=>if 0<=i then (s[i.toNat]?).map fun b=>.int .u8 b.toNat else none
  |_=>none
 |_,_=>none
theorem FD {P:Program}{t:TypeId}{u v w:Value}{Q:Value->af->Prop}{F:af}(h:qE P t u v=some w)(a:Q w F):bu P (Instr.index t u v) Q F:=by
 unfold qE at h;split at h
 case h_3=>cases h
 case h_2=>
  rename_i s k i;split at h
  case h_2=>cases h
  rename_i hu;split at h
  case isFalse=>cases h
  rename_i hi;obtain ⟨b,hb,rfl⟩:=Option.map_eq_some_iff.1 h;simp only[Instr.index,bH,lW,dP,hu,if_pos hi,hb,bT];exact a
 rename_i cs k i;split at h
 case h_2=>cases h
 rename_i len e he;have hu:P.underlying t=some (.array len e):=by
  unfold lX at he;split at he
  .rename_i d f c;cases he;exact c
  .cases he
 split at h
 .rename_i s hs hg;split at h
  case isFalse=>cases h
  rename_i hi;cases h;simp only[Instr.index,bH,lW,dP,hu,dO,if_pos hi,eY,hs,part,mX,hg,if_true,bT];exact a
 .rename_i s hs hg;split at h
  case isFalse=>cases h
  rename_i hi;simp only[Instr.index,bH,lW,dP,hu,dO,if_pos hi,eY,hs,part,mX,hg,Bool.false_eq_true,if_false,h,bT];exact a
 .cases h
def m6 (P:Program)(argTypes:Array TypeId)(s x:Value)(R:Value->af->Prop)(F:af):Prop:=
 ∀ty,bu P (Builtin.append_ argTypes ty #[s,x]) (fun v F=>∃F0,Le F0 F/\R v F0) F
def Oper.oF (o:Oper):Bool:=match o.op with| .call {callee:=.builtin .append, ..}=>true|_=>false
def hO (P:Program)(J:Goroutine->af->Prop)(y:Value)(args:Array Value)(F:af)(R:Value->af->Prop):Prop:=
 match y with
 | .func (.func fn) first captured=>aR P fn=true/\dn P J fn (first++args++captured) F R
 | .func (.yield l) first captured=>first=#[]/\captured=#[]/\∃r,F.fL l=some (.loop r)/\args.size=r.params.size/\j0 J l r.fn ((r.params.zip args).foldl (fun tmps (t,a)=>tmps.setIfInBounds t a) r.tmps) r.assign r.body F R
 |_=>False
theorem hO.mono {P:Program}{J:Goroutine->af->Prop}{y:Value}{args:Array Value}{F:af}{R a:Value->af->Prop}(h:hO P J y args F R)(b:∀v F',R v F'->a v F'):hO P J y args F a:=by
 unfold hO at h ⊢;split at h
 .exact ⟨h.1,h.2.mono b⟩
 .obtain ⟨e1,e2,r,c,d,e⟩:=h;exact ⟨e1,e2,r,c,d,e.mono b⟩
 .exact h.elim
theorem FE {P:Program}{J:Goroutine->af->Prop}{fn:FuncId}{first captured args:Array Value}{F:af}{R:Value->af->Prop}:hO P J (.func (.func fn) first captured) args F R=(aR P fn=true/\dn P J fn (first++args++captured) F R):=rfl
def e7 (P:Program)(m:Sem Value)(R:Value->af->Prop)(F:af):Prop:=bu P m R F
def c7 (P:Program)(J:Goroutine->af->Prop)(o:Oper)(R:Value->af->Prop)(a:Act)(F:af):Prop:=
 match o.op with
 | .move x| .assign x=>R (ev a x) F
 | .nilCheck x=>match ev a x with
  | .pointer (some _)=>R (ev a x) F
  |_=>False
 | .pick c x y=>match ev a c with
  | .bool b=>R (if b then ev a x else ev a y) F
  |_=>False
 | .alloc t=>match zeroOf P t with
  |some z=>∀b,eB F b->R (.pointer (some ⟨b,0,none⟩)) (F.push b (.cells z.cells t))
  |none=>False
 | .box t x=>∀b,eB F b->R (.pointer (some ⟨b,0,none⟩)) (F.push b (.cells (ev a x).cells t))
 | .build t parts=>match qC P t (parts.map fun (i,x)=>(i,ev a x)).toList with
  |some v=>R v F
  |none=>False
 | .buildSlice t len parts=>match s4 P t len (parts.map fun (i,x)=>(i,ev a x)).toList with
  |some (e,cs)=>∀b,eB F b->R (.slice (some ⟨b,0,none⟩) len len) (F.push b (.cells cs e))
  |none=>False
 | .load t x=>match ev a x with
  | .pointer (some ad)=>match fV P F t ad with
   |some v=>R v F
   |none=>False
  |_=>False
 | .store t x y=>match ev a x with
  | .pointer (some ad)=>match sV P F t ad (ev a y) with
   |some F'=>R undef F'
   |none=>False
  |_=>False
 | .binOp op t x y _=>match qB P op t (ev a x) (ev a y) with
  |some v=>R v F
  |none=>False
 | .unOp op _ x=>match mZ op (ev a x) with
  |some v=>R v F
  |none=>False
 | .convert src dst x=>match m5 P src dst (ev a x) with
  |some v=>R v F
  |none=>False
 | .makeFunc fn first captured=>R (.func fn (first.map (ev a)) (captured.map (ev a))) F
 | .slice t x lo hi none=>(match ev a x with| .slice _ len cap=>len<=cap| .pointer (some _)=>True|_=>False)/\match m0 P t (ev a x) (lo.map (ev a)) (hi.map (ev a)) with
  |some v=>R v F
  |none=>False
 | .fieldAddr s x n=>match ev a x with
  | .pointer (some ad)=>match dc P s n with
   |some k=>R (.pointer (some (ad.add k))) F
   |none=>False
  |_=>False
 | .field s x n=>match qD P s n (ev a x) with
  |some v=>R v F
  |none=>False
 | .indexAddr t x i=>match qy P t (ev a x) (ev a i) with
  |some v=>R v F
  |none=>False
 | .index t x i=>match qE P t (ev a x) (ev a i) with
  |some v=>R v F
  |none=>False
 | .extract x n=>match s5 n (ev a x) with
  |some v=>R v F
  |none=>False
 | .call {callee:=.value x,args, ..}=>hO P J (ev a x) (args.map (ev a)) F R
 | .call {callee:=.builtin .len,args,argTypes}=>match argTypes[0]?,args[0]? with
  |some t,some x=>match s6 P t (ev a x) with
   |some v=>R v F
   |none=>e7 P (Builtin.len_ argTypes o.type (args.map (ev a))) R F
  |_,_=>False
 | .makeMap t r=>e7 P (Instr.makeMap t (r.map (ev a))) R F
 | .makeSlice t l c=>e7 P (Instr.makeSlice t (ev a l) (ev a c)) R F
 | .mapUpdate t m k x=>e7 P (Instr.mapUpdate t (ev a m) (ev a k) (ev a x)>>= fun _=>pure undef) R F
 | .call {callee:=.builtin .clear,args,argTypes}=>e7 P (Builtin.clear_ argTypes o.type (args.map (ev a))) R F
 | .call {callee:=.builtin .cap,args,argTypes}=>e7 P (Builtin.cap_ argTypes o.type (args.map (ev a))) R F
 | .call {callee:=.builtin .copy,args,argTypes}=>e7 P (Builtin.copy_ argTypes o.type (args.map (ev a))) R F
 | .call {callee:=.builtin .append,args,argTypes}=>match args.toList with
  |[x,y]=>m6 P argTypes (ev a x) (ev a y) R F
  |_=>False
 | .call {callee:=.builtin .max,args, ..}=>match args.toList with
  |[x,y]=>match sW (ev a x) (ev a y) with
   |some v=>R v F
   |none=>False
  |_=>False
 | .call {callee:=.builtin .min,args, ..}=>match args.toList with
  |[x,y]=>match sX (ev a x) (ev a y) with
   |some v=>R v F
   |none=>False
  |_=>False
 |_=>False
theorem eZ (a:Act):a.eval=ev a:=rfl
theorem AW {P:Program}{J:Goroutine->af->Prop}{o:Oper}{R:Value->af->Prop}{D:Deferred->af->Prop}{a:Act}{F:af}(B:Oper.oF o=false)(h:c7 P J o R a F):bu P (execOp a.eval o) (gj P J R D) F:=by
 obtain ⟨dst,op,type,pos,after,guard⟩:=o;unfold execOp;simp only[eZ];unfold c7 at h;simp only at h;cases op<;>simp only at h ⊢
 case move x=>exact h
 case assign x=>exact h
 case nilCheck x=>
  split at h
  .rename_i ad g;simp only[g,bT,gj];rw[g] at h;exact h
  .exact h.elim
 case pick c x y=>
  split at h
  .rename_i b hb;simp only[bH,hb,Fo,bT,gj];exact h
  .exact h.elim
 case alloc t=>
  split at h
  .rename_i z C;simp only[Instr.alloc,bH,mW,C,AJ,bT,gj];exact h
  .exact h.elim
 case box t x=>
  simp only[Instr.box,bH,AJ,bT,gj];exact h
 case build t parts=>
  split at h
  .rename_i v d;simp only[bH,bT];exact Fz d h
  .exact h.elim
 case buildSlice t len parts=>
  split at h
  .rename_i e cs d;simp only[bH,bT];exact FA d h
  .exact h.elim
 case load t x=>
  split at h
  case h_2=>exact h.elim
  rename_i ad p;split at h
  case h_2=>exact h.elim
  rename_i v d;simp only[Instr.loadAt,bH,p,qx,bT];exact AN d h
 case store t x y=>
  split at h
  case h_2=>exact h.elim
  rename_i ad p;split at h
  case h_2=>exact h.elim
  rename_i F' E;simp only[Instr.storeAt,bH,p,qx,bT];exact Fs E h
 case binOp op t x y W=>
  split at h
  case h_2=>exact h.elim
  rename_i v d;rw[jz];exact Fx d h
 case unOp op t x=>
  split at h
  case h_2=>exact h.elim
  rename_i v d;rw[jz];exact Fu d h
 case convert src dst x=>
  split at h
  case h_2=>exact h.elim
  rename_i v d;rw[jz];exact FC d h
 case makeFunc fn first captured=>
  simp only[Instr.makeFunc,bH,bT,gj];exact h
 case slice t x lo hi G=>
  cases G with
  |some m=>exact h.elim
  |none=>
   simp only at h;obtain ⟨q,h⟩:=h;split at h
   case h_2=>exact h.elim
   rename_i v d;rw[jz];exact Fw (fun ad len cap e=>by rw[e] at q;exact q) d h
 case fieldAddr s x n=>
  split at h
  case h_2=>exact h.elim
  rename_i ad p;split at h
  case h_2=>exact h.elim
  rename_i k j;unfold dc at j;split at j
  case h_2=>cases j
  rename_i fs H;split at j
  case h_2=>cases j
  rename_i f u;split at j
  case h_2=>cases j
  rename_i m hm;cases j;rw[jz];simp only[Instr.fieldAt,bH,dP,H,u,p,qx,fieldPlace,eY,hm];simpa [bT,gj] using h
 case field s x n=>
  split at h
  case h_2=>exact h.elim
  rename_i v d;rw[jz];exact FB d h
 case indexAddr t x i=>
  split at h
  case h_2=>exact h.elim
  rename_i v d;rw[jz];exact Fv d h
 case index t x i=>
  split at h
  case h_2=>exact h.elim
  rename_i v d;rw[jz];exact FD d h
 case extract x n=>
  split at h
  case h_2=>exact h.elim
  rename_i v d;rw[jz];unfold s5 at d;split at d
  .rename_i vs I;simp only[I,Instr.extract,d];exact h
  .cases d
 case makeMap t r=>
  rw[jz];exact h
 case makeSlice t l c=>
  rw[jz];exact h
 case mapUpdate t m k x=>
  unfold e7 at h;rw[bH] at h;rw[bH];exact h
 case call c=>
  obtain ⟨callee,args,argTypes⟩:=c;cases callee with
  |value x=>
   simp only at h;unfold hO at h;split at h
   case h_3=>exact h.elim
   .rename_i fn first captured g
    obtain ⟨hc,K⟩:=h;unfold aR at hc;split at hc
    case h_2=>cases hc
    rename_i f u;simp only[Bool.not_eq_true',Bool.or_eq_false_iff] at hc;simp only[resolve,g,Deferred.ofValue,bH,bT,invoke,callFunc,kR,u,hc.1,hc.2,Bool.false_eq_true,if_false,gj];exact K
   .rename_i l first captured g
    obtain ⟨rfl,rfl,r,q,L,M⟩:=h;simp only[resolve,g,Deferred.ofValue,bH,bT,invoke,Instr.yield,Instr.getLoop,Array.append_empty,Array.empty_append,Array.map_map];refine ⟨_,q,?_⟩;have N:∀{α:Type} (x:α) (Q:α->af->Prop) (F:af),bu P (Sem.pure x) Q F=Q x F:=fun _ _ _=>rfl;simp only[bH,N,bT,dO,ne_eq,L,not_true_eq_false,if_false,gj];exact M
  |invoke r m=>exact h.elim
  |builtin b=>
   cases b<;>simp only at h
   case append=>simp[Oper.oF] at B
   case clear=>
    simp only[resolve,bH,bT,invoke,builtin];exact h
   case cap=>
    simp only[resolve,bH,bT,invoke,builtin];exact h
   case copy=>
    simp only[resolve,bH,bT,invoke,builtin];exact h
   case len=>
    split at h
    case h_2=>exact h.elim
    rename_i t x ht g;split at h
    case h_2=>
     simp only[resolve,bH,bT,invoke,builtin];exact h
    rename_i v d;unfold s6 at d;split at d
    case h_2=>cases d
    rename_i ad n cap O;split at d
    case h_2=>cases d
    rename_i e S;have he:=wB S;cases d;have T:(args.map (ev a))[0]?=some (.slice ad n cap):=by simp[g,O]
    simp only[resolve,bH,bT,invoke,builtin,Builtin.len_,ht,T,dP,he];exact h
   case max=>
    split at h
    case h_2=>exact h.elim
    rename_i x y w;split at h
    case h_2=>exact h.elim
    rename_i v d;unfold sW at d;split at d
    case h_2=>cases d
    rename_i k U V y' g A;cases d;simp only[resolve,bH,bT,invoke,builtin,Builtin.max_,Array.toList_map,w,List.map_cons,List.map_nil,List.foldlM_cons,List.foldlM_nil,g,A,Builtin.max2,gj];exact h
   case min=>
    split at h
    case h_2=>exact h.elim
    rename_i x y w;split at h
    case h_2=>exact h.elim
    rename_i v d;unfold sX at d;split at d
    case h_2=>cases d
    rename_i k U V y' g A;cases d;simp only[resolve,bH,bT,invoke,builtin,Builtin.min_,Array.toList_map,w,List.map_cons,List.map_nil,List.foldlM_cons,List.foldlM_nil,g,A,Builtin.min2,gj];exact h
theorem lY {P:Program}{J:Goroutine->af->Prop}{o:Oper}{R:Value->af->Prop}{D:Deferred->af->Prop}{a:Act}{F:af}(h:c7 P J o R a F):bu P (execOp a.eval o) (kP P J R D) F:=
by
 cases b:Oper.oF o with
 |false=>exact iC E5 _ _ (AW b h)
 |true=>
  obtain ⟨dst,op,type,pos,after,guard⟩:=o
  unfold Oper.oF at b
  split at b
  .rename_i callee args argTypes c
   simp only at c
   subst c
   unfold c7 at h
   simp only at h
   split at h
   case h_2=>exact h.elim
   rename_i x y d
   have e:args=#[x,y]:=by rw[<-Array.toList_inj];simpa using d
   subst e
   unfold execOp
   simp only[eZ,resolve,bH,bT,invoke,builtin]
   have:=h type
   simpa [kP,gj,bH,bT] using this
  .cases b
def cT (ops:Array Oper)(o:Oper)(a:Act):Option Bool:=
 match o.guard with
 |none=>some true
 |some (j,want)=>match (ops[j]?).bind (·.dst) with
  |some d=>match slot a d with
   | .bool b=>some (b==want)
   | .tuple _=>some false
   |_=>none
  |none=>none
theorem cA {ops:Array Oper}{o:Oper}{a:Act}{t:Bool}(h:cT ops o a=some t):Region.wanted o (yielded ops a.tmps)=t:=by
 unfold cT at h;unfold Region.wanted;split at h
 .rename_i hg;rw[hg];cases h;rfl
 .rename_i j want hg;rw[hg];split at h
  .rename_i d hd;split at h
   .rename_i b hb;cases h;have ht:a.tmps[d]?=some (.bool b):=by
     unfold slot at hb;rw[Array.getD_eq_getD_getElem?] at hb;cases c:a.tmps[d]? with
     |none=>rw[c] at hb;simp[undef] at hb
     |some v=>rw[c] at hb;simpa using hb
    simp only[yielded,hd,Option.bind_some,ht];cases b<;>cases want<;>rfl
   .rename_i b hb;cases h;simp only[yielded,hd,Option.bind_some];unfold slot at hb;rw[Array.getD_eq_getD_getElem?] at hb;cases c:a.tmps[d]? with
    |none=>rfl
    |some v=>
     rw[c] at hb;simp at hb;subst hb;rfl
   .cases h
  .cases h
def Oper.calls (o:Oper):Bool:=match o.op with| .call {callee:=.value _, ..}=>true| .call {callee:=.builtin .append, ..}=>true| .call {callee:=.builtin .clear, ..}=>true| .call {callee:=.builtin .cap, ..}=>true| .call {callee:=.builtin .copy, ..}=>true| .makeMap ..=>true| .makeSlice ..=>true| .mapUpdate ..=>true|_=>false
def fE (P:Program)(J:Goroutine->af->Prop)(ops:Array Oper)(K:Act->af->Prop):List Oper->Bool->Act->af->Prop
 |[],_,a,F=>K a F
 |o::rest,_,a,F=>match cT ops o a with
  |some true=>c7 P J o (fun v F'=>fE P J ops K rest (!Oper.calls o) (bB a o.dst v) F') a F
  |some false=>fE P J ops K rest true (bB a o.dst undef) F
  |none=>False
theorem AX {P:Program}{J:Goroutine->af->Prop}{ops:Array Oper}{K:Act->af->Prop}{go:Bool}{a:Act}{F:af}:fE P J ops K [] go a F=K a F:=rfl
theorem AY {P:Program}{J:Goroutine->af->Prop}{ops:Array Oper}{K:Act->af->Prop}{o:Oper}{rest:List Oper}{a:Act}{F:af}:fE P J ops K (o::rest) true a F=match cT ops o a with
  |some true=>c7 P J o (fun v F'=>fE P J ops K rest (!Oper.calls o) (bB a o.dst v) F') a F
  |some false=>fE P J ops K rest true (bB a o.dst undef) F
  |none=>False:=(Eq.refl _).trans (Eq.refl _)
theorem aO {P:Program}{J:Goroutine->af->Prop}{ops:Array Oper}{K:Act->af->Prop}:∀{l:List Oper} {go:Bool} {a:Act} {F:af},fE P J ops K l true a F->fE P J ops K l go a F
 |[],_,_,_,h=>h
 |_::_,_,_,_,h=>h
theorem wH {P:Program}{J:Goroutine->af->Prop}{ops:Array Oper}{K:Act->af->Prop}:∀(l:List Oper) (k:Nat) (go:Bool) (a:Act) (F:af),ops.toList.drop k=l->fE P J ops K l go a F->
  gx P J ops K (List.range' k l.length) a F
 |[],k,_,a,F,_,h=>h
 |o::rest,k,_,a,F,b,h=>by
  have d:ops[k]?=some o:=by
   have:=congrArg List.head? b
   simpa [List.head?_drop] using this
  have c:ops.toList.drop (k+1)=rest:=by
   have:=congrArg List.tail b
   simpa [List.tail_drop] using this
  simp only[List.length_cons,List.range'_succ]
  show ek P J ops k (gx P J ops K (List.range' (k+1) rest.length)) a F
  unfold ek
  simp only[d]
  unfold fE at h
  split at h
  .rename_i hg
   rw[if_pos (cA hg)]
   exact iC (qq (fun v F' e=>wH rest (k+1) _ _ F' c e) (fun _ _ x=>x)) _ _ (lY h)
  .rename_i hg
   rw[if_neg (by rw[cA hg];simp)]
   exact wH rest (k+1) _ _ F c h
  .exact h.elim
theorem aS {P:Program}{main:Bool}{J:Goroutine->af->Prop}{Q:Ex->Act->af->Prop}{a:Act}{F:af}(hJ:Closed P main J){id:Nat}{ops:Array Oper}(h:fE P J ops (Q .normal) ops.toList true a F):Wp J (.region id ops false) Q a F:=by
 refine Fc hJ ?_;have:=wH ops.toList 0 true a F au h;simpa [List.range_eq_range'] using this
theorem aC {P:Program}{main:Bool}{J:Goroutine->af->Prop}{Q:Ex->Act->af->Prop}{a:Act}{F:af}(hJ:Closed P main J){id:Nat}{ops:Array Oper}{y:Code}(h:fE P J ops (sO J y Q .normal) ops.toList true a F):Wp J (.seq (.region id ops false) y) Q a F:=ah hJ (aS hJ h)
attribute [irreducible] fE
theorem oG {P:Program}{J:Goroutine->af->Prop}{ops:Array Oper}{Q:Act->af->Prop}{S:af->Prop}(i:Nat){b:Oper}(v:Value){fuel:Nat}{listed:Array Bool}{a:Act}{F:af}(hi:ops[i]?=some b)
  (d:(Region.noSelect ops&&Region.free .any ops listed i&&(Region.ready .any ops listed).contains i)=true)
  (hg:cT ops b a=some true) (e:∀F R,S F->R v F->c7 P J b R a F) (c:S F)
  (h:er P J ops Q S fuel (listed.setIfInBounds i true) (bB a b.dst v) F):er P J ops Q S (fuel+1) listed a F:=
 Aw i v hi d (.inl ⟨cA hg,fun F R c f=>lY (e F R c f)⟩) c h
theorem AZ {P:Program}{J:Goroutine->af->Prop}{ops:Array Oper}{Q:Act->af->Prop}{S:af->Prop}(i:Nat){b:Oper}{fuel:Nat}{listed:Array Bool}{a:Act}{F:af}(hi:ops[i]?=some b)
  (c:(Region.noSelect ops&&Region.free .any ops listed i&&(Region.ready .any ops listed).contains i)=true)
  (hg:cT ops b a=some false) (d:S F)
  (h:er P J ops Q S fuel (listed.setIfInBounds i true) (bB a b.dst undef) F):er P J ops Q S (fuel+1) listed a F:=
 Aw i undef hi c (.inr ⟨cA hg,rfl⟩) d h
theorem A0 {P:Program}{J:Goroutine->af->Prop}{ops:Array Oper}{Q:Act->af->Prop}{S:af->Prop}(i:Nat){b:Oper}{fuel:Nat}{listed:Array Bool}{a:Act}{F:af}(hi:ops[i]?=some b)
  (c:Region.ready .any ops listed=[i]) (hg:cT ops b a=some true)
  (h:c7 P J b (fun v F'=>S F'/\er P J ops Q S fuel (listed.setIfInBounds i true) (bB a b.dst v) F') a F):er P J ops Q S (fuel+1) listed a F:=by
 refine E9 i c ?_
 unfold ek
 simp only[hi]
 rw[if_pos (cA hg)]
 exact lY h
theorem az {P:Program}{main:Bool}{J:Goroutine->af->Prop}{Q:Ex->Act->af->Prop}{a:Act}{F:af}{B:Prop}(hJ:Closed P main J){id:Nat}{ops:Array Oper}{y:Code}(h:B)(e:fE P J ops (sO J y Q .normal) ops.toList true a F=B:=by conv=>lhs;simp only[*,go_sem]):Wp J (.seq (.region id ops false) y) Q a F:=ah hJ (aS hJ (e▸h))
theorem aM {P:Program}{main:Bool}{J:Goroutine->af->Prop}{Q:Ex->Act->af->Prop}{a:Act}{F:af}{B:Prop}(hJ:Closed P main J){id:Nat}{ops:Array Oper}(h:B)(e:fE P J ops (Q .normal) ops.toList true a F=B:=by conv=>lhs;simp only[*,go_sem]):Wp J (.region id ops false) Q a F:=aS hJ (e▸h)
theorem oH {P:Program}{main:Bool}{J:Goroutine->af->Prop}{Q:Ex->Act->af->Prop}{a:Act}{F:af}{B:Prop}(hJ:Closed P main J)(h:B)(e:Q .normal a F=B:=by conv=>lhs;simp only[*,go_sem]):Wp J .skip Q a F:=aP hJ (e▸h)
theorem cg {J:Goroutine->af->Prop}{Q:Ex->Act->af->Prop}{a:Act}{F:af}{B:Prop}(h:B)(e:Q .ret a F=B:=by conv=>lhs;simp only[*,go_sem]):Wp J .ret Q a F:=aQ (e▸h)
attribute [go_sem] List.isEmpty_nil List.isEmpty_cons undef AX AY Oper.calls Bool.not_true Bool.not_false cT c7 af.push af.get af.put lk jw cellOf fV sV af.dJ af.jy af.mS bP frozenAt qB m4 qA Option.isNone_none Option.isNone_some hH jA oE mZ sW sX qy qE m0 qD s5 m5 s6 qC s4
theorem add_zero' (a:Addr):a.add 0=a:=rfl
theorem lZ (a:Addr)(m n:Nat):(a.add m).add n=a.add (m+n):=by
 unfold Addr.add;by_cases hm:m=0
 .subst hm;simp
 .by_cases b:n=0
  .subst b;simp[hm]
  .have:¬m+n=0:=aa;simp[hm,b,this,Nat.add_assoc]
theorem l5 (b o n:Nat):(⟨b,o,none⟩:Addr).add n=⟨b,o+n,none⟩:=by
 unfold Addr.add;by_cases a:n=0
 .subst a;simp
 .simp[a]
attribute [go_sem] add_zero' lZ l5 Nat.add_assoc Int.reduceLE Int.reduceLT Int.reduceToNat Int.toNat_zero Int.le_refl
attribute [go_sem] Value.cells Instr.fill sQ iX vX sO FE
attribute [go_sem] and_true true_and Array.getD_eq_getD_getElem? List.getElem?_toArray List.getElem?_cons_zero List.getElem?_cons_succ List.getElem?_nil Option.getD_some Option.getD_none Option.bind_some Option.bind_none Option.map_some Option.map_none
attribute [go_sem] Nat.reduceLT Nat.reduceEqDiff Nat.reduceAdd Nat.reduceMul Nat.reduceSub if_true if_false reduceIte reduceCtorEq List.setIfInBounds_toArray List.set_cons_zero List.set_cons_succ
attribute [go_sem] List.map_toArray List.map_cons List.map_nil List.append_toArray List.cons_append List.nil_append List.append_nil Array.append_empty Array.empty_append List.toList_toArray List.length_cons List.length_nil List.size_toArray ne_eq not_true_eq_false not_false_eq_true forall_const
theorem e8 {ro:Addr->Option Value}{own:List (Nat×Obj)}{b:Nat}(h:eB ⟨ro,own⟩ b):∀off sp,ro ⟨b,off,sp⟩=none:=h.ro
theorem gr {ro:Addr->Option Value}{own:List (Nat×Obj)}{b:Nat}(h:eB ⟨ro,own⟩ b):av own b:=h.own
def qF (P:Program)(F:af)(a:Act):ResultVar->Option Value
 | .tmp t=>some (slot a t)
 | .cell ad t=>match slot a ad with
  | .pointer (some p)=>fV P F t p
  |_=>none
def m7 (P:Program)(F:af)(a:Act):List ResultVar->Option (List Value)
 |[]=>some []
 |r::rs=>match qF P F a r with
  |some v=>match m7 P F a rs with
   |some vs=>some (v::vs)
   |none=>none
  |none=>none
def m8 (P:Program)(F:af)(a:Act)(rs:List ResultVar):Option Value:=
 match m7 P F a rs with
 |some [v]=>some v
 |some vs=>some (.tuple vs.toArray)
 |none=>none
attribute [go_sem] qF m7 m8
theorem wI {P:Program}{F:af}{a:Act}{Q:Array Value->af->Prop}:∀(rs:List ResultVar) (vs:List Value) (acc:Array Value),m7 P F a rs=some vs->Q (acc++vs.toArray) F->
  bu P (rs.foldlM (fun (b:Array Value) r=>do let x<-(match r with| .tmp t=>pure (a.tmps.getD t undef)| .cell ad t=>do loadVar t (<-asAddr (a.tmps.getD ad undef)):Sem Value);pure (b.push x)) acc) Q F
 |[],vs,acc,h,d=>by
  simp only[m7,Option.some.injEq] at h;subst h
  simpa [bT] using d
 |r::rs,vs,acc,h,d=>by
  unfold m7 at h
  split at h
  case h_2=>cases h
  rename_i v c
  split at h
  case h_2=>cases h
  rename_i ws g
  cases h
  have e:=wI rs ws (acc.push v) g (Q:=Q) (by simpa using d)
  simp only[List.foldlM_cons,bH]
  cases r with
  |tmp t=>
   simp only[qF,Option.some.injEq,slot] at c
   subst c
   simpa only[bT] using e
  |cell ad t=>
   simp only[qF] at c
   split at c
   .rename_i p f
    unfold slot at f
    simp only[bH,f,asAddr,bT]
    exact AN c e
   .cases c
theorem s7 {P:Program}{fn:Func}{rs:List ResultVar}{F:af}{a:Act}{v:Value}{R:Value->af->Prop}(d:fn.results=rs.toArray)(h:m8 P F a rs=some v)(c:R v F):bu P (results fn a.tmps) R F:=by
 unfold results;rw[d,bH,Array.mapM_eq_foldlM,<-Array.foldlM_toList];unfold m8 at h;split at h
 case h_3=>cases h
 .rename_i x b;cases h;exact wI rs [v] #[] b (by simpa [bT] using c)
 .rename_i vs e b;cases h;refine wI rs vs #[] b ?_;simp only[Array.empty_append,bT];split
  .rename_i hs;simp at hs;obtain ⟨v,rfl⟩:=List.length_eq_one_iff.1 hs;exact absurd rfl (e v)
  .exact c
def iD (P:Program)(rs:List ResultVar)(R:Value->af->Prop):Ex->Act->af->Prop
 | .exit _,_,_=>False
 |_,a,F=>a.defers=[]/\match m8 P F a rs with|some v=>R v F|none=>False
attribute [go_sem] iD
theorem aD.go {P:Program}{f:FuncId}{fn:Func}{c:Code}{n:Nat}{rs:List ResultVar}{args:Array Value}{F:af}{R:Value->af->Prop}(g:P.funcs[f]?=some fn)(hb:fn.body=some c)(j:fn.ntmps=n)(k:fn.results=rs.toArray)(l:args.size<=n)
  (h:∀main J,Closed P main J->∀A:Act,sz A=n->A.defers=[]->(∀i,slot A i=args.getD i undef)->Wp J c (iD P rs R) A F):aD P f args F R:=
 aD.start g hb j l fun main J hJ A m o p=>(h main J hJ A m o p).mono fun e a F d=>by
  cases e with
  |exit i=>exact d
  |_=>
   obtain ⟨hd,b⟩:=d
   split at b
   .rename_i v q
    show iX P a.defers _ F
    rw[hd]
    exact s7 k q b
   .exact b.elim
def dr (n m:Nat):Array Bool:=(Array.range n).map fun i=>decide (i<m)
def qG (ops:Array Oper)(m:Nat):Bool:=
 Region.noSelect ops&&decide (m<=ops.size)&&((List.range m).all fun i=>Region.free .any ops (dr ops.size i) i&&(Region.ready .any ops (dr ops.size i)).contains i)&&
 ((List.range (ops.size - m)).all fun j=>decide (Region.ready .any ops (dr ops.size (m+j))=[m+j]))&&decide (Region.ready .any ops (dr ops.size ops.size)=[])
def FF (D:List Nat)(L:List (List Nat))(x y:Nat):Bool:=RegionTabs.apart ⟨#[],D.toArray,L.toArray⟩ x y
def wJ (A:List (List Nat))(D:List Nat)(L:List (List Nat))(n m:Nat):Bool:=
 decide (m<=n)&&((List.range m).all fun k=>(A.getD k []).all (fun x=>decide (x<k))&&(List.range n).all fun j=>decide (j<=k)||(A.getD j []).contains k||FF D L k j)&&
 ((List.range (n - m)).all fun t=>(A.getD (m+t) []).all (fun x=>decide (x<m+t))&&(List.range (n - (m+t+1))).all fun u=>!(A.getD (m+t+1+u) []).all (fun x=>decide (x<m+t)))
section
variable {ops:Array Oper}
theorem A1 {n k i:Nat}(h:i<n):(dr n k).getD i true=decide (i<k):=by
 simp[dr,Array.getD_eq_getD_getElem?,h]
theorem FG {n k i:Nat}(a:k<=n):(dr n k).getD i false=decide (i<k):=by
 rcases Nat.lt_or_ge i n with h|h
 .simp[dr,Array.getD_eq_getD_getElem?,h]
 .have:¬i<k:=aa;simp[dr,Array.getD_eq_getD_getElem?,Array.getElem?_eq_none,h,this]
theorem wK {A:List (List Nat)}{k:Nat}(a:Region.tabAfter .any ops=A)(b:k<=ops.size):
  Region.ready .any ops (dr ops.size k)=(List.range ops.size).filter fun i=>!decide (i<k)&&(A.getD i []).all fun x=>decide (x<k):=by
 have hlen:A.length=ops.size:=by rw[<-a];simp[Region.tabAfter]
 rw[<-RegionTabs.ready_eq]
 unfold RegionTabs.ready RegionTabs.of
 simp only[a,List.size_toArray,hlen]
 apply List.filter_congr
 intro i hi
 have c:i<ops.size:=List.mem_range.1 hi
 rw[A1 c]
 congr 1
 rw[List.getElem?_toArray,List.getD_eq_getElem?_getD,List.getElem?_eq_getElem aa]
 simp only[Option.map_some,Option.getD_some]
 congr 1
 funext x
 exact FG b
theorem filter_one {k:Nat}{p:Nat->Bool}(b:p k=true):∀(n:Nat),k<n->(∀i,i<n->i≠k->p i=false)->(List.range n).filter p=[k]
 |0,c,_=>by omega
 |n+1,c,a=>by
  rw[List.range_succ,List.filter_append]
  by_cases e:k=n
  .subst e
   have:(List.range k).filter p=[]:=by
    rw[List.filter_eq_nil_iff]
    intro i hi
    have d:=List.mem_range.1 hi
    rw[a i aa aa];simp
   rw[this];simp[b]
  .rw[filter_one b n aa fun i hi=>a i aa]
   simp[a n aa (fun x=>e x.symm)]
theorem FH {m n:Nat}(A:List (List Nat))(D:List Nat)(L:List (List Nat))(hs:Region.noSelect ops=true)(f:ops.size=n)(a:Region.tabAfter .any ops=A)(g:Region.tabDst ops=D)(k:Region.tabLooks ops=L)(h:wJ A D L n m=true):qG ops m=true:=by
 subst f;have hlen:A.length=ops.size:=by rw[<-a];simp[Region.tabAfter]
 simp only[wJ,Bool.and_eq_true,decide_eq_true_eq,List.all_eq_true,List.mem_range] at h;obtain ⟨⟨hm,c⟩,d⟩:=h;simp only[qG,Bool.and_eq_true,decide_eq_true_eq,List.all_eq_true,List.mem_range];refine ⟨⟨⟨⟨hs,hm⟩,fun i hi=>⟨?_,?_⟩⟩,fun j b=>?_⟩,?_⟩
 .rw[<-RegionTabs.free_eq];unfold RegionTabs.free;have e1:(RegionTabs.of .any ops).after=A.toArray:=by simp[RegionTabs.of,a]
  rw[e1,List.size_toArray,hlen];simp only[Bool.and_eq_true,decide_eq_true_eq,List.all_eq_true,List.mem_range];refine ⟨aa,fun j b=>?_⟩;have:=(c i hi).2 j b;simp only[Bool.or_eq_true,decide_eq_true_eq] at this;simp only[Bool.or_eq_true];rcases this with (hle|hc)|l
  .rcases Nat.lt_or_eq_of_le hle with x|x
   .left;left;right;rw[A1 aa];simpa using x
   .left;left;left;simpa using x
  .left;right;simpa [Array.getD_eq_getD_getElem?,List.getD_eq_getElem?_getD] using hc
  .right;have e:RegionTabs.of .any ops=⟨A.toArray,D.toArray,L.toArray⟩:=by simp[RegionTabs.of,a,g,k]
   rw[e];exact l
 .rw[wK a aa];rw[List.contains_iff_mem,List.mem_filter];refine ⟨List.mem_range.2 aa,?_⟩;have:=(c i hi).1;simpa [List.all_eq_true] using this
 .have o:m+j<ops.size:=aa;rw[wK a aa];refine filter_one ?_ _ o fun i hi aL=>?_
  .have:=(d j b).1;simpa [List.all_eq_true] using this
  .rcases Nat.lt_or_ge i (m+j) with x|x
   .simp[x]
   .have:=(d j b).2 (i - (m+j+1)) aa;rw[show m+j+1+(i - (m+j+1))=i by omega] at this;simp only[Bool.not_eq_true'] at this;simp only[this,Bool.and_false]
 .rw[wK a (Nat.le_refl _)];rw[List.filter_eq_nil_iff];intro i hi;have:=List.mem_range.1 hi;simp[this]
def wL (n:Nat)(k:Nat->Bool):Bool:=Nat.casesOn n (k 0) fun m=>k (m+1)
def qH:List Nat->(List Nat->Bool)->Bool
 |[],k=>k []
 |x::xs,k=>wL x fun y=>qH xs fun ys=>k (y::ys)
def qI:List (List Nat)->(List (List Nat)->Bool)->Bool
 |[],k=>k []
 |x::xs,k=>qH x fun y=>qI xs fun ys=>k (y::ys)
theorem A2 (n:Nat)(k:Nat->Bool):wL n k=k n:=by cases n<;>rfl
theorem wM:∀(l:List Nat) (k:List Nat->Bool),qH l k=k l
 |[],_=>rfl
 |x::xs,k=>by rw[qH,A2,wM xs]
theorem A3:∀(l:List (List Nat)) (k:List (List Nat)->Bool),qI l k=k l
 |[],_=>rfl
 |x::xs,k=>by rw[qI,wM,A3 xs]
def oI (ops:Array Oper)(m:Nat):Bool:=Region.noSelect ops&&qI (Region.tabAfter .any ops) fun A=>qH (Region.tabDst ops) fun D=>qI (Region.tabLooks ops) fun L=>wL ops.size fun n=>wJ A D L n m
theorem A4 {m:Nat}(h:oI ops m=true):qG ops m=true:=by
 simp only[oI,Bool.and_eq_true,A3,wM,A2] at h;exact FH _ _ _ h.1 rfl rfl rfl rfl h.2
end
def jB:List (Nat×Obj)->List (Nat×Obj)->Prop
 |[],_=>True
 |(b,o)::l,own=>lk own b=some o/\jB l own
def Knows (F0 F:af):Prop:=(∀a v,F0.ro a=some v->F.ro a=some v)/\(∀a,a.block∈keys F0.own->F0.ro a=none->F.ro a=none)/\jB F0.own F.own
theorem jB.lk:∀{l own:List (Nat×Obj)} {b:Nat} {o:Obj},jB l own->lk l b=some o->Go.Sep.lk own b=some o
 |[],_,_,_,_,h=>by cases h
 |(c,x)::l,own,b,o,a,h=>by
  unfold Go.Sep.lk at h
  split at h
  .rename_i e;cases h;exact e▸a.1
  .exact jB.lk a.2 h
theorem Knows.get {F0 F:af}(h:Knows F0 F){a:Addr}{v:Value}(hg:F0.get a=some v):F.get a=some v:=by
 unfold af.get at hg ⊢;cases b:F0.ro a with
 |some x=>rw[b] at hg;rw[h.1 a x b];exact hg
 |none=>
  rw[b] at hg;simp only at hg;split at hg
  .rename_i hs;obtain ⟨o,c,hc⟩:=Option.bind_eq_some_iff.1 hg;rw[h.2.1 a (fD (iz c)) b];simp only;rw[if_pos hs,h.2.2.lk c];exact hc
  .cases hg
theorem FI {ro:Addr->Option Value}{l own:List (Nat×Obj)}:Knows ⟨ro,l⟩ ⟨ro,own⟩=jB l own:=
 propext ⟨fun h=>h.2.2,fun h=>⟨fun _ _ x=>x,fun _ _ x=>x,h⟩⟩
theorem FJ {ro aW:Addr->Option Value}{l own:List (Nat×Obj)}(c:∀a v,ro a=some v->aW a=some v)(d:∀b∈keys l,∀off sp,aW ⟨b,off,sp⟩=none)(h:jB l own):Knows ⟨ro,l⟩ ⟨aW,own⟩:=
 ⟨c,fun a e _=>d a.block e a.off a.spot,h⟩
theorem Knows.mY {F0 F:af}(h:Knows F0 F){a:Addr}:∀{n i:Nat} {vs:List Value},F0.dJ a i n=some vs->F.dJ a i n=some vs
 |0,_,_,hg=>hg
 |n+1,i,vs,hg=>by
  unfold af.dJ at hg ⊢
  split at hg
  case h_2=>cases hg
  rename_i v b
  split at hg
  case h_2=>cases hg
  rename_i ws c
  rw[h.get b,h.mY c]
  exact hg
theorem Knows.fV {P:Program}{F0 F:af}(h:Knows F0 F){t:TypeId}{ad:Addr}{v:Value}(hg:fV P F0 t ad=some v):Go.Sep.fV P F t ad=some v:=by
 unfold Go.Sep.fV at hg ⊢;split at hg
 .exact h.get hg
 .split at hg
  case h_2=>cases hg
  rename_i n b;split at hg
  case h_2=>cases hg
  rename_i vs a;rw[h.mY a];exact hg
 .cases hg
def jD (P:Program)(o:Oper)(a:Act):Option Value:=
 match o.op with
 | .move x| .assign x=>some (ev a x)
 | .nilCheck x=>match ev a x with
  | .pointer (some ad)=>some (.pointer (some ad))
  |_=>none
 | .pick c x y=>match ev a c with
  | .bool b=>some (if b then ev a x else ev a y)
  |_=>none
 | .build t parts=>qC P t (parts.map fun (i,x)=>(i,ev a x)).toList
 | .binOp op t x y _=>qB P op t (ev a x) (ev a y)
 | .unOp op _ x=>mZ op (ev a x)
 | .convert src dst x=>m5 P src dst (ev a x)
 | .makeFunc fn first captured=>some (.func fn (first.map (ev a)) (captured.map (ev a)))
 | .slice t x lo hi none=>match ev a x with
  | .slice ad len cap=>if len<=cap then m0 P t (.slice ad len cap) (lo.map (ev a)) (hi.map (ev a)) else none
  | .pointer (some ad)=>m0 P t (.pointer (some ad)) (lo.map (ev a)) (hi.map (ev a))
  |_=>none
 | .fieldAddr s x n=>match ev a x with
  | .pointer (some ad)=>match dc P s n with
   |some k=>some (.pointer (some (ad.add k)))
   |none=>none
  |_=>none
 | .field s x n=>qD P s n (ev a x)
 | .indexAddr t x i=>qy P t (ev a x) (ev a i)
 | .index t x i=>qE P t (ev a x) (ev a i)
 | .extract x n=>s5 n (ev a x)
 | .call {callee:=.builtin .len,args,argTypes}=>match argTypes[0]?,args[0]? with
  |some t,some x=>s6 P t (ev a x)
  |_,_=>none
 | .call {callee:=.builtin .max,args, ..}=>match args.toList with
  |[x,y]=>sW (ev a x) (ev a y)
  |_=>none
 | .call {callee:=.builtin .min,args, ..}=>match args.toList with
  |[x,y]=>sX (ev a x) (ev a y)
  |_=>none
 |_=>none
theorem s8 {P:Program}{J:Goroutine->af->Prop}{o:Oper}{a:Act}{v:Value}{R:Value->af->Prop}{F:af}(h:jD P o a=some v)(d:R v F):c7 P J o R a F:=by
 obtain ⟨dst,op,type,pos,after,guard⟩:=o;unfold jD at h;unfold c7;cases op<;>simp only[reduceCtorEq] at h ⊢
 case move x=>cases h;exact d
 case assign x=>cases h;exact d
 case nilCheck x=>
  split at h
  .rename_i ad e;cases h;rw[e];exact d
  .cases h
 case pick c x y=>
  split at h
  .rename_i b hb;cases h;try rw[hb]
   exact d
  .cases h
 case build t parts=>rw[h];exact d
 case binOp=>rw[h];exact d
 case unOp=>rw[h];exact d
 case convert=>rw[h];exact d
 case makeFunc=>cases h;exact d
 case slice t x lo hi g=>
  cases g with
  |some m=>cases h
  |none=>
   simp only at h ⊢;split at h
   case h_3=>cases h
   case h_2=>
    rename_i ad e;rw[e];exact ⟨trivial,by rw[h];exact d⟩
   rename_i ad len cap e;split at h
   case isFalse=>cases h
   rename_i hc;rw[e];exact ⟨hc,by rw[h];exact d⟩
 case fieldAddr s x n=>
  split at h
  case h_2=>cases h
  rename_i ad e;split at h
  case h_2=>cases h
  rename_i k i;cases h;try rw[e]
  try simp only[i]
  exact d
 case field=>rw[h];exact d
 case indexAddr=>rw[h];exact d
 case index=>rw[h];exact d
 case extract=>rw[h];exact d
 case call c=>
  obtain ⟨callee,args,argTypes⟩:=c;cases callee with
  |value x=>cases h
  |invoke r m=>cases h
  |builtin b=>
   cases b<;>simp only[reduceCtorEq] at h ⊢
   case len=>
    split at h
    case h_2=>cases h
    rename_i t x ht e;simp only[ht,e,h];exact d
   case max=>
    split at h
    case h_2=>cases h
    rename_i x y f;simp only[f,h];exact d
   case min=>
    split at h
    case h_2=>cases h
    rename_i x y f;simp only[f,h];exact d
def Plain (P:Program)(J:Goroutine->af->Prop)(F0:af)(f:FuncId)(args:Array Value)(v:Value):Prop:=
 ∀F,Knows F0 F->dn P J f args F (fun a F'=>a=v/\F'=F)
def eI (P:Program)(J:Goroutine->af->Prop)(ops:Array Oper)(F0:af)(K:Act->Prop):List Oper->Bool->Act->Prop
 |[],_,a=>K a
 |o::rest,_,a=>match cT ops o a with
  |some false=>eI P J ops F0 K rest true (bB a o.dst undef)
  |some true=>match o.op with
   | .load t x=>match ev a x with
    | .pointer (some ad)=>match fV P F0 t ad with
     |some v=>eI P J ops F0 K rest true (bB a o.dst v)
     |none=>False
    |_=>False
   | .call {callee:=.value x,args, ..}=>match ev a x with
    | .func (.func fn) first captured=>aR P fn=true/\∃v,Plain P J F0 fn (first++args.map (ev a)++captured) v/\eI P J ops F0 K rest false (bB a o.dst v)
    |_=>False
   |_=>match jD P o a with
    |some v=>eI P J ops F0 K rest true (bB a o.dst v)
    |none=>False
  |none=>False
theorem FK {P:Program}{J:Goroutine->af->Prop}{ops:Array Oper}{F0:af}{K:Act->Prop}{go:Bool}{a:Act}:eI P J ops F0 K [] go a=K a:=rfl
theorem FL {P:Program}{J:Goroutine->af->Prop}{ops:Array Oper}{F0:af}{K:Act->Prop}{o:Oper}{rest:List Oper}{a:Act}:eI P J ops F0 K (o::rest) true a=match cT ops o a with
  |some false=>eI P J ops F0 K rest true (bB a o.dst undef)
  |some true=>match o.op with
   | .load t x=>match ev a x with
    | .pointer (some ad)=>match fV P F0 t ad with
     |some v=>eI P J ops F0 K rest true (bB a o.dst v)
     |none=>False
    |_=>False
   | .call {callee:=.value x,args, ..}=>match ev a x with
    | .func (.func fn) first captured=>aR P fn=true/\∃v,Plain P J F0 fn (first++args.map (ev a)++captured) v/\eI P J ops F0 K rest false (bB a o.dst v)
    |_=>False
   |_=>match jD P o a with
    |some v=>eI P J ops F0 K rest true (bB a o.dst v)
    |none=>False
  |none=>False:=(Eq.refl _).trans (Eq.refl _)
theorem cr {P:Program}{J:Goroutine->af->Prop}{ops:Array Oper}{F0:af}{K:Act->Prop}:∀{l:List Oper} {go:Bool} {a:Act},eI P J ops F0 K l true a->eI P J ops F0 K l go a
 |[],_,_,h=>h
 |_::_,_,_,h=>h
theorem s9 {n m:Nat}(h:m<n):(dr n m).setIfInBounds m true=dr n (m+1):=by
 apply Array.ext
 .simp[dr]
 .intro i a b;simp[dr] at a b;rw[Array.getElem_setIfInBounds (by simp[dr];omega)];by_cases e:m=i
  .subst e;simp[dr]
  .simp only[if_neg e,dr,Array.getElem_map,Array.getElem_range];rw[decide_eq_decide];omega
theorem A5 (n:Nat):dr n 0=Array.replicate n false:=by
 apply Array.ext
 .simp[dr]
 .intro i a b;simp[dr]
section
variable {P:Program}{main:Bool}{J:Goroutine->af->Prop}{ops:Array Oper}{Q:Act->af->Prop}{F0:af}
theorem tc {K:Act->Prop}(m:Nat)(hm:m<=ops.size)(r:Region.noSelect ops=true)(s:∀i,i<m->(Region.free .any ops (dr ops.size i) i&&(Region.ready .any ops (dr ops.size i)).contains i)=true)
  {F:af} (b:Knows F0 F) (hK:∀a,K a->er P J ops Q (Knows F0) (ops.size - m) (dr ops.size m) a F):
  ∀(l:List Oper) (k:Nat) (go:Bool) (a:Act),(ops.toList.take m).drop k=l->k<=m->eI P J ops F0 K l go a->er P J ops Q (Knows F0) (ops.size - k) (dr ops.size k) a F
 |[],k,_,a,c,z,h=>by
  have:k=m:=by
   have:=congrArg List.length c
   simp at this
   omega
  subst this
  exact hK a h
 |o::rest,k,_,a,c,z,h=>by
  have g:k<m:=by
   rcases Nat.lt_or_ge k m with x|x
   .exact x
   .rw[List.drop_eq_nil_of_le (by simp;omega)] at c;cases c
  have j:ops[k]?=some o:=by
   have:=congrArg List.head? c
   rw[List.head?_drop,List.getElem?_take_of_lt g] at this
   simpa using this
  have w:(ops.toList.take m).drop (k+1)=rest:=by
   have:=congrArg List.tail c
   simpa [List.tail_drop] using this
  have hc:=s k g
  have e:ops.size - k=(ops.size - (k+1))+1:=aa
  have y:=s9 (n:=ops.size) (m:=k) aa
  have p:(Region.noSelect ops&&Region.free .any ops (dr ops.size k) k&&(Region.ready .any ops (dr ops.size k)).contains k)=true:=by
   rw[r,Bool.true_and];exact hc
  rw[e]
  unfold eI at h
  split at h
  .rename_i hg
   exact AZ k j p hg b (by rw[y];exact tc m hm r s b hK rest (k+1) _ _ w g h)
  .rename_i hg
   have next:∀go v,eI P J ops F0 K rest go (bB a o.dst v)->er P J ops Q (Knows F0) (ops.size - (k+1)) ((dr ops.size k).setIfInBounds k true) (bB a o.dst v) F:=fun go v d=>by
    rw[y];exact tc m hm r s b hK rest (k+1) _ _ w g d
   split at h
   .rename_i t x u
    split at h
    case h_2=>exact h.elim
    rename_i ad A
    split at h
    case h_2=>exact h.elim
    rename_i v d
    refine oG k v j p hg (fun F R q f=>?_) b (next _ v h)
    unfold c7
    simp only[u,A,q.fV d]
    exact f
   .rename_i x args argTypes u
    split at h
    case h_2=>exact h.elim
    rename_i fn first captured B
    obtain ⟨C,v,D,h⟩:=h
    refine oG k v j p hg (fun F R q f=>?_) b (next _ v h)
    unfold c7
    simp only[u,B]
    exact ⟨C,(D F q).mono fun G F' E=>by obtain ⟨rfl,rfl⟩:=E;exact f⟩
   .split at h
    case h_2=>exact h.elim
    rename_i v d
    exact oG k v j p hg (fun F R q f=>s8 d f) b (next _ v h)
  .exact h.elim
def e9 (P:Program)(J:Goroutine->af->Prop)(ops:Array Oper)(F0:af)(Q:Act->af->Prop):List Oper->Bool->Act->af->Prop
 |[],_,a,F=>Q a F
 |o::rest,_,a,F=>match cT ops o a with
  |some true=>c7 P J o (fun v F'=>Knows F0 F'/\e9 P J ops F0 Q rest (!Oper.calls o) (bB a o.dst v) F') a F
  |_=>False
theorem FM {P:Program}{J:Goroutine->af->Prop}{ops:Array Oper}{F0:af}{Q:Act->af->Prop}{go:Bool}{a:Act}{F:af}:e9 P J ops F0 Q [] go a F=Q a F:=rfl
theorem FN {P:Program}{J:Goroutine->af->Prop}{ops:Array Oper}{F0:af}{Q:Act->af->Prop}{o:Oper}{rest:List Oper}{a:Act}{F:af}:e9 P J ops F0 Q (o::rest) true a F=match cT ops o a with
  |some true=>c7 P J o (fun v F'=>Knows F0 F'/\e9 P J ops F0 Q rest (!Oper.calls o) (bB a o.dst v) F') a F
  |_=>False:=(Eq.refl _).trans (Eq.refl _)
theorem l6 {P:Program}{J:Goroutine->af->Prop}{ops:Array Oper}{F0:af}{Q:Act->af->Prop}:∀{l:List Oper} {go:Bool} {a:Act} {F:af},e9 P J ops F0 Q l true a F->e9 P J ops F0 Q l go a F
 |[],_,_,_,h=>h
 |_::_,_,_,_,h=>h
theorem m9 (m:Nat)(i:∀j,j<ops.size - m->Region.ready .any ops (dr ops.size (m+j))=[m+j])(n:Region.ready .any ops (dr ops.size ops.size)=[]):
  ∀(l:List Oper) (k:Nat) (go:Bool) (a:Act) (F:af),m<=k->k<=ops.size->ops.toList.drop k=l->e9 P J ops F0 Q l go a F->er P J ops Q (Knows F0) (ops.size - k) (dr ops.size k) a F
 |[],k,_,a,F,q,s,f,h=>by
  have:k=ops.size:=by
   have:=congrArg List.length f
   simp at this
   omega
  subst this
  exact Ax n h _
 |o::rest,k,_,a,F,q,s,f,h=>by
  have u:k<ops.size:=by
   rcases Nat.lt_or_ge k ops.size with x|x
   .exact x
   .rw[List.drop_eq_nil_of_le (by simpa using x)] at f;cases f
  have w:ops[k]?=some o:=by
   have:=congrArg List.head? f
   simpa [List.head?_drop] using this
  have y:ops.toList.drop (k+1)=rest:=by
   have:=congrArg List.tail f
   simpa [List.tail_drop] using this
  have e:ops.size - k=(ops.size - (k+1))+1:=aa
  have hc:=i (k - m) aa
  rw[show m+(k - m)=k by omega] at hc
  rw[e]
  unfold e9 at h
  split at h
  .rename_i hg
   refine A0 k w hc hg ?_
   refine td ?_ h
   rintro v F' ⟨z,g⟩
   refine ⟨z,?_⟩
   rw[s9 u]
   exact m9 m i n rest (k+1) _ _ F' aa aa y g
  .exact h.elim
where
 td {o:Oper} {a:Act} {F:af} {R p:Value->af->Prop} (d:∀v F,R v F->p v F) (h:c7 P J o R a F):c7 P J o p a F:=by
  obtain ⟨dst,op,type,pos,after,guard⟩:=o
  unfold c7 at h ⊢
  cases op<;>simp only at h ⊢<;>first
   |exact h.elim
   |exact d _ _ h
   |exact fun b hb=>d _ _ (h b hb)
   |exact iC (fun v F h=>d v F h) _ _ h
   |(split at h<;>first
     |exact h.elim
     |exact d _ _ h
     |exact fun b hb=>d _ _ (h b hb)
     |(split at h<;>first|exact h.elim|exact d _ _ h|exact fun b hb=>d _ _ (h b hb)))
   |skip
  case slice t x lo hi A=>
   cases A with
   |some m=>exact h.elim
   |none=>
    refine ⟨h.1,?_⟩
    have g:=h.2
    revert g
    cases m0 P t (ev a x) (lo.map (ev a)) (hi.map (ev a)) with
    |some v=>exact fun x=>d _ _ x
    |none=>exact fun x=>x
  case call c=>
   obtain ⟨callee,args,argTypes⟩:=c
   cases callee with
   |value x=>
    exact hO.mono h d
   |invoke r m=>exact h.elim
   |builtin b=>
    cases b<;>simp only at h ⊢<;>first
     |exact h.elim
     |(split at h<;>first|exact h.elim|exact fun ty=>iC (fun v F ⟨F0,hle,h⟩=>⟨F0,hle,d _ _ h⟩) _ _ (h ty))
     |exact iC (fun v F h=>d v F h) _ _ h
     |(split at h<;>first|exact h.elim|(split at h<;>first|exact h.elim|exact d _ _ h|exact iC (fun v F h=>d v F h) _ _ h))
theorem eJ {Q:Ex->Act->af->Prop}(hJ:Closed P main J)(e:P.follows .mixedOrders=true)(m:Nat){id:Nat}{a:Act}{F:af}(F0:af)(f:Knows F0 F)(g:oI ops m=true)
  (h:eI P J ops F0 (fun b=>e9 P J ops F0 (Q .normal) (ops.toList.drop m) true b F) (ops.toList.take m) true a):Wp J (.region id ops true) Q a F:=by
 have c:=A4 g
 simp only[qG,Bool.and_eq_true,decide_eq_true_eq,List.all_eq_true,List.mem_range] at c
 obtain ⟨⟨⟨⟨j,d⟩,k⟩,l⟩,n⟩:=c
 refine vZ hJ (Knows F0) e ?_
 rw[<-A5]
 have:=tc (P:=P) (J:=J) (Q:=Q .normal) m d j (fun i hi=>by have:=k i hi;simpa using this) f (fun b o=>m9 m l n _ m _ b F (Nat.le_refl _) d rfl o) _ 0 true a au (Nat.zero_le _) h
 simpa using this
theorem bL (hJ:Closed P main J){F0:af}{f:FuncId}{args:Array Value}{v:Value}(h:∀F,Knows F0 F->aD P f args F.cN (fun a _=>a=v)):Plain P J F0 f args v:=
 fun F b=>v8 (h F b) main J hJ
end
attribute [irreducible] eI e9
attribute [go_sem] jB FI jD FK FL FM FN sP List.take_succ_cons List.take_zero List.drop_succ_cons List.drop_zero Array.zipIdx_toArray List.zipIdx_cons List.zipIdx_nil List.foldl_toArray List.foldl_toArray' decide_eq_true_eq Bool.and_false Bool.false_and Bool.and_self Bool.true_and Bool.and_true List.foldl_cons List.foldl_nil decide_false decide_true Bool.or_false Bool.false_or Bool.or_self Bool.or_true Bool.true_or gt_iff_lt Nat.reduceGT Nat.lt_irrefl Bool.false_eq_true Nat.zero_add Nat.add_zero Nat.not_lt_zero
section
variable {P:Program}{main:Bool}{J:Goroutine->af->Prop}{Q:Ex->Act->af->Prop}{a:Act}{F:af}
theorem bf (hJ:Closed P main J){f:FuncId}{args:Array Value}{F:af}{K:Value->af->Prop}(v:Value)(h:aD P f args F.cN (fun a _=>a=v))(b:K v F):dn P J f args F K:=
 (v8 h main J hJ).mono fun a F' c=>by obtain ⟨rfl,rfl⟩:=c;exact b
theorem eC (hJ:Closed P main J){c:Operand}{x y:Code}(hc:ev a c= .bool true)(h:Wp J x Q a F):Wp J (.cond c x y) Q a F:=vW hJ true hc h
theorem eu (hJ:Closed P main J){c:Operand}{x y:Code}(hc:ev a c= .bool false)(h:Wp J y Q a F):Wp J (.cond c x y) Q a F:=vW hJ false hc h
theorem FO (hJ:Closed P main J){c:Operand}{x y:Code}(b:Bool)(hc:ev a c= .bool b)(d:b=true->Wp J x Q a F)(e:b=false->Wp J y Q a F):Wp J (.cond c x y) Q a F:=by
 refine vW hJ b hc ?_;cases b
 .exact e rfl
 .exact d rfl
theorem cO (hJ:Closed P main J){c:Code}{F':af}(hle:Le F F')(h:Wp J c Q a F):Wp J c Q a F':=h.le (hJ:=hJ) hle
theorem Le.sub {ro:Addr->Option Value}{l l':List (Nat×Obj)}(h:l.Sublist l'):Le ⟨ro,l⟩ ⟨ro,l'⟩:=by
 have c:(keys l).Sublist (keys l'):=h.map _;exact ⟨fun w hw=>⟨hw.ro,fun b o hb=>hw.own b o (h.subset hb),c.nodup hw.nodup,fun a v d hm=>hw.apart a v d (c.subset hm)⟩,fun b hb=>c.subset hb,fun a e=>.inl e⟩
theorem wN (hJ:Closed P main J){c:Code}(I:Nat->Act->af->Prop)(n:Nat)(b:I n a F)(hs:∀n a F,I n a F->Wp J c (sP (fun m a F=>∃F0,Le F0 F/\I m a F0) n Q) a F):Wp J (.loop c) Q a F:=
 AA hJ (fun m a F=>∃F0,Le F0 F/\I m a F0) n ⟨F,Le.refl F,b⟩ fun n a F ⟨F0,hle,d⟩=>cO hJ hle (hs n a F0 d)
end
def iE:List Nat->Nat->Bool
 |[],_=>false
 |w::ws,i=>i==w||iE ws i
abbrev In (ws:List Nat)(i:Nat):Prop:=iE ws i=true
structure c6 (ws:List Nat)(a a0:Act):Prop where
 size:sz a=sz a0
 defers:a.defers=a0.defers
 eK:∀i,¬In ws i->slot a i=slot a0 i
theorem c6.refl (ws:List Nat)(a:Act):c6 ws a a:=⟨rfl,rfl,fun _ _=>rfl⟩
theorem c6.trans {ws:List Nat}{a b c:Act}(h:c6 ws a b)(k:c6 ws b c):c6 ws a c:=⟨h.size.trans k.size,h.defers.trans k.defers,fun i hi=>(h.eK i hi).trans (k.eK i hi)⟩
theorem c6.sub {ws c:List Nat}{a b:Act}(hs:∀i,In ws i->In c i)(h:c6 ws a b):c6 c a b:=⟨h.size,h.defers,fun i hi=>h.eK i fun x=>hi (hs i x)⟩
theorem FP {ws:List Nat}{a:Act}:c6 ws a a=True:=eq_true (c6.refl ws a)
theorem FQ {ws:List Nat}{a a0:Act}{d:Nat}{v:Value}(h:iE ws d=true):c6 ws (bB a (some d) v) a0=c6 ws a a0:=by
 apply propext;constructor
 .intro k;refine ⟨by rw[<-k.size,AL],by rw[<-k.defers,AM],fun i hi=>?_⟩;rw[<-k.eK i hi,wh _ _ _ _ (fun e=>hi (by subst e;exact h))]
 .intro k;refine ⟨by rw[<-k.size,AL],by rw[<-k.defers,AM],fun i hi=>?_⟩;rw[<-k.eK i hi,wh _ _ _ _ (fun e=>hi (by subst e;exact h))]
def gN (ws a:List Nat):Bool:=ws.all fun w=>iE a w
theorem A6:∀{ws:List Nat} {i:Nat},iE ws i=true->i∈ws
 |[],_,h=>by cases h
 |w::ws,i,h=>by
  simp only[iE,Bool.or_eq_true,beq_iff_eq] at h
  rcases h with h|h
  .rw[h];exact List.mem_cons_self
  .exact List.mem_cons_of_mem _ (A6 h)
theorem c6.gN {ws c:List Nat}{a b:Act}(h:c6 ws a b)(hs:Sep.gN ws c=true):c6 c a b:=h.sub fun i hi=>by
 have:=A6 hi
 exact List.all_eq_true.1 hs i this
def rg:Nat->Nat->List Nat->List Nat
 |_,0,ws=>ws
 |a,n+1,ws=>a::rg (a+1) n ws
theorem A7:∀(n a i:Nat) (ws:List Nat),iE (rg a n ws) i=(decide (a<=i)&&decide (i<a+n)||iE ws i)
 |0,a,i,ws=>by
  show iE ws i=_
  cases h:(decide (a<=i)&&decide (i<a+0)) with
  |false=>rfl
  |true=>rw[Bool.and_eq_true,decide_eq_true_eq,decide_eq_true_eq] at h;omega
 |n+1,a,i,ws=>by
  show (i==a||iE (rg (a+1) n ws) i)=_
  rw[A7 n (a+1) i ws,<-Bool.or_assoc]
  congr 1
  rw[Bool.eq_iff_iff]
  simp only[Bool.or_eq_true,Bool.and_eq_true,decide_eq_true_eq,beq_iff_eq]
  omega
attribute [go_sem] A7 Nat.reduceLeDiff Nat.reduceLT Nat.reduceAdd
attribute [go_sem] iE FP FQ or_true true_or or_false false_or Nat.reduceBEq
section
variable {P:Program}{main:Bool}{J:Goroutine->af->Prop}{Q:Ex->Act->af->Prop}{a:Act}{F:af}
theorem cc (hJ:Closed P main J){c:Code}(ws:List Nat)(I:Nat->Act->af->Prop)(n:Nat)(h:I n a F)
  (hs:∀n b F',c6 ws b a->I n b F'->Wp J c (sP (fun m a2 d=>c6 ws a2 b/\∃F0,Le F0 d/\I m a2 F0) n Q) b F'):Wp J (.loop c) Q a F:=
 AA hJ (fun m a2 d=>c6 ws a2 a/\∃F0,Le F0 d/\I m a2 F0) n ⟨.refl ws a,F,Le.refl F,h⟩ fun n b F' ⟨g,F0,hle,j⟩=>
  cO hJ hle ((hs n b F0 g j).mono fun e a2 d f=>by
   cases e with
   |normal=>obtain ⟨m,hm,k,l⟩:=f;exact ⟨m,hm,k.trans g,l⟩
   |exit i=>exact f
   |ret=>exact f)
end
def Ext (ro aW:Addr->Option Value):Prop:=∀a v,ro a=some v->aW a=some v
theorem Ext.refl (ro:Addr->Option Value):Ext ro ro:=fun _ _ h=>h
theorem Ext.trans {r s t:Addr->Option Value}(h:Ext r s)(k:Ext s t):Ext r t:=fun a v x=>k a v (h a v x)
def b7 (ro:Addr->Option Value)(b:Nat)(o:Obj):Addr->Option Value:=fun a=>match ro a with
 |some v=>some v
 |none=>if a.block=b/\a.spot=none then cellOf o a.off else none
theorem gO (ro:Addr->Option Value)(b:Nat)(o:Obj):Ext ro (b7 ro b o):=fun a v h=>by simp[b7,h]
theorem fF {ro:Addr->Option Value}{b off:Nat}{o:Obj}(h:∀off sp,ro ⟨b,off,sp⟩=none):b7 ro b o ⟨b,off,none⟩=cellOf o off:=by simp[b7,h]
theorem kU {ro:Addr->Option Value}{own d:List (Nat×Obj)}{b:Nat}{o:Obj}(g:lk own b=some o)(hs:d.Sublist own)(hb:av d b):Le ⟨b7 ro b o,d⟩ ⟨ro,own⟩:=by
 have f:(keys d).Sublist (keys own):=hs.map _;have hm:=iz g;have i:b∉keys d:=by
  clear g hs f hm
  induction d with
  |nil=>simp[keys]
  |cons x l ih=>
   simp only[keys,List.map_cons,List.mem_cons,not_or];exact ⟨hb.1,ih hb.2⟩
 refine ⟨fun w hw=>⟨fun a v h=>?_,fun c x hc=>hw.own c x (hs.subset hc),f.nodup hw.nodup,fun a v h hc=>?_⟩,fun c hc=>f.subset hc,fun a j=>?_⟩
 .replace h:b7 ro b o a=some v:=h;unfold b7 at h;split at h
  .rename_i x e;cases h;exact hw.ro _ _ e
  .split at h
   .rename_i hc;have:=hw.own b o hm;rw[<-hc.1] at this;cases o<;>simp only[cellOf,reduceCtorEq] at h;simp[World.cell?,this,hc.2,h]
   .cases h
 .replace h:b7 ro b o a=some v:=h;unfold b7 at h;split at h
  .rename_i x e;exact hw.apart a x e (f.subset hc)
  .split at h
   .rename_i k;rw[k.1] at hc;exact i hc
   .cases h
 .obtain ⟨v,h⟩:=Option.isSome_iff_exists.1 j;replace h:b7 ro b o a=some v:=h;unfold b7 at h;split at h
  .rename_i x e;exact .inl (by simp[e])
  .split at h
   .rename_i hc;exact .inr (by rw[hc.1];exact fD hm)
   .cases h
def e4 (P:Program)(f:FuncId)(args:Array Value)(ro:Addr->Option Value)(R:Value->(Addr->Option Value)->Prop):Prop:=
 aD P f args ⟨ro,[]⟩ (fun v G=>∃aW,Ext ro aW/\Le ⟨aW,[]⟩ G/\R v aW)
def nc (F G:af):Prop:=∀a,(G.ro a).isSome=true->a.block∉keys F.own
def wO (J:Goroutine->af->Prop)(F:af)(g:Goroutine)(G:af):Prop:=Fits F G->nc F G->J g (G.star F)
theorem A8 {P:Program}{main:Bool}{J:Goroutine->af->Prop}(hJ:Closed P main J)(F:af):Closed P main (wO J F) where
 mono {g G K} hle h c i:=by
  have n:=c.le hle
  have A:nc F G:=fun a d=>(hle.ro a d).elim (i a) (c.own _)
  refine hJ.mono ⟨fun w hw=>n.both (hle.has w (c.right hw)) (c.left hw),fun b hb=>?_,fun a d=>?_⟩ (h n A)
  .simp only[af.star,cH,List.mem_append] at hb ⊢
   exact hb.imp (hle.own b) id
  .rcases kQ d with x|x
   .exact (g9 (.inl x)).imp id (fun y=>by simp only[af.star,cH,List.mem_append];exact .inr y)
   .rcases hle.ro a x with y|y
    .exact (g9 (.inr y)).imp id (fun z=>by simp only[af.star,cH,List.mem_append];exact .inr z)
    .exact .inr (by simp only[af.star,cH,List.mem_append];exact .inl y)
 step {fr cs G} h c i:=by
  refine hJ.step fun w hw=>?_
  have B:=c.right hw
  have f:=c.left hw
  obtain ⟨g',w',es,k,hgo,hu,p,C,D⟩:=h w B
  have q:Has F w':=by
   refine ⟨fun a v l=>?_,fun b o hb=>?_,f.nodup,f.apart⟩
   .have s:=f.ro a v l
    have E:=f.iB (a:=a) (by simp[l])
    unfold World.cell? at s ⊢
    rw[hu.frame _ E (c.ro a (by simp[l]))]
    exact s
   .rw[hu.frame b (f.lt (fD hb)) (fun hm=>c.own b hm (fD hb))]
    exact f.own b o hb
  have t:Fits F k:=by
   refine ⟨⟨w',p,q⟩,fun b hb hm=>?_,fun a d hm=>?_⟩
   .rcases hu.own b hb with x|x
    .exact c.own b x hm
    .have:=f.lt hm;omega
   .rcases hu.own _ hm with x|x
    .exact c.ro a d x
    .have:=f.iB d;omega
  have H:nc F k:=fun a d hm=>by
   rcases hu.ro a d with x|x|x
   .exact i a x hm
   .exact c.own _ x hm
   .have:=f.lt hm;omega
  refine ⟨g',w',es,k.star F,hgo,⟨hu.os,hu.tape,hu.output,hu.size,fun b hb i=>hu.frame b hb fun hm=>i ?_,fun a d=>?_,fun b hb=>?_⟩,t.both p q,fun e he=>?_,D t H⟩
  .simp only[af.star,cH,List.mem_append];exact .inl hm
  .rcases kQ d with x|x
   .exact (g9 (.inl x)).imp id (fun y=>.inl (by simp only[af.star,cH,List.mem_append];exact .inr y))
   .rcases hu.ro a x with y|y|y
    .exact (g9 (.inr y)).imp id (fun z=>.inl (by simp only[af.star,cH,List.mem_append];exact .inr z))
    .exact .inr (.inl (by simp only[af.star,cH,List.mem_append];exact .inl y))
    .exact .inr (.inr y)
  .simp only[af.star,cH,List.mem_append] at hb ⊢
   rcases hb with hb|hb
   .exact (hu.own b hb).imp .inl id
   .exact .inl (.inr hb)
  .have u:∀b,iA G w.heap.size w'.heap.size b->iA (G.star F) w.heap.size w'.heap.size b:=fun b hb=>hb.imp (fun x=>by simp only[af.star,cH,List.mem_append];exact .inl x) id
   rcases C e he with ⟨a,wr,rfl,j|⟨I,j⟩⟩|⟨r,wr,rfl,j⟩|⟨m,rfl,hm⟩
   .exact .inl ⟨a,wr,rfl,.inl (u _ j)⟩
   .rcases g9 (F:=F) (.inr j) with y|y
    .exact .inl ⟨a,wr,rfl,.inr ⟨I,y⟩⟩
    .exact .inl ⟨a,wr,rfl,.inl (.inl (by simp only[af.star,cH,List.mem_append];exact .inr y))⟩
   .exact .inr (.inl ⟨r,wr,rfl,u _ j⟩)
   .exact .inr (.inr ⟨m,rfl,hm⟩)
section
variable {P:Program}{main:Bool}{J:Goroutine->af->Prop}
theorem wP (hJ:Closed P main J){f:FuncId}{args:Array Value}{ro:Addr->Option Value}{own:List (Nat×Obj)}{K:Value->af->Prop}(R:Value->(Addr->Option Value)->Prop)(h:e4 P f args ro R)
  (r:∀v aW,Ext ro aW->(∀b∈keys own,∀off sp,aW ⟨b,off,sp⟩=none)->R v aW->K v ⟨aW,own⟩):dn P J f args ⟨ro,own⟩ K:=by
 intro c cs hK
 by_cases hw:∃w,Has ⟨ro,own⟩ w
 .obtain ⟨i,j⟩:=hw
  let F:af:=⟨fun _=>none,own⟩
  have m:∀w,Has ⟨ro,own⟩ w->Has F w:=fun w hw=>⟨fun a v h=>(by cases h),hw.own,hw.nodup,fun a v h=>(by cases h)⟩
  have n:∀w,Has ⟨ro,own⟩ w->Has ⟨ro,[]⟩ w:=fun w hw=>⟨hw.ro,fun b o hb=>(by cases hb),List.nodup_nil,fun a v e hm=>(by cases hm)⟩
  have p:Fits F ⟨ro,[]⟩:=⟨⟨i,n i j,m i j⟩,fun b hb=>(by cases hb),fun a d hm=>(by cases hm)⟩
  have s:nc F ⟨ro,[]⟩:=fun a d hm=>by
   obtain ⟨v,t⟩:=Option.isSome_iff_exists.1 d
   exact j.apart a v t hm
  have u:wO J F (G (Frame.enter P f args .normal) (c::cs)) ⟨ro,[]⟩:=by
   refine h main _ (A8 hJ F) c cs fun v G k l y=>?_
   obtain ⟨aW,A,hle,k⟩:=k
   have q:∀a,(aW a).isSome=true->a.block∉keys own:=fun a d=>(hle.ro a d).elim (y a) (l.own _)
   refine hJ.mono (F:=⟨aW,own⟩) ⟨fun w hw=>?_,fun b hb=>?_,fun a d=>?_⟩ (hK v ⟨aW,own⟩ (r v aW A (fun b hb off sp=>?_) k))
   .have B:=hle.has w (l.right hw)
    have g:=l.left hw
    exact ⟨B.ro,g.own,g.nodup,fun a v e=>q a (by simp only at e;simp[e])⟩
   .simp only[af.star,cH,List.mem_append];exact .inr hb
   .rcases hle.ro a d with x|x
    .exact (g9 (.inr x)).imp id (fun z=>by simp only[af.star,cH,List.mem_append];exact .inr z)
    .exact .inr (by simp only[af.star,cH,List.mem_append];exact .inl x)
   .cases e:aW ⟨b,off,sp⟩ with
    |none=>rfl
    |some v=>exact absurd hb (q ⟨b,off,sp⟩ (by simp[e]))
  refine hJ.mono ⟨fun w hw=>p.both (n w hw) (m w hw),fun b hb=>?_,fun a d=>?_⟩ (u p s)
  .simpa [af.star,F] using hb
  .rcases kQ d with x|x
   .cases x
   .exact .inl x
 .exact hJ.step fun w g=>absurd ⟨w,g⟩ hw
end
attribute [go_sem] beq_self_eq_true beq_iff_eq beq_true beq_false Int.toNat_natCast Int.natCast_nonneg Int.ofNat_lt Nat.zero_mul Nat.mul_one List.length_map Bool.not_eq_true Bool.not_not decide_not
inductive Fl (σ ρ:Type) where
 |nx (s:σ)
 |bk (s:σ)
 |br (k:Nat) (s:σ)
 |rt (r:ρ)
def ai {α β:Type}(x:Option α)(f:α->Option β):Option β:=match x with
 |some a=>f a
 |none=>none
theorem gy {α β:Type}{x:Option α}{f:α->Option β}{r:β}(h:ai x f=some r):∃a,x=some a/\f a=some r:=by
 cases x with
 |none=>cases h
 |some a=>exact ⟨a,rfl,h⟩
theorem jE {α:Type}{b:Bool}{x y:Option α}{r:α}(h:cond b x y=some r):(b=true/\x=some r)\/(b=false/\y=some r):=by
 cases b
 .exact .inr ⟨rfl,h⟩
 .exact .inl ⟨rfl,h⟩
def aJ {σ ρ τ:Type}(o:Fl σ ρ)(f:σ->Option τ)(g:Nat->σ->Option τ)(h:ρ->Option τ):Option τ:=match o with
 | .nx s=>f s
 | .bk s=>f s
 | .br k s=>g k s
 | .rt r=>h r
def bp {σ ρ:Type}(f:σ->Option (Fl σ ρ)):Nat->σ->Option (Fl σ ρ)
 |0,_=>none
 |n+1,s=>ai (f s) fun o=>match o with
  | .nx s'=>bp f n s'
  | .bk s'=>some (.nx s')
  | .br k s'=>some (.br k s')
  | .rt r=>some (.rt r)
def bR {α σ ρ:Type}(f:Nat->α->σ->Option (Fl σ ρ)):Nat->List α->σ->Option (Fl σ ρ)
 |_,[],s=>some (.nx s)
 |i,x::l,s=>ai (f i x s) fun o=>match o with
  | .nx s'=>bR f (i+1) l s'
  | .bk s'=>some (.nx s')
  | .br k s'=>some (.br k s')
  | .rt r=>some (.rt r)
def fu:Nat:=1000000000000000000
def bD {α:Type}(l:List α)(i:Int):Option α:=if 0<=i then l[i.toNat]? else none
theorem cP {α:Type}{l:List α}{i:Int}{x:α}(h:bD l i=some x):0<=i/\i<l.length/\l[i.toNat]?=some x:=by
 unfold bD at h;split at h
 .rename_i a;obtain ⟨hi,_⟩:=List.getElem?_eq_some_iff.1 h;exact ⟨a,aa,h⟩
 .cases h
def de {α:Type}(l xs:List α):Option (List α):=if l.length+xs.length<=1000000 then some (l++xs) else none
theorem dQ {α:Type}{l xs r:List α}(h:de l xs=some r):l.length+xs.length<=1000000/\r=l++xs:=by
 unfold de at h;split at h
 .rename_i a;cases h;exact ⟨a,rfl⟩
 .cases h
def iF {α:Type}(l:List α)(lo hi:Int):Option (List α):=if 0<=lo/\lo<=hi/\hi<=l.length then some ((l.take hi.toNat).drop lo.toNat) else none
theorem qJ {α:Type}{l r:List α}{lo hi:Int}(h:iF l lo hi=some r):0<=lo/\lo<=hi/\hi<=l.length/\r=(l.take hi.toNat).drop lo.toNat:=by
 unfold iF at h;split at h
 .rename_i a;cases h;exact ⟨a.1,a.2.1,a.2.2,rfl⟩
 .cases h
def gu (a b:Int):Option Int:=if b=0 then none else some (IntKind.i64.wrap (a.tdiv b))
theorem kV {a b r:Int}(h:gu a b=some r):¬b=0/\IntKind.i64.wrap (a.tdiv b)=r:=by
 unfold gu at h;split at h
 .cases h
 .rename_i c;cases h;exact ⟨c,rfl⟩
def iZ (a b:Int):Option Int:=if b=0 then none else some (a.tmod b)
theorem qK {a b r:Int}(h:iZ a b=some r):¬b=0/\a.tmod b=r:=by
 unfold iZ at h;split at h
 .cases h
 .rename_i c;cases h;exact ⟨c,rfl⟩
def tf (a b:Int):Option Int:=if b<0 then none else some (IntKind.i64.wrap (a*2 ^ min b.toNat 64))
theorem FR {a b r:Int}(h:tf a b=some r):¬b<0/\IntKind.i64.wrap (a*2 ^ min b.toNat 64)=r:=by
 unfold tf at h;split at h
 .cases h
 .rename_i c;cases h;exact ⟨c,rfl⟩
def wQ (a b:Int):Option Int:=if b<0 then none else some (a.fdiv (2 ^ min b.toNat 64))
theorem FT {a b r:Int}(h:wQ a b=some r):¬b<0/\a.fdiv (2 ^ min b.toNat 64)=r:=by
 unfold wQ at h;split at h
 .cases h
 .rename_i c;cases h;exact ⟨c,rfl⟩
def A9 (a b:Int):Int:=IntKind.i64.wrap (BitVec.ofInt 64 a&&& BitVec.ofInt 64 b).toNat
theorem FU (a b:Int):IntKind.i64.wrap (BitVec.ofInt IntKind.i64.bits a&&& BitVec.ofInt IntKind.i64.bits b).toNat=A9 a b:=rfl
attribute [go_sem ↓] FU
def FV (a b:Int):Int:=IntKind.u8.wrap (BitVec.ofInt 8 a&&& BitVec.ofInt 8 b).toNat
theorem FW (a b:Int):IntKind.u8.wrap (BitVec.ofInt IntKind.u8.bits a&&& BitVec.ofInt IntKind.u8.bits b).toNat=FV a b:=rfl
attribute [go_sem ↓] FW
def qL (a b:Int):Option Int:=if b<0 then none else some (IntKind.u64.wrap (a*2 ^ min b.toNat IntKind.u64.bits))
theorem wR {a b r:Int}(h:qL a b=some r):¬b<0/\IntKind.u64.wrap (a*2 ^ min b.toNat IntKind.u64.bits)=r:=by
 unfold qL at h;split at h
 .cases h
 .rename_i c;cases h;exact ⟨c,rfl⟩
def wS (a b:Int):Option Int:=if b<0 then none else some (a.fdiv (2 ^ min b.toNat IntKind.u64.bits))
theorem FX {a b r:Int}(h:wS a b=some r):¬b<0/\a.fdiv (2 ^ min b.toNat IntKind.u64.bits)=r:=by
 unfold wS at h;split at h
 .cases h
 .rename_i c;cases h;exact ⟨c,rfl⟩
def ja (a b:Int):Int:=IntKind.u64.wrap (BitVec.ofInt 64 a&&& BitVec.ofInt 64 b).toNat
theorem FY (a b:Int):IntKind.u64.wrap (BitVec.ofInt IntKind.u64.bits a&&& BitVec.ofInt IntKind.u64.bits b).toNat=ja a b:=rfl
def iG (a b:Int):Int:=IntKind.u64.wrap (BitVec.ofInt 64 a ^^^ BitVec.ofInt 64 b).toNat
theorem FZ (a b:Int):IntKind.u64.wrap (BitVec.ofInt IntKind.u64.bits a ^^^ BitVec.ofInt IntKind.u64.bits b).toNat=iG a b:=rfl
attribute [go_sem ↓] FY FZ
theorem cK {n:Nat}(h:n<1000000000000000):IntKind.i64.wrap ((n:Int)+1)=((n+1:Nat):Int):=by
 simp only[IntKind.wrap,IntKind.bits,IntKind.signed];simp;omega
theorem dK {α:Type}{l:List α}{i:Nat}{x:α}(h:l[i]?=some x):l.drop i=x::l.drop (i+1):=by
 obtain ⟨hi,rfl⟩:=List.getElem?_eq_some_iff.1 h;exact List.drop_eq_getElem_cons hi
theorem cast_zero:((0:Nat):Int)=0:=rfl
attribute [go_sem] cast_zero
theorem F1 (l:List Value)(i j:Nat):(l.toArray).extract i j=((l.drop i).take (j - i)).toArray:=by
 apply Array.ext';simp[List.extract_eq_drop_take]
attribute [go_sem] F1
structure cu (T:Type) where
 n:Nat
 rel:(Addr->Option Value)->T->List Value->Prop
 mono:∀{ro aW:Addr->Option Value} {x:T} {cs:List Value},Ext ro aW->rel ro x cs->rel aW x cs
 len:∀{ro:Addr->Option Value} {x:T} {cs:List Value},rel ro x cs->cs.length=n
 one:∀{ro:Addr->Option Value} {x:T} {cs:List Value},rel ro x cs->∀v∈cs,bP v=true
def gP {T:Type}(n:Nat)(c:T->List Value)(h:∀x,(c x).length=n)(a:∀x,∀v∈c x,bP v=true):cu T:=
 ⟨n,fun _ x cs=>cs=c x,fun _ h=>h,fun e=>by rw[e];exact h _,fun e=>by rw[e];exact a _⟩
def rI:cu Int:=gP 1 (fun n=>[.int .i64 n]) (fun _=>rfl) (fun _ v a=>by simp at a;subst a;rfl)
def rB:cu Bool:=gP 1 (fun n=>[.bool n]) (fun _=>rfl) (fun _ v a=>by simp at a;subst a;rfl)
def aH {T:Type}(r:cu T)(ro:Addr->Option Value)(s:Value)(l:List T):Prop:=
 ∃ad cap,s= .slice ad l.length cap/\l.length<=cap/\l.length<=1000000000000000/\∀i x,l[i]?=some x->∃p cs,ad=some p/\r.rel ro x cs/\∀j v,cs[j]?=some v->ro ((p.add (i*r.n)).add j)=some v
theorem aH.mono {T:Type}{r:cu T}{ro aW:Addr->Option Value}{s:Value}{l:List T}(h:aH r ro s l)(a:Ext ro aW):aH r aW s l:=by
 obtain ⟨ad,cap,b,c,d,e⟩:=h;refine ⟨ad,cap,b,c,d,fun i x hi=>?_⟩;obtain ⟨p,cs,f,hc,hm⟩:=e i x hi;exact ⟨p,cs,f,r.mono a hc,fun j v g=>a _ _ (hm j v g)⟩
theorem aH.nil {T:Type}(r:cu T)(ro:Addr->Option Value):aH r ro (.slice none 0 0) []:=⟨none,0,rfl,Nat.le_refl _,au,fun i x h=>by simp at h⟩
def rL {T:Type}(r:cu T):cu (List T):=
 ⟨1,fun ro l cs=>∃s,cs=[s]/\aH r ro s l,fun d ⟨s,a,b⟩=>⟨s,a,b.mono d⟩,fun ⟨s,a,_⟩=>by rw[a];rfl,fun ⟨s,a,ad,cap,b,_⟩ v c=>by rw[a] at c;simp at c;subst c;rw[b];rfl⟩
theorem aH.part {T:Type}{r:cu T}{ro:Addr->Option Value}{ad:Option Addr}{cap:Nat}{l:List T}(h:aH r ro (.slice ad l.length cap) l)(lo hi:Nat)(f:lo<=hi)(g:hi<=l.length):
  aH r ro (.slice (if cap=lo then ad else ad.map (·.add (lo*r.n))) (hi - lo) (cap - lo)) ((l.take hi).drop lo):=by
 obtain ⟨k,m,e,o,q,b⟩:=h
 cases e
 have hlen:((l.take hi).drop lo).length=hi - lo:=by simp;omega
 refine ⟨_,cap - lo,by rw[hlen],by rw[hlen];omega,by rw[hlen];omega,fun i x a=>?_⟩
 rw[List.getElem?_drop,List.getElem?_take] at a
 split at a
 case isFalse=>cases a
 obtain ⟨p,cs,c,hc,hm⟩:=b _ x a
 have s:lo+i<l.length:=(List.getElem?_eq_some_iff.1 a).1
 refine ⟨p.add (lo*r.n),cs,?_,hc,fun j v d=>?_⟩
 .have aL:¬cap=lo:=aa
  rw[if_neg aL,c];rfl
 .have:=hm j v d
  rw[lZ] at this
  rw[lZ,lZ]
  rw[show lo*r.n+(i*r.n+j)=(lo+i)*r.n+j by rw[Nat.add_mul];omega]
  exact this
def Apart (ks:List Nat)(bx:List (Nat×Obj)):Prop:=∀k∈keys bx,k∉ks
theorem Apart.nil (ks:List Nat):Apart ks []:=fun k h=>(by cases h)
theorem l7:∀{l:List (Nat×Obj)} {b:Nat},av l b->b∉keys l
 |[],_,_=>by simp[keys]
 |(c,o)::l,b,h=>by simp only[keys,List.map_cons,List.mem_cons,not_or];exact ⟨h.1,l7 h.2⟩
theorem ng:∀{l:List (Nat×Obj)} {b:Nat},b∉keys l->av l b
 |[],_,_=>trivial
 |(c,o)::l,b,h=>by simp only[keys,List.map_cons,List.mem_cons,not_or] at h;exact ⟨h.1,ng h.2⟩
theorem Apart.push {ks:List Nat}{bx:List (Nat×Obj)}{b:Nat}(h:Apart ks bx)(hb:av bx b):Apart (b::ks) bx:=fun k a=>by
 simp only[List.mem_cons,not_or]
 exact ⟨fun e=>l7 hb (e▸a),h k a⟩
theorem Apart.drop {ks:List Nat}{bx:List (Nat×Obj)}{b:Nat}(h:Apart (b::ks) bx):Apart ks bx:=fun k a=>(by have:=h k a;simp only[List.mem_cons,not_or] at this;exact this.2)
def bg {T:Type}(r:cu T)(ro:Addr->Option Value)(e:TypeId)(v:Value)(l:List T)(bx:List (Nat×Obj)):Prop:=
 ∃ls:List (List Value),Gr ro e r.n v ls bx/\ls.length=l.length/\l.length<=1000000/\∀(i:Nat) (x:T),l[i]?=some x->∃cs:List Value,ls[i]?=some cs/\r.rel ro x cs
theorem bg.nil {T:Type}(r:cu T)(ro:Addr->Option Value)(e:TypeId):bg r ro e (.slice none 0 0) [] []:=⟨[],.inl ⟨rfl,rfl,rfl⟩,rfl,au,fun i x h=>by simp at h⟩
theorem bg.len {T:Type}{r:cu T}{ro:Addr->Option Value}{e:TypeId}{v:Value}{l:List T}{bx:List (Nat×Obj)}(h:bg r ro e v l bx):∃ad cap,v= .slice ad l.length cap/\l.length<=cap:=by
 obtain ⟨ls,hg,a,-⟩:=h;rcases hg with ⟨rfl,rfl,rfl⟩|⟨b,arr,cap,rfl,rfl,hs,hle,-⟩
 .exact ⟨none,0,by rw[<-a];rfl,by rw[<-a];exact Nat.le_refl _⟩
 .exact ⟨_,cap,by rw[a],aa⟩
def aK (ro:Addr->Option Value)(own:List (Nat×Obj)):Prop:=∀b∈keys own,∀off sp,ro ⟨b,off,sp⟩=none
theorem bg.mono {T:Type}{r:cu T}{ro aW:Addr->Option Value}{e:TypeId}{v:Value}{l:List T}{bx:List (Nat×Obj)}(h:bg r ro e v l bx)(d:Ext ro aW)(f:aK aW bx):bg r aW e v l bx:=by
 obtain ⟨ls,hg,g,hm,j⟩:=h;refine ⟨ls,?_,g,hm,fun i x hi=>?_⟩
 .rcases hg with h|⟨b,arr,cap,c,a,k,m,n,o,p⟩
  .exact .inl h
  .exact .inr ⟨b,arr,cap,c,a,k,m,n,o,f b (by rw[a];simp[keys])⟩
 .obtain ⟨cs,c,a⟩:=j i x hi;exact ⟨cs,c,r.mono d a⟩
theorem Apart.fresh {pre bx:List (Nat×Obj)}{ks:List Nat}(h:Apart ks bx)(a:keys pre=ks):∀k∈keys bx,av pre k:=fun k b=>ng (by rw[a];exact h k b)
theorem qM {n:Nat}:∀(ls:List (List Value)) (i:Nat) (cs:List Value),(∀x∈ls,x.length=n)->ls[i]?=some cs->∀j v,cs[j]?=some v->ls.flatten[i*n+j]?=some v
 |[],i,cs,_,h,_,_,_=>by simp at h
 |y::ls,0,cs,b,h,j,v,a=>by
  simp at h;subst h
  have:j<y.length:=(List.getElem?_eq_some_iff.1 a).1
  simp only[Nat.zero_mul,Nat.zero_add,List.flatten_cons]
  rw[List.getElem?_append_left this]
  exact a
 |y::ls,i+1,cs,b,h,j,v,a=>by
  simp at h
  have ih:=qM ls i cs (fun x d=>b x (by simp[d])) h j v a
  have c:=b y au
  simp only[List.flatten_cons]
  rw[List.getElem?_append_right (by rw[c,Nat.add_mul];omega)]
  rw[show (i+1)*n+j - y.length=i*n+j by rw[c,Nat.add_mul];omega]
  exact ih
theorem bg.Ba {T:Type}{r:cu T}{ro:Addr->Option Value}{e:TypeId}{v:Value}{l:List T}{bx:List (Nat×Obj)}{ks:List Nat}(h:bg r ro e v l bx)(pre:List (Nat×Obj))(k:Apart ks bx)(m:keys pre=ks)(d:aK ro pre):
  ∃aW,Ext ro aW/\aK aW pre/\aH r aW v l/\Le ⟨aW,pre⟩ ⟨ro,pre++bx⟩:=by
 obtain ⟨ls,hg,f,hm,o⟩:=h
 rcases hg with ⟨rfl,rfl,rfl⟩|⟨b,arr,cap,rfl,rfl,hs,hle,ht,g,p⟩
 .have:l=[]:=List.eq_nil_of_length_eq_zero (by simpa using f.symm)
  subst this
  exact ⟨ro,Ext.refl ro,d,aH.nil r ro,by rw[List.append_nil];exact Le.refl _⟩
 .have hb:b∉keys pre:=by rw[m];exact k b (by simp[keys])
  refine ⟨b7 ro b (.cells arr e),gO _ _ _,fun c hc off sp=>?_,⟨some ⟨b,0,none⟩,cap,by rw[f],aa,aa,fun i x hi=>?_⟩,kU ?_ (List.sublist_append_left _ _) (ng hb)⟩
  .have aL:¬c=b:=fun e=>hb (e▸hc)
   simp[b7,d c hc,aL]
  .obtain ⟨cs,q,s⟩:=o i x hi
   refine ⟨_,cs,rfl,r.mono (gO _ _ _) s,fun j v t=>?_⟩
   have a:=qM ls i cs g q j v t
   rw[lZ,l5,Nat.zero_add,fF p]
   have u:i*r.n+j<ls.length*r.n:=by
    have:=(List.getElem?_eq_some_iff.1 a).1
    rw[iY g] at this
    exact this
   rw[<-ht,List.getElem?_take_of_lt u] at a
   simpa [cellOf] using a
  .have:∀(pre:List (Nat×Obj)),b∉keys pre->lk (pre++[(b,Obj.cells arr e)]) b=some (.cells arr e):=fun pre h=>wF (ng h)
   exact this pre hb
theorem bg.elem {T:Type}{r:cu T}{ro:Addr->Option Value}{e:TypeId}{v:Value}{l:List T}{bx:List (Nat×Obj)}(h:bg r ro e v l bx){i:Nat}{x:T}(hi:l[i]?=some x):
  ∃b arr cap cs,v= .slice (some ⟨b,0,none⟩) l.length cap/\bx=[(b,.cells arr e)]/\(∀off sp,ro ⟨b,off,sp⟩=none)/\r.rel ro x cs/\∀j v,cs[j]?=some v->arr[i*r.n+j]?=some v:=by
 obtain ⟨ls,hg,f,hm,g⟩:=h
 obtain ⟨cs,c,k⟩:=g i x hi
 rcases hg with ⟨rfl,rfl,rfl⟩|⟨b,arr,cap,rfl,rfl,hs,hle,ht,d,m⟩
 .simp at c
 .refine ⟨b,arr,cap,cs,by rw[f],rfl,m,k,fun j v o=>?_⟩
  have a:=qM ls i cs d c j v o
  have p:i*r.n+j<ls.length*r.n:=by
   have:=(List.getElem?_eq_some_iff.1 a).1
   rw[iY d] at this
   exact this
  rw[<-ht,List.getElem?_take_of_lt p] at a
  simpa using a
theorem bn {ro:Addr->Option Value}{own:List (Nat×Obj)}:Ext ro (af.cN ⟨ro,own⟩).ro:=fun a v h=>by simp[af.cN,af.get,h]
theorem cm {ro:Addr->Option Value}{own:List (Nat×Obj)}{F:af}(h:Knows ⟨ro,own⟩ F):Ext ro F.cN.ro:=fun a v b=>by
 have:F.ro a=some v:=h.1 a v b
 simp[af.cN,af.get,this]
theorem aH.qN {T:Type}{r:cu T}{ro:Addr->Option Value}{ad:Option Addr}{cap:Nat}{l x:List T}(h:aH r ro (.slice ad l.length cap) l)(lo hi:Nat)(b:lo<=hi)(c:hi<=l.length)(d:x=(l.take hi).drop lo):
  ∃a,(if cap=lo then ad else ad.map (·.add (lo*r.n)))=a/\hi - lo=x.length/\aH r ro (.slice a x.length (cap - lo)) x:=by
 subst d
 have hlen:((l.take hi).drop lo).length=hi - lo:=by simp;omega
 refine ⟨_,rfl,hlen.symm,?_⟩
 rw[hlen]
 exact h.part lo hi b c
theorem aH.one {T:Type}{r:cu T}{ro:Addr->Option Value}{own:List (Nat×Obj)}{b:Nat}{x:T}{cs:Array Value}{e:TypeId}(a:∀off sp,ro ⟨b,off,sp⟩=none)(d:lk own b=some (.cells cs e))(h:r.rel ro x cs.toList):
  aH r (b7 ro b (.cells cs e)) (.slice (some ⟨b,0,none⟩) 1 1) [x]:=by
 refine ⟨some ⟨b,0,none⟩,1,rfl,Nat.le_refl _,au,fun i y hi=>?_⟩
 have:i=0/\y=x:=by
  cases i with
  |zero=>simp at hi;exact ⟨rfl,hi.symm⟩
  |succ i=>simp at hi
 obtain ⟨rfl,rfl⟩:=this
 refine ⟨_,_,rfl,r.mono (gO _ _ _) h,fun j v c=>?_⟩
 rw[Nat.zero_mul,add_zero',l5,Nat.zero_add,fF a]
 simpa [cellOf] using c
theorem aH.flat {T:Type}{r:cu T}{ro:Addr->Option Value}{b:Nat}{cs:Array Value}{e:TypeId}(c:T->List Value)(l:List T)(hc:∀x,r.rel ro x (c x))(a:∀off sp,ro ⟨b,off,sp⟩=none)(d:cs.toList=(l.map c).flatten)(hlen:l.length<=1000000000000000):
  aH r (b7 ro b (.cells cs e)) (.slice (some ⟨b,0,none⟩) l.length l.length) l:=by
 refine ⟨some ⟨b,0,none⟩,l.length,rfl,Nat.le_refl _,hlen,fun i x hi=>⟨_,c x,rfl,r.mono (gO _ _ _) (hc x),fun j v f=>?_⟩⟩
 have g:(l.map c)[i]?=some (c x):=by rw[List.getElem?_map,hi];rfl
 have h:∀y∈l.map c,y.length=r.n:=fun y k=>by
  obtain ⟨z,_,rfl⟩:=List.mem_map.1 k
  exact r.len (hc z)
 have:=qM (l.map c) i (c x) h g j v f
 rw[l5,l5,Nat.zero_add,fF a]
 rw[<-d] at this
 simpa [cellOf] using this
theorem kW {ro:Addr->Option Value}{own:List (Nat×Obj)}{b:Nat}{o:Obj}(d:lk own b=some o):Ext (b7 ro b o) (af.cN ⟨ro,own⟩).ro:=fun a v h=>by
 unfold b7 at h
 simp only[af.cN,af.get]
 split at h
 .rename_i x c;rw[c];exact h
 .rename_i c
  split at h
  .rename_i hc
   rw[c]
   simp only
   rw[if_pos hc.2,hc.1,d]
   exact h
  .cases h
section
variable {P:Program}{main:Bool}{J:Goroutine->af->Prop}
theorem hU (hJ:Closed P main J){f:FuncId}{args:Array Value}{F F':af}{K:Value->af->Prop}(hle:Le F F')(h:dn P J f args F K):dn P J f args F' K:=fun c cs k=>hJ.mono hle (h c cs k)
end
theorem bg.bd {T:Type}{r:cu T}{ro:Addr->Option Value}{e:TypeId}{v:Value}{l:List T}{bx:List (Nat×Obj)}(h:bg r ro e v l bx):l.length<=1000000:=by
 obtain ⟨ls,_,_,hm,_⟩:=h;exact hm
theorem aD.Ba {P:Program}{f:FuncId}{args:Array Value}{ro:Addr->Option Value}{R:Value->Prop}(h:aD P f args ⟨ro,[]⟩ (fun v _=>R v)):aD P f args ⟨ro,[]⟩ (fun v G=>R v/\G=⟨ro,[]⟩):=by
 intro main J hJ c cs hK
 exact v8 (F:=⟨ro,[]⟩) (R:=R) (by
  have e:af.cN ⟨ro,[]⟩=⟨ro,[]⟩:=by
   simp only[af.cN,af.mk.injEq,and_true];funext a;simp only[af.get];cases ro a with
   |none=>simp[lk]
   |some v=>rfl
  rw[e];exact h) main J hJ c cs hK
end Go.Sep
end
section
namespace Go.Sep
open Go Go.Conc Go.ConcM
open Go.ConcN (sumTo upd sumTo_upd upd_ne upd_same)
def en (P:Program)(Φ:Goroutine->af->Prop)(g:Goroutine)(F:af):Prop:=
 ∀(bJ:Loc->Prop) (gs:Array Goroutine) (w:World) (sl:Option (Nat×Nat)) (t:Trace) (q:Nat->Nat),j3 P bJ g F gs w t q->
  ∃(N:Nat) (ck:Array Goroutine) (w':World) (c:Option (Nat×Nat)) (a:Trace) (d:Nat->Nat) (g':Goroutine) (F':af) (b:Loc->Prop),
   runNT P N (crowd gs w sl) t=(.next (crowd ck w' c),a)/\j3 P b g' F' ck w' a d/\fT F F' w w'/\(∀l,b l->bJ l\/¬l.low w.heap.size)/\Φ g' F'
theorem en.done {P:Program}{Φ:Goroutine->af->Prop}{g:Goroutine}{F:af}(h:Φ g F):en P Φ g F:=
 fun bJ gs w sl t q a=>⟨0,gs,w,sl,t,q,g,F,bJ,rfl,a,.refl _ _,fun _ h=>.inl h,h⟩
theorem qO (P:Program)(Φ:Goroutine->af->Prop):Closed P true (en P Φ) where
 mono hle h bJ gs w sl t q b:=by
  obtain ⟨N,ck,w',z,A,B,g',F',C,g,D,hu,E,H⟩:=h bJ gs w sl t q ⟨b.g0,b.lv,b.gq,hle.has w b.has,fun l hs I=>b.apart l hs (hle.g8 I),b.low⟩
  exact ⟨N,ck,w',z,A,B,g',F',C,g,D,hu.le hle,E,H⟩
 step {fr cs F} h bJ gs w sl t q b:=by
  obtain ⟨N,k,d,m,a3,n,t1,J,g,a4,p,r,K,L⟩:=sR (P:=P) (a:=G fr cs) rfl _ gs w sl t q (Nat.le_refl _) b.g0 b.lv b.gq
  obtain ⟨g',w',es,F',hgo,hu,M,O,hJ⟩:=h (w.at m) (b.has.at m)
  have c:eA F F' w w':=⟨hu.os,hu.tape,hu.output,hu.size,hu.frame,hu.ro,hu.own⟩
  have Q:=runT_crowd_go (P:=P) (sl:=n) (i:=0) p (show stepG P (0==0) (G fr cs) (w.at m)=_ from hgo)
  have R:0<k.size:=(Array.getElem?_eq_some_iff.1 p).1
  have s:=j3.next (P:=P) b.apart b.low c
  obtain ⟨S,T,w2,U,t2,V,W,X,Y,Z,ab,ad,ae,al⟩:=hJ bJ ((k.map (woken P (G fr cs) g' w')).setIfInBounds 0 g') w' n (t1++MemOp.ofEvents 0 (G fr cs).frame.fn (G fr cs).frame.place es) J
   {g0:=by simp[R]
    lv:=⟨fun j x f u=>by
     have aL:0≠j:=aa
     rw[Array.getElem?_setIfInBounds_ne aL,Array.getElem?_map] at u
     obtain ⟨y,ao,rfl⟩:=Option.map_eq_some_iff.1 u
     have v:=r.old j y f ao
     rw[woken_quitsD v,Deaf_other t1 aa _ (fun op o=>by obtain ⟨e,_,rfl⟩:=Go.Conc.mem_ofEvents o;rfl)]
     exact v,fun j f=>by
     rw[Deaf_other t1 (g':=0) (by simp at f;omega) _ (fun op o=>by obtain ⟨e,_,rfl⟩:=Go.Conc.mem_ofEvents o;rfl)]
     exact r.above j (by simpa using f)⟩
    gq:=(K.mono c.size).own fun e he=>AB b.has c.size b.apart b.low (O e he)
    has:=M
    apart:=s.1
    low:=s.2}
  refine ⟨N+1+S,T,w2,U,t2,V,W,X,Y,?_,ab,(fT.qt c).trans ad,fun l ar=>(ae l ar).imp id fun a0 a2=>a0 (Loc.low_mono c.size a2),al⟩
  have:runNT P (N+1) (crowd gs w sl) t=(.next (crowd ((k.map (woken P (G fr cs) g' w')).setIfInBounds 0 g') w' n),t1++MemOp.ofEvents 0 (G fr cs).frame.fn (G fr cs).frame.place es):=by
   rw[runNT_add,g]
   simp only[runNT,L,Q]
  rw[j4 this]
  exact Z
def gv (P:Program)(f:FuncId)(args:Array Value)(F:af)(R:Value->af->Prop):Prop:=∀Φ,dn P (en P Φ) f args F R
theorem Bb {P:Program}{f:FuncId}{args:Array Value}{ro:Addr->Option Value}{own:List (Nat×Obj)}{R:Value->af->Prop}(h:gv P f args ⟨ro,[]⟩ R):
  gv P f args ⟨ro,own⟩ (fun v F'=>∃G,R v G/\F'=G.star ⟨ro,own⟩/\Fits ⟨ro,own⟩ G/\nc ⟨ro,own⟩ G):=by
 intro Φ c cs hK bJ gs w sl t q d
 let Fr:af:=⟨ro,own⟩
 have H:j3 P bJ (G (Frame.enter P f args .normal) (c::cs)) ⟨ro,[]⟩ gs w t q:=
  ⟨d.g0,d.lv,d.gq,⟨d.has.ro,fun b o hb=>(by cases hb),List.nodup_nil,fun a v j hm=>(by cases hm)⟩,fun l hs i=>d.apart l hs (by
   cases l with
   |cell a=>exact i.elim (fun x=>by cases x) .inr
   |obj r=>cases i
   |_=>exact i),d.low⟩
 obtain ⟨N,ck,w',I,s,u,g',F',A,j,g,hu,n,v,rfl,p⟩:=h (fun g' F'=>∃v,g'=G (c.finish v) cs/\R v F') c cs (fun v F' p=>en.done ⟨v,rfl,p⟩) bJ gs w sl t q H
 have B:Has Fr w':=⟨fun a v j=>by
  have C:=d.has.ro a v j
  have J:=d.has.iB (a:=a) (by rw[j];rfl)
  unfold World.cell? at C ⊢
  rw[hu.frame _ J (fun hm=>by cases hm)]
  exact C,fun b o hb=>by
  rw[hu.frame b (d.has.lt (fD hb)) (fun hm=>by cases hm)]
  exact d.has.own b o hb,d.has.nodup,d.has.apart⟩
 have D:Fits Fr F':=⟨⟨w',g.has,B⟩,fun b hb hm=>by
  rcases hu.own b hb with x|x
  .cases x
  .have:=d.has.lt (b:=b) hm;omega,fun a k hm=>by
  rcases hu.own _ hm with x|x
  .cases x
  .have:=d.has.iB (a:=a) k;omega⟩
 have K:nc Fr F':=fun a k hm=>by
  rcases hu.ro a k with x|x|x
  .obtain ⟨y,L⟩:=Option.isSome_iff_exists.1 x
   exact d.has.apart a y L hm
  .cases x
  .have:=d.has.lt (b:=a.block) hm;omega
 have M:j3 P A (G (c.finish v) cs) (F'.star Fr) ck w' s u:=by
  refine ⟨g.g0,g.lv,g.gq,D.both g.has B,fun l hs i=>?_,g.low⟩
  have E:∀b,b∈keys own->(l= .obj b\/∃a,l= .cell a/\a.block=b)->False:=fun b hb m=>by
   rcases n l hs with x|x
   .refine d.apart l x ?_
    rcases m with rfl|⟨a,rfl,e⟩
    .exact hb
    .exact .inl (e▸hb)
   .refine x ?_
    have:=d.has.lt (b:=b) hb
    rcases m with rfl|⟨a,rfl,e⟩
    .exact this
    .show a.block<_;rw[e];exact this
  cases l with
  |cell a=>
   rcases i with x|x
   .simp only[af.star,cH,List.mem_append] at x
    rcases x with x|x
    .exact g.apart _ hs (.inl x)
    .exact E _ x (.inr ⟨a,rfl,rfl⟩)
   .rcases kQ x with y|y
    .rcases n _ hs with z|z
     .exact d.apart _ z (.inr y)
     .exact z (d.has.iB (a:=a) y)
    .exact g.apart _ hs (.inr y)
  |obj r=>
   simp only[af.g8,af.star,cH,List.mem_append] at i
   rcases i with x|x
   .exact g.apart _ hs x
   .exact E _ x (.inl rfl)
  |_=>exact i
 obtain ⟨O,Q,w2,S,t2,T,U,V,W,X,Y,Z,ab,ad⟩:=hK v (F'.star Fr) ⟨F',p,rfl,D,K⟩ A ck w' I s u M
 have ae:fT ⟨ro,own⟩ (F'.star Fr) w w':=⟨hu.os,hu.tape,hu.output,hu.size,fun b hb F=>hu.frame b hb (fun x=>by cases x),fun a k=>by
  rcases kQ k with y|y
  .exact .inl y
  .rcases hu.ro a y with z|z|z
   .exact .inl z
   .cases z
   .exact .inr (.inr z),fun b hb=>by
  simp only[af.star,cH,List.mem_append] at hb
  rcases hb with x|x
  .rcases hu.own b x with y|y
   .cases y
   .exact .inr y
  .exact .inl x⟩
 exact ⟨N+O,Q,w2,S,t2,T,U,V,W,by rw[j4 j];exact X,Y,ae.trans Z,fun l m=>(ab l m).elim (n l) fun F=>.inr fun al=>F (Loc.low_mono hu.size al),ad⟩
theorem gv.go {P:Program}{f:FuncId}{fn:Func}{c:Code}{n:Nat}{rs:List ResultVar}{args:Array Value}{F:af}{R:Value->af->Prop}(j:P.funcs[f]?=some fn)(hb:fn.body=some c)(d:fn.ntmps=n)(k:fn.results=rs.toArray)(m:args.size<=n)
  (h:∀Φ,Closed P true (en P Φ)->∀A:Act,sz A=n->A.defers=[]->(∀i,slot A i=args.getD i undef)->Wp (en P Φ) c (iD P rs R) A F):gv P f args F R:=fun Φ=>by
 refine dn.of_wp (qO P Φ) j hb ?_
 refine (h Φ (qO P Φ) _ (by simp[sz,d];omega) rfl fun i=>?_).mono fun e a F g=>?_
 .simp only[slot,d,Array.getD_eq_getD_getElem?]
  rcases Nat.lt_or_ge i args.size with hi|hi
  .rw[Array.getElem?_append_left hi]
  .rw[Array.getElem?_append_right hi,Array.getElem?_replicate,Array.getElem?_eq_none hi]
   split<;>rfl
 .cases e with
  |exit i=>exact g
  |_=>
   obtain ⟨hd,b⟩:=g
   split at b
   .rename_i v l
    show iX P a.defers _ F
    rw[hd]
    exact s7 k l b
   .exact b.elim
def qP (P:Program)(f:FuncId)(args:Array Value)(ro:Addr->Option Value)(R:Value->(Addr->Option Value)->Prop):Prop:=
 gv P f args ⟨ro,[]⟩ (fun v G=>∃aW,Ext ro aW/\Le ⟨aW,[]⟩ G/\R v aW)
theorem F2 {P:Program}{Φ:Goroutine->af->Prop}{f:FuncId}{args:Array Value}{ro:Addr->Option Value}{own:List (Nat×Obj)}{K:Value->af->Prop}(R:Value->(Addr->Option Value)->Prop)
  (h:qP P f args ro R) (k:∀v aW,Ext ro aW->(∀b∈keys own,∀off sp,aW ⟨b,off,sp⟩=none)->R v aW->K v ⟨aW,own⟩):dn P (en P Φ) f args ⟨ro,own⟩ K:=by
 intro c cs hK
 refine Bb (own:=own) h Φ c cs fun v F' l=>?_
 obtain ⟨G,⟨aW,m,hle,n⟩,rfl,e,o⟩:=l
 have i:∀a,(aW a).isSome=true->a.block∉keys own:=fun a g=>(hle.ro a g).elim (o a) (e.own _)
 refine (qO P Φ).mono (F:=⟨aW,own⟩) ⟨fun w hw=>?_,fun b hb=>?_,fun a g=>?_⟩ (hK v ⟨aW,own⟩ (k v aW m (fun b hb off sp=>?_) n))
 .have p:=hle.has w (e.right hw)
  have j:=e.left hw
  exact ⟨p.ro,j.own,j.nodup,fun a v d=>i a (by simp only at d;simp[d])⟩
 .simp only[af.star,cH,List.mem_append];exact .inr hb
 .rcases hle.ro a g with x|x
  .exact (g9 (.inr x)).imp id (fun z=>by simp only[af.star,cH,List.mem_append];exact .inr z)
  .exact .inr (by simp only[af.star,cH,List.mem_append];exact .inl x)
 .cases d:aW ⟨b,off,sp⟩ with
  |none=>rfl
  |some v=>exact absurd hb (i ⟨b,off,sp⟩ (by simp[d]))
theorem Bc {P:Program}{Φ:Goroutine->af->Prop}{f:FuncId}{args:Array Value}{ro:Addr->Option Value}{own:List (Nat×Obj)}{K:Value->af->Prop}(v:Value)
  (h:gv P f args ⟨ro,[]⟩ (fun d _=>d=v)) (e:K v ⟨ro,own⟩):dn P (en P Φ) f args ⟨ro,own⟩ K:=by
 intro c cs hK
 refine Bb (own:=own) h Φ c cs fun d F' g=>?_
 obtain ⟨G,rfl,rfl,i,k⟩:=g
 refine (qO P Φ).mono (F:=⟨ro,own⟩) ⟨fun w hw=>i.left hw,fun b hb=>?_,fun a j=>?_⟩ (hK d ⟨ro,own⟩ e)
 .simp only[af.star,cH,List.mem_append];exact .inr hb
 .exact (g9 (.inl j)).imp id (fun z=>by simp only[af.star,cH,List.mem_append];exact .inr z)
end Go.Sep
end
section
namespace Go.Sep
open Go Go.Conc Go.ConcM
def Be (P:Program)(R:Value->af->Prop)(g:Goroutine)(F:af):Prop:=
 ∃(fr:Frame) (fn:Func) (t:Nat) (v:Value),g=G fr []/\fr.kind= .normal/\P.inits.idxOf? fr.fn=none/\fr.mode= .returning/\fr.defers=[]/\P.funcs[fr.fn]?=some fn/\fn.results=#[.tmp t]/\fr.tmps.getD t undef=v/\R v F
def nh (P:Program)(f:FuncId)(args:Array Value)(F:af)(R:Value->af->Prop):Prop:=
 ∀Φ:Goroutine->af->Prop,(∀g F',Be P R g F'->Φ g F')->en P Φ (G (Frame.enter P f args .normal) []) F
theorem nh.go {P:Program}{f:FuncId}{fn:Func}{c:Code}{n t:Nat}{args:Array Value}{F:af}{R:Value->af->Prop}(g:P.funcs[f]?=some fn)(hb:fn.body=some c)(j:fn.ntmps=n)(o:fn.results=[.tmp t].toArray)(x:args.size<=n)(hi:P.inits.idxOf? f=none)
  (h:∀Φ,Closed P true (en P Φ)->∀A:Act,sz A=n->A.defers=[]->(∀i,slot A i=args.getD i undef)->Wp (en P Φ) c (iD P [.tmp t] R) A F):nh P f args F R:=by
 intro Φ p
 have hJ:=qO P Φ
 let b:Frame:={(default:Frame) with fn:=f,kind:=.normal}
 have q:Frame.enter P f args .normal=on b {tmps:=args++Array.replicate (fn.ntmps - args.size) undef,defers:=[]} [.code c]:=by
  simp[Frame.enter,on,g,hb,b]
  rfl
 rw[q]
 have k:∀(a:Act) (F':af) (fr:Frame),fr.kind= .normal->fr.mode= .returning->fr.defers=a.defers->fr.fn=f->fr.tmps=a.tmps->iD P [.tmp t] R .normal a F'->en P Φ (G fr []) F':=by
  intro a F' fr r s u l v d
  obtain ⟨hd,w⟩:=d
  refine en.done (p _ _ ⟨fr,fn,t,_,rfl,r,by rw[l];exact hi,s,by rw[u,hd],by rw[l];exact g,o,rfl,?_⟩)
  rw[v]
  simpa [m8,m7,qF,slot] using w
 refine h Φ hJ _ (by simp[sz,j];omega) rfl (fun i=>?_) b [] [] ⟨by simp[b],.inl rfl⟩ fun e m F' d=>?_
 .simp only[slot,j,Array.getD_eq_getD_getElem?]
  rcases Nat.lt_or_ge i args.size with hi|hi
  .rw[Array.getElem?_append_left hi]
  .rw[Array.getElem?_append_right hi,Array.getElem?_replicate,Array.getElem?_eq_none hi]
   split<;>rfl
 .cases e with
  |normal=>exact hJ.move (fun _=>mU rfl) (k m F' _ rfl rfl rfl rfl rfl d)
  |exit i=>exact d.elim
  |ret=>exact fun y=>hJ.move (fun _=>stepG_ret' rfl) (k m F' _ rfl rfl rfl rfl rfl d)
theorem nh.ends {P:Program}{f:FuncId}{args:Array Value}{F:af}{R:Value->af->Prop}(h:nh P f args F R){W:World}(i:Has F W){a:Value->World->Prop}
  (j:∀v F' w',R v F'->fT F F' W w'->a v w'):
  ∃M last o w' b,runNT P (M+1) (solo (G (Frame.enter P f args .normal) []) W) #[]=(.ended o w',b)/\runN P M (solo (G (Frame.enter P f args .normal) []) W)= .next last/\step P last= .ended o w'/\Go.Conc.Good P a last o w' b:=by
 obtain ⟨N,ck,w',k,b,B,g',F',l,g,c,hu,_,fr,fn,t,v,rfl,m,hi,n,p,q,r,s,u⟩:=h (Be P R) (fun _ _ x=>x) (fun _=>False) #[G (Frame.enter P f args .normal) []] W none #[] (fun _=>0)
  ⟨rfl,leavers_one P _,past_nil.mono (Nat.zero_le _),i,fun _ x=>x.elim,fun _ x=>x.elim⟩
 have hg:Goes P true AtRel (fun _ _ _=>False) (AtEnd P l w'.heap.size a) 0 (G fr []) w':=by
  refine Goes.stop fun C ⟨d,hd⟩=>?_
  subst hd
  refine ⟨rfl,v,seen P fr.fn #[],?_,fun e he=>?_,j v F' _ u ⟨hu.os,hu.tape,hu.output,hu.size,hu.frame,hu.ro,hu.own⟩⟩
  .have w:fr.tmps[t]?.getD undef=v:=by rw[<-s,Array.getD_eq_getD_getElem?]
   simp[G,stepG,unwind,n,p,q,results,r,w,doReturn,GStep.after,Sem.runT,m,hi]
  .exact absurd (mem_seen he) au
 obtain ⟨y,last,o,w2,t2,e1,e2,z,A⟩:=beside_ends (sl:=k) (fun _ _ _ x=>x.elim) c.g0 c.lv c.gq hg
 refine ⟨N+y,last,o,w2,t2,?_,?_,z,A⟩
 .rw[solo_eq_crowd,Nat.add_assoc,j4 g,e1]
 .rw[solo_eq_crowd,runN_add]
  have:=runNT_fst P N (crowd #[G (Frame.enter P f args .normal) []] W none) #[]
  rw[g] at this
  rw[<-this]
  exact e2
end Go.Sep
end
section
namespace Go.Proofs.YtbpddfapodiemaaGreatDoor
open Go Go.Sep Go.Proofs
set_option maxRecDepth 100000
theorem mixed:Tryz.prog.follows .mixedOrders=true:=aj
@[go_sem] theorem Ob:cM Tryz.prog 3=some false:=aj
@[go_sem] theorem kX:cj Tryz.prog 3=some 1:=aj
theorem kY:bytesOf Tryz.prog 3=some 8:=aj
@[go_sem] theorem kZ:zeroOf Tryz.prog 3=some (.int .i64 0):=aj
@[go_sem] theorem Oc:cM Tryz.prog 4=some false:=aj
@[go_sem] theorem Bf:cj Tryz.prog 4=some 1:=aj
@[go_sem] theorem F3:zeroOf Tryz.prog 4=some (.bool false):=aj
@[go_sem] theorem Od:wA Tryz.prog 4=true:=aj
@[go_sem] theorem Oe:cM Tryz.prog 23=some true:=aj
@[go_sem] theorem F4:cj Tryz.prog 23=some 2:=aj
theorem F5:bytesOf Tryz.prog 23=some 16:=aj
@[go_sem] theorem wT:zeroOf Tryz.prog 23=some (.agg #[.int .i64 0,.int .i64 0]):=aj
@[go_sem] theorem Of:m3 Tryz.prog 23=some [true,true]:=aj
@[go_sem] theorem Og:dc Tryz.prog 23 0=some 0:=aj
@[go_sem] theorem Oh:dc Tryz.prog 23 1=some 1:=aj
@[go_sem] theorem Oi:placesOf Tryz.prog 23=some [(0,1),(1,1)]:=aj
@[go_sem] theorem Oj:cM Tryz.prog 24=some false:=aj
@[go_sem] theorem Ok:cj Tryz.prog 24=some 1:=aj
@[go_sem] theorem Ol:kT Tryz.prog 24=true:=aj
@[go_sem] theorem Bg:dD Tryz.prog 24=some 125:=aj
@[go_sem] theorem Om:cM Tryz.prog 25=some false:=aj
@[go_sem] theorem On:cj Tryz.prog 25=some 1:=aj
@[go_sem] theorem Oo:kT Tryz.prog 25=true:=aj
@[go_sem] theorem l8:dD Tryz.prog 25=some 159:=aj
@[go_sem] theorem Oq:cM Tryz.prog 26=some false:=aj
@[go_sem] theorem Ot:cj Tryz.prog 26=some 1:=aj
@[go_sem] theorem Ou:kT Tryz.prog 26=true:=aj
@[go_sem] theorem Bh:dD Tryz.prog 26=some 66:=aj
@[go_sem] theorem Ov:cM Tryz.prog 27=some false:=aj
@[go_sem] theorem Ow:cj Tryz.prog 27=some 1:=aj
@[go_sem] theorem Ox:kT Tryz.prog 27=true:=aj
@[go_sem] theorem eG:dD Tryz.prog 27=some 86:=aj
@[go_sem] theorem Oy:cM Tryz.prog 29=some true:=aj
@[go_sem] theorem Oz:cj Tryz.prog 29=some 8:=aj
@[go_sem] theorem OA:zeroOf Tryz.prog 29=some (.agg #[.int .i64 0,.int .i64 0,.int .i64 0,.int .i64 0,.slice none 0 0,.slice none 0 0,.slice none 0 0,.slice none 0 0]):=aj
@[go_sem] theorem OB:dc Tryz.prog 29 0=some 0:=aj
@[go_sem] theorem OC:dc Tryz.prog 29 1=some 1:=aj
@[go_sem] theorem OD:dc Tryz.prog 29 2=some 2:=aj
@[go_sem] theorem OE:dc Tryz.prog 29 3=some 4:=aj
@[go_sem] theorem OF:dc Tryz.prog 29 4=some 5:=aj
@[go_sem] theorem OG:dc Tryz.prog 29 5=some 6:=aj
@[go_sem] theorem OH:dc Tryz.prog 29 6=some 7:=aj
@[go_sem] theorem OI:placesOf Tryz.prog 29=some [(0,1),(1,1),(2,2),(4,1),(5,1),(6,1),(7,1)]:=aj
@[go_sem] theorem OJ:cM Tryz.prog 32=some false:=aj
@[go_sem] theorem OK:cj Tryz.prog 32=some 1:=aj
@[go_sem] theorem OL:zeroOf Tryz.prog 32=some (.int .i64 0):=aj
@[go_sem] theorem OM:cM Tryz.prog 35=some false:=aj
@[go_sem] theorem tg:cj Tryz.prog 35=some 1:=aj
theorem th:bytesOf Tryz.prog 35=some 24:=aj
@[go_sem] theorem tj:zeroOf Tryz.prog 35=some (.slice none 0 0):=aj
@[go_sem] theorem ON:kT Tryz.prog 35=true:=aj
@[go_sem] theorem fW:dD Tryz.prog 35=some 3:=aj
@[go_sem] theorem OO:dD Tryz.prog 55=some 194:=aj
@[go_sem] theorem OP:cM Tryz.prog 61=some true:=aj
@[go_sem] theorem OQ:cj Tryz.prog 61=some 2:=aj
@[go_sem] theorem OR:zeroOf Tryz.prog 61=some (.agg #[.int .i64 0,.int .i64 0]):=aj
@[go_sem] theorem OS:dc Tryz.prog 61 0=some 0:=aj
@[go_sem] theorem OT:dc Tryz.prog 61 1=some 1:=aj
@[go_sem] theorem OU:placesOf Tryz.prog 61=some [(0,1),(1,1)]:=aj
@[go_sem] theorem OV:cM Tryz.prog 64=some true:=aj
@[go_sem] theorem OW:cj Tryz.prog 64=some 2:=aj
@[go_sem] theorem OX:zeroOf Tryz.prog 64=some (.agg #[.int .i64 0,.int .i64 0]):=aj
@[go_sem] theorem OY:dc Tryz.prog 64 0=some 0:=aj
@[go_sem] theorem OZ:dc Tryz.prog 64 1=some 1:=aj
@[go_sem] theorem O0:placesOf Tryz.prog 64=some [(0,1),(1,1)]:=aj
@[go_sem] theorem O1:cM Tryz.prog 66=some true:=aj
@[go_sem] theorem F6:cj Tryz.prog 66=some 3:=aj
theorem F7:bytesOf Tryz.prog 66=some 24:=aj
@[go_sem] theorem F8:zeroOf Tryz.prog 66=some (.agg #[.int .i64 0,.int .i64 0,.int .i64 0]):=aj
@[go_sem] theorem O2:dc Tryz.prog 66 0=some 0:=aj
@[go_sem] theorem O3:dc Tryz.prog 66 1=some 1:=aj
@[go_sem] theorem O4:placesOf Tryz.prog 66=some [(0,1),(1,2)]:=aj
@[go_sem] theorem O5:cM Tryz.prog 86=some true:=aj
@[go_sem] theorem iH:cj Tryz.prog 86=some 2:=aj
theorem iI:bytesOf Tryz.prog 86=some 16:=aj
@[go_sem] theorem iJ:zeroOf Tryz.prog 86=some (.agg #[.int .i64 0,.bool false]):=aj
@[go_sem] theorem O6:dc Tryz.prog 86 0=some 0:=aj
@[go_sem] theorem O7:dc Tryz.prog 86 1=some 1:=aj
@[go_sem] theorem O8:placesOf Tryz.prog 86=some [(0,1),(1,1)]:=aj
@[go_sem] theorem O9:cM Tryz.prog 92=some true:=aj
@[go_sem] theorem Pa:cj Tryz.prog 92=some 8:=aj
@[go_sem] theorem Pb:zeroOf Tryz.prog 92=some (.agg #[.int .i64 0,.int .i64 0,.int .i64 0,.int .i64 0,.slice none 0 0,.slice none 0 0,.slice none 0 0,.slice none 0 0]):=aj
@[go_sem] theorem Pd:dc Tryz.prog 92 0=some 0:=aj
@[go_sem] theorem Pe:placesOf Tryz.prog 92=some [(0,8)]:=aj
@[go_sem] theorem Pf:cM Tryz.prog 93=some false:=aj
@[go_sem] theorem Pg:cj Tryz.prog 93=some 1:=aj
@[go_sem] theorem Bi:dD Tryz.prog 93=some 133:=aj
@[go_sem] theorem Pj:cM Tryz.prog 95=some true:=aj
@[go_sem] theorem Pk:cj Tryz.prog 95=some 9:=aj
@[go_sem] theorem Pm:zeroOf Tryz.prog 95=some (.agg #[.int .i64 0,.int .i64 0,.int .i64 0,.int .i64 0,.slice none 0 0,.slice none 0 0,.slice none 0 0,.slice none 0 0,.slice none 0 0]):=aj
@[go_sem] theorem Pn:dc Tryz.prog 95 0=some 0:=aj
@[go_sem] theorem Po:dc Tryz.prog 95 1=some 8:=aj
@[go_sem] theorem Pp:placesOf Tryz.prog 95=some [(0,8),(8,1)]:=aj
@[go_sem] theorem oJ:dD Tryz.prog 98=some 105:=aj
@[go_sem] theorem Pq:cM Tryz.prog 99=some false:=aj
@[go_sem] theorem Pt:cj Tryz.prog 99=some 1:=aj
@[go_sem] theorem Pu:zeroOf Tryz.prog 99=some (.slice none 0 0):=aj
@[go_sem] theorem Bj:dD Tryz.prog 99=some 101:=aj
@[go_sem] theorem Pv:cM Tryz.prog 101=some true:=aj
@[go_sem] theorem F9:cj Tryz.prog 101=some 2:=aj
theorem Ga:bytesOf Tryz.prog 101=some 16:=aj
@[go_sem] theorem Gb:zeroOf Tryz.prog 101=some (.agg #[.int .i64 0,.int .i64 0]):=aj
@[go_sem] theorem Pw:m3 Tryz.prog 101=some [true,true]:=aj
@[go_sem] theorem Px:dc Tryz.prog 101 0=some 0:=aj
@[go_sem] theorem Py:dc Tryz.prog 101 1=some 1:=aj
@[go_sem] theorem Pz:placesOf Tryz.prog 101=some [(0,1),(1,1)]:=aj
@[go_sem] theorem PA:cM Tryz.prog 103=some true:=aj
@[go_sem] theorem PB:cj Tryz.prog 103=some 3:=aj
@[go_sem] theorem PC:zeroOf Tryz.prog 103=some (.agg #[.int .i64 0,.int .i64 0,.int .i64 0]):=aj
@[go_sem] theorem PD:m3 Tryz.prog 103=some [true,true,true]:=aj
@[go_sem] theorem PE:dc Tryz.prog 103 0=some 0:=aj
@[go_sem] theorem PF:dc Tryz.prog 103 1=some 1:=aj
@[go_sem] theorem PG:placesOf Tryz.prog 103=some [(0,1),(1,2)]:=aj
@[go_sem] theorem PI:cM Tryz.prog 105=some true:=aj
@[go_sem] theorem wU:cj Tryz.prog 105=some 6:=aj
theorem wV:bytesOf Tryz.prog 105=some 48:=aj
@[go_sem] theorem wW:zeroOf Tryz.prog 105=some (.agg #[.int .i64 0,.int .i64 0,.int .i64 0,.int .i64 0,.int .i64 0,.int .i64 0]):=aj
@[go_sem] theorem PJ:dc Tryz.prog 105 0=some 0:=aj
@[go_sem] theorem PK:dc Tryz.prog 105 1=some 3:=aj
@[go_sem] theorem PL:dc Tryz.prog 105 2=some 4:=aj
@[go_sem] theorem PM:wj Tryz.prog 105 2=some (4,2,true):=aj
@[go_sem] theorem PN:placesOf Tryz.prog 105=some [(0,3),(3,1),(4,2)]:=aj
@[go_sem] theorem l9:dD Tryz.prog 110=some 35:=aj
@[go_sem] theorem PO:cM Tryz.prog 116=some false:=aj
@[go_sem] theorem PR:cj Tryz.prog 116=some 1:=aj
@[go_sem] theorem PS:zeroOf Tryz.prog 116=some .nilFunc:=aj
@[go_sem] theorem PU:cM Tryz.prog 125=some true:=aj
@[go_sem] theorem Gc:cj Tryz.prog 125=some 2:=aj
theorem Gd:bytesOf Tryz.prog 125=some 16:=aj
@[go_sem] theorem wX:zeroOf Tryz.prog 125=some (.agg #[.int .i64 0,.int .i64 0]):=aj
@[go_sem] theorem PV:dc Tryz.prog 125 0=some 0:=aj
@[go_sem] theorem PW:dc Tryz.prog 125 1=some 1:=aj
@[go_sem] theorem PX:placesOf Tryz.prog 125=some [(0,1),(1,1)]:=aj
@[go_sem] theorem PY:cM Tryz.prog 131=some false:=aj
@[go_sem] theorem PZ:cj Tryz.prog 131=some 1:=aj
@[go_sem] theorem P1:zeroOf Tryz.prog 131=some .nilFunc:=aj
@[go_sem] theorem P2:cM Tryz.prog 133=some true:=aj
@[go_sem] theorem Ge:cj Tryz.prog 133=some 3:=aj
theorem Gf:bytesOf Tryz.prog 133=some 24:=aj
@[go_sem] theorem Gg:zeroOf Tryz.prog 133=some (.agg #[.int .i64 0,.int .i64 0,.int .i64 0]):=aj
@[go_sem] theorem P3:m3 Tryz.prog 133=some [true,true,true]:=aj
@[go_sem] theorem P4:lX Tryz.prog 133=some (3,3):=aj
@[go_sem] theorem P5:cM Tryz.prog 137=some false:=aj
@[go_sem] theorem P6:cj Tryz.prog 137=some 1:=aj
@[go_sem] theorem P7:zeroOf Tryz.prog 137=some (.map none):=aj
@[go_sem] theorem Bl:dD Tryz.prog 143=some 23:=aj
@[go_sem] theorem P8:cM Tryz.prog 150=some false:=aj
@[go_sem] theorem P9:cM Tryz.prog 159=some true:=aj
@[go_sem] theorem tn:cj Tryz.prog 159=some 2:=aj
theorem tq:bytesOf Tryz.prog 159=some 16:=aj
@[go_sem] theorem tr:zeroOf Tryz.prog 159=some (.agg #[.int .i64 0,.int .i64 0]):=aj
@[go_sem] theorem Qa:dc Tryz.prog 159 0=some 0:=aj
@[go_sem] theorem Qb:dc Tryz.prog 159 1=some 1:=aj
@[go_sem] theorem Qc:placesOf Tryz.prog 159=some [(0,1),(1,1)]:=aj
@[go_sem] theorem Qd:dD Tryz.prog 166=some 116:=aj
@[go_sem] theorem Qe:cM Tryz.prog 172=some false:=aj
@[go_sem] theorem Qf:cj Tryz.prog 172=some 1:=aj
@[go_sem] theorem Qg:zeroOf Tryz.prog 172=some (.slice none 0 0):=aj
@[go_sem] theorem Qh:dD Tryz.prog 172=some 4:=aj
@[go_sem] theorem Qi:dc Tryz.prog 177 0=some 0:=aj
@[go_sem] theorem Qj:dc Tryz.prog 177 1=some 1:=aj
@[go_sem] theorem Qk:zeroOf Tryz.prog 179=some (.agg #[.int .i32 0,.int .u32 0]):=aj
@[go_sem] theorem Ql:dc Tryz.prog 179 1=some 0:=aj
@[go_sem] theorem Qm:dc Tryz.prog 184 2=some 0:=aj
@[go_sem] theorem Qo:zeroOf Tryz.prog 186=some (.agg #[.int .u64 0,.int .u32 0]):=aj
@[go_sem] theorem Qp:dc Tryz.prog 186 1=some 0:=aj
@[go_sem] theorem Qq:dc Tryz.prog 186 2=some 1:=aj
@[go_sem] theorem Qr:cM Tryz.prog 194=some false:=aj
@[go_sem] theorem Qs:cj Tryz.prog 194=some 1:=aj
@[go_sem] theorem Qt:cM Tryz.prog 196=some true:=aj
@[go_sem] theorem Qu:cj Tryz.prog 196=some 5:=aj
@[go_sem] theorem Qv:lX Tryz.prog 196=some (5,116):=aj
@[go_sem] theorem Qw:cM Tryz.prog 250=some false:=aj
@[go_sem] theorem Qx:cj Tryz.prog 250=some 1:=aj
@[go_sem] theorem Qy:zeroOf Tryz.prog 250=some (.int .u64 0):=aj
@[go_sem] theorem Qz:aR Tryz.prog 2=true:=aj
@[go_sem] theorem QA:aR Tryz.prog 3=true:=aj
@[go_sem] theorem QB:aR Tryz.prog 4=true:=aj
@[go_sem] theorem QC:aR Tryz.prog 5=true:=aj
@[go_sem] theorem QD:aR Tryz.prog 6=true:=aj
@[go_sem] theorem QE:aR Tryz.prog 7=true:=aj
@[go_sem] theorem QF:aR Tryz.prog 8=true:=aj
@[go_sem] theorem QG:aR Tryz.prog 9=true:=aj
@[go_sem] theorem QH:aR Tryz.prog 10=true:=aj
@[go_sem] theorem QI:aR Tryz.prog 11=true:=aj
@[go_sem] theorem QJ:aR Tryz.prog 12=true:=aj
@[go_sem] theorem QK:aR Tryz.prog 13=true:=aj
@[go_sem] theorem QL:aR Tryz.prog 14=true:=aj
@[go_sem] theorem QM:aR Tryz.prog 15=true:=aj
@[go_sem] theorem QN:aR Tryz.prog 16=true:=aj
@[go_sem] theorem QO:aR Tryz.prog 17=true:=aj
@[go_sem] theorem QS:aR Tryz.prog 18=true:=aj
@[go_sem] theorem QT:aR Tryz.prog 19=true:=aj
@[go_sem] theorem QU:aR Tryz.prog 20=true:=aj
@[go_sem] theorem QV:aR Tryz.prog 21=true:=aj
@[go_sem] theorem QW:aR Tryz.prog 22=true:=aj
@[go_sem] theorem QX:aR Tryz.prog 23=true:=aj
@[go_sem] theorem QY:aR Tryz.prog 24=true:=aj
@[go_sem] theorem QZ:aR Tryz.prog 25=true:=aj
@[go_sem] theorem Q0:aR Tryz.prog 26=true:=aj
@[go_sem] theorem Q1:aR Tryz.prog 27=true:=aj
@[go_sem] theorem Q2:aR Tryz.prog 28=true:=aj
@[go_sem] theorem Q3:aR Tryz.prog 29=true:=aj
@[go_sem] theorem Q4:aR Tryz.prog 30=true:=aj
@[go_sem] theorem Q5:aR Tryz.prog 31=true:=aj
@[go_sem] theorem Q6:aR Tryz.prog 32=true:=aj
@[go_sem] theorem Q7:aR Tryz.prog 33=true:=aj
@[go_sem] theorem Q8:aR Tryz.prog 34=true:=aj
@[go_sem] theorem Q9:aR Tryz.prog 35=true:=aj
@[go_sem] theorem Ra:aR Tryz.prog 36=true:=aj
@[go_sem] theorem Rb:aR Tryz.prog 37=true:=aj
@[go_sem] theorem Rc:aR Tryz.prog 38=true:=aj
@[go_sem] theorem Re:aR Tryz.prog 39=true:=aj
@[go_sem] theorem Rf:aR Tryz.prog 40=true:=aj
@[go_sem] theorem Rg:aR Tryz.prog 41=true:=aj
@[go_sem] theorem Rh:aR Tryz.prog 42=true:=aj
@[go_sem] theorem Ri:aR Tryz.prog 43=true:=aj
@[go_sem] theorem Rj:aR Tryz.prog 44=true:=aj
@[go_sem] theorem Rl:aR Tryz.prog 45=true:=aj
@[go_sem] theorem Rm:aR Tryz.prog 46=true:=aj
@[go_sem] theorem Rn:aR Tryz.prog 47=true:=aj
@[go_sem] theorem Ro:aR Tryz.prog 48=true:=aj
@[go_sem] theorem Rp:aR Tryz.prog 49=true:=aj
@[go_sem] theorem Rq:aR Tryz.prog 50=true:=aj
@[go_sem] theorem Rr:aR Tryz.prog 51=true:=aj
@[go_sem] theorem Rs:aR Tryz.prog 52=true:=aj
@[go_sem] theorem Rt:aR Tryz.prog 53=true:=aj
@[go_sem] theorem Ru:aR Tryz.prog 54=true:=aj
@[go_sem] theorem Rv:aR Tryz.prog 55=true:=aj
@[go_sem] theorem Rw:aR Tryz.prog 56=true:=aj
@[go_sem] theorem Rx:aR Tryz.prog 57=true:=aj
@[go_sem] theorem Ry:aR Tryz.prog 58=true:=aj
@[go_sem] theorem Rz:aR Tryz.prog 59=true:=aj
@[go_sem] theorem RA:aR Tryz.prog 60=true:=aj
@[go_sem] theorem RB:aR Tryz.prog 61=true:=aj
@[go_sem] theorem RD:aR Tryz.prog 62=true:=aj
@[go_sem] theorem RE:aR Tryz.prog 63=true:=aj
@[go_sem] theorem RF:aR Tryz.prog 64=true:=aj
@[go_sem] theorem RG:aR Tryz.prog 65=true:=aj
@[go_sem] theorem RH:aR Tryz.prog 66=true:=aj
@[go_sem] theorem RI:aR Tryz.prog 67=true:=aj
@[go_sem] theorem RJ:aR Tryz.prog 68=true:=aj
@[go_sem] theorem RK:aR Tryz.prog 69=true:=aj
@[go_sem] theorem RL:aR Tryz.prog 70=true:=aj
@[go_sem] theorem RN:aR Tryz.prog 71=true:=aj
@[go_sem] theorem RO:aR Tryz.prog 72=true:=aj
@[go_sem] theorem RP:aR Tryz.prog 73=true:=aj
@[go_sem] theorem RQ:aR Tryz.prog 74=true:=aj
@[go_sem] theorem RR:aR Tryz.prog 75=true:=aj
@[go_sem] theorem RS:aR Tryz.prog 76=true:=aj
@[go_sem] theorem RU:aR Tryz.prog 77=true:=aj
@[go_sem] theorem RV:aR Tryz.prog 78=true:=aj
@[go_sem] theorem RX:aR Tryz.prog 79=true:=aj
@[go_sem] theorem RY:aR Tryz.prog 80=true:=aj
@[go_sem] theorem RZ:aR Tryz.prog 81=true:=aj
@[go_sem] theorem R1:aR Tryz.prog 82=true:=aj
@[go_sem] theorem R2:aR Tryz.prog 83=true:=aj
@[go_sem] theorem R3:aR Tryz.prog 84=true:=aj
@[go_sem] theorem R4:aR Tryz.prog 85=true:=aj
@[go_sem] theorem R5:aR Tryz.prog 86=true:=aj
@[go_sem] theorem R6:aR Tryz.prog 87=true:=aj
@[go_sem] theorem R7:aR Tryz.prog 88=true:=aj
@[go_sem] theorem R8:aR Tryz.prog 89=true:=aj
@[go_sem] theorem R9:aR Tryz.prog 90=true:=aj
@[go_sem] theorem Sa:aR Tryz.prog 91=true:=aj
@[go_sem] theorem Sb:aR Tryz.prog 92=true:=aj
@[go_sem] theorem Sd:aR Tryz.prog 93=true:=aj
@[go_sem] theorem Se:aR Tryz.prog 94=true:=aj
@[go_sem] theorem Sf:aR Tryz.prog 95=true:=aj
@[go_sem] theorem Sg:aR Tryz.prog 96=true:=aj
@[go_sem] theorem Si:aR Tryz.prog 97=true:=aj
@[go_sem] theorem Sj:aR Tryz.prog 98=true:=aj
@[go_sem] theorem Sk:aR Tryz.prog 99=true:=aj
@[go_sem] theorem Sl:aR Tryz.prog 100=true:=aj
@[go_sem] theorem Sn:aR Tryz.prog 101=true:=aj
@[go_sem] theorem So:aR Tryz.prog 102=true:=aj
@[go_sem] theorem Sp:aR Tryz.prog 103=true:=aj
@[go_sem] theorem Sq:aR Tryz.prog 104=true:=aj
@[go_sem] theorem Sr:aR Tryz.prog 105=true:=aj
@[go_sem] theorem Ss:aR Tryz.prog 106=true:=aj
@[go_sem] theorem Su:aR Tryz.prog 107=true:=aj
@[go_sem] theorem Sv:aR Tryz.prog 108=true:=aj
@[go_sem] theorem Sw:aR Tryz.prog 109=true:=aj
@[go_sem] theorem Sx:aR Tryz.prog 110=true:=aj
@[go_sem] theorem Sy:aR Tryz.prog 111=true:=aj
@[go_sem] theorem Sz:aR Tryz.prog 112=true:=aj
@[go_sem] theorem SA:aR Tryz.prog 113=true:=aj
@[go_sem] theorem SB:aR Tryz.prog 114=true:=aj
@[go_sem] theorem SC:aR Tryz.prog 115=true:=aj
@[go_sem] theorem SD:aR Tryz.prog 116=true:=aj
@[go_sem] theorem SE:aR Tryz.prog 117=true:=aj
@[go_sem] theorem SF:aR Tryz.prog 118=true:=aj
@[go_sem] theorem SG:aR Tryz.prog 119=true:=aj
@[go_sem] theorem SH:aR Tryz.prog 120=true:=aj
@[go_sem] theorem SI:aR Tryz.prog 121=true:=aj
@[go_sem] theorem SJ:aR Tryz.prog 122=true:=aj
@[go_sem] theorem SK:aR Tryz.prog 123=true:=aj
@[go_sem] theorem SL:aR Tryz.prog 124=true:=aj
@[go_sem] theorem SM:aR Tryz.prog 125=true:=aj
@[go_sem] theorem Bm:aR Tryz.prog 126=true:=aj
@[go_sem] theorem SN:aR Tryz.prog 127=true:=aj
@[go_sem] theorem SO:aR Tryz.prog 128=true:=aj
@[go_sem] theorem SP:aR Tryz.prog 129=true:=aj
@[go_sem] theorem SQ:aR Tryz.prog 130=true:=aj
@[go_sem] theorem Gh:aR Tryz.prog 131=true:=aj
@[go_sem] theorem Gi:aR Tryz.prog 132=true:=aj
@[go_sem] theorem Gj:aR Tryz.prog 133=true:=aj
@[go_sem] theorem SS:aR Tryz.prog 134=true:=aj
@[go_sem] theorem SU:aR Tryz.prog 135=true:=aj
@[go_sem] theorem SV:aR Tryz.prog 136=true:=aj
@[go_sem] theorem SW:aR Tryz.prog 137=true:=aj
@[go_sem] theorem SX:aR Tryz.prog 138=true:=aj
@[go_sem] theorem SY:aR Tryz.prog 139=true:=aj
@[go_sem] theorem SZ:aR Tryz.prog 140=true:=aj
@[go_sem] theorem S0:aR Tryz.prog 141=true:=aj
@[go_sem] theorem S1:aR Tryz.prog 142=true:=aj
@[go_sem] theorem S2:aR Tryz.prog 143=true:=aj
@[go_sem] theorem S4:aR Tryz.prog 144=true:=aj
@[go_sem] theorem S5:aR Tryz.prog 145=true:=aj
@[go_sem] theorem S6:aR Tryz.prog 146=true:=aj
@[go_sem] theorem S7:aR Tryz.prog 147=true:=aj
@[go_sem] theorem S8:aR Tryz.prog 148=true:=aj
@[go_sem] theorem S9:aR Tryz.prog 149=true:=aj
@[go_sem] theorem Ta:aR Tryz.prog 150=true:=aj
@[go_sem] theorem Tb:aR Tryz.prog 157=true:=aj
@[go_sem] theorem Bn:aR Tryz.prog 158=true:=aj
@[go_sem] theorem wY:aR Tryz.prog 160=true:=aj
@[go_sem] theorem Gk:aR Tryz.prog 161=true:=aj
@[go_sem] theorem Tc:aR Tryz.prog 164=true:=aj
@[go_sem] theorem Gl:aR Tryz.prog 165=true:=aj
@[go_sem] theorem Gm:aR Tryz.prog 166=true:=aj
@[go_sem] theorem Gn:aR Tryz.prog 169=true:=aj
@[go_sem] theorem Td:aR Tryz.prog 172=true:=aj
@[go_sem] theorem Te:aR Tryz.prog 173=true:=aj
@[go_sem] theorem Tf:aR Tryz.prog 174=true:=aj
@[go_sem] theorem Tg:aR Tryz.prog 175=true:=aj
@[go_sem] theorem Ti:aR Tryz.prog 176=true:=aj
@[go_sem] theorem Tj:aR Tryz.prog 177=true:=aj
@[go_sem] theorem Tk:aR Tryz.prog 178=true:=aj
@[go_sem] theorem Tl:aR Tryz.prog 179=true:=aj
@[go_sem] theorem Tm:aR Tryz.prog 184=true:=aj
@[go_sem] theorem Gq:aR Tryz.prog 186=true:=aj
@[go_sem] theorem Gs:aR Tryz.prog 188=true:=aj
@[go_sem] theorem Tn:aR Tryz.prog 190=true:=aj
@[go_sem] theorem To:aR Tryz.prog 191=true:=aj
@[go_sem] theorem Tq:aR Tryz.prog 192=true:=aj
@[go_sem] theorem Tr:aR Tryz.prog 193=true:=aj
@[go_sem] theorem Tt:aR Tryz.prog 194=true:=aj
@[go_sem] theorem Tu:aR Tryz.prog 195=true:=aj
@[go_sem] theorem Tv:aR Tryz.prog 196=true:=aj
@[go_sem] theorem Tw:aR Tryz.prog 197=true:=aj
@[go_sem] theorem Tx:aR Tryz.prog 198=true:=aj
@[go_sem] theorem Ty:aR Tryz.prog 199=true:=aj
@[go_sem] theorem Tz:aR Tryz.prog 200=true:=aj
@[go_sem] theorem TA:aR Tryz.prog 201=true:=aj
@[go_sem] theorem TB:aR Tryz.prog 209=true:=aj
@[go_sem] theorem TC:aR Tryz.prog 210=true:=aj
@[go_sem] theorem TD:aR Tryz.prog 211=true:=aj
@[go_sem] theorem TE:aR Tryz.prog 212=true:=aj
@[go_sem] theorem TF:aR Tryz.prog 213=true:=aj
@[go_sem] theorem TG:aR Tryz.prog 214=true:=aj
@[go_sem] theorem TH:aR Tryz.prog 231=true:=aj
@[go_sem] theorem TI:aR Tryz.prog 232=true:=aj
@[go_sem] theorem TJ:aR Tryz.prog 233=true:=aj
@[go_sem] theorem TK:aR Tryz.prog 234=true:=aj
@[go_sem] theorem TL:aR Tryz.prog 235=true:=aj
@[go_sem] theorem TM:aR Tryz.prog 239=true:=aj
end Go.Proofs.YtbpddfapodiemaaGreatDoor
end
section
namespace Go.Sep
open Go Go.Conc
def k3 (o:Oper):Option (TypeId×Nat):=match o.op,o.dst,o.guard with
 | .alloc t,some d,none=>some (t,d)
 |_,_,_=>none
def Bo (ops:Array Oper)(m:Nat):Bool:=
 oI ops (m+1)&&decide (m+2<=ops.size)&&
 (match (ops[m]?).bind k3,(ops[m+1]?).bind k3 with|some (_,d),some (_,a)=>!(d==a)|_,_=>false)&&
 decide (Region.ready .any ops (dr ops.size m)=[m,m+1])&&decide (Region.ready .any ops ((dr ops.size m).setIfInBounds (m+1) true)=[m])
theorem Bp {ro:Addr->Option Value}{x y:Nat×Obj}{l:List (Nat×Obj)}:Le ⟨ro,x::y::l⟩ ⟨ro,y::x::l⟩:=by
 have c:∀b,b∈keys (x::y::l)↔b∈keys (y::x::l):=fun b=>by
  simp only[keys,List.map_cons,List.mem_cons];exact ⟨fun h=>by rcases h with h|h|h;exact .inr (.inl h);exact .inl h;exact .inr (.inr h),fun h=>by rcases h with h|h|h;exact .inr (.inl h);exact .inl h;exact .inr (.inr h)⟩
 refine ⟨fun w hw=>⟨hw.ro,fun b o hb=>hw.own b o ?_,?_,fun a v h hm=>hw.apart a v h ((c _).1 hm)⟩,fun b hb=>(c b).1 hb,fun a d=>.inl d⟩
 .rcases List.mem_cons.1 hb with h|h
  .exact List.mem_cons_of_mem _ (h▸List.mem_cons_self)
  .rcases List.mem_cons.1 h with h|h
   .exact h▸List.mem_cons_self
   .exact List.mem_cons_of_mem _ (List.mem_cons_of_mem _ h)
 .have:=hw.nodup;simp only[keys,List.map_cons,List.nodup_cons,List.mem_cons,not_or] at this ⊢;exact ⟨⟨fun e=>this.1.1 e.symm,this.2.1⟩,this.1.2,this.2.2⟩
section
variable {P:Program}{main:Bool}{J:Goroutine->af->Prop}{ops:Array Oper}{Q:Act->af->Prop}{F0:af}
theorem Bq {o:Oper}{t:TypeId}{d:Nat}(h:k3 o=some (t,d)):o.op= .alloc t/\o.dst=some d/\o.guard=none:=by
 unfold k3 at h;split at h
 .rename_i a b c;cases h;exact ⟨a,b,c⟩
 .cases h
theorem qQ {o:Oper}{a:Act}(h:o.guard=none):cT ops o a=some true:=by unfold cT;rw[h]
theorem wZ {o:Oper}{t:TypeId}{a:Act}{F:af}{z:Value}{R:Value->af->Prop}{D:Deferred->af->Prop}(d:o.op= .alloc t)(e:zeroOf P t=some z)
  (h:∀b,eB F b->∃c,Le c (F.push b (.cells z.cells t))/\R (.pointer (some ⟨b,0,none⟩)) c):bu P (execOp a.eval o) (kP P J R D) F:=by
 have:Oper.oF o=false:=by unfold Oper.oF;rw[d]
 refine AW (R:=fun v F=>∃c,Le c F/\R v c) this ?_
 unfold c7
 rw[d]
 simp only[e]
 exact h
theorem Gt (m:Nat){o1 o2:Oper}{rest:List Oper}{t1 t2 d1 d2:Nat}(hm:m+2<=ops.size)(y:ops[m]?=some o1)(A:ops[m+1]?=some o2)(M:k3 o1=some (t1,d1))(N:k3 o2=some (t2,d2)){q:Value}(B:zeroOf P t2=some q)(hd:¬d1=d2)
  (C:ops.toList.drop (m+2)=rest) (D:Region.ready .any ops (dr ops.size m)=[m,m+1]) (E:Region.ready .any ops ((dr ops.size m).setIfInBounds (m+1) true)=[m])
  (G:∀j,j<ops.size - (m+1)->Region.ready .any ops (dr ops.size (m+1+j))=[m+1+j]) (H:Region.ready .any ops (dr ops.size ops.size)=[])
  {a:Act} {F:af} (r:Knows F0 F) (h:e9 P J ops F0 Q (o1::o2::rest) true a F):er P J ops Q (Knows F0) (ops.size - m) (dr ops.size m) a F:=by
 obtain ⟨e1,s,t⟩:=Bq M
 obtain ⟨e2,I,K⟩:=Bq N
 have O:ops.size - m=(ops.size - (m+1))+1:=aa
 have R:ops.size - (m+1)=(ops.size - (m+2))+1:=aa
 unfold e9 at h
 rw[qQ t] at h
 simp only at h
 have k:∃z,zeroOf P t1=some z:=by
  unfold c7 at h
  rw[e1] at h
  simp only at h
  split at h
  .rename_i z S;exact ⟨z,S⟩
  .exact h.elim
 obtain ⟨g,k⟩:=k
 have u:∀b,eB F b->Knows F0 (F.push b (.cells g.cells t1))/\e9 P J ops F0 Q (o2::rest) (!Oper.calls o1) (bB a (some d1) (.pointer (some ⟨b,0,none⟩))) (F.push b (.cells g.cells t1)):=by
  unfold c7 at h
  rw[e1] at h
  simp only[k,s] at h
  exact h
 have T:∀b,eB F b->∀f,eB (F.push b (.cells g.cells t1)) f->Knows F0 ((F.push b (.cells g.cells t1)).push f (.cells q.cells t2))/\
   e9 P J ops F0 Q rest (!Oper.calls o2) (bB (bB a (some d1) (.pointer (some ⟨b,0,none⟩))) (some d2) (.pointer (some ⟨f,0,none⟩))) ((F.push b (.cells g.cells t1)).push f (.cells q.cells t2)):=by
  intro b hb
  have:=(u b hb).2
  unfold e9 at this
  rw[qQ K] at this
  simp only at this
  unfold c7 at this
  rw[e2] at this
  simp only[B,I] at this
  exact this
 have L:=s9 (n:=ops.size) (m:=m) aa
 have U:=s9 (n:=ops.size) (m:=m+1) aa
 rw[O]
 refine ⟨fun p=>(by rw[D] at p;cases p),fun i hi=>?_⟩
 rw[D] at hi
 simp only[List.mem_cons,List.not_mem_nil,or_false] at hi
 rcases hi with hi|hi
 .subst hi
  unfold ek
  simp only[y]
  rw[if_pos (cA (qQ t))]
  refine wZ e1 k fun b hb=>⟨_,Le.refl _,(u b hb).1,?_⟩
  rw[L,s]
  exact m9 (i+1) G H (o2::rest) (i+1) _ _ _ (Nat.le_refl _) aa (by
   have:=List.drop_eq_getElem_cons (l:=ops.toList) (i:=i+1) (by simp;omega)
   rw[this,C]
   obtain ⟨_,he⟩:=Array.getElem?_eq_some_iff.1 A
   simp[he]) (u b hb).2
 .subst hi
  unfold ek
  simp only[A]
  rw[if_pos (cA (qQ K))]
  refine wZ e2 B fun f v=>⟨_,Le.refl _,?_,?_⟩
  .refine ⟨r.1,r.2.1,?_⟩
   have V:∀(l own:List (Nat×Obj)),av own f->jB l own->jB l ((f,.cells q.cells t2)::own):=fun l own W w=>by
    induction l with
    |nil=>trivial
    |cons x l ih=>
     obtain ⟨c,o⟩:=x
     refine ⟨?_,ih w.2⟩
     have hc:¬f=c:=fun e=>l7 W (e▸fD (iz w.1))
     simp only[lk,if_neg hc]
     exact w.1
   exact V _ _ v.own r.2.2
  .rw[R]
   refine ⟨fun p=>(by rw[E] at p;cases p),fun i hi=>?_⟩
   rw[E] at hi
   simp only[List.mem_cons,List.not_mem_nil,or_false] at hi
   subst hi
   unfold ek
   simp only[y]
   rw[if_pos (cA (qQ t))]
   refine wZ e1 k fun b hb=>?_
   have X:eB F b:=⟨hb.ro,hb.own.2⟩
   have aL:¬f=b:=fun e=>hb.own.1 e.symm
   have Y:eB (F.push b (.cells g.cells t1)) f:=⟨v.ro,⟨aL,v.own⟩⟩
   obtain ⟨Z,ab⟩:=T b X f Y
   refine ⟨_,Bp,Z,?_⟩
   have ad:bB (bB a o2.dst (.pointer (some ⟨f,0,none⟩))) o1.dst (.pointer (some ⟨b,0,none⟩))=bB (bB a (some d1) (.pointer (some ⟨b,0,none⟩))) (some d2) (.pointer (some ⟨f,0,none⟩)):=by
    rw[s,I]
    exact Act.put_comm a _ _ (fun d ae=>by cases ae;intro e;cases e;exact hd rfl)
   have hs:((dr ops.size i).setIfInBounds (i+1) true).setIfInBounds i true=dr ops.size (i+2):=by
    rw[Array.setIfInBounds_comm _ _ (by omega:i+1≠i),L,U]
   show er P J ops Q (Knows F0) (ops.size - (i+2)) _ (bB (bB a o2.dst _) o1.dst _) _
   rw[hs,ad]
   exact m9 (i+1) G H rest (i+2) _ _ _ aa hm C ab
theorem tu {Q:Ex->Act->af->Prop}(hJ:Closed P main J)(o:P.follows .mixedOrders=true)(m:Nat){id:Nat}{a:Act}{F:af}(F0:af)(e:Knows F0 F)(f:Bo ops m=true)(t2:TypeId){p:Value}(g:((ops[m+1]?).bind k3).map (·.1)=some t2)(q:zeroOf P t2=some p)
  (h:eI P J ops F0 (fun j=>e9 P J ops F0 (Q .normal) (ops.toList.drop m) true j F) (ops.toList.take m) true a):Wp J (.region id ops true) Q a F:=by
 simp only[Bo,Bool.and_eq_true,decide_eq_true_eq] at f
 obtain ⟨⟨⟨⟨r,hm⟩,b⟩,s⟩,t⟩:=f
 have k:=A4 r
 simp only[qG,Bool.and_eq_true,decide_eq_true_eq,List.all_eq_true,List.mem_range] at k
 obtain ⟨⟨⟨⟨u,D⟩,v⟩,w⟩,x⟩:=k
 cases c:(ops[m]?).bind k3 with
 |none=>rw[c] at b;cases b
 |some y=>
  cases d:(ops[m+1]?).bind k3 with
  |none=>rw[c,d] at b;cases b
  |some z=>
   obtain ⟨t1,d1⟩:=y
   obtain ⟨A,d2⟩:=z
   rw[d] at g
   obtain rfl:A=t2:=by simpa using g
   rw[c,d] at b
   obtain ⟨o1,e1,a1⟩:=Option.bind_eq_some_iff.1 c
   obtain ⟨o2,e2,a2⟩:=Option.bind_eq_some_iff.1 d
   have hd:¬d1=d2:=by simpa using b
   have B:ops.toList.drop m=o1::o2::ops.toList.drop (m+2):=by
    obtain ⟨C,c1⟩:=Array.getElem?_eq_some_iff.1 e1
    obtain ⟨b2,c2⟩:=Array.getElem?_eq_some_iff.1 e2
    rw[List.drop_eq_getElem_cons (l:=ops.toList) (i:=m) (by simpa using C),List.drop_eq_getElem_cons (l:=ops.toList) (i:=m+1) (by simpa using b2)]
    simp[c1,c2]
   refine vZ hJ (Knows F0) o ?_
   rw[<-A5]
   have:=tc (P:=P) (J:=J) (Q:=Q .normal) m aa u (fun i hi=>by have:=v i aa;simpa using this) e (fun j n=>by
    rw[B] at n
    exact Gt (F0:=F0) m hm e1 e2 a1 a2 q hd rfl s t w x e n) _ 0 true a au (Nat.zero_le _) h
   simpa using this
end
def pick (ops:Array Oper):List Nat->List Oper
 |[]=>[]
 |i::is=>match ops[i]? with
  |some o=>o::pick ops is
  |none=>pick ops is
def w5:List Nat->Array Bool->Array Bool
 |[],L=>L
 |i::is,L=>w5 is (L.setIfInBounds i true)
def tw (ops:Array Oper):List Nat->Array Bool->Bool
 |[],_=>true
 |i::is,L=>Region.free .any ops L i&&(Region.ready .any ops L).contains i&&(ops[i]?).isSome&&tw ops is (L.setIfInBounds i true)
def qR (ops:Array Oper):List Nat->Array Bool->Bool
 |[],L=>decide (Region.ready .any ops L=[])
 |i::is,L=>decide (Region.ready .any ops L=[i])&&(ops[i]?).isSome&&qR ops is (L.setIfInBounds i true)
def Br (ops:Array Oper)(is a:List Nat):Bool:=
 Region.noSelect ops&&tw ops is (Array.replicate ops.size false)&&qR ops a (w5 is (Array.replicate ops.size false))&&decide (is.length+a.length=ops.size)
section
variable {P:Program}{main:Bool}{J:Goroutine->af->Prop}{ops:Array Oper}{Q:Act->af->Prop}{F0:af}
theorem Bs {K:Act->Prop}(l:Region.noSelect ops=true){F:af}(b:Knows F0 F)(fuel:Nat):
  ∀(is:List Nat) (L:Array Bool) (go:Bool) (a:Act),tw ops is L=true->eI P J ops F0 K (pick ops is) go a->(∀m,K m->er P J ops Q (Knows F0) fuel (w5 is L) m F)->
   er P J ops Q (Knows F0) (fuel+is.length) L a F
 |[],L,go,a,_,h,hK=>by unfold pick eI at h;exact hK a h
 |i::is,L,go,a,hc,h,hK=>by
  simp only[tw,Bool.and_eq_true] at hc
  obtain ⟨⟨⟨c1,c2⟩,c3⟩,c4⟩:=hc
  obtain ⟨o,c⟩:=Option.isSome_iff_exists.1 c3
  have g:(Region.noSelect ops&&Region.free .any ops L i&&(Region.ready .any ops L).contains i)=true:=by rw[l,c1,c2];rfl
  have n:pick ops (i::is)=o::pick ops is:=by simp only[pick,c]
  rw[n] at h
  have e:fuel+(i::is).length=(fuel+is.length)+1:=by simp only[List.length_cons];omega
  rw[e]
  have next:∀go v,eI P J ops F0 K (pick ops is) go (bB a o.dst v)->er P J ops Q (Knows F0) (fuel+is.length) (L.setIfInBounds i true) (bB a o.dst v) F:=fun go v d=>
   Bs l b fuel is _ go _ c4 d hK
  unfold eI at h
  split at h
  .rename_i hg
   exact AZ i c g hg b (next true undef h)
  .rename_i hg
   split at h
   .rename_i t x k
    split at h
    case h_2=>exact h.elim
    rename_i ad p
    split at h
    case h_2=>exact h.elim
    rename_i v d
    refine oG i v c g hg (fun F R j f=>?_) b (next _ v h)
    unfold c7
    simp only[k,p,j.fV d]
    exact f
   .rename_i x args argTypes k
    split at h
    case h_2=>exact h.elim
    rename_i fn first captured q
    obtain ⟨r,v,s,h⟩:=h
    refine oG i v c g hg (fun F R j f=>?_) b (next _ v h)
    unfold c7
    simp only[k,q]
    exact ⟨r,(s F j).mono fun w F' u=>by obtain ⟨rfl,rfl⟩:=u;exact f⟩
   .split at h
    case h_2=>exact h.elim
    rename_i v d
    exact oG i v c g hg (fun F R j f=>s8 d f) b (next _ v h)
  .exact h.elim
theorem Bt:∀(b:List Nat) (L:Array Bool) (go:Bool) (a:Act) (F:af),qR ops b L=true->e9 P J ops F0 Q (pick ops b) go a F->er P J ops Q (Knows F0) b.length L a F
 |[],L,go,a,F,hc,h=>by
  simp only[qR,decide_eq_true_eq] at hc
  unfold pick e9 at h
  exact Ax hc h _
 |j::b,L,go,a,F,hc,h=>by
  simp only[qR,Bool.and_eq_true,decide_eq_true_eq] at hc
  obtain ⟨⟨c1,c3⟩,c4⟩:=hc
  obtain ⟨o,c⟩:=Option.isSome_iff_exists.1 c3
  have d:pick ops (j::b)=o::pick ops b:=by simp only[pick,c]
  rw[d] at h
  unfold e9 at h
  split at h
  .rename_i hg
   refine A0 j c c1 hg ?_
   refine m9.td ?_ h
   rintro v F' ⟨e,f⟩
   exact ⟨e,Bt b _ _ _ F' c4 f⟩
  .exact h.elim
theorem Gu {Q:Ex->Act->af->Prop}(hJ:Closed P main J)(e:P.follows .mixedOrders=true)(is b:List Nat){id:Nat}{a:Act}{F:af}(F0:af)(f:Knows F0 F)(d:Br ops is b=true)
  (h:eI P J ops F0 (fun c=>e9 P J ops F0 (Q .normal) (pick ops b) true c F) (pick ops is) true a):Wp J (.region id ops true) Q a F:=by
 simp only[Br,Bool.and_eq_true,decide_eq_true_eq] at d
 obtain ⟨⟨⟨g,i⟩,j⟩,l⟩:=d
 refine vZ hJ (Knows F0) e ?_
 have:=Bs (P:=P) (J:=J) (Q:=Q .normal) g f b.length is _ true a i h (fun c k=>Bt b _ true c F j k)
 rwa [show b.length+is.length=ops.size by omega] at this
end
attribute [go_sem] pick
inductive k4 where
 |done
 |rd (i:Nat) (p:k4)
 |one (i:Nat) (p:k4)
 |two (i:Nat) (p:k4) (j:Nat) (q:k4)
inductive mb where
 |done
 |rd (o:Oper) (p:mb)
 |one (o:Oper) (p:mb)
 |two (o:Oper) (p:mb) (o':Oper) (q:mb)
 |bad
def k4.opers (ops:Array Oper):k4->mb
 | .done=>.done
 | .rd i p=>match ops[i]? with
  |some o=>.rd o (p.opers ops)
  |none=>.bad
 | .one i p=>match ops[i]? with
  |some o=>.one o (p.opers ops)
  |none=>.bad
 | .two i p j q=>match ops[i]?,ops[j]? with
  |some o,some o'=>.two o (p.opers ops) o' (q.opers ops)
  |_,_=>.bad
def k4.len:k4->Nat
 | .done=>0
 | .rd _ p=>p.len+1
 | .one _ p=>p.len+1
 | .two _ p _ q=>max p.len q.len+1
def gz (P:Program)(J:Goroutine->af->Prop)(ops:Array Oper)(F0:af)(Q:Act->af->Prop):mb->Bool->Act->af->Prop
 | .done,_,a,F=>Q a F
 | .bad,_,_,_=>False
 | .rd o p,_,a,F=>match cT ops o a with
  |some false=>gz P J ops F0 Q p true (bB a o.dst undef) F
  |some true=>match o.op with
   | .load t x=>match ev a x with
    | .pointer (some ad)=>match fV P F0 t ad with
     |some v=>gz P J ops F0 Q p true (bB a o.dst v) F
     |none=>False
    |_=>False
   | .call {callee:=.value x,args, ..}=>match ev a x with
    | .func (.func fn) first captured=>aR P fn=true/\∃v,Plain P J F0 fn (first++args.map (ev a)++captured) v/\gz P J ops F0 Q p false (bB a o.dst v) F
    |_=>False
   |_=>match jD P o a with
    |some v=>gz P J ops F0 Q p true (bB a o.dst v) F
    |none=>False
  |none=>False
 | .one o p,_,a,F=>match cT ops o a with
  |some true=>c7 P J o (fun v F'=>Knows F0 F'/\gz P J ops F0 Q p (!Oper.calls o) (bB a o.dst v) F') a F
  |_=>False
 | .two o p o' q,_,a,F=>(match cT ops o a with
  |some true=>c7 P J o (fun v F'=>Knows F0 F'/\gz P J ops F0 Q p (!Oper.calls o) (bB a o.dst v) F') a F
  |_=>False)/\(match cT ops o' a with
  |some true=>c7 P J o' (fun v F'=>Knows F0 F'/\gz P J ops F0 Q q (!Oper.calls o') (bB a o'.dst v) F') a F
  |_=>False)
theorem Gv {P:Program}{J:Goroutine->af->Prop}{ops:Array Oper}{F0:af}{Q:Act->af->Prop}{go:Bool}{a:Act}{F:af}:gz P J ops F0 Q .done go a F=Q a F:=rfl
theorem Gw {P:Program}{J:Goroutine->af->Prop}{ops:Array Oper}{F0:af}{Q:Act->af->Prop}{o:Oper}{p:mb}{a:Act}{F:af}:gz P J ops F0 Q (.rd o p) true a F=match cT ops o a with
  |some false=>gz P J ops F0 Q p true (bB a o.dst undef) F
  |some true=>match o.op with
   | .load t x=>match ev a x with
    | .pointer (some ad)=>match fV P F0 t ad with
     |some v=>gz P J ops F0 Q p true (bB a o.dst v) F
     |none=>False
    |_=>False
   | .call {callee:=.value x,args, ..}=>match ev a x with
    | .func (.func fn) first captured=>aR P fn=true/\∃v,Plain P J F0 fn (first++args.map (ev a)++captured) v/\gz P J ops F0 Q p false (bB a o.dst v) F
    |_=>False
   |_=>match jD P o a with
    |some v=>gz P J ops F0 Q p true (bB a o.dst v) F
    |none=>False
  |none=>False:=(Eq.refl _).trans (Eq.refl _)
theorem Gx {P:Program}{J:Goroutine->af->Prop}{ops:Array Oper}{F0:af}{Q:Act->af->Prop}{o:Oper}{p:mb}{a:Act}{F:af}:gz P J ops F0 Q (.one o p) true a F=match cT ops o a with
  |some true=>c7 P J o (fun v F'=>Knows F0 F'/\gz P J ops F0 Q p (!Oper.calls o) (bB a o.dst v) F') a F
  |_=>False:=(Eq.refl _).trans (Eq.refl _)
attribute [irreducible] gz
attribute [go_sem] Gv Gw Gx k4.opers
theorem Bu {F:af}{a:Addr}:∀(cs:List Value) (i:Nat),(∀j v,cs[j]?=some v->F.get (a.add (i+j))=some v)->F.dJ a i cs.length=some cs
 |[],i,_=>rfl
 |v::cs,i,h=>by
  have b:=h 0 v rfl
  rw[Nat.add_zero] at b
  have ih:=Bu cs (i+1) (fun j w hw=>by
   have:=h (j+1) w (by simpa using hw)
   rwa [show i+(j+1)=i+1+j by omega] at this)
  simp only[List.length_cons,af.dJ,b,ih]
theorem Bv {F:af}{a:Addr}:∀(m i k:Nat) (d c:List Value),F.dJ a i m=some d->F.dJ a (i+m) k=some c->F.dJ a i (m+k)=some (d++c)
 |0,i,k,d,c,b,e=>by
  simp only[af.dJ,Option.some.injEq] at b
  subst b
  rw[Nat.zero_add]
  simpa using e
 |m+1,i,k,d,c,b,e=>by
  unfold af.dJ at b
  split at b
  case h_2=>cases b
  rename_i v f
  split at b
  case h_2=>cases b
  rename_i vs g
  cases b
  have ih:=Bv m (i+1) k vs c g (by rwa [show i+1+m=i+(m+1) by omega])
  rw[show m+1+k=(m+k)+1 by omega]
  simp only[af.dJ,f,ih,List.cons_append]
theorem aH.cells {T:Type}{r:cu T}{ro:Addr->Option Value}{ad:Option Addr}{c:Nat}{l:List T}(h:aH r ro (.slice ad l.length c) l)(F:af)(z:∀a v,ro a=some v->F.get a=some v):
  ∃b:List (List Value),b.length=l.length/\(∀x∈b,x.length=r.n/\∀v∈x,bP v=true)/\(∀(i:Nat) (x:T),l[i]?=some x->∃cs,b[i]?=some cs/\r.rel ro x cs)/\gL F r.n (.slice ad l.length c)=some b.flatten:=by
 obtain ⟨G,H,e,_,_,he⟩:=h
 cases e
 cases m:l with
 |nil=>subst m;refine ⟨[],rfl,au,au,?_⟩;cases ad<;>simp[gL,af.dJ]
 |cons A l0=>
  obtain ⟨p,I,B,-,-⟩:=he 0 A (by rw[m];rfl)
  subst B
  rw[<-m]
  have key:∀k,k<=l.length->∃b:List (List Value),b.length=k/\(∀x∈b,x.length=r.n/\∀v∈x,bP v=true)/\(∀(i:Nat) (x:T),i<k->l[i]?=some x->∃cs,b[i]?=some cs/\r.rel ro x cs)/\F.dJ p 0 (k*r.n)=some b.flatten:=by
   intro k
   induction k with
   |zero=>intro _;exact ⟨[],rfl,au,au,by simp[af.dJ]⟩
   |succ k ih=>
    intro J
    obtain ⟨b,f,o,q,s⟩:=ih aa
    have d:l[k]?=some l[k]:=List.getElem?_eq_getElem aa
    obtain ⟨K,cs,C,t,hm⟩:=he k _ d
    cases C
    have w:=r.len t
    refine ⟨b++[cs],by simp[f],fun y D=>?_,fun i x hi u=>?_,?_⟩
    .rcases List.mem_append.1 D with h|h
     .exact o y h
     .simp only[List.mem_singleton] at h;subst h;exact ⟨w,r.one t⟩
    .rcases Nat.lt_or_ge i k with h|h
     .obtain ⟨cs',a1,a2⟩:=q i x h u
      exact ⟨cs',by rw[List.getElem?_append_left aa];exact a1,a2⟩
     .have:i=k:=aa
      subst this
      rw[d] at u
      obtain rfl:=Option.some.inj u
      exact ⟨cs,by rw[List.getElem?_append_right aa];simp[f],t⟩
    .rw[Nat.succ_mul]
     have g:=Bu (F:=F) (a:=p) cs (k*r.n) (fun j v E=>z _ _ (by have:=hm j v E;rwa [lZ] at this))
     rw[w] at g
     have:=Bv (k*r.n) 0 r.n b.flatten cs s (by rw[Nat.zero_add];exact g)
     rw[this]
     simp
  obtain ⟨b,f,o,q,s⟩:=key l.length (Nat.le_refl _)
  exact ⟨b,f,o,fun i x d=>q i x (List.getElem?_eq_some_iff.1 d).1 d,s⟩
theorem bg.empty {T:Type}{r:cu T}{ro:Addr->Option Value}{e:TypeId}{b:Nat}(a:∀off sp,ro ⟨b,off,sp⟩=none):bg r ro e (.slice (some ⟨b,0,none⟩) 0 0) [] [(b,.cells #[] e)]:=
 ⟨[],.inr ⟨b,#[],0,rfl,rfl,au,Nat.le_refl _,au,au,a⟩,rfl,au,fun i x h=>by simp at h⟩
theorem Bw {ro:Addr->Option Value}{x:Nat×Obj}{l:List (Nat×Obj)}:Le ⟨ro,l++[x]⟩ ⟨ro,x::l⟩:=by
 have d:∀b,b∈keys (l++[x])↔b∈keys (x::l):=fun b=>by
  simp only[keys,List.map_append,List.map_cons,List.map_nil,List.mem_append,List.mem_cons,List.not_mem_nil,or_false];exact Or.comm
 refine ⟨fun w hw=>⟨hw.ro,fun b o hb=>hw.own b o ?_,?_,fun a v h hm=>hw.apart a v h ((d _).1 hm)⟩,fun b hb=>(d b).1 hb,fun a c=>.inl c⟩
 .rcases List.mem_append.1 hb with h|h
  .exact List.mem_cons_of_mem _ h
  .simp only[List.mem_singleton] at h;rw[h];exact List.mem_cons_self
 .have:=hw.nodup;simp only[keys,List.map_cons,List.nodup_cons] at this;simp only[keys,List.map_append,List.map_cons,List.map_nil];rw[List.nodup_append];refine ⟨this.2,au,fun a c b hb e=>?_⟩;simp only[List.mem_singleton] at hb;subst hb;exact this.1 (e▸c)
theorem qS {P:Program}{T:Type}{r:cu T}{ro:Addr->Option Value}{rest:List (Nat×Obj)}{ks:List Nat}{R:Value->af->Prop}{argTypes:Array TypeId}{m o e y:TypeId}{f b c:Nat}{ad:Option Addr}{z:Value}{xs:List T}
  (A:∀off sp,ro ⟨b,off,sp⟩=none) (B:av rest b) (p:keys rest=ks) (hlen:xs.length<=1000000) (C:aH r ro (.slice ad xs.length c) xs)
  (D:argTypes[0]?=some m) (E:argTypes[1]?=some o) (he:dD P m=some e) (F:dD P o=some y) (hs:cj P e=some r.n) (G:zeroOf P e=some z) (H:z.cells.size=r.n) (hb:bytesOf P e=some f)
  (I:0<f) (J:f<=10000)
  (q:∀v g,bg r ro e v xs g->Apart ks g->R v ⟨ro,rest++g⟩):m6 P argTypes (.slice (some ⟨b,0,none⟩) 0 0) (.slice ad xs.length c) R ⟨ro,(b,.cells #[] e)::rest⟩:=by
 intro ty
 obtain ⟨d,k1,K,L,M⟩:=C.cells ⟨ro,(b,.cells #[] e)::rest⟩ (fun a v h=>by simp[af.get,h])
 have s:∀x∈d,x.length=r.n:=fun x h=>(K x h).1
 have i:=iY s
 refine wE (old:=[]) D E he F hs G hb I J (by simpa using hlen) (by simp[gL,af.dJ]) M (fun hc=>?_) (fun hc k t l u=>?_)
 .have N:xs.length=0:=aa
  have O:xs=[]:=List.eq_nil_of_length_eq_zero N
  have Q:d=[]:=List.eq_nil_of_length_eq_zero aa
  subst O Q
  refine .inl ⟨_,_,rfl,rfl,⟨ro,rest++[(b,.cells #[] e)]⟩,Bw,q _ _ (bg.empty A) fun k l=>?_⟩
  simp only[keys,List.map_cons,List.map_nil,List.mem_singleton] at l
  subst l
  rw[<-p]
  exact l7 B
 .refine ⟨⟨ro,rest++[(t,.cells (([]:List Value).toArray++d.flatten.toArray++Builtin.zeroCells z.cells (k - (0+xs.length))) e)]⟩,Bw.trans (Le.sub (.cons₂ _ (.cons _ (List.Sublist.refl _)))),q _ _ ?_ fun j w=>?_⟩
  .refine ⟨d,.inr ⟨t,_,k,by rw[k1,Nat.zero_add],rfl,?_,aa,?_,s,u.ro⟩,k1,hlen,L⟩
   .simp only[List.nil_append,Array.size_append,List.size_toArray,List.length_nil,Builtin.zeroCells,Array.size_map,Array.size_range,i,H,k1]
    rw[Nat.zero_add,<-Nat.add_mul]
    congr 1;omega
   .simp only[Array.toList_append,List.nil_append]
    rw[List.take_append_of_le_length (by simp[i])]
    rw[List.take_of_length_le (by simp[i])]
  .simp only[keys,List.map_cons,List.map_nil,List.mem_singleton] at w
   subst w
   rw[<-p]
   exact l7 u.own.2
end Go.Sep
end

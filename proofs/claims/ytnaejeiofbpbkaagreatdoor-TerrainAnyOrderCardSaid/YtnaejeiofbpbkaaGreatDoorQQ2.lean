/- A part of the proof: QQ2. -/
import Derived.Test.YtnaejeiofbpbkaaGreatDoorQQ1
import Derived.WalkKit
import Derived.IntWalk
import Derived.NoCompilerSame
import Derived.Test.YtnaejeiofbpbkaaGreatDoorProg
import Derived.KernelRfl
set_option linter.all false
section
namespace Go.Sep
open Go Go.Conc
section
variable {α β:Type}{P:Program}{Q:α->aa->Prop}{F:aa}
@[go_sem] theorem bK (a:α):aX P (Pure.pure a) Q F=Q a F:=rfl
@[go_sem] theorem Oa (a:α):aX P (Sem.pure a) Q F=Q a F:=rfl
@[go_sem] theorem bx {R:β->aa->Prop}(x:Sem α)(f:α->Sem β):aX P (x>>= f) R F=aX P x (fun a G=>aX P (f a) R G) F:=propext (Av x F)
@[go_sem] theorem Ob {R:β->aa->Prop}(x:Sem α)(f:α->β):aX P (Functor.map f x) R F=aX P x (fun a G=>R (f a) G) F:=propext (Av x F)
@[go_sem] theorem dz (c:Prop)[Decidable c](x y:Sem α):aX P (if c then x else y) Q F=if c then aX P x Q F else aX P y Q F:=by split<;>rfl
@[go_sem] theorem AW {Q:Value->aa->Prop}(a:Addr):aX P (load a) Q F=∃v,F.get a=some v/\Q v F:=by simp[load,aX]
@[go_sem] theorem FJ {Q:Unit->aa->Prop}(a:Addr)(v:Value):aX P (store a v) Q F=∃F',F.mJ a v=some F'/\Q () F':=by simp[store,aX]
theorem qs {Q:Nat->aa->Prop}(o:Obj):aX P (newObj o) Q F=(o.isChan=false/\∀b,eg F b->Q b (F.push b o)):=rfl
theorem kS {Q:Program->aa->Prop}:aX P program Q F=Q P F:=rfl
theorem wD {Q:Nat->aa->Prop}(q:Question):aX P (choose q) Q F=if q.forced then Q 0 F else ∀t,Q (q.cut t) F:=rfl
theorem ow {Q:Obj->aa->Prop}(r:Nat):aX P (getObj r) Q F=∃o,F.fj r=some o/\Q o F:=rfl
theorem mM {Q:Unit->aa->Prop}(r:Nat)(o:Obj):aX P (Go.setObj r o) Q F=(o.isChan=false/\(F.fj r).isSome=true/\Q () (F.put r o)):=rfl
theorem Oc (s:String):aX P (stuck s:Sem α) Q F=False:=rfl
theorem Od {Q:Unit->aa->Prop}(m:Mark):aX P (mark m) Q F=(qm m=true/\Q () F):=rfl
attribute [go_sem] qs kS wD ow mM Oc Od
@[go_sem] theorem dG {Q:TypeDesc->aa->Prop}(t:TypeId):aX P (underlying t) Q F=match P.underlying t with|some d=>Q d F|none=>False:=by
 simp only[underlying,bx,kS];cases P.underlying t<;>rfl
@[go_sem] theorem qt {Q:TypeInfo->aa->Prop}(t:TypeId):aX P (typeInfo t) Q F=match P.info? t with|some d=>Q d F|none=>False:=by
 simp only[typeInfo,bx,kS];cases P.info? t<;>rfl
def bZ (P:Program)(t:TypeId):Option Nat:=(P.info? t).map (·.size)
def zeroOf (P:Program)(t:TypeId):Option Value:=(P.info? t).bind (·.zero)
def bytesOf (P:Program)(t:TypeId):Option Nat:=(P.info? t).map (·.bytes)
@[go_sem] theorem eV {Q:Nat->aa->Prop}(t:TypeId):aX P (sizeOf t) Q F=match bZ P t with|some n=>Q n F|none=>False:=by
 simp only[sizeOf,bx,qt,bZ];cases P.info? t<;>rfl
@[go_sem] theorem mN {Q:Value->aa->Prop}(t:TypeId):aX P (zeroValue t) Q F=match zeroOf P t with|some n=>Q n F|none=>False:=by
 simp only[zeroValue,bx,qt,zeroOf];cases P.info? t with
 |none=>rfl
 |some i=>simp only[Option.bind_some];cases i.zero<;>rfl
def cC (P:Program)(t:TypeId):Option Bool:=(P.underlying t).map fun| .struct _=>true| .array _ _=>true|_=>false
@[go_sem] theorem mO {Q:Bool->aa->Prop}(t:TypeId):aX P (isAgg t) Q F=match cC P t with|some n=>Q n F|none=>False:=by
 simp only[isAgg,bx,dG,cC];cases P.underlying t with
 |none=>rfl
 |some d=>cases d<;>rfl
def aa.mP (F:aa)(a:Addr):Nat->List Value->Prop
 |_,[]=>True
 |i,v::b=>F.get (a.add i)=some v/\F.mP a (i+1) b
theorem wE {Q:Array Value->aa->Prop}(a:Addr):∀(b:List Value) (i:Nat) (acc:Array Value),F.mP a i b->Q (acc++b.toArray) F->aX P (loadCellsFrom a i b.length acc) Q F
 |[],i,acc,_,h=>by simpa [loadCellsFrom,bK] using h
 |v::b,i,acc,hg,h=>by
  simp only[List.length_cons,loadCellsFrom,bx,AW]
  refine ⟨v,hg.1,wE a b (i+1) (acc.push v) hg.2 ?_⟩
  simpa using h
theorem FK {Q:Value->aa->Prop}{t:TypeId}{a:Addr}(b:List Value)(ht:cC P t=some true)(hs:bZ P t=some b.length)(hg:F.mP a 0 b)(h:Q (.agg b.toArray) F):aX P (loadVar t a) Q F:=by
 simp only[loadVar,bx,mO,ht,dz,if_true,eV,hs,loadCells];exact wE a b 0 #[] hg (by simpa [bK] using h)
theorem FL {Q:Value->aa->Prop}{t:TypeId}{a:Addr}(v:Value)(ht:cC P t=some false)(hg:F.get a=some v)(h:Q v F):aX P (loadVar t a) Q F:=by
 simp only[loadVar,bx,mO,ht,dz,AW];exact ⟨v,hg,h⟩
def aa.j7 (F:aa)(a:Addr):Nat->List Value->Option aa
 |_,[]=>some F
 |i,v::b=>match F.mJ (a.add i) v with
  |some F'=>F'.j7 a (i+1) b
  |none=>none
theorem sN {Q:Unit->aa->Prop}(a:Addr):∀(b:List Value) (i:Nat) (F F':aa),F.j7 a i b=some F'->Q () F'->aX P (storeCells a b i) Q F
 |[],i,F,F',hg,h=>by simp only[aa.j7,Option.some.injEq] at hg;subst hg;simpa [storeCells,bK] using h
 |v::b,i,F,F',hg,h=>by
  simp only[storeCells,bx,FJ]
  unfold aa.j7 at hg
  split at hg
  .rename_i c d
   exact ⟨c,d,sN a b (i+1) c F' hg h⟩
  .cases hg
theorem FM {Q:Unit->aa->Prop}{t:TypeId}{a:Addr}{v:Value}(F':aa)(hs:bZ P t=some v.cells.size)(hg:F.j7 a 0 v.cells.toList=some F')(h:Q () F'):aX P (storeVar t a v) Q F:=by
 simp only[storeVar,bx,eV,hs,ne_eq,not_true_eq_false,if_false];exact sN a _ 0 F F' hg h
@[go_sem] theorem AX {Q:Addr->aa->Prop}(t:TypeId)(v:Value):aX P (newVar t v) Q F=∀b,eg F b->Q ⟨b,0,none⟩ (F.push b (.cells v.cells t)):=by
 simp only[newVar,newRow,bx,qs,bK];simp[Obj.isChan]
@[go_sem] theorem sO {Q:Addr->aa->Prop}(t:TypeId)(v:Array Value):aX P (newRow t v) Q F=∀b,eg F b->Q ⟨b,0,none⟩ (F.push b (.cells v t)):=by
 simp only[newRow,bx,qs,bK];simp[Obj.isChan]
theorem sP {Q:Addr->aa->Prop}(a:Addr):aX P (Instr.sureAddr (.pointer (some a))) Q F=Q a F:=rfl
theorem lQ {Q:IntKind×Int->aa->Prop}(k:IntKind)(n:Int):aX P (asIntOf (.int k n)) Q F=Q (k,n) F:=rfl
theorem AY {Q:Int->aa->Prop}(k:IntKind)(n:Int):aX P (asInt (.int k n)) Q F=Q n F:=rfl
theorem FN {Q:Bool->aa->Prop}(b:Bool):aX P (asBool (.bool b)) Q F=Q b F:=rfl
theorem FO {Q:Array Value->aa->Prop}(b:Array Value):aX P (asAgg (.agg b)) Q F=Q b F:=rfl
attribute [go_sem] sP lQ AY FN FO
end
def slot (a:Act)(i:Nat):Value:=a.tmps.getD i undef
def sz (a:Act):Nat:=a.tmps.size
def bf (a:Act)(d:Option Tmp)(v:Value):Act:=a.put d v
def ev (a:Act)(x:Operand):Value:=a.eval x
theorem Oe (a:Act)(t:Nat):ev a (.tmp t)=slot a t:=rfl
theorem Of (a:Act)(v:Value):ev a (.const v)=v:=rfl
theorem Og (a:Act)(g:Nat):ev a (.global g)= .pointer (some ⟨g,0,none⟩):=rfl
theorem Oh (a:Act)(f:Nat):ev a (.func f)= .func (.func f) #[] #[]:=rfl
theorem Oi (a:Act)(v:Value):bf a none v=a:=rfl
attribute [go_sem] Oe Of Og Oh Oi
@[go_sem] theorem AZ (a:Act)(d:Option Tmp)(v:Value):sz (bf a d v)=sz a:=by cases d<;>simp[sz,bf,Act.put]
theorem FP (a:Act)(d:Nat)(v:Value)(h:d<sz a):slot (bf a (some d) v) d=v:=by
 simp only[sz] at h;simp[slot,bf,Act.put,h]
theorem wF (a:Act)(d i:Nat)(v:Value)(h:¬d=i):slot (bf a (some d) v) i=slot a i:=by
 simp[slot,bf,Act.put,Array.getElem?_setIfInBounds_ne h]
@[go_sem] theorem Oj (a:Act)(d i:Nat)(v:Value)(h:d<sz a):slot (bf a (some d) v) i=if d=i then v else slot a i:=by
 split
 .rename_i e;subst e;exact FP a d v h
 .rename_i e;exact wF a d i v e
@[go_sem] theorem A0 (a:Act)(d:Option Tmp)(v:Value):(bf a d v).defers=a.defers:=by cases d<;>rfl
theorem aF.start {P:Program}{f:FuncId}{fn:Func}{c:Code}{n:Nat}{args:Array Value}{F:aa}{R:Value->aa->Prop}(b:P.funcs[f]?=some fn)(hb:fn.body=some c)(a:fn.ntmps=n)(d:args.size<=n)
  (h:∀main J,Closed P main J->∀A:Act,sz A=n->A.defers=[]->(∀i,slot A i=args.getD i undef)->Wp J c (sK P fn R) A F):aF P f args F R:=
 aF.of_wp b hb fun main J hJ=>h main J hJ _ (by simp[sz,a];omega) rfl fun i=>by
  simp only[slot,a,Array.getD_eq_getD_getElem?]
  rcases Nat.lt_or_ge i args.size with hi|hi
  .rw[Array.getElem?_append_left hi]
  .rw[Array.getElem?_append_right hi,Array.getElem?_replicate,Array.getElem?_eq_none hi]
   split<;>rfl
def dm (P:Program)(t:TypeId):Option TypeId:=match P.underlying t with|some (.slice e)=>some e|_=>none
def oz (P:Program)(t:TypeId):Option (Nat×TypeId):=match P.underlying t with|some (.array n e)=>some (n,e)|_=>none
def cT (P:Program)(t:TypeId)(n:Nat):Option Nat:=
 match P.underlying t with
 |some (.struct fs)=>match fs[n]? with
  |some f=>match bZ P f.type with
   |some (_+1)=>some f.offset
   |_=>none
  |none=>none
 |_=>none
def wH (P:Program)(t:TypeId)(n:Nat):Option (Nat×Nat×Bool):=
 match P.underlying t with
 |some (.struct fs)=>match fs[n]? with
  |some f=>match bZ P f.type,cC P f.type with
   |some s,some g=>some (f.offset,s,g)
   |_,_=>none
  |none=>none
 |_=>none
def placesOf (P:Program)(t:TypeId):Option (List (Nat×Nat)):=
 match P.underlying t with
 |some (.struct fs)=>fs.toList.mapM fun f=>(bZ P f.type).map fun s=>(f.offset,s)
 |_=>none
def aH (P:Program)(f:FuncId):Bool:=match P.funcs[f]? with|some fn=>!(fn.body.isNone||fn.name== "runtime.NumGoroutine")|none=>false
def aa.dA (F:aa)(a:Addr):Nat->Nat->Option (List Value)
 |_,0=>some []
 |i,n+1=>match F.get (a.add i) with
  |some v=>match F.dA a (i+1) n with
   |some b=>some (v::b)
   |none=>none
  |none=>none
theorem wI (F:aa)(a:Addr):∀(n i:Nat) (b:List Value),F.dA a i n=some b->F.mP a i b/\b.length=n
 |0,i,b,h=>by simp only[aa.dA,Option.some.injEq] at h;subst h;exact ⟨trivial,rfl⟩
 |n+1,i,b,h=>by
  unfold aa.dA at h
  split at h
  .rename_i v c
   split at h
   .rename_i ws d
    cases h
    obtain ⟨h1,h2⟩:=wI F a n (i+1) ws d
    exact ⟨⟨c,h1⟩,by simp[h2]⟩
   .cases h
  .cases h
def fC (P:Program)(F:aa)(t:TypeId)(ad:Addr):Option Value:=
 match cC P t with
 |some false=>F.get ad
 |some true=>match bZ P t with
  |some n=>match F.dA ad 0 n with
   |some a=>some (.agg a.toArray)
   |none=>none
  |none=>none
 |none=>none
def sQ (P:Program)(F:aa)(t:TypeId)(ad:Addr)(v:Value):Option aa:=
 match bZ P t with
 |some n=>if n=v.cells.size then F.j7 ad 0 v.cells.toList else none
 |none=>none
theorem A1 {P:Program}{F:aa}{t:TypeId}{ad:Addr}{v:Value}{Q:Value->aa->Prop}(h:fC P F t ad=some v)(a:Q v F):aX P (loadVar t ad) Q F:=by
 unfold fC at h;split at h
 .rename_i hg;exact FL v hg h a
 .rename_i hg;split at h
  .rename_i n c;split at h
   .rename_i b d;cases h;obtain ⟨h1,h2⟩:=wI F ad n 0 b d;exact FK b hg (by rw[c,h2]) h1 a
   .cases h
  .cases h
 .cases h
theorem FQ {P:Program}{F F':aa}{t:TypeId}{ad:Addr}{v:Value}{Q:Unit->aa->Prop}(h:sQ P F t ad v=some F')(a:Q () F'):aX P (storeVar t ad v) Q F:=by
 unfold sQ at h;split at h
 .rename_i n b;split at h
  .rename_i e;exact FM F' (by rw[b,e]) h a
  .cases h
 .cases h
def oA (op:BinOp):Value->Value->Option Value
 | .int k a,.int c b=>if k=c then match op with
   | .add=>some (.int k (k.wrap (a+b)))
   | .sub=>some (.int k (k.wrap (a - b)))
   | .mul=>some (.int k (k.wrap (a*b)))
   | .quo=>if b=0 then none else some (.int k (k.wrap (a.tdiv b)))
   | .rem=>if b=0 then none else some (.int k (a.tmod b))
   | .eql=>some (.bool (a==b))
   | .neq=>some (.bool (a != b))
   | .lss=>some (.bool (decide (a<b)))
   | .leq=>some (.bool (decide (a<=b)))
   | .gtr=>some (.bool (decide (a>b)))
   | .geq=>some (.bool (decide (a≥b)))
   | .shl=>if b<0 then none else some (.int k (k.wrap (a*2 ^ min b.toNat k.bits)))
   | .shr=>if b<0 then none else some (.int k (a.fdiv (2 ^ min b.toNat k.bits)))
   | .and=>some (.int k (k.wrap (BitVec.ofInt k.bits a&&& BitVec.ofInt k.bits b).toNat))
   | .or=>some (.int k (k.wrap (BitVec.ofInt k.bits a|||BitVec.ofInt k.bits b).toNat))
   | .andNot=>some (.int k (k.wrap (BitVec.ofInt k.bits a&&& ~~~(BitVec.ofInt k.bits b)).toNat))
   | .xor=>some (.int k (k.wrap (BitVec.ofInt k.bits a ^^^ BitVec.ofInt k.bits b).toNat))
  else none
 |_,_=>none
theorem jw {P:Program}{s:Sem Value}{Q:Next->aa->Prop}{F:aa}:aX P (do pure (Next.value (<-s)):Sem Next) Q F=aX P s (fun v G=>Q (.value v) G) F:=by
 simp only[bx,bK]
theorem wJ {P:Program}(op:BinOp)(t:TypeId)(x y:Operand)(k c:IntKind)(a b:Int){Q:Unit->aa->Prop}{F:aa}(h:Q () F):aX P (eqGuard op t x y (.int k a) (.int c b)) Q F:=by
 unfold eqGuard;cases op<;>simp<;>exact h
theorem FR {P:Program}{op:BinOp}{t:TypeId}{x y:Operand}{u v w:Value}{Q:Value->aa->Prop}{F:aa}(h:oA op u v=some w)(c:Q w F):aX P (do eqGuard op t x y u v;binOp op t u v) Q F:=by
 unfold oA at h;split at h
 case h_2=>cases h
 rename_i k a e b;split at h
 case isFalse=>cases h
 rename_i d;subst d;rw[bx];refine wJ op t x y k k a b ?_;cases op<;>simp only[binOp,ne_eq,not_true_eq_false,if_false,Op.intArith,Op.intDiv,Op.intCmp,Op.intBits,Op.shift,dz] at h ⊢<;>first
  |(cases h;done)
  |(cases h;exact c)
  |(split at h
    .cases h
    .rename_i hb;rw[if_neg hb];cases h;exact c)
def mQ (op:UnOp):Value->Option Value
 | .int k a=>match op with
  | .neg=>some (.int k (k.wrap (0 - a)))
  |_=>none
 | .bool b=>match op with
  | .not=>some (.bool (!b))
  |_=>none
 |_=>none
theorem FT {P:Program}{op:UnOp}{u w:Value}{Q:Value->aa->Prop}{F:aa}(h:mQ op u=some w)(a:Q w F):aX P (Op.unary op u) Q F:=by
 cases u<;>cases op<;>simp only[mQ] at h<;>first|(cases h;done)|(cases h;exact a)
def sR:Value->Value->Option Value
 | .int k x,.int _ y=>some (.int k (if y>x then y else x))
 |_,_=>none
def sS:Value->Value->Option Value
 | .int k x,.int _ y=>some (.int k (if y<x then y else x))
 |_,_=>none
def qu (P:Program)(t:TypeId):Value->Value->Option Value
 | .slice (some ad) len _,.int _ i=>match dm P t with
  |some e=>match bZ P e with
   |some n=>if 0<=i/\i<(len:Int) then some (.pointer (some (ad.add (i.toNat*n)))) else none
   |none=>none
  |none=>none
 | .pointer (some ad),.int _ i=>match oz P t with
  |some (len,e)=>match bZ P e with
   |some n=>if 0<=i/\i<(len:Int) then some (.pointer (some (ad.add (i.toNat*n)))) else none
   |none=>none
  |none=>none
 |_,_=>none
theorem FU {P:Program}{t:TypeId}{u v w:Value}{Q:Value->aa->Prop}{F:aa}(h:qu P t u v=some w)(c:Q w F):aX P (Instr.indexAt t u v) Q F:=by
 unfold qu at h;split at h
 .rename_i ad len cap k i;split at h
  case h_2=>cases h
  rename_i e he;split at h
  case h_2=>cases h
  rename_i n a;split at h
  case isFalse=>cases h
  rename_i hi;cases h;have hu:P.underlying t=some (.slice e):=by
   unfold dm at he;split at he
   .rename_i d b;cases he;exact b
   .cases he
  simp only[Instr.indexAt,bx,lQ,dG,hu,bK,dz,if_pos hi,eV,a];exact c
 .rename_i ad k i;split at h
  case h_2=>cases h
  rename_i len e he;split at h
  case h_2=>cases h
  rename_i n a;split at h
  case isFalse=>cases h
  rename_i hi;cases h;have hu:P.underlying t=some (.array len e):=by
   unfold oz at he;split at he
   .rename_i f d b;cases he;exact b
   .cases he
  simp only[Instr.indexAt,bx,lQ,dG,hu,bK,sP,dz,if_pos hi,eV,a];exact c
 .cases h
def oB (P:Program)(t:TypeId)(x:Value)(lo hi:Option Value):Option Value:=
 match x,dm P t with
 | .slice ad len cap,some e=>match bZ P e with
  |some n=>
   match (match lo with|none=>some 0|some (.int _ i)=>if 0<=i then some i.toNat else none|_=>none),(match hi with|none=>some len|some (.int _ i)=>if 0<=i then some i.toNat else none|_=>none) with
   |some l,some h=>if l<=h/\h<=cap then some (.slice (if cap=l then ad else ad.map (·.add (l*n))) (h - l) (cap - l)) else none
   |_,_=>none
  |none=>none
 |_,_=>none
theorem FV {P:Program}{t:TypeId}{x w:Value}{lo hi:Option Value}{Q:Value->aa->Prop}{F:aa}(hlen:∀ad len cap,x= .slice ad len cap->len<=cap)(h:oB P t x lo hi=some w)(c:Q w F):aX P (Instr.sliceAt t x lo hi none) Q F:=by
 unfold oB at h;split at h
 case h_2=>cases h
 rename_i ad len cap e he;have g:=hlen ad len cap rfl;have hu:P.underlying t=some (.slice e):=by
  unfold dm at he;split at he
  .rename_i m f;cases he;exact f
  .cases he
 split at h
 case h_2=>cases h
 rename_i n d;split at h
 case h_2=>cases h
 rename_i l o a b;split at h
 case isFalse=>cases h
 rename_i hb;cases h;simp only[Instr.sliceAt,bx,dG,hu,Instr.slice,Instr.sliceBounds,bK];cases hi with
 |none=>
  simp only[Option.some.injEq] at b;subst b;simp only[bK];cases lo with
  |none=>
   simp only[Option.some.injEq] at a;subst a;simp only[bK,eV,d];exact c
  |some v=>
   cases v<;>simp only[reduceCtorEq] at a;rename_i k i;split at a
   case isFalse=>cases a
   rename_i h0;cases a;have:0<=i/\i<=(len:Int):=⟨h0,by omega⟩
   simp only[Instr.sliceBound,bx,lQ,dz,if_pos this,bK,eV,d];exact c
 |some v=>
  cases v<;>simp only[reduceCtorEq] at b;rename_i k i;split at b
  case isFalse=>cases b
  rename_i h0;cases b;have h1:0<=i/\i<=(cap:Int):=⟨h0,by omega⟩
  simp only[Instr.sliceBound,bx,lQ,dz,if_pos h1,bK];cases lo with
  |none=>
   simp only[Option.some.injEq] at a;subst a;simp only[bK,eV,d];exact c
  |some v=>
   cases v<;>simp only[reduceCtorEq] at a;rename_i p j;split at a
   case isFalse=>cases a
   rename_i h2;cases a;have h3:0<=j/\j<=((i.toNat:Nat):Int):=⟨h2,by omega⟩
   simp only[bx,lQ,dz,if_pos h3,bK,eV,d];exact c
def gY:List Value->List Value->Option Bool
 |[],[]=>some true
 | .int k a::xs,.int c b::ys=>if k=c then match gY xs ys with
   |some r=>some (a==b&&r)
   |none=>none
  else none
 | .bool a::xs,.bool b::ys=>match gY xs ys with
   |some r=>some (a==b&&r)
   |none=>none
 |_,_=>none
theorem sU:∀{xs ys:List Value} {us b:List Value} {r:Bool},xs.length=ys.length->gY (xs++us) (ys++b)=some r->∃r1 r2,gY xs ys=some r1/\gY us b=some r2/\r=(r1&&r2)
 |[],[],us,b,r,_,h=>⟨true,r,rfl,h,by simp⟩
 |[],y::ys,_,_,_,a,_=>by simp at a
 |x::xs,[],_,_,_,a,_=>by simp at a
 |x::xs,y::ys,us,b,r,a,h=>by
  have d:xs.length=ys.length:=by simpa using a
  cases x<;>cases y<;>simp only[List.cons_append,gY,reduceCtorEq] at h ⊢
  .split at h
   .rename_i e c
    obtain ⟨r1,r2,h1,h2,rfl⟩:=sU d c
    cases h
    exact ⟨_,r2,by rw[h1],h2,by rw[Bool.and_assoc]⟩
   .cases h
  .split at h
   .rename_i f
    split at h
    .rename_i e c
     obtain ⟨r1,r2,h1,h2,rfl⟩:=sU d c
     cases h
     exact ⟨_,r2,by rw[if_pos f,h1],h2,by rw[Bool.and_assoc]⟩
    .cases h
   .cases h
def Kd:List Bool->List Value->Prop
 |[],[]=>True
 |true::ks,.int _ _::xs=>Kd ks xs
 |false::ks,.bool _::xs=>Kd ks xs
 |_,_=>False
theorem Kd.length:∀{ks:List Bool} {xs:List Value},Kd ks xs->xs.length=ks.length
 |[],[],_=>rfl
 |[],x::xs,h=>by simp[Kd] at h
 |k::ks,[],h=>by cases k<;>simp[Kd] at h
 |k::ks,x::xs,h=>by
  have:Kd ks xs:=by cases k<;>cases x<;>simp only[Kd] at h<;>exact h
  simp[Kd.length this]
theorem Kd.split:∀{ks:List Bool} {ls:List Bool} {xs:List Value},Kd (ks++ls) xs->Kd ks (xs.take ks.length)/\Kd ls (xs.drop ks.length)
 |[],_,_,h=>⟨by simp[Kd],by simpa using h⟩
 |k::ks,ls,[],h=>by cases k<;>simp[Kd] at h
 |k::ks,ls,x::xs,h=>by
  cases k<;>cases x<;>simp only[List.cons_append,Kd] at h
  all_goals
   obtain ⟨h1,h2⟩:=Kd.split h
   exact ⟨by simpa [Kd] using h1,by simpa using h2⟩
def qv (P:Program)(g:TypeId->Option (List Bool)):List Field->Nat->Option (List Bool)
 |[],_=>some []
 |f::fs,off=>if f.name≠ "_"/\f.offset=off then match g f.type with
   |some ks=>if bZ P f.type=some ks.length then match qv P g fs (off+ks.length) with
     |some ls=>some (ks++ls)
     |none=>none
    else none
   |none=>none
  else none
def kT (P:Program):Nat->TypeId->Option (List Bool)
 |0,_=>none
 |d+1,t=>match P.underlying t with
  |some .bool=>if cC P t=some false then some [false] else none
  |some (.int _)=>if cC P t=some false then some [true] else none
  |some (.struct fs)=>if cC P t=some true/\P.stoodInHeld t=false then qv P (kT P d) fs.toList 0 else none
  |some (.array n e)=>if cC P t=some true then match kT P d e with
    |some ks=>if bZ P e=some ks.length then some (List.replicate n ks).flatten else none
    |none=>none
   else none
  |_=>none
def Sc (v:Value):Prop:=(∃k a,v= .int k a)\/∃b,v= .bool b
theorem Kd.sc:∀{ks:List Bool} {xs:List Value},Kd ks xs->∀x∈xs,Sc x
 |[],[],_=>by simp
 |[],x::xs,h=>by simp[Kd] at h
 |k::ks,[],h=>by simp
 |k::ks,x::xs,h=>by
  have:Sc x/\Kd ks xs:=by cases k<;>cases x<;>simp only[Kd] at h<;>first|exact ⟨.inl ⟨_,_,rfl⟩,h⟩|exact ⟨.inr ⟨_,rfl⟩,h⟩
  simpa using ⟨this.1,Kd.sc this.2⟩
theorem Sc.cells {v:Value}(h:Sc v):v.cells=#[v]:=by
 rcases h with ⟨k,a,rfl⟩|⟨b,rfl⟩<;>rfl
def Shape (P:Program)(t:TypeId)(v:Value):Prop:=(cC P t=some true->∃xs,v= .agg xs)/\(cC P t=some false->Sc v)
section
variable {P:Program}
theorem sV {t:TypeId}{xs:Array Value}{off m:Nat}{g:Bool}{Q:Value->aa->Prop}{F:aa}(hg:cC P t=some g)(hs:bZ P t=some m)(hm:g=false->m=1)(e:off+m<=xs.size)
  (d:∀x∈xs.toList,Sc x) (h:∀v,v.cells.toList=(xs.toList.drop off).take m->Shape P t v->Q v F):aX P (part t xs off) Q F:=by
 simp only[part,bx,mO,hg,dz]
 cases g with
 |true=>
  simp only[if_true,bx,eV,hs,bK]
  refine h _ ?_ ⟨fun _=>⟨_,rfl⟩,fun a=>by rw[hg] at a;cases a⟩
  simp only[Value.cells,Array.toList_extract,List.extract_eq_take_drop]
  congr 1;omega
 |false=>
  have:=hm rfl
  subst this
  have b:off<xs.size:=by omega
  simp only[Bool.false_eq_true,if_false,Array.getElem?_eq_getElem b,bK]
  have c:=d xs[off] (by simp)
  refine h _ ?_ ⟨fun a=>(by rw[hg] at a;cases a),fun _=>c⟩
  rw[c.cells]
  have:off<xs.toList.length:=by simpa using b
  rw[List.drop_eq_getElem_cons this]
  simp
def wK (P:Program)(d:Nat)(t:TypeId)(ks:List Bool):Prop:=
 ∀(u v:Value) (r:Bool) (Q:Bool->aa->Prop) (F:aa),Shape P t u->Shape P t v->Kd ks u.cells.toList->Kd ks v.cells.toList->gY u.cells.toList v.cells.toList=some r->Q r F->aX P (Op.equalIn d t u v) Q F
theorem A2 {d t:Nat}{ks:List Bool}(h:kT P d t=some ks):∃g,cC P t=some g/\(g=false->ks.length=1):=by
 cases d with
 |zero=>cases h
 |succ d=>
  unfold kT at h;split at h
  .split at h
   .rename_i hg;cases h;exact ⟨_,hg,fun _=>rfl⟩
   .cases h
  .split at h
   .rename_i hg;cases h;exact ⟨_,hg,fun _=>rfl⟩
   .cases h
  .split at h
   .rename_i hg;exact ⟨true,hg.1,fun x=>by cases x⟩
   .cases h
  .split at h
   .rename_i hg;exact ⟨true,hg,fun x=>by cases x⟩
   .cases h
  .cases h
theorem A3 {d:Nat}(ih:∀t ks,kT P d t=some ks->wK P d t ks){xs ys:Array Value}{Q:Bool->aa->Prop}{F:aa}(j:∀x∈xs.toList,Sc x)(l:∀x∈ys.toList,Sc x):
  ∀(fs:List Field) (off:Nat) (ks:List Bool) (r:Bool),qv P (kT P d) fs off=some ks->Kd ks (xs.toList.drop off)->Kd ks (ys.toList.drop off)->gY (xs.toList.drop off) (ys.toList.drop off)=some r->off<=xs.size->off<=ys.size->Q r F->
  aX P (do
   let x<-forIn fs ((none,()):Option Bool×Unit) fun f _=>do
    if f.name≠ "_" then
     if (!(<-Op.equalIn d f.type (<-part f.type xs f.offset) (<-part f.type ys f.offset)))=true then pure (ForInStep.done (some false,())) else pure (ForInStep.yield (none,()))
    else pure (ForInStep.yield (none,()))
   match x.fst with
    |some a=>pure a
    |none=>pure true:Sem Bool) Q F
 |[],off,ks,r,b,c,e,he,_,_,h=>by
  simp only[qv,Option.some.injEq] at b
  subst b
  have h1:=c.length
  have h2:=e.length
  rw[List.eq_nil_of_length_eq_zero h1,List.eq_nil_of_length_eq_zero h2] at he
  cases he
  simp only[List.forIn_nil,bx,bK]
  exact h
 |f::fs,off,ks,r,b,c,e,he,C,D,h=>by
  unfold qv at b
  split at b
  case isFalse=>cases b
  rename_i i
  obtain ⟨i,rfl⟩:=i
  split at b
  case h_2=>cases b
  rename_i k m
  split at b
  case isFalse=>cases b
  rename_i hs
  split at b
  case h_2=>cases b
  rename_i ls s
  cases b
  obtain ⟨g,hg,n⟩:=A2 m
  have w:=c.length
  have y:=e.length
  simp only[List.length_drop,Array.length_toList,List.length_append] at w y
  obtain ⟨z,o⟩:=c.split
  obtain ⟨A,p⟩:=e.split
  rw[List.drop_drop] at o p
  have e1:xs.toList.drop f.offset=(xs.toList.drop f.offset).take k.length++xs.toList.drop (f.offset+k.length):=by
   rw[<-List.drop_drop,List.take_append_drop]
  have e2:ys.toList.drop f.offset=(ys.toList.drop f.offset).take k.length++ys.toList.drop (f.offset+k.length):=by
   rw[<-List.drop_drop,List.take_append_drop]
  rw[e1,e2] at he
  obtain ⟨r1,r2,h1,h2,rfl⟩:=sU (by simp;omega) he
  simp only[List.forIn_cons,bx,if_pos i]
  refine sV hg hs n (by omega) j fun u hu B=>?_
  refine sV hg hs n (by omega) l fun v q sv=>?_
  refine ih _ _ m u v r1 _ F B sv (by rw[hu];exact z) (by rw[q];exact A) (by rw[hu,q];exact h1) ?_
  cases r1 with
  |false=>simpa [bK,dz] using h
  |true=>
   have:=A3 ih j l fs (f.offset+k.length) ls r2 s o p h2 (by omega) (by omega) (Q:=Q) (F:=F) (by simpa using h)
   simpa [bK,dz,bx] using this
theorem A4 {d e k:Nat}{ks:List Bool}{g:Bool}(q:wK P d e ks)(h:ks.length=k)(hg:cC P e=some g)(j:g=false->ks.length=1)(hs:bZ P e=some ks.length){xs ys:Array Value}{Q:Bool->aa->Prop}{F:aa}(s:∀x∈xs.toList,Sc x)(t:∀x∈ys.toList,Sc x):
  ∀(n i:Nat) (r:Bool),Kd (List.replicate n ks).flatten (xs.toList.drop (i*k))->Kd (List.replicate n ks).flatten (ys.toList.drop (i*k))->gY (xs.toList.drop (i*k)) (ys.toList.drop (i*k))=some r->i*k<=xs.size->i*k<=ys.size->Q r F->
  aX P (do
   let x<-forIn (List.range' i n) ((none,()):Option Bool×Unit) fun i _=>do
    if (!(<-Op.equalIn d e (<-part e xs (i*k)) (<-part e ys (i*k))))=true then pure (ForInStep.done (some false,())) else pure (ForInStep.yield (none,()))
   match x.fst with
    |some a=>pure a
    |none=>pure true:Sem Bool) Q F
 |0,i,r,b,c,he,_,_,f=>by
  have h1:=b.length
  have h2:=c.length
  rw[List.eq_nil_of_length_eq_zero h1,List.eq_nil_of_length_eq_zero h2] at he
  cases he
  simp only[List.range'_zero,List.forIn_nil,bx,bK]
  exact f
 |n+1,i,r,b,c,he,C,D,f=>by
  have l:(i+1)*k=i*k+k:=by simp only[Nat.add_mul,Nat.one_mul]
  have z:=b.length
  have A:=c.length
  simp only[List.replicate_succ,List.flatten_cons,List.length_drop,Array.length_toList,List.length_append] at z A
  simp only[List.replicate_succ,List.flatten_cons] at b c
  obtain ⟨w,m⟩:=b.split
  obtain ⟨y,o⟩:=c.split
  rw[h] at w m y o
  rw[List.drop_drop,<-l] at m o
  have e1:xs.toList.drop (i*k)=(xs.toList.drop (i*k)).take k++xs.toList.drop ((i+1)*k):=by
   rw[l,<-List.drop_drop,List.take_append_drop]
  have e2:ys.toList.drop (i*k)=(ys.toList.drop (i*k)).take k++ys.toList.drop ((i+1)*k):=by
   rw[l,<-List.drop_drop,List.take_append_drop]
  rw[e1,e2] at he
  obtain ⟨r1,r2,h1,h2,rfl⟩:=sU (by simp;omega) he
  simp only[List.range'_succ,List.forIn_cons,bx]
  refine sV hg hs j (by omega) s fun u hu B=>?_
  refine sV hg hs j (by omega) t fun v p sv=>?_
  rw[h] at hu p
  refine q u v r1 _ F B sv (by rw[hu];exact w) (by rw[p];exact y) (by rw[hu,p];exact h1) ?_
  cases r1 with
  |false=>simpa [bK,dz] using f
  |true=>
   have:=A4 q h hg j hs s t n (i+1) r2 m o h2 (by omega) (by omega) (Q:=Q) (F:=F) (by simpa using f)
   simpa [bK,dz,bx] using this
theorem wL:∀(d t:Nat) (ks:List Bool),kT P d t=some ks->wK P d t ks
 |0,_,_,h=>by cases h
 |d+1,t,ks,h=>by
  intro u v r Q F i sv hu c he j
  unfold kT at h
  split at h
  .rename_i f
   split at h
   case isFalse=>cases h
   rename_i hg
   cases h
   have a1:=i.2 hg
   have a2:=sv.2 hg
   rw[a1.cells] at he hu
   rw[a2.cells] at he c
   simp only[Op.equalIn,bx,dG,f]
   rcases a1 with ⟨k,a,rfl⟩|⟨a,rfl⟩<;>rcases a2 with ⟨m,b,rfl⟩|⟨b,rfl⟩<;>simp[Kd] at hu c
   simp[gY] at he
   subst he
   simpa [bK] using j
  .rename_i f
   split at h
   case isFalse=>cases h
   rename_i hg
   cases h
   have a1:=i.2 hg
   have a2:=sv.2 hg
   rw[a1.cells] at he hu
   rw[a2.cells] at he c
   simp only[Op.equalIn,bx,dG,f]
   rcases a1 with ⟨k,a,rfl⟩|⟨a,rfl⟩<;>rcases a2 with ⟨m,b,rfl⟩|⟨b,rfl⟩<;>simp[Kd] at hu c
   simp[gY] at he
   obtain ⟨l,rfl⟩:=he
   simpa [bK,dz,l] using j
  .rename_i fs f
   split at h
   case isFalse=>cases h
   rename_i hg
   obtain ⟨hg,o⟩:=hg
   obtain ⟨xs,rfl⟩:=i.1 hg
   obtain ⟨ys,rfl⟩:=sv.1 hg
   simp only[Op.equalIn,bx,dG,f,kS,o,Bool.false_eq_true,if_false,dz,bK]
   have:=A3 (P:=P) (d:=d) (fun t ks p=>wL d t ks p) (xs:=xs) (ys:=ys) (Q:=Q) (F:=F) hu.sc c.sc fs.toList 0 ks r h (by simpa [Value.cells] using hu) (by simpa [Value.cells] using c) (by simpa [Value.cells] using he) (by omega) (by omega) j
   rw[<-Array.forIn_toList]
   simp[bx] at this ⊢
   exact ij (fun a G h=>by rcases a with ⟨_|_,_⟩<;>exact h) _ _ this
  .rename_i n e f
   split at h
   case isFalse=>cases h
   rename_i hg
   split at h
   case h_2=>cases h
   rename_i k l
   split at h
   case isFalse=>cases h
   rename_i hs
   cases h
   obtain ⟨xs,rfl⟩:=i.1 hg
   obtain ⟨ys,rfl⟩:=sv.1 hg
   obtain ⟨g,q,s⟩:=A2 l
   simp only[Op.equalIn,bx,dG,f,eV,hs]
   have:=A4 (P:=P) (d:=d) (wL d e k l) rfl q s hs (xs:=xs) (ys:=ys) (Q:=Q) (F:=F) hu.sc c.sc n 0 r (by simpa [Value.cells] using hu) (by simpa [Value.cells] using c) (by simpa [Value.cells] using he) (by simp) (by simp) j
   simp only[Std.Legacy.Range.forIn_eq_forIn_range',Std.Legacy.Range.size,Nat.sub_zero,Nat.add_one_sub_one,Nat.div_one]
   simp[bx] at this ⊢
   exact ij (fun a G h=>by rcases a with ⟨_|_,_⟩<;>exact h) _ _ this
  .cases h
def jx:List Bool->List Value->Bool
 |[],[]=>true
 |true::ks,.int _ _::xs=>jx ks xs
 |false::ks,.bool _::xs=>jx ks xs
 |_,_=>false
theorem wM:∀{ks:List Bool} {xs:List Value},jx ks xs=true->Kd ks xs
 |[],[],_=>trivial
 |[],x::xs,h=>by simp[jx] at h
 |k::ks,[],h=>by cases k<;>simp[jx] at h
 |k::ks,x::xs,h=>by
  cases k<;>cases x<;>first
   |(simp only[jx,reduceCtorEq,Bool.false_eq_true] at h;done)
   |exact wM (ks:=ks) (xs:=xs) (by simpa only[jx] using h)
def oC (P:Program)(t:TypeId):Option (List Bool):=if P.eqGuardType P.depth t=false/\cC P t=some true then kT P Op.maxDepth t else none
def mR (P:Program)(t:TypeId):Value->Value->Option Bool
 | .agg xs,.agg ys=>match oC P t with
  |some ks=>if jx ks xs.toList&&jx ks ys.toList then gY xs.toList ys.toList else none
  |none=>none
 |_,_=>none
theorem wN {t:TypeId}{u v:Value}{r:Bool}{Q:Bool->aa->Prop}{F:aa}(h:mR P t u v=some r)(c:Q r F):aX P (Op.equal t u v) Q F/\P.eqGuardType P.depth t=false/\(∃xs,u= .agg xs)/\∃ys,v= .agg ys:=by
 unfold mR at h;split at h
 case h_2=>cases h
 rename_i xs ys;split at h
 case h_2=>cases h
 rename_i ks a;split at h
 case isFalse=>cases h
 rename_i b;simp only[Bool.and_eq_true] at b;unfold oC at a;split at a
 case isFalse=>cases a
 rename_i hg;refine ⟨?_,hg.1,⟨_,rfl⟩,_,rfl⟩;exact wL _ _ _ a _ _ r Q F ⟨fun _=>⟨_,rfl⟩,fun x=>by rw[hg.2] at x;cases x⟩ ⟨fun _=>⟨_,rfl⟩,fun x=>by rw[hg.2] at x;cases x⟩ (wM b.1) (wM b.2) h c
def wO (P:Program)(t:TypeId):Bool:=match P.underlying t with|some .bool=>true|_=>false
def kU (P:Program)(t:TypeId):Bool:=match P.underlying t with|some (.slice _)=>true|_=>false
def qw (P:Program)(t:TypeId):Value->Value->Option Bool
 | .bool a,.bool b=>if wO P t=true then some (a==b) else none
 | .slice none _ _,.slice b _ _=>if kU P t=true then some b.isNone else none
 | .slice (some _) _ _,.slice none _ _=>if kU P t=true then some false else none
 |_,_=>none
theorem A5 {t:TypeId}{u v:Value}{r:Bool}{Q:Bool->aa->Prop}{F:aa}(h:qw P t u v=some r)(e:Q r F):aX P (Op.equal t u v) Q F/\((∃a b,u= .bool a/\v= .bool b)\/∃a n c b m d,u= .slice a n c/\v= .slice b m d):=by
 obtain ⟨d,hd⟩:∃d,Op.maxDepth=d+1:=⟨_,rfl⟩
 unfold qw at h;split at h
 .split at h
  .rename_i hb;cases h;unfold wO at hb;split at hb
   .rename_i hu;refine ⟨?_,.inl ⟨_,_,rfl,rfl⟩⟩;unfold Op.equal;rw[hd];simp only[Op.equalIn,bx,dG,hu,bK];exact e
   .cases hb
  .cases h
 .split at h
  .rename_i hb;cases h;unfold kU at hb;split at hb
   .rename_i hu;refine ⟨?_,.inr ⟨_,_,_,_,_,_,rfl,rfl⟩⟩;unfold Op.equal;rw[hd];simp only[Op.equalIn,bx,dG,hu,bK];exact e
   .cases hb
  .cases h
 .split at h
  .rename_i hb;cases h;unfold kU at hb;split at hb
   .rename_i hu;refine ⟨?_,.inr ⟨_,_,_,_,_,_,rfl,rfl⟩⟩;unfold Op.equal;rw[hd];simp only[Op.equalIn,bx,dG,hu,bK];exact e
   .cases hb
  .cases h
 .cases h
def qx (P:Program)(op:BinOp)(t:TypeId)(u v:Value):Option Value:=
 match oA op u v with
 |some w=>some w
 |none=>match op with
  | .eql=>match mR P t u v with
   |some r=>some (.bool r)
   |none=>match qw P t u v with
    |some r=>some (.bool r)
    |none=>none
  | .neq=>match mR P t u v with
   |some r=>some (.bool (!r))
   |none=>match qw P t u v with
    |some r=>some (.bool (!r))
    |none=>none
  | .shr=>match u,v with
   | .int k a,.int _ b=>if b<0 then none else some (.int k (a.fdiv (2 ^ min b.toNat k.bits)))
   |_,_=>none
  | .shl=>match u,v with
   | .int k a,.int _ b=>if b<0 then none else some (.int k (k.wrap (a*2 ^ min b.toNat k.bits)))
   |_,_=>none
  |_=>none
theorem FW {op:BinOp}{t:TypeId}{x y:Operand}{u v w:Value}{Q:Value->aa->Prop}{F:aa}(h:qx P op t u v=some w)(e:Q w F):aX P (do eqGuard op t x y u v;binOp op t u v) Q F:=by
 unfold qx at h;split at h
 .rename_i w' hw;cases h;exact FR hw e
 .split at h
  .split at h
   .rename_i r f;cases h;obtain ⟨h1,h2,⟨xs,rfl⟩,ys,rfl⟩:=wN (Q:=fun r G=>Q (.bool r) G) f e;simp only[bx,eqGuard,binOp,kS,h2,dz,bK];simpa using h1
   .split at h
    .rename_i r f;cases h;obtain ⟨h1,h2⟩:=A5 (Q:=fun r G=>Q (.bool r) G) f e;rcases h2 with ⟨a,b,rfl,rfl⟩|⟨a,n,c,b,m,d,rfl,rfl⟩<;>
     .simp only[bx,eqGuard,binOp,kS,dz,bK];simpa using h1
    .cases h
  .split at h
   .rename_i r f;cases h;obtain ⟨h1,h2,⟨xs,rfl⟩,ys,rfl⟩:=wN (Q:=fun r G=>Q (.bool (!r)) G) f e;simp only[bx,eqGuard,binOp,kS,h2,dz,bK];simpa using h1
   .split at h
    .rename_i r f;cases h;obtain ⟨h1,h2⟩:=A5 (Q:=fun r G=>Q (.bool (!r)) G) f e;rcases h2 with ⟨a,b,rfl,rfl⟩|⟨a,n,c,b,m,d,rfl,rfl⟩<;>
     .simp only[bx,eqGuard,binOp,kS,dz,bK];simpa using h1
    .cases h
  .split at h
   .split at h
    .cases h
    .rename_i hb;cases h;rw[bx];refine wJ .shr t x y _ _ _ _ ?_;simp only[binOp,Op.shift,dz];rw[if_neg hb];exact e
   .cases h
  .split at h
   .split at h
    .cases h
    .rename_i hb;cases h;rw[bx];refine wJ .shl t x y _ _ _ _ ?_;simp only[binOp,Op.shift,dz];rw[if_neg hb];exact e
   .cases h
  .cases h
end
theorem wP {P:Program}{t e:TypeId}(h:dm P t=some e):P.underlying t=some (.slice e):=by
 unfold dm at h;split at h
 .rename_i a he;cases h;exact he
 .cases h
theorem A6 (n:Nat):∀(r c:Nat),Builtin.growBy n r c<=2 ^ r*(c+768)
 |0,c=>by simp[Builtin.growBy]
 |r+1,c=>by
  unfold Builtin.growBy
  split
  .have:1<=2 ^ (r+1):=Nat.one_le_two_pow
   have:=Nat.mul_le_mul_right (c+768) this
   omega
  .have h:=A6 n r (c+(c+768)/4)
   refine Nat.le_trans h ?_
   rw[Nat.pow_succ,Nat.mul_assoc]
   refine Nat.mul_le_mul_left _ ?_
   omega
theorem nextslicecap_le {n c:Nat}(h:c<n)(b:n<=1000000):Builtin.nextslicecap n c<=20000000:=by
 unfold Builtin.nextslicecap;split
 .omega
 .split
  .omega
  .have a:=A6 n 4 c;have e:(2:Nat) ^ 4=16:=by decide
   rw[e] at a;refine Nat.le_trans a ?_;omega
section
variable {P:Program}
theorem FX {Q:Array Value->aa->Prop}{F:aa}(a:Addr){n:Nat}{b:List Value}(h:F.dA a 0 n=some b)(c:Q b.toArray F):aX P (loadCells a n) Q F:=by
 obtain ⟨h1,h2⟩:=wI F a n 0 b h;subst h2;exact wE a b 0 #[] h1 (by simpa using c)
def gF (F:aa)(size:Nat):Value->Option (List Value)
 | .slice (some a) n _=>F.dA a 0 (n*size)
 | .slice none 0 _=>some []
 |_=>none
theorem wQ {Q:Array Value->aa->Prop}{F:aa}{size n:Nat}{ad:Option Addr}{c:Nat}{b:List Value}(h:gF F size (.slice ad n c)=some b)(d:Q b.toArray F):aX P (Builtin.firstCells size n (.slice ad n c)) Q F:=by
 cases ad with
 |none=>
  cases n with
  |zero=>simp only[gF,Option.some.injEq] at h;subst h;exact d
  |succ n=>simp[gF] at h
 |some a=>exact FX a h d
theorem wR {Q:Unit->aa->Prop}{F:aa}(n:Nat)(h:Q () F):aX P (askRoom n) Q F:=by
 unfold askRoom;rw[dz];split
 .exact ⟨rfl,h⟩
 .exact h
theorem wS {F:aa}{Q:Value->aa->Prop}{argTypes:Array TypeId}{ty i j e p:TypeId}{size d len cap n c:Nat}{base l:Option Addr}{z:Value}{old new:List Value}
  (h0:argTypes[0]?=some i) (h1:argTypes[1]?=some j) (he:dm P i=some e) (q:dm P j=some p) (hs:bZ P e=some size) (r:zeroOf P e=some z) (hb:bytesOf P e=some d)
  (A:0<d) (s:d<=10000) (u:len+n<=1000000) (hold:gF F size (.slice base len cap)=some old) (m:gF F size (.slice l n c)=some new)
  (f:len+n<=cap->(∃a F',base=some a/\F.j7 (a.add (len*size)) 0 new=some F'/\Q (.slice base (len+n) cap) F')\/(base=none/\Q (.slice base (len+n) cap) F))
  (v:cap<len+n->∀k b,len+n<=k->eg F b->Q (.slice (some ⟨b,0,none⟩) (len+n) k) (F.push b (.cells (old.toArray++new.toArray++Builtin.zeroCells z.cells (k - (len+n))) e))):
  aX P (Builtin.append_ argTypes ty #[.slice base len cap,.slice l n c]) Q F:=by
 have hu:=wP he
 have w:=wP q
 unfold bytesOf at hb
 obtain ⟨info,hi,rfl⟩:=Option.map_eq_some_iff.1 hb
 simp only[Builtin.append_,h0,h1,List.getElem?_toArray,List.getElem?_cons_zero,List.getElem?_cons_succ,bx,dG,hu,w,eV,hs,bK,Builtin.lenOf,Bool.false_eq_true,if_false,dz,Bool.not_false,if_true,qt,hi]
 split
 .rename_i hle
  have f:=f hle
  refine wQ m ?_
  rcases f with ⟨a,F',rfl,x,g⟩|⟨rfl,g⟩
  .simp only[bx]
   refine sN _ _ 0 F F' (by simpa using x) ?_
   exact g
  .exact g
 .rename_i B
  have y:=nextslicecap_le (n:=len+n) (c:=cap) (by omega) u
  have e1:¬(((len+n:Nat):Int)>IntKind.i64.max/\(false=true\/info.bytes=0)):=by
   rintro ⟨_,h|h⟩
   .cases h
   .omega
  have e2:¬(Builtin.nextslicecap (len+n) cap*info.bytes>2 ^ 48):=by
   have:Builtin.nextslicecap (len+n) cap*info.bytes<=20000000*10000:=Nat.mul_le_mul y s
   omega
  rw[if_neg (by simpa using e1),if_neg e2]
  rw[wD]
  rw[if_neg (by simp[Question.forced])]
  intro t
  have o:len+n<=(Question.appendCap (len+n) cap e).cut t:=Nat.le_add_right _ _
  generalize (Question.appendCap (len+n) cap e).cut t=k at o ⊢
  refine wR _ ?_
  refine wQ hold ?_
  refine wQ m ?_
  simp only[bx,mN,r,sO,bK]
  exact fun b hb=>v (by omega) k b o hb
end
theorem wT:∀{pre:List (Nat×Obj)} {b:Nat} {o:Obj},av pre b->lk (pre++[(b,o)]) b=some o
 |[],b,o,_=>by simp[lk]
 |(c,x)::pre,b,o,h=>by
  have a:¬c=b:=fun e=>h.1 e.symm
  simp[lk,a,wT h.2]
def cM (arr:Array Value)(k:Nat):List Value->Array Value
 |[]=>arr
 |v::a=>cM (arr.setIfInBounds k v) (k+1) a
theorem sW:∀(a:List Value) (arr:Array Value) (k:Nat),(cM arr k a).size=arr.size
 |[],_,_=>rfl
 |v::a,arr,k=>by rw[cM,sW a];simp
theorem sX:∀(a:List Value) (arr:Array Value) (k:Nat),k+a.length<=arr.size->(cM arr k a).toList=arr.toList.take k++a++arr.toList.drop (k+a.length)
 |[],arr,k,_=>by simp[cM]
 |v::a,arr,k,h=>by
  simp only[List.length_cons] at h
  rw[cM,sX a _ _ (by simp;omega)]
  have b:k<arr.toList.length:=by simp;omega
  rw[Array.toList_setIfInBounds]
  have e1:(arr.toList.set k v).take (k+1)=arr.toList.take k++[v]:=by
   rw[List.take_succ_eq_append_getElem (by simpa using b),List.take_set_of_le (Nat.le_refl _)]
   simp
  have e2:(arr.toList.set k v).drop (k+1+a.length)=arr.toList.drop (k+(v::a).length):=by
   rw[List.drop_set_of_lt (by omega)]
   congr 1
   simp;omega
  rw[e1,e2]
  simp
def Gr (ro:Addr->Option Value)(e:TypeId)(size:Nat)(v:Value)(l:List (List Value))(aW:List (Nat×Obj)):Prop:=
 (v= .slice none 0 0/\l=[]/\aW=[])\/
 ∃b arr cap,v= .slice (some ⟨b,0,none⟩) l.length cap/\aW=[(b,.cells arr e)]/\arr.size=cap*size/\l.length<=cap/\arr.toList.take (l.length*size)=l.flatten/\(∀x∈l,x.length=size)/\∀off sp,ro ⟨b,off,sp⟩=none
theorem iQ {size:Nat}:∀{l:List (List Value)},(∀x∈l,x.length=size)->l.flatten.length=l.length*size
 |[],_=>by simp
 |x::l,h=>by
  have ih:l.flatten.length=l.length*size:=iQ (fun y a=>h y (List.mem_cons_of_mem _ a))
  simp only[List.flatten_cons,List.length_append,List.length_cons,h x (by simp),ih,Nat.add_mul,Nat.one_mul]
  omega
theorem A7 {ro:Addr->Option Value}{pre:List (Nat×Obj)}{b:Nat}{e:TypeId}{arr:Array Value}(a:av pre b)(c:∀off sp,ro ⟨b,off,sp⟩=none):∀(n i:Nat),i+n<=arr.size->
  aa.dA ⟨ro,pre++[(b,.cells arr e)]⟩ ⟨b,0,none⟩ i n=some ((arr.toList.drop i).take n)
 |0,i,_=>by simp[aa.dA]
 |n+1,i,h=>by
  have f:(⟨b,0,none⟩:Addr).add i=⟨b,i,none⟩:=by
   unfold Addr.add
   split
   .rename_i hi;subst hi;rfl
   .simp
  have d:i<arr.size:=by omega
  unfold aa.dA
  have ih:=A7 (e:=e) (arr:=arr) a c n (i+1) (by omega)
  simp only[aa.get,f,c,if_true,wT a,Option.bind_some,cellOf,Array.getElem?_eq_getElem d,ih]
  have g:i<arr.toList.length:=by simpa using d
  rw[List.drop_eq_getElem_cons g,List.take_succ_cons]
  simp
theorem Gr.gF {ro:Addr->Option Value}{e:TypeId}{size:Nat}{v:Value}{l:List (List Value)}{aW pre:List (Nat×Obj)}(h:Gr ro e size v l aW)(a:∀k∈keys aW,av pre k):
  Go.Sep.gF ⟨ro,pre++aW⟩ size v=some l.flatten:=by
 rcases h with ⟨rfl,rfl,rfl⟩|⟨b,arr,cap,rfl,rfl,hs,c,ht,f,d⟩
 .rfl
 .simp only[Go.Sep.gF]
  have hle:l.length*size<=arr.size:=by rw[hs];exact Nat.mul_le_mul_right _ c
  rw[A7 (a b (by simp[keys])) d _ _ (by omega)]
  simp[ht]
def qy (P:Program)(t:TypeId)(parts:List (Nat×Value)):Option Value:=
 match zeroOf P t,placesOf P t with
 |some z,some pl=>match Instr.fill (fun i=>pl[i]?) z.cells parts with
  |some cs=>some (.agg cs)
  |none=>none
 |_,_=>none
theorem A8 {P:Program}{Q:Array (Nat×Nat)->aa->Prop}{F:aa}:∀(fs:List Field) (pl:List (Nat×Nat)) (acc:Array (Nat×Nat)),(fs.mapM fun f=>(bZ P f.type).map fun s=>(f.offset,s))=some pl->
  Q (acc++pl.toArray) F->aX P (fs.foldlM (fun (b:Array (Nat×Nat)) f=>do let s<-sizeOf f.type;pure (b.push (f.offset,s))) acc) Q F
 |[],pl,acc,h,a=>by
  simp at h;subst h
  simpa [bK] using a
 |f::fs,pl,acc,h,a=>by
  simp only[List.mapM_cons] at h
  cases hs:bZ P f.type with
  |none=>simp[hs] at h
  |some s=>
   cases c:(fs.mapM fun f=>(bZ P f.type).map fun s=>(f.offset,s)) with
   |none=>simp[hs,c] at h
   |some pr=>
    simp[hs,c] at h
    subst h
    simp only[List.foldlM_cons,bx,eV,hs,bK]
    exact A8 fs pr _ c (by simpa using a)
theorem FY {P:Program}{Q:Array (Nat×Nat)->aa->Prop}{F:aa}(fs:Array Field)(pl:List (Nat×Nat))(h:(fs.toList.mapM fun f=>(bZ P f.type).map fun s=>(f.offset,s))=some pl)
  (a:Q pl.toArray F):aX P (fs.mapM fun f=>do let s<-sizeOf f.type;pure (f.offset,s)) Q F:=by
 rw[Array.mapM_eq_foldlM,<-Array.foldlM_toList]
 have:=A8 (Q:=Q) (F:=F) fs.toList pl #[] h (by simpa using a)
 simpa using this
theorem FZ {P:Program}{t:TypeId}{parts:Array (Nat×Value)}{w:Value}{Q:Value->aa->Prop}{F:aa}(h:qy P t parts.toList=some w)(b:Q w F):aX P (Instr.build t parts) Q F:=by
 unfold qy at h;split at h
 case h_2=>cases h
 rename_i z pl c a;split at h
 case h_2=>cases h
 rename_i cs d;cases h;unfold placesOf at a;split at a
 case h_2=>cases a
 rename_i fs e;simp only[Instr.build,bx,mN,c,dG,e];refine FY fs pl a ?_;simp only[List.getElem?_toArray,d,bK];exact b
def sY (P:Program)(t:TypeId)(len:Nat)(parts:List (Nat×Value)):Option (TypeId×Array Value):=
 match dm P t with
 |some e=>match bZ P e,zeroOf P e with
  |some size,some z=>if len*size<=2 ^ 24/\0<len*size then
    match Instr.fill (fun i=>some (i*size,size)) ((Array.range (len*size)).map (z.cells[· % z.cells.size]!)) parts with
    |some cs=>some (e,cs)
    |none=>none
   else if len*size=0/\parts.isEmpty=true then some (e,#[]) else none
  |_,_=>none
 |none=>none
theorem F1 {P:Program}{t:TypeId}{len:Nat}{parts:Array (Nat×Value)}{e:TypeId}{cs:Array Value}{Q:Value->aa->Prop}{F:aa}(h:sY P t len parts.toList=some (e,cs))
  (c:∀b,eg F b->Q (.slice (some ⟨b,0,none⟩) len len) (F.push b (.cells cs e))):aX P (Instr.buildSlice t len parts) Q F:=by
 unfold sY at h
 split at h
 case h_2=>cases h
 rename_i d he
 split at h
 case h_2=>cases h
 rename_i size z hs f
 split at h
 case isFalse=>
  split at h
  case isFalse=>cases h
  rename_i hb
  cases h
  have hu:P.underlying t=some (.slice e):=by
   unfold dm at he
   split at he
   .rename_i d a;cases he;exact a
   .cases he
  have h1:¬(len*size>2 ^ 24):=by rw[hb.1];decide
  have g:parts.toList=[]:=List.isEmpty_iff.1 hb.2
  simp only[Instr.buildSlice,bx,dG,hu,eV,hs,dz,if_neg h1,if_pos hb.1,bK,g]
  rw[hb.1]
  have e0:Array.range 0=#[]:=rfl
  simp only[e0,Array.map_empty,Instr.fill,bx,sO,bK]
  exact c
 rename_i hb
 split at h
 case h_2=>cases h
 rename_i cs' i
 cases h
 have hu:P.underlying t=some (.slice e):=by
  unfold dm at he
  split at he
  .rename_i d a;cases he;exact a
  .cases he
 have h1:¬(len*size>2 ^ 24):=by omega
 have h2:¬(len*size=0):=by omega
 simp only[Instr.buildSlice,bx,dG,hu,eV,hs,dz,if_neg h1,if_neg h2,mN,f,bK,i,sO]
 exact c
def qz (P:Program)(t:TypeId)(n:Nat):Value->Option Value
 | .agg cs=>match wH P t n with
  |some (off,s,true)=>some (.agg (cs.extract off (off+s)))
  |some (off,_,false)=>cs[off]?
  |none=>none
 |_=>none
theorem F2 {P:Program}{t:TypeId}{n:Nat}{u w:Value}{Q:Value->aa->Prop}{F:aa}(h:qz P t n u=some w)(b:Q w F):aX P (Instr.field t u n) Q F:=by
 cases u<;>simp only[qz,reduceCtorEq] at h;rename_i cs;unfold wH at h;cases hu:P.underlying t with
 |none=>simp[hu] at h
 |some d=>
  cases d<;>simp only[hu,reduceCtorEq] at h;rename_i fs;cases a:fs[n]? with
  |none=>simp[a] at h
  |some f=>
   simp only[a] at h;cases hs:bZ P f.type with
   |none=>simp[hs] at h
   |some s=>
    cases hg:cC P f.type with
    |none=>simp[hs,hg] at h
    |some g=>
     simp only[hs,hg] at h;simp only[Instr.field,bx,dG,hu,a,FO,part,mO,hg,dz];cases g with
     |true=>simp only[Option.some.injEq] at h;subst h;simpa [eV,hs,bK] using b
     |false=>
      simp only at h;simp only[Bool.false_eq_true,if_false,h];exact b
def sZ (n:Nat):Value->Option Value
 | .tuple a=>a[n]?
 |_=>none
def mS (P:Program)(src dst:TypeId):Value->Option Value
 | .int _ n=>match P.underlying src,P.underlying dst with
  |some (.int _),some (.int k)=>some (.int k (k.wrap n))
  |_,_=>none
 |_=>none
theorem F3 {P:Program}{src dst:TypeId}{u w:Value}{Q:Value->aa->Prop}{F:aa}(h:mS P src dst u=some w)(a:Q w F):aX P (convert src dst u) Q F:=by
 cases u<;>simp only[mS,reduceCtorEq] at h;rename_i k n;split at h
 .rename_i k1 b h1 h2;cases h;simp only[convert,bx,dG,h1,h2,Conv.intToInt,bK];exact a
 .cases h
def s0 (P:Program)(t:TypeId):Value->Option Value
 | .slice _ n _=>match dm P t with
  |some _=>some (.int .i64 n)
  |none=>none
 |_=>none
def qA (P:Program)(t:TypeId):Value->Value->Option Value
 | .agg cs,.int _ i=>match oz P t with
  |some (len,e)=>match bZ P e,cC P e with
   |some s,some true=>if 0<=i/\i<(len:Int) then some (.agg (cs.extract (i.toNat*s) (i.toNat*s+s))) else none
   |some s,some false=>if 0<=i/\i<(len:Int) then cs[i.toNat*s]? else none
   |_,_=>none
  |none=>none
 | .string s,.int _ i=>match P.underlying t with
  |some .string=>if 0<=i then (s[i.toNat]?).map fun b=>.int .u8 b.toNat else none
  |_=>none
 |_,_=>none
theorem F4 {P:Program}{t:TypeId}{u v w:Value}{Q:Value->aa->Prop}{F:aa}(h:qA P t u v=some w)(a:Q w F):aX P (Instr.index t u v) Q F:=by
 unfold qA at h;split at h
 case h_3=>cases h
 case h_2=>
  rename_i s k i;split at h
  case h_2=>cases h
  rename_i hu;split at h
  case isFalse=>cases h
  rename_i hi;obtain ⟨b,hb,rfl⟩:=Option.map_eq_some_iff.1 h;simp only[Instr.index,bx,lQ,dG,hu,if_pos hi,hb,bK];exact a
 rename_i cs k i;split at h
 case h_2=>cases h
 rename_i len e he;have hu:P.underlying t=some (.array len e):=by
  unfold oz at he;split at he
  .rename_i d f c;cases he;exact c
  .cases he
 split at h
 .rename_i s hs hg;split at h
  case isFalse=>cases h
  rename_i hi;cases h;simp only[Instr.index,bx,lQ,dG,hu,dz,if_pos hi,eV,hs,part,mO,hg,if_true,bK];exact a
 .rename_i s hs hg;split at h
  case isFalse=>cases h
  rename_i hi;simp only[Instr.index,bx,lQ,dG,hu,dz,if_pos hi,eV,hs,part,mO,hg,Bool.false_eq_true,if_false,h,bK];exact a
 .cases h
def mT (P:Program)(argTypes:Array TypeId)(s x:Value)(R:Value->aa->Prop)(F:aa):Prop:=
 ∀ty,aX P (Builtin.append_ argTypes ty #[s,x]) (fun v F=>∃F0,Le F0 F/\R v F0) F
def Oper.oD (o:Oper):Bool:=match o.op with| .call {callee:=.builtin .append, ..}=>true|_=>false
def gZ (P:Program)(J:Goroutine->aa->Prop)(y:Value)(args:Array Value)(F:aa)(R:Value->aa->Prop):Prop:=
 match y with
 | .func (.func fn) first captured=>aH P fn=true/\cY P J fn (first++args++captured) F R
 | .func (.yield l) first captured=>first=#[]/\captured=#[]/\∃r,F.fj l=some (.loop r)/\args.size=r.params.size/\j4 J l r.fn ((r.params.zip args).foldl (fun tmps (t,a)=>tmps.setIfInBounds t a) r.tmps) r.assign r.body F R
 |_=>False
theorem gZ.mono {P:Program}{J:Goroutine->aa->Prop}{y:Value}{args:Array Value}{F:aa}{R a:Value->aa->Prop}(h:gZ P J y args F R)(b:∀v F',R v F'->a v F'):gZ P J y args F a:=by
 unfold gZ at h ⊢;split at h
 .exact ⟨h.1,h.2.mono b⟩
 .obtain ⟨e1,e2,r,h1,h2,h3⟩:=h;exact ⟨e1,e2,r,h1,h2,h3.mono b⟩
 .exact h.elim
theorem F5 {P:Program}{J:Goroutine->aa->Prop}{fn:FuncId}{first captured args:Array Value}{F:aa}{R:Value->aa->Prop}:gZ P J (.func (.func fn) first captured) args F R=(aH P fn=true/\cY P J fn (first++args++captured) F R):=rfl
def e7 (P:Program)(m:Sem Value)(R:Value->aa->Prop)(F:aa):Prop:=aX P m R F
def cN (P:Program)(J:Goroutine->aa->Prop)(o:Oper)(R:Value->aa->Prop)(a:Act)(F:aa):Prop:=
 match o.op with
 | .move x| .assign x=>R (ev a x) F
 | .nilCheck x=>match ev a x with
  | .pointer (some _)=>R (ev a x) F
  |_=>False
 | .pick c x y=>match ev a c with
  | .bool b=>R (if b then ev a x else ev a y) F
  |_=>False
 | .alloc t=>match zeroOf P t with
  |some z=>∀b,eg F b->R (.pointer (some ⟨b,0,none⟩)) (F.push b (.cells z.cells t))
  |none=>False
 | .box t x=>∀b,eg F b->R (.pointer (some ⟨b,0,none⟩)) (F.push b (.cells (ev a x).cells t))
 | .build t parts=>match qy P t (parts.map fun (i,x)=>(i,ev a x)).toList with
  |some v=>R v F
  |none=>False
 | .buildSlice t len parts=>match sY P t len (parts.map fun (i,x)=>(i,ev a x)).toList with
  |some (e,cs)=>∀b,eg F b->R (.slice (some ⟨b,0,none⟩) len len) (F.push b (.cells cs e))
  |none=>False
 | .load t x=>match ev a x with
  | .pointer (some ad)=>match fC P F t ad with
   |some v=>R v F
   |none=>False
  |_=>False
 | .store t x y=>match ev a x with
  | .pointer (some ad)=>match sQ P F t ad (ev a y) with
   |some F'=>R undef F'
   |none=>False
  |_=>False
 | .binOp op t x y _=>match qx P op t (ev a x) (ev a y) with
  |some v=>R v F
  |none=>False
 | .unOp op _ x=>match mQ op (ev a x) with
  |some v=>R v F
  |none=>False
 | .convert src dst x=>match mS P src dst (ev a x) with
  |some v=>R v F
  |none=>False
 | .makeFunc fn first captured=>R (.func fn (first.map (ev a)) (captured.map (ev a))) F
 | .slice t x lo hi none=>(match ev a x with| .slice _ len cap=>len<=cap|_=>False)/\match oB P t (ev a x) (lo.map (ev a)) (hi.map (ev a)) with
  |some v=>R v F
  |none=>False
 | .fieldAddr s x n=>match ev a x with
  | .pointer (some ad)=>match cT P s n with
   |some k=>R (.pointer (some (ad.add k))) F
   |none=>False
  |_=>False
 | .field s x n=>match qz P s n (ev a x) with
  |some v=>R v F
  |none=>False
 | .indexAddr t x i=>match qu P t (ev a x) (ev a i) with
  |some v=>R v F
  |none=>False
 | .index t x i=>match qA P t (ev a x) (ev a i) with
  |some v=>R v F
  |none=>False
 | .extract x n=>match sZ n (ev a x) with
  |some v=>R v F
  |none=>False
 | .call {callee:=.value x,args, ..}=>gZ P J (ev a x) (args.map (ev a)) F R
 | .call {callee:=.builtin .len,args,argTypes}=>match argTypes[0]?,args[0]? with
  |some t,some x=>match s0 P t (ev a x) with
   |some v=>R v F
   |none=>e7 P (Builtin.len_ argTypes o.type (args.map (ev a))) R F
  |_,_=>False
 | .makeMap t r=>e7 P (Instr.makeMap t (r.map (ev a))) R F
 | .makeSlice t l c=>e7 P (Instr.makeSlice t (ev a l) (ev a c)) R F
 | .mapUpdate t m k x=>e7 P (Instr.mapUpdate t (ev a m) (ev a k) (ev a x)>>= fun _=>pure undef) R F
 | .call {callee:=.builtin .clear,args,argTypes}=>e7 P (Builtin.clear_ argTypes o.type (args.map (ev a))) R F
 | .call {callee:=.builtin .cap,args,argTypes}=>e7 P (Builtin.cap_ argTypes o.type (args.map (ev a))) R F
 | .call {callee:=.builtin .copy,args,argTypes}=>e7 P (Builtin.copy_ argTypes o.type (args.map (ev a))) R F
 | .call {callee:=.builtin .append,args,argTypes}=>match args.toList with
  |[x,y]=>mT P argTypes (ev a x) (ev a y) R F
  |_=>False
 | .call {callee:=.builtin .max,args, ..}=>match args.toList with
  |[x,y]=>match sR (ev a x) (ev a y) with
   |some v=>R v F
   |none=>False
  |_=>False
 | .call {callee:=.builtin .min,args, ..}=>match args.toList with
  |[x,y]=>match sS (ev a x) (ev a y) with
   |some v=>R v F
   |none=>False
  |_=>False
 |_=>False
theorem eN (a:Act):a.eval=ev a:=rfl
theorem A9 {P:Program}{J:Goroutine->aa->Prop}{o:Oper}{R:Value->aa->Prop}{D:Deferred->aa->Prop}{a:Act}{F:aa}(B:Oper.oD o=false)(h:cN P J o R a F):aX P (execOp a.eval o) (fO P J R D) F:=by
 obtain ⟨dst,op,type,pos,after,guard⟩:=o;unfold execOp;simp only[eN];unfold cN at h;simp only at h;cases op<;>simp only at h ⊢
 case move x=>exact h
 case assign x=>exact h
 case nilCheck x=>
  split at h
  .rename_i ad g;simp only[g,bK,fO];rw[g] at h;exact h
  .exact h.elim
 case pick c x y=>
  split at h
  .rename_i b hb;simp only[bx,hb,FN,bK,fO];exact h
  .exact h.elim
 case alloc t=>
  split at h
  .rename_i z C;simp only[Instr.alloc,bx,mN,C,AX,bK,fO];exact h
  .exact h.elim
 case box t x=>
  simp only[Instr.box,bx,AX,bK,fO];exact h
 case build t parts=>
  split at h
  .rename_i v d;simp only[bx,bK];exact FZ d h
  .exact h.elim
 case buildSlice t len parts=>
  split at h
  .rename_i e cs d;simp only[bx,bK];exact F1 d h
  .exact h.elim
 case load t x=>
  split at h
  case h_2=>exact h.elim
  rename_i ad q;split at h
  case h_2=>exact h.elim
  rename_i v d;simp only[Instr.loadAt,bx,q,sP,bK];exact A1 d h
 case store t x y=>
  split at h
  case h_2=>exact h.elim
  rename_i ad q;split at h
  case h_2=>exact h.elim
  rename_i F' E;simp only[Instr.storeAt,bx,q,sP,bK];exact FQ E h
 case binOp op t x y U=>
  split at h
  case h_2=>exact h.elim
  rename_i v d;rw[jw];exact FW d h
 case unOp op t x=>
  split at h
  case h_2=>exact h.elim
  rename_i v d;rw[jw];exact FT d h
 case convert src dst x=>
  split at h
  case h_2=>exact h.elim
  rename_i v d;rw[jw];exact F3 d h
 case makeFunc fn first captured=>
  simp only[Instr.makeFunc,bx,bK,fO];exact h
 case slice t x lo hi G=>
  cases G with
  |some m=>exact h.elim
  |none=>
   simp only at h;obtain ⟨h1,h⟩:=h;split at h
   case h_2=>exact h.elim
   rename_i v d;rw[jw];exact FV (fun ad len cap e=>by rw[e] at h1;exact h1) d h
 case fieldAddr s x n=>
  split at h
  case h_2=>exact h.elim
  rename_i ad q;split at h
  case h_2=>exact h.elim
  rename_i k j;unfold cT at j;split at j
  case h_2=>cases j
  rename_i fs H;split at j
  case h_2=>cases j
  rename_i f u;split at j
  case h_2=>cases j
  rename_i m hm;cases j;rw[jw];simp only[Instr.fieldAt,bx,dG,H,u,q,sP,fieldPlace,eV,hm];simpa [bK,fO] using h
 case field s x n=>
  split at h
  case h_2=>exact h.elim
  rename_i v d;rw[jw];exact F2 d h
 case indexAddr t x i=>
  split at h
  case h_2=>exact h.elim
  rename_i v d;rw[jw];exact FU d h
 case index t x i=>
  split at h
  case h_2=>exact h.elim
  rename_i v d;rw[jw];exact F4 d h
 case extract x n=>
  split at h
  case h_2=>exact h.elim
  rename_i v d;rw[jw];unfold sZ at d;split at d
  .rename_i V I;simp only[I,Instr.extract,d];exact h
  .cases d
 case makeMap t r=>
  rw[jw];exact h
 case makeSlice t l c=>
  rw[jw];exact h
 case mapUpdate t m k x=>
  unfold e7 at h;rw[bx] at h;rw[bx];exact h
 case call c=>
  obtain ⟨callee,args,argTypes⟩:=c;cases callee with
  |value x=>
   simp only at h;unfold gZ at h;split at h
   case h_3=>exact h.elim
   .rename_i fn first captured g
    obtain ⟨p,K⟩:=h;unfold aH at p;split at p
    case h_2=>cases p
    rename_i f u;simp only[Bool.not_eq_true',Bool.or_eq_false_iff] at p;simp only[resolve,g,Deferred.ofValue,bx,bK,invoke,callFunc,kS,u,p.1,p.2,Bool.false_eq_true,if_false,fO];exact K
   .rename_i l first captured g
    obtain ⟨rfl,rfl,r,h1,h2,h3⟩:=h;simp only[resolve,g,Deferred.ofValue,bx,bK,invoke,Instr.yield,Instr.getLoop,Array.append_empty,Array.empty_append,Array.map_map];refine ⟨_,h1,?_⟩;have L:∀{α:Type} (x:α) (Q:α->aa->Prop) (F:aa),aX P (Sem.pure x) Q F=Q x F:=fun _ _ _=>rfl;simp only[bx,L,bK,dz,ne_eq,h2,not_true_eq_false,if_false,fO];exact h3
  |invoke r m=>exact h.elim
  |builtin b=>
   cases b<;>simp only at h
   case append=>simp[Oper.oD] at B
   case clear=>
    simp only[resolve,bx,bK,invoke,builtin];exact h
   case cap=>
    simp only[resolve,bx,bK,invoke,builtin];exact h
   case copy=>
    simp only[resolve,bx,bK,invoke,builtin];exact h
   case len=>
    split at h
    case h_2=>exact h.elim
    rename_i t x ht g;split at h
    case h_2=>
     simp only[resolve,bx,bK,invoke,builtin];exact h
    rename_i v d;unfold s0 at d;split at d
    case h_2=>cases d
    rename_i ad n cap M;split at d
    case h_2=>cases d
    rename_i e N;have he:=wP N;cases d;have O:(args.map (ev a))[0]?=some (.slice ad n cap):=by simp[g,M]
    simp only[resolve,bx,bK,invoke,builtin,Builtin.len_,ht,O,dG,he];exact h
   case max=>
    split at h
    case h_2=>exact h.elim
    rename_i x y w;split at h
    case h_2=>exact h.elim
    rename_i v d;unfold sR at d;split at d
    case h_2=>cases d
    rename_i k S T y' g A;cases d;simp only[resolve,bx,bK,invoke,builtin,Builtin.max_,Array.toList_map,w,List.map_cons,List.map_nil,List.foldlM_cons,List.foldlM_nil,g,A,Builtin.max2,fO];exact h
   case min=>
    split at h
    case h_2=>exact h.elim
    rename_i x y w;split at h
    case h_2=>exact h.elim
    rename_i v d;unfold sS at d;split at d
    case h_2=>cases d
    rename_i k S T y' g A;cases d;simp only[resolve,bx,bK,invoke,builtin,Builtin.min_,Array.toList_map,w,List.map_cons,List.map_nil,List.foldlM_cons,List.foldlM_nil,g,A,Builtin.min2,fO];exact h
theorem lR {P:Program}{J:Goroutine->aa->Prop}{o:Oper}{R:Value->aa->Prop}{D:Deferred->aa->Prop}{a:Act}{F:aa}(h:cN P J o R a F):aX P (execOp a.eval o) (kQ P J R D) F:=
by
 cases b:Oper.oD o with
 |false=>exact ij Fz _ _ (A9 b h)
 |true=>
  obtain ⟨dst,op,type,pos,after,guard⟩:=o
  unfold Oper.oD at b
  split at b
  .rename_i callee args argTypes c
   simp only at c
   subst c
   unfold cN at h
   simp only at h
   split at h
   case h_2=>exact h.elim
   rename_i x y d
   have e:args=#[x,y]:=by rw[<-Array.toList_inj];simpa using d
   subst e
   unfold execOp
   simp only[eN,resolve,bx,bK,invoke,builtin]
   have:=h type
   simpa [kQ,fO,bx,bK] using this
  .cases b
def cD (ops:Array Oper)(o:Oper)(a:Act):Option Bool:=
 match o.guard with
 |none=>some true
 |some (j,want)=>match (ops[j]?).bind (·.dst) with
  |some d=>match slot a d with
   | .bool b=>some (b==want)
   | .tuple _=>some false
   |_=>none
  |none=>none
theorem cg {ops:Array Oper}{o:Oper}{a:Act}{t:Bool}(h:cD ops o a=some t):Region.wanted o (yielded ops a.tmps)=t:=by
 unfold cD at h;unfold Region.wanted;split at h
 .rename_i hg;rw[hg];cases h;rfl
 .rename_i j want hg;rw[hg];split at h
  .rename_i d hd;split at h
   .rename_i b hb;cases h;have ht:a.tmps[d]?=some (.bool b):=by
     unfold slot at hb;rw[Array.getD_eq_getD_getElem?] at hb;cases c:a.tmps[d]? with
     |none=>rw[c] at hb;simp[undef] at hb
     |some v=>rw[c] at hb;simpa using hb
    simp only[yielded,hd,Option.bind_some,ht];cases b<;>cases want<;>rfl
   .rename_i b hb;cases h;simp only[yielded,hd,Option.bind_some];unfold slot at hb;rw[Array.getD_eq_getD_getElem?] at hb;cases c:a.tmps[d]? with
    |none=>rfl
    |some v=>
     rw[c] at hb;simp at hb;subst hb;rfl
   .cases h
  .cases h
def Oper.calls (o:Oper):Bool:=match o.op with| .call {callee:=.value _, ..}=>true| .call {callee:=.builtin .append, ..}=>true| .call {callee:=.builtin .clear, ..}=>true| .call {callee:=.builtin .cap, ..}=>true| .call {callee:=.builtin .copy, ..}=>true| .makeMap ..=>true| .makeSlice ..=>true| .mapUpdate ..=>true|_=>false
def fD (P:Program)(J:Goroutine->aa->Prop)(ops:Array Oper)(K:Act->aa->Prop):List Oper->Bool->Act->aa->Prop
 |[],_,a,F=>K a F
 |o::rest,_,a,F=>match cD ops o a with
  |some true=>cN P J o (fun v F'=>fD P J ops K rest (!Oper.calls o) (bf a o.dst v) F') a F
  |some false=>fD P J ops K rest true (bf a o.dst undef) F
  |none=>False
theorem Ba {P:Program}{J:Goroutine->aa->Prop}{ops:Array Oper}{K:Act->aa->Prop}{go:Bool}{a:Act}{F:aa}:fD P J ops K [] go a F=K a F:=rfl
theorem Bb {P:Program}{J:Goroutine->aa->Prop}{ops:Array Oper}{K:Act->aa->Prop}{o:Oper}{rest:List Oper}{a:Act}{F:aa}:fD P J ops K (o::rest) true a F=match cD ops o a with
  |some true=>cN P J o (fun v F'=>fD P J ops K rest (!Oper.calls o) (bf a o.dst v) F') a F
  |some false=>fD P J ops K rest true (bf a o.dst undef) F
  |none=>False:=(Eq.refl _).trans (Eq.refl _)
theorem aJ {P:Program}{J:Goroutine->aa->Prop}{ops:Array Oper}{K:Act->aa->Prop}:∀{l:List Oper} {go:Bool} {a:Act} {F:aa},fD P J ops K l true a F->fD P J ops K l go a F
 |[],_,_,_,h=>h
 |_::_,_,_,_,h=>h
theorem wU {P:Program}{J:Goroutine->aa->Prop}{ops:Array Oper}{K:Act->aa->Prop}:∀(l:List Oper) (k:Nat) (go:Bool) (a:Act) (F:aa),ops.toList.drop k=l->fD P J ops K l go a F->
  gd P J ops K (List.range' k l.length) a F
 |[],k,_,a,F,_,h=>h
 |o::rest,k,_,a,F,b,h=>by
  have d:ops[k]?=some o:=by
   have:=congrArg List.head? b
   simpa [List.head?_drop] using this
  have c:ops.toList.drop (k+1)=rest:=by
   have:=congrArg List.tail b
   simpa [List.tail_drop] using this
  simp only[List.length_cons,List.range'_succ]
  show dQ P J ops k (gd P J ops K (List.range' (k+1) rest.length)) a F
  unfold dQ
  simp only[d]
  unfold fD at h
  split at h
  .rename_i hg
   rw[if_pos (cg hg)]
   exact ij (qo (fun v F' e=>wU rest (k+1) _ _ F' c e) (fun _ _ x=>x)) _ _ (lR h)
  .rename_i hg
   rw[if_neg (by rw[cg hg];simp)]
   exact wU rest (k+1) _ _ F c h
  .exact h.elim
theorem ak {P:Program}{main:Bool}{J:Goroutine->aa->Prop}{Q:Ex->Act->aa->Prop}{a:Act}{F:aa}(hJ:Closed P main J){id:Nat}{ops:Array Oper}(h:fD P J ops (Q .normal) ops.toList true a F):Wp J (.region id ops false) Q a F:=by
 refine FG hJ ?_;have:=wU ops.toList 0 true a F (by simp) h;simpa [List.range_eq_range'] using this
theorem ah {P:Program}{main:Bool}{J:Goroutine->aa->Prop}{Q:Ex->Act->aa->Prop}{a:Act}{F:aa}(hJ:Closed P main J){id:Nat}{ops:Array Oper}{y:Code}(h:fD P J ops (wo J y Q .normal) ops.toList true a F):Wp J (.seq (.region id ops false) y) Q a F:=ag hJ (ak hJ h)
attribute [irreducible] fD
theorem oE {P:Program}{J:Goroutine->aa->Prop}{ops:Array Oper}{Q:Act->aa->Prop}{S:aa->Prop}(i:Nat){b:Oper}(v:Value){fuel:Nat}{listed:Array Bool}{a:Act}{F:aa}(hi:ops[i]?=some b)
  (d:(Region.noSelect ops&&Region.free .any ops listed i&&(Region.ready .any ops listed).contains i)=true)
  (hg:cD ops b a=some true) (e:∀F R,S F->R v F->cN P J b R a F) (c:S F)
  (h:dU P J ops Q S fuel (listed.setIfInBounds i true) (bf a b.dst v) F):dU P J ops Q S (fuel+1) listed a F:=
 AL i v hi d (.inl ⟨cg hg,fun F R c f=>lR (e F R c f)⟩) c h
theorem Bc {P:Program}{J:Goroutine->aa->Prop}{ops:Array Oper}{Q:Act->aa->Prop}{S:aa->Prop}(i:Nat){b:Oper}{fuel:Nat}{listed:Array Bool}{a:Act}{F:aa}(hi:ops[i]?=some b)
  (c:(Region.noSelect ops&&Region.free .any ops listed i&&(Region.ready .any ops listed).contains i)=true)
  (hg:cD ops b a=some false) (d:S F)
  (h:dU P J ops Q S fuel (listed.setIfInBounds i true) (bf a b.dst undef) F):dU P J ops Q S (fuel+1) listed a F:=
 AL i undef hi c (.inr ⟨cg hg,rfl⟩) d h
theorem Be {P:Program}{J:Goroutine->aa->Prop}{ops:Array Oper}{Q:Act->aa->Prop}{S:aa->Prop}(i:Nat){b:Oper}{fuel:Nat}{listed:Array Bool}{a:Act}{F:aa}(hi:ops[i]?=some b)
  (c:Region.ready .any ops listed=[i]) (hg:cD ops b a=some true)
  (h:cN P J b (fun v F'=>S F'/\dU P J ops Q S fuel (listed.setIfInBounds i true) (bf a b.dst v) F') a F):dU P J ops Q S (fuel+1) listed a F:=by
 refine FD i c ?_
 unfold dQ
 simp only[hi]
 rw[if_pos (cg hg)]
 exact lR h
attribute [go_sem] List.isEmpty_nil List.isEmpty_cons undef Ba Bb Oper.calls Bool.not_true Bool.not_false cD cN aa.push aa.get aa.put lk ju cellOf fC sQ aa.dA aa.j7 aa.mJ bJ frozenAt qx mR qw Option.isNone_none Option.isNone_some gY jx oA mQ sR sS qu qA oB qz sZ mS s0 qy sY
theorem add_zero' (a:Addr):a.add 0=a:=rfl
theorem lS (a:Addr)(m n:Nat):(a.add m).add n=a.add (m+n):=by
 unfold Addr.add;by_cases hm:m=0
 .subst hm;simp
 .by_cases b:n=0
  .subst b;simp[hm]
  .have:¬m+n=0:=by omega
   simp[hm,b,this,Nat.add_assoc]
theorem lT (b o n:Nat):(⟨b,o,none⟩:Addr).add n=⟨b,o+n,none⟩:=by
 unfold Addr.add;by_cases a:n=0
 .subst a;simp
 .simp[a]
attribute [go_sem] add_zero' lS lT Nat.add_assoc Int.reduceLE Int.reduceLT Int.reduceToNat Int.toNat_zero Int.le_refl
attribute [go_sem] Value.cells Instr.fill sK iP wu wo F5
attribute [go_sem] and_true true_and Array.getD_eq_getD_getElem? List.getElem?_toArray List.getElem?_cons_zero List.getElem?_cons_succ List.getElem?_nil Option.getD_some Option.getD_none Option.bind_some Option.bind_none Option.map_some Option.map_none
attribute [go_sem] Nat.reduceLT Nat.reduceEqDiff Nat.reduceAdd Nat.reduceMul Nat.reduceSub if_true if_false reduceIte reduceCtorEq List.setIfInBounds_toArray List.set_cons_zero List.set_cons_succ
attribute [go_sem] List.map_toArray List.map_cons List.map_nil List.append_toArray List.cons_append List.nil_append List.append_nil Array.append_empty Array.empty_append List.toList_toArray List.length_cons List.length_nil List.size_toArray ne_eq not_true_eq_false not_false_eq_true forall_const
theorem ez {ro:Addr->Option Value}{own:List (Nat×Obj)}{b:Nat}(h:eg ⟨ro,own⟩ b):∀off sp,ro ⟨b,off,sp⟩=none:=h.ro
theorem fW {ro:Addr->Option Value}{own:List (Nat×Obj)}{b:Nat}(h:eg ⟨ro,own⟩ b):av own b:=h.own
def qB (P:Program)(F:aa)(a:Act):ResultVar->Option Value
 | .tmp t=>some (slot a t)
 | .cell ad t=>match slot a ad with
  | .pointer (some p)=>fC P F t p
  |_=>none
def mU (P:Program)(F:aa)(a:Act):List ResultVar->Option (List Value)
 |[]=>some []
 |r::rs=>match qB P F a r with
  |some v=>match mU P F a rs with
   |some b=>some (v::b)
   |none=>none
  |none=>none
def mV (P:Program)(F:aa)(a:Act)(rs:List ResultVar):Option Value:=
 match mU P F a rs with
 |some [v]=>some v
 |some b=>some (.tuple b.toArray)
 |none=>none
attribute [go_sem] qB mU mV
theorem wV {P:Program}{F:aa}{a:Act}{Q:Array Value->aa->Prop}:∀(rs:List ResultVar) (d:List Value) (acc:Array Value),mU P F a rs=some d->Q (acc++d.toArray) F->
  aX P (rs.foldlM (fun (b:Array Value) r=>do let x<-(match r with| .tmp t=>pure (a.tmps.getD t undef)| .cell ad t=>do loadVar t (<-asAddr (a.tmps.getD ad undef)):Sem Value);pure (b.push x)) acc) Q F
 |[],d,acc,h,e=>by
  simp only[mU,Option.some.injEq] at h;subst h
  simpa [bK] using e
 |r::rs,d,acc,h,e=>by
  unfold mU at h
  split at h
  case h_2=>cases h
  rename_i v c
  split at h
  case h_2=>cases h
  rename_i ws i
  cases h
  have f:=wV rs ws (acc.push v) i (Q:=Q) (by simpa using e)
  simp only[List.foldlM_cons,bx]
  cases r with
  |tmp t=>
   simp only[qB,Option.some.injEq,slot] at c
   subst c
   simpa only[bK] using f
  |cell ad t=>
   simp only[qB] at c
   split at c
   .rename_i p g
    unfold slot at g
    simp only[bx,g,asAddr,bK]
    exact A1 c f
   .cases c
theorem s3 {P:Program}{fn:Func}{rs:List ResultVar}{F:aa}{a:Act}{v:Value}{R:Value->aa->Prop}(d:fn.results=rs.toArray)(h:mV P F a rs=some v)(c:R v F):aX P (results fn a.tmps) R F:=by
 unfold results;rw[d,bx,Array.mapM_eq_foldlM,<-Array.foldlM_toList];unfold mV at h;split at h
 case h_3=>cases h
 .rename_i x b;cases h;exact wV rs [v] #[] b (by simpa [bK] using c)
 .rename_i e f b;cases h;refine wV rs e #[] b ?_;simp only[Array.empty_append,bK];split
  .rename_i hs;simp at hs;obtain ⟨v,rfl⟩:=List.length_eq_one_iff.1 hs;exact absurd rfl (f v)
  .exact c
def g5 (P:Program)(rs:List ResultVar)(R:Value->aa->Prop):Ex->Act->aa->Prop
 | .exit _,_,_=>False
 |_,a,F=>a.defers=[]/\match mV P F a rs with|some v=>R v F|none=>False
attribute [go_sem] g5
theorem aF.go {P:Program}{f:FuncId}{fn:Func}{c:Code}{n:Nat}{rs:List ResultVar}{args:Array Value}{F:aa}{R:Value->aa->Prop}(g:P.funcs[f]?=some fn)(hb:fn.body=some c)(j:fn.ntmps=n)(k:fn.results=rs.toArray)(l:args.size<=n)
  (h:∀main J,Closed P main J->∀A:Act,sz A=n->A.defers=[]->(∀i,slot A i=args.getD i undef)->Wp J c (g5 P rs R) A F):aF P f args F R:=
 aF.start g hb j l fun main J hJ A h1 h2 h3=>(h main J hJ A h1 h2 h3).mono fun e a F d=>by
  cases e with
  |exit i=>exact d
  |_=>
   obtain ⟨hd,b⟩:=d
   split at b
   .rename_i v m
    show iP P a.defers _ F
    rw[hd]
    exact s3 k m b
   .exact b.elim
def cZ (n m:Nat):Array Bool:=(Array.range n).map fun i=>decide (i<m)
def qC (ops:Array Oper)(m:Nat):Bool:=
 Region.noSelect ops&&decide (m<=ops.size)&&((List.range m).all fun i=>Region.free .any ops (cZ ops.size i) i&&(Region.ready .any ops (cZ ops.size i)).contains i)&&
 ((List.range (ops.size - m)).all fun j=>decide (Region.ready .any ops (cZ ops.size (m+j))=[m+j]))&&decide (Region.ready .any ops (cZ ops.size ops.size)=[])
def F6 (D:List Nat)(L:List (List Nat))(x y:Nat):Bool:=RegionTabs.apart ⟨#[],D.toArray,L.toArray⟩ x y
def wW (A:List (List Nat))(D:List Nat)(L:List (List Nat))(n m:Nat):Bool:=
 decide (m<=n)&&((List.range m).all fun k=>(A.getD k []).all (fun x=>decide (x<k))&&(List.range n).all fun j=>decide (j<=k)||(A.getD j []).contains k||F6 D L k j)&&
 ((List.range (n - m)).all fun t=>(A.getD (m+t) []).all (fun x=>decide (x<m+t))&&(List.range (n - (m+t+1))).all fun u=>!(A.getD (m+t+1+u) []).all (fun x=>decide (x<m+t)))
section
variable {ops:Array Oper}
theorem Bf {n k i:Nat}(h:i<n):(cZ n k).getD i true=decide (i<k):=by
 simp[cZ,Array.getD_eq_getD_getElem?,h]
theorem F7 {n k i:Nat}(a:k<=n):(cZ n k).getD i false=decide (i<k):=by
 rcases Nat.lt_or_ge i n with h|h
 .simp[cZ,Array.getD_eq_getD_getElem?,h]
 .have:¬i<k:=by omega
  simp[cZ,Array.getD_eq_getD_getElem?,Array.getElem?_eq_none,h,this]
theorem wX {A:List (List Nat)}{k:Nat}(a:Region.tabAfter .any ops=A)(b:k<=ops.size):
  Region.ready .any ops (cZ ops.size k)=(List.range ops.size).filter fun i=>!decide (i<k)&&(A.getD i []).all fun x=>decide (x<k):=by
 have hlen:A.length=ops.size:=by rw[<-a];simp[Region.tabAfter]
 rw[<-RegionTabs.ready_eq]
 unfold RegionTabs.ready RegionTabs.of
 simp only[a,List.size_toArray,hlen]
 apply List.filter_congr
 intro i hi
 have c:i<ops.size:=List.mem_range.1 hi
 rw[Bf c]
 congr 1
 rw[List.getElem?_toArray,List.getD_eq_getElem?_getD,List.getElem?_eq_getElem (by omega)]
 simp only[Option.map_some,Option.getD_some]
 congr 1
 funext x
 exact F7 b
theorem filter_one {k:Nat}{p:Nat->Bool}(b:p k=true):∀(n:Nat),k<n->(∀i,i<n->i≠k->p i=false)->(List.range n).filter p=[k]
 |0,c,_=>by omega
 |n+1,c,a=>by
  rw[List.range_succ,List.filter_append]
  by_cases e:k=n
  .subst e
   have:(List.range k).filter p=[]:=by
    rw[List.filter_eq_nil_iff]
    intro i hi
    have d:=List.mem_range.1 hi
    rw[a i (by omega) (by omega)];simp
   rw[this];simp[b]
  .rw[filter_one b n (by omega) fun i hi=>a i (by omega)]
   simp[a n (by omega) (fun x=>e x.symm)]
theorem F8 {m n:Nat}(A:List (List Nat))(D:List Nat)(L:List (List Nat))(hs:Region.noSelect ops=true)(c:ops.size=n)(a:Region.tabAfter .any ops=A)(d:Region.tabDst ops=D)(f:Region.tabLooks ops=L)(h:wW A D L n m=true):qC ops m=true:=by
 subst c;have hlen:A.length=ops.size:=by rw[<-a];simp[Region.tabAfter]
 simp only[wW,Bool.and_eq_true,decide_eq_true_eq,List.all_eq_true,List.mem_range] at h;obtain ⟨⟨hm,h1⟩,h2⟩:=h;simp only[qC,Bool.and_eq_true,decide_eq_true_eq,List.all_eq_true,List.mem_range];refine ⟨⟨⟨⟨hs,hm⟩,fun i hi=>⟨?_,?_⟩⟩,fun j b=>?_⟩,?_⟩
 .rw[<-RegionTabs.free_eq];unfold RegionTabs.free;have e1:(RegionTabs.of .any ops).after=A.toArray:=by simp[RegionTabs.of,a]
  rw[e1,List.size_toArray,hlen];simp only[Bool.and_eq_true,decide_eq_true_eq,List.all_eq_true,List.mem_range];refine ⟨by omega,fun j b=>?_⟩;have:=(h1 i hi).2 j b;simp only[Bool.or_eq_true,decide_eq_true_eq] at this;simp only[Bool.or_eq_true];rcases this with (hle|g)|k
  .rcases Nat.lt_or_eq_of_le hle with x|x
   .left;left;right;rw[Bf (by omega)];simpa using x
   .left;left;left;simpa using x
  .left;right;simpa [Array.getD_eq_getD_getElem?,List.getD_eq_getElem?_getD] using g
  .right;have e:RegionTabs.of .any ops=⟨A.toArray,D.toArray,L.toArray⟩:=by simp[RegionTabs.of,a,d,f]
   rw[e];exact k
 .rw[wX a (by omega)];rw[List.contains_iff_mem,List.mem_filter];refine ⟨List.mem_range.2 (by omega),?_⟩;have:=(h1 i hi).1;simpa [List.all_eq_true] using this
 .have l:m+j<ops.size:=by omega
  rw[wX a (by omega)];refine filter_one ?_ _ l fun i hi aG=>?_
  .have:=(h2 j b).1;simpa [List.all_eq_true] using this
  .rcases Nat.lt_or_ge i (m+j) with x|x
   .simp[x]
   .have:=(h2 j b).2 (i - (m+j+1)) (by omega);rw[show m+j+1+(i - (m+j+1))=i by omega] at this;simp only[Bool.not_eq_true'] at this;simp only[this,Bool.and_false]
 .rw[wX a (Nat.le_refl _)];rw[List.filter_eq_nil_iff];intro i hi;have:=List.mem_range.1 hi;simp[this]
def wY (n:Nat)(k:Nat->Bool):Bool:=Nat.casesOn n (k 0) fun m=>k (m+1)
def qD:List Nat->(List Nat->Bool)->Bool
 |[],k=>k []
 |x::xs,k=>wY x fun y=>qD xs fun ys=>k (y::ys)
def qE:List (List Nat)->(List (List Nat)->Bool)->Bool
 |[],k=>k []
 |x::xs,k=>qD x fun y=>qE xs fun ys=>k (y::ys)
theorem Bg (n:Nat)(k:Nat->Bool):wY n k=k n:=by cases n<;>rfl
theorem wZ:∀(l:List Nat) (k:List Nat->Bool),qD l k=k l
 |[],_=>rfl
 |x::xs,k=>by rw[qD,Bg,wZ xs]
theorem Bh:∀(l:List (List Nat)) (k:List (List Nat)->Bool),qE l k=k l
 |[],_=>rfl
 |x::xs,k=>by rw[qE,wZ,Bh xs]
def oF (ops:Array Oper)(m:Nat):Bool:=Region.noSelect ops&&qE (Region.tabAfter .any ops) fun A=>qD (Region.tabDst ops) fun D=>qE (Region.tabLooks ops) fun L=>wY ops.size fun n=>wW A D L n m
theorem Bi {m:Nat}(h:oF ops m=true):qC ops m=true:=by
 simp only[oF,Bool.and_eq_true,Bh,wZ,Bg] at h;exact F8 _ _ _ h.1 rfl rfl rfl rfl h.2
end
def jy:List (Nat×Obj)->List (Nat×Obj)->Prop
 |[],_=>True
 |(b,o)::l,own=>lk own b=some o/\jy l own
def Knows (F0 F:aa):Prop:=(∀a v,F0.ro a=some v->F.ro a=some v)/\(∀a,a.block∈keys F0.own->F0.ro a=none->F.ro a=none)/\jy F0.own F.own
theorem jy.lk:∀{l own:List (Nat×Obj)} {b:Nat} {o:Obj},jy l own->lk l b=some o->Go.Sep.lk own b=some o
 |[],_,_,_,_,h=>by cases h
 |(c,x)::l,own,b,o,a,h=>by
  unfold Go.Sep.lk at h
  split at h
  .rename_i e;cases h;exact e▸a.1
  .exact jy.lk a.2 h
theorem Knows.get {F0 F:aa}(h:Knows F0 F){a:Addr}{v:Value}(hg:F0.get a=some v):F.get a=some v:=by
 unfold aa.get at hg ⊢;cases b:F0.ro a with
 |some x=>rw[b] at hg;rw[h.1 a x b];exact hg
 |none=>
  rw[b] at hg;simp only at hg;split at hg
  .rename_i hs;obtain ⟨o,c,d⟩:=Option.bind_eq_some_iff.1 hg;rw[h.2.1 a (e6 (ia c)) b];simp only;rw[if_pos hs,h.2.2.lk c];exact d
  .cases hg
theorem F9 {ro:Addr->Option Value}{l own:List (Nat×Obj)}:Knows ⟨ro,l⟩ ⟨ro,own⟩=jy l own:=
 propext ⟨fun h=>h.2.2,fun h=>⟨fun _ _ x=>x,fun _ _ x=>x,h⟩⟩
theorem Ga {ro aN:Addr->Option Value}{l own:List (Nat×Obj)}(c:∀a v,ro a=some v->aN a=some v)(d:∀b∈keys l,∀off sp,aN ⟨b,off,sp⟩=none)(h:jy l own):Knows ⟨ro,l⟩ ⟨aN,own⟩:=
 ⟨c,fun a e _=>d a.block e a.off a.spot,h⟩
theorem Knows.mP {F0 F:aa}(h:Knows F0 F){a:Addr}:∀{n i:Nat} {b:List Value},F0.dA a i n=some b->F.dA a i n=some b
 |0,_,_,hg=>hg
 |n+1,i,b,hg=>by
  unfold aa.dA at hg ⊢
  split at hg
  case h_2=>cases hg
  rename_i v c
  split at hg
  case h_2=>cases hg
  rename_i ws d
  rw[h.get c,h.mP d]
  exact hg
theorem Knows.fC {P:Program}{F0 F:aa}(h:Knows F0 F){t:TypeId}{ad:Addr}{v:Value}(hg:fC P F0 t ad=some v):Go.Sep.fC P F t ad=some v:=by
 unfold Go.Sep.fC at hg ⊢;split at hg
 .exact h.get hg
 .split at hg
  case h_2=>cases hg
  rename_i n b;split at hg
  case h_2=>cases hg
  rename_i c a;rw[h.mP a];exact hg
 .cases hg
def jz (P:Program)(o:Oper)(a:Act):Option Value:=
 match o.op with
 | .move x| .assign x=>some (ev a x)
 | .nilCheck x=>match ev a x with
  | .pointer (some ad)=>some (.pointer (some ad))
  |_=>none
 | .pick c x y=>match ev a c with
  | .bool b=>some (if b then ev a x else ev a y)
  |_=>none
 | .build t parts=>qy P t (parts.map fun (i,x)=>(i,ev a x)).toList
 | .binOp op t x y _=>qx P op t (ev a x) (ev a y)
 | .unOp op _ x=>mQ op (ev a x)
 | .convert src dst x=>mS P src dst (ev a x)
 | .makeFunc fn first captured=>some (.func fn (first.map (ev a)) (captured.map (ev a)))
 | .slice t x lo hi none=>match ev a x with
  | .slice ad len cap=>if len<=cap then oB P t (.slice ad len cap) (lo.map (ev a)) (hi.map (ev a)) else none
  |_=>none
 | .fieldAddr s x n=>match ev a x with
  | .pointer (some ad)=>match cT P s n with
   |some k=>some (.pointer (some (ad.add k)))
   |none=>none
  |_=>none
 | .field s x n=>qz P s n (ev a x)
 | .indexAddr t x i=>qu P t (ev a x) (ev a i)
 | .index t x i=>qA P t (ev a x) (ev a i)
 | .extract x n=>sZ n (ev a x)
 | .call {callee:=.builtin .len,args,argTypes}=>match argTypes[0]?,args[0]? with
  |some t,some x=>s0 P t (ev a x)
  |_,_=>none
 | .call {callee:=.builtin .max,args, ..}=>match args.toList with
  |[x,y]=>sR (ev a x) (ev a y)
  |_=>none
 | .call {callee:=.builtin .min,args, ..}=>match args.toList with
  |[x,y]=>sS (ev a x) (ev a y)
  |_=>none
 |_=>none
theorem s4 {P:Program}{J:Goroutine->aa->Prop}{o:Oper}{a:Act}{v:Value}{R:Value->aa->Prop}{F:aa}(h:jz P o a=some v)(d:R v F):cN P J o R a F:=by
 obtain ⟨dst,op,type,pos,after,guard⟩:=o;unfold jz at h;unfold cN;cases op<;>simp only[reduceCtorEq] at h ⊢
 case move x=>cases h;exact d
 case assign x=>cases h;exact d
 case nilCheck x=>
  split at h
  .rename_i ad e;cases h;rw[e];exact d
  .cases h
 case pick c x y=>
  split at h
  .rename_i b hb;cases h;try rw[hb]
   exact d
  .cases h
 case build t parts=>rw[h];exact d
 case binOp=>rw[h];exact d
 case unOp=>rw[h];exact d
 case convert=>rw[h];exact d
 case makeFunc=>cases h;exact d
 case slice t x lo hi g=>
  cases g with
  |some m=>cases h
  |none=>
   simp only at h ⊢;split at h
   case h_2=>cases h
   rename_i ad len cap e;split at h
   case isFalse=>cases h
   rename_i i;rw[e];exact ⟨i,by rw[h];exact d⟩
 case fieldAddr s x n=>
  split at h
  case h_2=>cases h
  rename_i ad e;split at h
  case h_2=>cases h
  rename_i k j;cases h;try rw[e]
  try simp only[j]
  exact d
 case field=>rw[h];exact d
 case indexAddr=>rw[h];exact d
 case index=>rw[h];exact d
 case extract=>rw[h];exact d
 case call c=>
  obtain ⟨callee,args,argTypes⟩:=c;cases callee with
  |value x=>cases h
  |invoke r m=>cases h
  |builtin b=>
   cases b<;>simp only[reduceCtorEq] at h ⊢
   case len=>
    split at h
    case h_2=>cases h
    rename_i t x ht e;simp only[ht,e,h];exact d
   case max=>
    split at h
    case h_2=>cases h
    rename_i x y f;simp only[f,h];exact d
   case min=>
    split at h
    case h_2=>cases h
    rename_i x y f;simp only[f,h];exact d
def Plain (P:Program)(J:Goroutine->aa->Prop)(F0:aa)(f:FuncId)(args:Array Value)(v:Value):Prop:=
 ∀F,Knows F0 F->cY P J f args F (fun a F'=>a=v/\F'=F)
def eA (P:Program)(J:Goroutine->aa->Prop)(ops:Array Oper)(F0:aa)(K:Act->Prop):List Oper->Bool->Act->Prop
 |[],_,a=>K a
 |o::rest,_,a=>match cD ops o a with
  |some false=>eA P J ops F0 K rest true (bf a o.dst undef)
  |some true=>match o.op with
   | .load t x=>match ev a x with
    | .pointer (some ad)=>match fC P F0 t ad with
     |some v=>eA P J ops F0 K rest true (bf a o.dst v)
     |none=>False
    |_=>False
   | .call {callee:=.value x,args, ..}=>match ev a x with
    | .func (.func fn) first captured=>aH P fn=true/\∃v,Plain P J F0 fn (first++args.map (ev a)++captured) v/\eA P J ops F0 K rest false (bf a o.dst v)
    |_=>False
   |_=>match jz P o a with
    |some v=>eA P J ops F0 K rest true (bf a o.dst v)
    |none=>False
  |none=>False
theorem Gb {P:Program}{J:Goroutine->aa->Prop}{ops:Array Oper}{F0:aa}{K:Act->Prop}{go:Bool}{a:Act}:eA P J ops F0 K [] go a=K a:=rfl
theorem Gc {P:Program}{J:Goroutine->aa->Prop}{ops:Array Oper}{F0:aa}{K:Act->Prop}{o:Oper}{rest:List Oper}{a:Act}:eA P J ops F0 K (o::rest) true a=match cD ops o a with
  |some false=>eA P J ops F0 K rest true (bf a o.dst undef)
  |some true=>match o.op with
   | .load t x=>match ev a x with
    | .pointer (some ad)=>match fC P F0 t ad with
     |some v=>eA P J ops F0 K rest true (bf a o.dst v)
     |none=>False
    |_=>False
   | .call {callee:=.value x,args, ..}=>match ev a x with
    | .func (.func fn) first captured=>aH P fn=true/\∃v,Plain P J F0 fn (first++args.map (ev a)++captured) v/\eA P J ops F0 K rest false (bf a o.dst v)
    |_=>False
   |_=>match jz P o a with
    |some v=>eA P J ops F0 K rest true (bf a o.dst v)
    |none=>False
  |none=>False:=(Eq.refl _).trans (Eq.refl _)
theorem ck {P:Program}{J:Goroutine->aa->Prop}{ops:Array Oper}{F0:aa}{K:Act->Prop}:∀{l:List Oper} {go:Bool} {a:Act},eA P J ops F0 K l true a->eA P J ops F0 K l go a
 |[],_,_,h=>h
 |_::_,_,_,h=>h
theorem s5 {n m:Nat}(h:m<n):(cZ n m).setIfInBounds m true=cZ n (m+1):=by
 apply Array.ext
 .simp[cZ]
 .intro i h1 h2;simp[cZ] at h1 h2;rw[Array.getElem_setIfInBounds (by simp[cZ];omega)];by_cases e:m=i
  .subst e;simp[cZ]
  .simp only[if_neg e,cZ,Array.getElem_map,Array.getElem_range];rw[decide_eq_decide];omega
theorem Bj (n:Nat):cZ n 0=Array.replicate n false:=by
 apply Array.ext
 .simp[cZ]
 .intro i h1 h2;simp[cZ]
section
variable {P:Program}{main:Bool}{J:Goroutine->aa->Prop}{ops:Array Oper}{Q:Act->aa->Prop}{F0:aa}
theorem s6 {K:Act->Prop}(m:Nat)(hm:m<=ops.size)(r:Region.noSelect ops=true)(s:∀i,i<m->(Region.free .any ops (cZ ops.size i) i&&(Region.ready .any ops (cZ ops.size i)).contains i)=true)
  {F:aa} (b:Knows F0 F) (u:∀a,K a->dU P J ops Q (Knows F0) (ops.size - m) (cZ ops.size m) a F):
  ∀(l:List Oper) (k:Nat) (go:Bool) (a:Act),(ops.toList.take m).drop k=l->k<=m->eA P J ops F0 K l go a->dU P J ops Q (Knows F0) (ops.size - k) (cZ ops.size k) a F
 |[],k,_,a,c,A,h=>by
  have:k=m:=by
   have:=congrArg List.length c
   simp at this
   omega
  subst this
  exact u a h
 |o::rest,k,_,a,c,A,h=>by
  have g:k<m:=by
   rcases Nat.lt_or_ge k m with x|x
   .exact x
   .rw[List.drop_eq_nil_of_le (by simp;omega)] at c;cases c
  have j:ops[k]?=some o:=by
   have:=congrArg List.head? c
   rw[List.head?_drop,List.getElem?_take_of_lt g] at this
   simpa using this
  have y:(ops.toList.take m).drop (k+1)=rest:=by
   have:=congrArg List.tail c
   simpa [List.tail_drop] using this
  have B:=s k g
  have e:ops.size - k=(ops.size - (k+1))+1:=by omega
  have z:=s5 (n:=ops.size) (m:=k) (by omega)
  have p:(Region.noSelect ops&&Region.free .any ops (cZ ops.size k) k&&(Region.ready .any ops (cZ ops.size k)).contains k)=true:=by
   rw[r,Bool.true_and];exact B
  rw[e]
  unfold eA at h
  split at h
  .rename_i hg
   exact Bc k j p hg b (by rw[z];exact s6 m hm r s b u rest (k+1) _ _ y g h)
  .rename_i hg
   have next:∀go v,eA P J ops F0 K rest go (bf a o.dst v)->dU P J ops Q (Knows F0) (ops.size - (k+1)) ((cZ ops.size k).setIfInBounds k true) (bf a o.dst v) F:=fun go v d=>by
    rw[z];exact s6 m hm r s b u rest (k+1) _ _ y g d
   split at h
   .rename_i t x w
    split at h
    case h_2=>exact h.elim
    rename_i ad C
    split at h
    case h_2=>exact h.elim
    rename_i v d
    refine oE k v j p hg (fun F R q f=>?_) b (next _ v h)
    unfold cN
    simp only[w,C,q.fC d]
    exact f
   .rename_i x args argTypes w
    split at h
    case h_2=>exact h.elim
    rename_i fn first captured D
    obtain ⟨E,v,G,h⟩:=h
    refine oE k v j p hg (fun F R q f=>?_) b (next _ v h)
    unfold cN
    simp only[w,D]
    exact ⟨E,(G F q).mono fun I F' H=>by obtain ⟨rfl,rfl⟩:=H;exact f⟩
   .split at h
    case h_2=>exact h.elim
    rename_i v d
    exact oE k v j p hg (fun F R q f=>s4 d f) b (next _ v h)
  .exact h.elim
def eP (P:Program)(J:Goroutine->aa->Prop)(ops:Array Oper)(F0:aa)(Q:Act->aa->Prop):List Oper->Bool->Act->aa->Prop
 |[],_,a,F=>Q a F
 |o::rest,_,a,F=>match cD ops o a with
  |some true=>cN P J o (fun v F'=>Knows F0 F'/\eP P J ops F0 Q rest (!Oper.calls o) (bf a o.dst v) F') a F
  |_=>False
theorem Gd {P:Program}{J:Goroutine->aa->Prop}{ops:Array Oper}{F0:aa}{Q:Act->aa->Prop}{go:Bool}{a:Act}{F:aa}:eP P J ops F0 Q [] go a F=Q a F:=rfl
theorem Ge {P:Program}{J:Goroutine->aa->Prop}{ops:Array Oper}{F0:aa}{Q:Act->aa->Prop}{o:Oper}{rest:List Oper}{a:Act}{F:aa}:eP P J ops F0 Q (o::rest) true a F=match cD ops o a with
  |some true=>cN P J o (fun v F'=>Knows F0 F'/\eP P J ops F0 Q rest (!Oper.calls o) (bf a o.dst v) F') a F
  |_=>False:=(Eq.refl _).trans (Eq.refl _)
theorem mW {P:Program}{J:Goroutine->aa->Prop}{ops:Array Oper}{F0:aa}{Q:Act->aa->Prop}:∀{l:List Oper} {go:Bool} {a:Act} {F:aa},eP P J ops F0 Q l true a F->eP P J ops F0 Q l go a F
 |[],_,_,_,h=>h
 |_::_,_,_,_,h=>h
theorem mX (m:Nat)(g:∀j,j<ops.size - m->Region.ready .any ops (cZ ops.size (m+j))=[m+j])(i:Region.ready .any ops (cZ ops.size ops.size)=[]):
  ∀(l:List Oper) (k:Nat) (go:Bool) (a:Act) (F:aa),m<=k->k<=ops.size->ops.toList.drop k=l->eP P J ops F0 Q l go a F->dU P J ops Q (Knows F0) (ops.size - k) (cZ ops.size k) a F
 |[],k,_,a,F,q,s,f,h=>by
  have:k=ops.size:=by
   have:=congrArg List.length f
   simp at this
   omega
  subst this
  exact AM i h _
 |o::rest,k,_,a,F,q,s,f,h=>by
  have u:k<ops.size:=by
   rcases Nat.lt_or_ge k ops.size with x|x
   .exact x
   .rw[List.drop_eq_nil_of_le (by simpa using x)] at f;cases f
  have w:ops[k]?=some o:=by
   have:=congrArg List.head? f
   simpa [List.head?_drop] using this
  have y:ops.toList.drop (k+1)=rest:=by
   have:=congrArg List.tail f
   simpa [List.tail_drop] using this
  have e:ops.size - k=(ops.size - (k+1))+1:=by omega
  have n:=g (k - m) (by omega)
  rw[show m+(k - m)=k by omega] at n
  rw[e]
  unfold eP at h
  split at h
  .rename_i hg
   refine Be k w n hg ?_
   refine s7 ?_ h
   rintro v F' ⟨h1,h2⟩
   refine ⟨h1,?_⟩
   rw[s5 u]
   exact mX m g i rest (k+1) _ _ F' (by omega) (by omega) y h2
  .exact h.elim
where
 s7 {o:Oper} {a:Act} {F:aa} {R p:Value->aa->Prop} (d:∀v F,R v F->p v F) (h:cN P J o R a F):cN P J o p a F:=by
  obtain ⟨dst,op,type,pos,after,guard⟩:=o
  unfold cN at h ⊢
  cases op<;>simp only at h ⊢<;>first
   |exact h.elim
   |exact d _ _ h
   |exact fun b hb=>d _ _ (h b hb)
   |exact ij (fun v F h=>d v F h) _ _ h
   |(split at h<;>first
     |exact h.elim
     |exact d _ _ h
     |exact fun b hb=>d _ _ (h b hb)
     |(split at h<;>first|exact h.elim|exact d _ _ h|exact fun b hb=>d _ _ (h b hb)))
   |skip
  case slice t x lo hi z=>
   cases z with
   |some m=>exact h.elim
   |none=>
    refine ⟨h.1,?_⟩
    have h2:=h.2
    revert h2
    cases oB P t (ev a x) (lo.map (ev a)) (hi.map (ev a)) with
    |some v=>exact fun x=>d _ _ x
    |none=>exact fun x=>x
  case call c=>
   obtain ⟨callee,args,argTypes⟩:=c
   cases callee with
   |value x=>
    exact gZ.mono h d
   |invoke r m=>exact h.elim
   |builtin b=>
    cases b<;>simp only at h ⊢<;>first
     |exact h.elim
     |(split at h<;>first|exact h.elim|exact fun ty=>ij (fun v F ⟨F0,hle,h⟩=>⟨F0,hle,d _ _ h⟩) _ _ (h ty))
     |exact ij (fun v F h=>d v F h) _ _ h
     |(split at h<;>first|exact h.elim|(split at h<;>first|exact h.elim|exact d _ _ h|exact ij (fun v F h=>d v F h) _ _ h))
theorem fE {Q:Ex->Act->aa->Prop}(hJ:Closed P main J)(d:P.follows .mixedOrders=true)(m:Nat){id:Nat}{a:Act}{F:aa}(F0:aa)(e:Knows F0 F)(f:oF ops m=true)
  (h:eA P J ops F0 (fun b=>eP P J ops F0 (Q .normal) (ops.toList.drop m) true b F) (ops.toList.take m) true a):Wp J (.region id ops true) Q a F:=by
 have c:=Bi f
 simp only[qC,Bool.and_eq_true,decide_eq_true_eq,List.all_eq_true,List.mem_range] at c
 obtain ⟨⟨⟨⟨h1,h2⟩,h3⟩,g⟩,j⟩:=c
 refine wz hJ (Knows F0) d ?_
 rw[<-Bj]
 have:=s6 (P:=P) (J:=J) (Q:=Q .normal) m h2 h1 (fun i hi=>by have:=h3 i hi;simpa using this) e (fun b k=>mX m g j _ m _ b F (Nat.le_refl _) h2 rfl k) _ 0 true a (by simp) (Nat.zero_le _) h
 simpa using this
theorem bI (hJ:Closed P main J){F0:aa}{f:FuncId}{args:Array Value}{v:Value}(h:∀F,Knows F0 F->aF P f args F.cx (fun a _=>a=v)):Plain P J F0 f args v:=
 fun F b=>wC (h F b) main J hJ
end
attribute [irreducible] eA eP
attribute [go_sem] jy F9 jz Gb Gc Gd Ge sJ List.take_succ_cons List.take_zero List.drop_succ_cons List.drop_zero Array.zipIdx_toArray List.zipIdx_cons List.zipIdx_nil List.foldl_toArray List.foldl_toArray' decide_eq_true_eq Bool.and_false Bool.false_and Bool.and_self Bool.true_and Bool.and_true List.foldl_cons List.foldl_nil decide_false decide_true Bool.or_false Bool.false_or Bool.or_self Bool.or_true Bool.true_or gt_iff_lt Nat.reduceGT Nat.lt_irrefl Bool.false_eq_true Nat.zero_add Nat.add_zero Nat.not_lt_zero
section
variable {P:Program}{main:Bool}{J:Goroutine->aa->Prop}{Q:Ex->Act->aa->Prop}{a:Act}{F:aa}
theorem bn (hJ:Closed P main J){f:FuncId}{args:Array Value}{F:aa}{K:Value->aa->Prop}(v:Value)(h:aF P f args F.cx (fun a _=>a=v))(b:K v F):cY P J f args F K:=
 (wC h main J hJ).mono fun a F' c=>by obtain ⟨rfl,rfl⟩:=c;exact b
theorem ei (hJ:Closed P main J){c:Operand}{x y:Code}(b:ev a c= .bool true)(h:Wp J x Q a F):Wp J (.cond c x y) Q a F:=wq hJ true b h
theorem dV (hJ:Closed P main J){c:Operand}{x y:Code}(b:ev a c= .bool false)(h:Wp J y Q a F):Wp J (.cond c x y) Q a F:=wq hJ false b h
theorem Gf (hJ:Closed P main J){c:Operand}{x y:Code}(b:Bool)(d:ev a c= .bool b)(h1:b=true->Wp J x Q a F)(h2:b=false->Wp J y Q a F):Wp J (.cond c x y) Q a F:=by
 refine wq hJ b d ?_;cases b
 .exact h2 rfl
 .exact h1 rfl
theorem cz (hJ:Closed P main J){c:Code}{F':aa}(hle:Le F F')(h:Wp J c Q a F):Wp J c Q a F':=h.le (hJ:=hJ) hle
theorem Le.sub {ro:Addr->Option Value}{l l':List (Nat×Obj)}(h:l.Sublist l'):Le ⟨ro,l⟩ ⟨ro,l'⟩:=by
 have c:(keys l).Sublist (keys l'):=h.map _;exact ⟨fun w hw=>⟨hw.ro,fun b o hb=>hw.own b o (h.subset hb),c.nodup hw.nodup,fun a v d hm=>hw.apart a v d (c.subset hm)⟩,fun b hb=>c.subset hb,fun a e=>.inl e⟩
theorem w5 (hJ:Closed P main J){c:Code}(I:Nat->Act->aa->Prop)(n:Nat)(h0:I n a F)(hs:∀n a F,I n a F->Wp J c (sJ (fun m a F=>∃F0,Le F0 F/\I m a F0) n Q) a F):Wp J (.loop c) Q a F:=
 AP hJ (fun m a F=>∃F0,Le F0 F/\I m a F0) n ⟨F,Le.refl F,h0⟩ fun n a F ⟨F0,hle,b⟩=>cz hJ hle (hs n a F0 b)
end
def iq:List Nat->Nat->Bool
 |[],_=>false
 |w::ws,i=>i==w||iq ws i
abbrev In (ws:List Nat)(i:Nat):Prop:=iq ws i=true
structure cL (ws:List Nat)(a a0:Act):Prop where
 size:sz a=sz a0
 defers:a.defers=a0.defers
 cP:∀i,¬In ws i->slot a i=slot a0 i
theorem cL.refl (ws:List Nat)(a:Act):cL ws a a:=⟨rfl,rfl,fun _ _=>rfl⟩
theorem cL.trans {ws:List Nat}{a b c:Act}(h:cL ws a b)(k:cL ws b c):cL ws a c:=⟨h.size.trans k.size,h.defers.trans k.defers,fun i hi=>(h.cP i hi).trans (k.cP i hi)⟩
theorem cL.sub {ws c:List Nat}{a b:Act}(hs:∀i,In ws i->In c i)(h:cL ws a b):cL c a b:=⟨h.size,h.defers,fun i hi=>h.cP i fun x=>hi (hs i x)⟩
theorem Gg {ws:List Nat}{a:Act}:cL ws a a=True:=eq_true (cL.refl ws a)
theorem Gh {ws:List Nat}{a a0:Act}{d:Nat}{v:Value}(h:iq ws d=true):cL ws (bf a (some d) v) a0=cL ws a a0:=by
 apply propext;constructor
 .intro k;refine ⟨by rw[<-k.size,AZ],by rw[<-k.defers,A0],fun i hi=>?_⟩;rw[<-k.cP i hi,wF _ _ _ _ (fun e=>hi (by subst e;exact h))]
 .intro k;refine ⟨by rw[<-k.size,AZ],by rw[<-k.defers,A0],fun i hi=>?_⟩;rw[<-k.cP i hi,wF _ _ _ _ (fun e=>hi (by subst e;exact h))]
def gG (ws a:List Nat):Bool:=ws.all fun w=>iq a w
theorem Bl:∀{ws:List Nat} {i:Nat},iq ws i=true->i∈ws
 |[],_,h=>by cases h
 |w::ws,i,h=>by
  simp only[iq,Bool.or_eq_true,beq_iff_eq] at h
  rcases h with h|h
  .rw[h];exact List.mem_cons_self
  .exact List.mem_cons_of_mem _ (Bl h)
theorem cL.gG {ws c:List Nat}{a b:Act}(h:cL ws a b)(hs:Sep.gG ws c=true):cL c a b:=h.sub fun i hi=>by
 have:=Bl hi
 exact List.all_eq_true.1 hs i this
def rg:Nat->Nat->List Nat->List Nat
 |_,0,ws=>ws
 |a,n+1,ws=>a::rg (a+1) n ws
theorem Bm:∀(n a i:Nat) (ws:List Nat),iq (rg a n ws) i=(decide (a<=i)&&decide (i<a+n)||iq ws i)
 |0,a,i,ws=>by
  show iq ws i=_
  cases h:(decide (a<=i)&&decide (i<a+0)) with
  |false=>rfl
  |true=>rw[Bool.and_eq_true,decide_eq_true_eq,decide_eq_true_eq] at h;omega
 |n+1,a,i,ws=>by
  show (i==a||iq (rg (a+1) n ws) i)=_
  rw[Bm n (a+1) i ws,<-Bool.or_assoc]
  congr 1
  rw[Bool.eq_iff_iff]
  simp only[Bool.or_eq_true,Bool.and_eq_true,decide_eq_true_eq,beq_iff_eq]
  omega
attribute [go_sem] Bm Nat.reduceLeDiff Nat.reduceLT Nat.reduceAdd
attribute [go_sem] iq Gg Gh or_true true_or or_false false_or Nat.reduceBEq
section
variable {P:Program}{main:Bool}{J:Goroutine->aa->Prop}{Q:Ex->Act->aa->Prop}{a:Act}{F:aa}
theorem bT (hJ:Closed P main J){c:Code}(ws:List Nat)(I:Nat->Act->aa->Prop)(n:Nat)(h0:I n a F)
  (hs:∀n b F',cL ws b a->I n b F'->Wp J c (sJ (fun m a2 d=>cL ws a2 b/\∃F0,Le F0 d/\I m a2 F0) n Q) b F'):Wp J (.loop c) Q a F:=
 AP hJ (fun m a2 d=>cL ws a2 a/\∃F0,Le F0 d/\I m a2 F0) n ⟨.refl ws a,F,Le.refl F,h0⟩ fun n b F' ⟨g,F0,hle,h⟩=>
  cz hJ hle ((hs n b F0 g h).mono fun e a2 d f=>by
   cases e with
   |normal=>obtain ⟨m,hm,h1,h2⟩:=f;exact ⟨m,hm,h1.trans g,h2⟩
   |exit i=>exact f
   |ret=>exact f)
end
def Ext (ro aN:Addr->Option Value):Prop:=∀a v,ro a=some v->aN a=some v
theorem Ext.refl (ro:Addr->Option Value):Ext ro ro:=fun _ _ h=>h
theorem Ext.trans {r s t:Addr->Option Value}(h:Ext r s)(k:Ext s t):Ext r t:=fun a v x=>k a v (h a v x)
def bU (ro:Addr->Option Value)(b:Nat)(o:Obj):Addr->Option Value:=fun a=>match ro a with
 |some v=>some v
 |none=>if a.block=b/\a.spot=none then cellOf o a.off else none
theorem gH (ro:Addr->Option Value)(b:Nat)(o:Obj):Ext ro (bU ro b o):=fun a v h=>by simp[bU,h]
theorem jA {ro:Addr->Option Value}{b off:Nat}{o:Obj}(h:∀off sp,ro ⟨b,off,sp⟩=none):bU ro b o ⟨b,off,none⟩=cellOf o off:=by simp[bU,h]
theorem kV {ro:Addr->Option Value}{own e:List (Nat×Obj)}{b:Nat}{o:Obj}(i:lk own b=some o)(hs:e.Sublist own)(hb:av e b):Le ⟨bU ro b o,e⟩ ⟨ro,own⟩:=by
 have g:(keys e).Sublist (keys own):=hs.map _;have hm:=ia i;have j:b∉keys e:=by
  clear i hs g hm
  induction e with
  |nil=>simp[keys]
  |cons x l ih=>
   simp only[keys,List.map_cons,List.mem_cons,not_or];exact ⟨hb.1,ih hb.2⟩
 refine ⟨fun w hw=>⟨fun a v h=>?_,fun c x d=>hw.own c x (hs.subset d),g.nodup hw.nodup,fun a v h d=>?_⟩,fun c d=>g.subset d,fun a k=>?_⟩
 .replace h:bU ro b o a=some v:=h;unfold bU at h;split at h
  .rename_i x f;cases h;exact hw.ro _ _ f
  .split at h
   .rename_i d;have:=hw.own b o hm;rw[<-d.1] at this;cases o<;>simp only[cellOf,reduceCtorEq] at h;simp[World.cell?,this,d.2,h]
   .cases h
 .replace h:bU ro b o a=some v:=h;unfold bU at h;split at h
  .rename_i x f;exact hw.apart a x f (g.subset d)
  .split at h
   .rename_i m;rw[m.1] at d;exact j d
   .cases h
 .obtain ⟨v,h⟩:=Option.isSome_iff_exists.1 k;replace h:bU ro b o a=some v:=h;unfold bU at h;split at h
  .rename_i x f;exact .inl (by simp[f])
  .split at h
   .rename_i d;exact .inr (by rw[d.1];exact e6 hm)
   .cases h
def eW (P:Program)(f:FuncId)(args:Array Value)(ro:Addr->Option Value)(R:Value->(Addr->Option Value)->Prop):Prop:=
 aF P f args ⟨ro,[]⟩ (fun v G=>∃aN,Ext ro aN/\Le ⟨aN,[]⟩ G/\R v aN)
def mY (F G:aa):Prop:=∀a,(G.ro a).isSome=true->a.block∉keys F.own
def w6 (J:Goroutine->aa->Prop)(F:aa)(g:Goroutine)(G:aa):Prop:=Fits F G->mY F G->J g (G.star F)
theorem Bn {P:Program}{main:Bool}{J:Goroutine->aa->Prop}(hJ:Closed P main J)(F:aa):Closed P main (w6 J F) where
 mono {g G I} hle h c i:=by
  have n:=c.le hle
  have u:mY F G:=fun a d=>(hle.ro a d).elim (i a) (c.own _)
  refine hJ.mono ⟨fun w hw=>n.both (hle.has w (c.right hw)) (c.left hw),fun b hb=>?_,fun a d=>?_⟩ (h n u)
  .simp only[aa.star,cr,List.mem_append] at hb ⊢
   exact hb.imp (hle.own b) id
  .rcases kR d with x|x
   .exact (gX (.inl x)).imp id (fun y=>by simp only[aa.star,cr,List.mem_append];exact .inr y)
   .rcases hle.ro a x with y|y
    .exact (gX (.inr y)).imp id (fun z=>by simp only[aa.star,cr,List.mem_append];exact .inr z)
    .exact .inr (by simp only[aa.star,cr,List.mem_append];exact .inl y)
 step {fr cs G} h c i:=by
  refine hJ.step fun w hw=>?_
  have A:=c.right hw
  have f:=c.left hw
  obtain ⟨g',w',es,k,hgo,hu,p,B,C⟩:=h w A
  have q:Has F w':=by
   refine ⟨fun a v l=>?_,fun b o hb=>?_,f.nodup,f.apart⟩
   .have h0:=f.ro a v l
    have D:=f.ig (a:=a) (by simp[l])
    unfold World.cell? at h0 ⊢
    rw[hu.frame _ D (c.ro a (by simp[l]))]
    exact h0
   .rw[hu.frame b (f.lt (e6 hb)) (fun hm=>c.own b hm (e6 hb))]
    exact f.own b o hb
  have s:Fits F k:=by
   refine ⟨⟨w',p,q⟩,fun b hb hm=>?_,fun a d hm=>?_⟩
   .rcases hu.own b hb with x|x
    .exact c.own b x hm
    .have:=f.lt hm;omega
   .rcases hu.own _ hm with x|x
    .exact c.ro a d x
    .have:=f.ig d;omega
  have E:mY F k:=fun a d hm=>by
   rcases hu.ro a d with x|x|x
   .exact i a x hm
   .exact c.own _ x hm
   .have:=f.lt hm;omega
  refine ⟨g',w',es,k.star F,hgo,⟨hu.os,hu.tape,hu.output,hu.size,fun b hb i=>hu.frame b hb fun hm=>i ?_,fun a d=>?_,fun b hb=>?_⟩,s.both p q,fun e he=>?_,C s E⟩
  .simp only[aa.star,cr,List.mem_append];exact .inl hm
  .rcases kR d with x|x
   .exact (gX (.inl x)).imp id (fun y=>.inl (by simp only[aa.star,cr,List.mem_append];exact .inr y))
   .rcases hu.ro a x with y|y|y
    .exact (gX (.inr y)).imp id (fun z=>.inl (by simp only[aa.star,cr,List.mem_append];exact .inr z))
    .exact .inr (.inl (by simp only[aa.star,cr,List.mem_append];exact .inl y))
    .exact .inr (.inr y)
  .simp only[aa.star,cr,List.mem_append] at hb ⊢
   rcases hb with hb|hb
   .exact (hu.own b hb).imp .inl id
   .exact .inl (.inr hb)
  .have t:∀b,ie G w.heap.size w'.heap.size b->ie (G.star F) w.heap.size w'.heap.size b:=fun b hb=>hb.imp (fun x=>by simp only[aa.star,cr,List.mem_append];exact .inl x) id
   rcases B e he with ⟨a,wr,rfl,j|⟨H,j⟩⟩|⟨r,wr,rfl,j⟩|⟨m,rfl,hm⟩
   .exact .inl ⟨a,wr,rfl,.inl (t _ j)⟩
   .rcases gX (F:=F) (.inr j) with y|y
    .exact .inl ⟨a,wr,rfl,.inr ⟨H,y⟩⟩
    .exact .inl ⟨a,wr,rfl,.inl (.inl (by simp only[aa.star,cr,List.mem_append];exact .inr y))⟩
   .exact .inr (.inl ⟨r,wr,rfl,t _ j⟩)
   .exact .inr (.inr ⟨m,rfl,hm⟩)
section
variable {P:Program}{main:Bool}{J:Goroutine->aa->Prop}
theorem w7 (hJ:Closed P main J){f:FuncId}{args:Array Value}{ro:Addr->Option Value}{own:List (Nat×Obj)}{K:Value->aa->Prop}(R:Value->(Addr->Option Value)->Prop)(h:eW P f args ro R)
  (r:∀v aN,Ext ro aN->(∀b∈keys own,∀off sp,aN ⟨b,off,sp⟩=none)->R v aN->K v ⟨aN,own⟩):cY P J f args ⟨ro,own⟩ K:=by
 intro c cs s
 by_cases hw:∃w,Has ⟨ro,own⟩ w
 .obtain ⟨i,j⟩:=hw
  let F:aa:=⟨fun _=>none,own⟩
  have m:∀w,Has ⟨ro,own⟩ w->Has F w:=fun w hw=>⟨fun a v h=>(by cases h),hw.own,hw.nodup,fun a v h=>(by cases h)⟩
  have n:∀w,Has ⟨ro,own⟩ w->Has ⟨ro,[]⟩ w:=fun w hw=>⟨hw.ro,fun b o hb=>(by cases hb),List.nodup_nil,fun a v e hm=>(by cases hm)⟩
  have p:Fits F ⟨ro,[]⟩:=⟨⟨i,n i j,m i j⟩,fun b hb=>(by cases hb),fun a d hm=>(by cases hm)⟩
  have t:mY F ⟨ro,[]⟩:=fun a d hm=>by
   obtain ⟨v,u⟩:=Option.isSome_iff_exists.1 d
   exact j.apart a v u hm
  have y:w6 J F (G (Frame.enter P f args .normal) (c::cs)) ⟨ro,[]⟩:=by
   refine h main _ (Bn hJ F) c cs fun v G k l A=>?_
   obtain ⟨aN,B,hle,k⟩:=k
   have q:∀a,(aN a).isSome=true->a.block∉keys own:=fun a d=>(hle.ro a d).elim (A a) (l.own _)
   refine hJ.mono (F:=⟨aN,own⟩) ⟨fun w hw=>?_,fun b hb=>?_,fun a d=>?_⟩ (s v ⟨aN,own⟩ (r v aN B (fun b hb off sp=>?_) k))
   .have C:=hle.has w (l.right hw)
    have g:=l.left hw
    exact ⟨C.ro,g.own,g.nodup,fun a v e=>q a (by simp only at e;simp[e])⟩
   .simp only[aa.star,cr,List.mem_append];exact .inr hb
   .rcases hle.ro a d with x|x
    .exact (gX (.inr x)).imp id (fun z=>by simp only[aa.star,cr,List.mem_append];exact .inr z)
    .exact .inr (by simp only[aa.star,cr,List.mem_append];exact .inl x)
   .cases e:aN ⟨b,off,sp⟩ with
    |none=>rfl
    |some v=>exact absurd hb (q ⟨b,off,sp⟩ (by simp[e]))
  refine hJ.mono ⟨fun w hw=>p.both (n w hw) (m w hw),fun b hb=>?_,fun a d=>?_⟩ (y p t)
  .simpa [aa.star,F] using hb
  .rcases kR d with x|x
   .cases x
   .exact .inl x
 .exact hJ.step fun w g=>absurd ⟨w,g⟩ hw
end
attribute [go_sem] beq_self_eq_true beq_iff_eq beq_true beq_false Int.toNat_natCast Int.natCast_nonneg Int.ofNat_lt Nat.zero_mul Nat.mul_one List.length_map Bool.not_eq_true Bool.not_not decide_not
inductive Fl (σ ρ:Type) where
 |nx (s:σ)
 |bk (s:σ)
 |br (k:Nat) (s:σ)
 |rt (r:ρ)
def af {α β:Type}(x:Option α)(f:α->Option β):Option β:=match x with
 |some a=>f a
 |none=>none
theorem gf {α β:Type}{x:Option α}{f:α->Option β}{r:β}(h:af x f=some r):∃a,x=some a/\f a=some r:=by
 cases x with
 |none=>cases h
 |some a=>exact ⟨a,rfl,h⟩
theorem jB {α:Type}{b:Bool}{x y:Option α}{r:α}(h:cond b x y=some r):(b=true/\x=some r)\/(b=false/\y=some r):=by
 cases b
 .exact .inr ⟨rfl,h⟩
 .exact .inl ⟨rfl,h⟩
def aC {σ ρ τ:Type}(o:Fl σ ρ)(f:σ->Option τ)(g:Nat->σ->Option τ)(h:ρ->Option τ):Option τ:=match o with
 | .nx s=>f s
 | .bk s=>f s
 | .br k s=>g k s
 | .rt r=>h r
def aU {σ ρ:Type}(f:σ->Option (Fl σ ρ)):Nat->σ->Option (Fl σ ρ)
 |0,_=>none
 |n+1,s=>af (f s) fun o=>match o with
  | .nx s'=>aU f n s'
  | .bk s'=>some (.nx s')
  | .br k s'=>some (.br k s')
  | .rt r=>some (.rt r)
def bE {α σ ρ:Type}(f:Nat->α->σ->Option (Fl σ ρ)):Nat->List α->σ->Option (Fl σ ρ)
 |_,[],s=>some (.nx s)
 |i,x::l,s=>af (f i x s) fun o=>match o with
  | .nx s'=>bE f (i+1) l s'
  | .bk s'=>some (.nx s')
  | .br k s'=>some (.br k s')
  | .rt r=>some (.rt r)
def fu:Nat:=1000000000000000000
def bh {α:Type}(l:List α)(i:Int):Option α:=if 0<=i then l[i.toNat]? else none
theorem c5 {α:Type}{l:List α}{i:Int}{x:α}(h:bh l i=some x):0<=i/\i<l.length/\l[i.toNat]?=some x:=by
 unfold bh at h;split at h
 .rename_i h0;obtain ⟨hi,_⟩:=List.getElem?_eq_some_iff.1 h;exact ⟨h0,by omega,h⟩
 .cases h
def cG {α:Type}(l xs:List α):Option (List α):=if l.length+xs.length<=1000000 then some (l++xs) else none
theorem dr {α:Type}{l xs r:List α}(h:cG l xs=some r):l.length+xs.length<=1000000/\r=l++xs:=by
 unfold cG at h;split at h
 .rename_i h0;cases h;exact ⟨h0,rfl⟩
 .cases h
def e8 {α:Type}(l:List α)(lo hi:Int):Option (List α):=if 0<=lo/\lo<=hi/\hi<=l.length then some ((l.take hi.toNat).drop lo.toNat) else none
theorem qF {α:Type}{l r:List α}{lo hi:Int}(h:e8 l lo hi=some r):0<=lo/\lo<=hi/\hi<=l.length/\r=(l.take hi.toNat).drop lo.toNat:=by
 unfold e8 at h;split at h
 .rename_i h0;cases h;exact ⟨h0.1,h0.2.1,h0.2.2,rfl⟩
 .cases h
def fX (a b:Int):Option Int:=if b=0 then none else some (IntKind.i64.wrap (a.tdiv b))
theorem kW {a b r:Int}(h:fX a b=some r):¬b=0/\IntKind.i64.wrap (a.tdiv b)=r:=by
 unfold fX at h;split at h
 .cases h
 .rename_i h0;cases h;exact ⟨h0,rfl⟩
def gI (a b:Int):Option Int:=if b=0 then none else some (a.tmod b)
theorem mZ {a b r:Int}(h:gI a b=some r):¬b=0/\a.tmod b=r:=by
 unfold gI at h;split at h
 .cases h
 .rename_i h0;cases h;exact ⟨h0,rfl⟩
def s8 (a b:Int):Option Int:=if b<0 then none else some (IntKind.i64.wrap (a*2 ^ min b.toNat 64))
theorem Gi {a b r:Int}(h:s8 a b=some r):¬b<0/\IntKind.i64.wrap (a*2 ^ min b.toNat 64)=r:=by
 unfold s8 at h;split at h
 .cases h
 .rename_i h0;cases h;exact ⟨h0,rfl⟩
def w8 (a b:Int):Option Int:=if b<0 then none else some (a.fdiv (2 ^ min b.toNat 64))
theorem Gj {a b r:Int}(h:w8 a b=some r):¬b<0/\a.fdiv (2 ^ min b.toNat 64)=r:=by
 unfold w8 at h;split at h
 .cases h
 .rename_i h0;cases h;exact ⟨h0,rfl⟩
def Bo (a b:Int):Int:=IntKind.i64.wrap (BitVec.ofInt 64 a&&& BitVec.ofInt 64 b).toNat
theorem Gk (a b:Int):IntKind.i64.wrap (BitVec.ofInt IntKind.i64.bits a&&& BitVec.ofInt IntKind.i64.bits b).toNat=Bo a b:=rfl
attribute [go_sem ↓] Gk
def Gl (a b:Int):Int:=IntKind.u8.wrap (BitVec.ofInt 8 a&&& BitVec.ofInt 8 b).toNat
theorem Gm (a b:Int):IntKind.u8.wrap (BitVec.ofInt IntKind.u8.bits a&&& BitVec.ofInt IntKind.u8.bits b).toNat=Gl a b:=rfl
attribute [go_sem ↓] Gm
def qG (a b:Int):Option Int:=if b<0 then none else some (IntKind.u64.wrap (a*2 ^ min b.toNat IntKind.u64.bits))
theorem w9 {a b r:Int}(h:qG a b=some r):¬b<0/\IntKind.u64.wrap (a*2 ^ min b.toNat IntKind.u64.bits)=r:=by
 unfold qG at h;split at h
 .cases h
 .rename_i h0;cases h;exact ⟨h0,rfl⟩
def xb (a b:Int):Option Int:=if b<0 then none else some (a.fdiv (2 ^ min b.toNat IntKind.u64.bits))
theorem Gn {a b r:Int}(h:xb a b=some r):¬b<0/\a.fdiv (2 ^ min b.toNat IntKind.u64.bits)=r:=by
 unfold xb at h;split at h
 .cases h
 .rename_i h0;cases h;exact ⟨h0,rfl⟩
def iR (a b:Int):Int:=IntKind.u64.wrap (BitVec.ofInt 64 a&&& BitVec.ofInt 64 b).toNat
theorem Gq (a b:Int):IntKind.u64.wrap (BitVec.ofInt IntKind.u64.bits a&&& BitVec.ofInt IntKind.u64.bits b).toNat=iR a b:=rfl
def ir (a b:Int):Int:=IntKind.u64.wrap (BitVec.ofInt 64 a ^^^ BitVec.ofInt 64 b).toNat
theorem Gs (a b:Int):IntKind.u64.wrap (BitVec.ofInt IntKind.u64.bits a ^^^ BitVec.ofInt IntKind.u64.bits b).toNat=ir a b:=rfl
attribute [go_sem ↓] Gq Gs
theorem cv {n:Nat}(h:n<1000000000000000):IntKind.i64.wrap ((n:Int)+1)=((n+1:Nat):Int):=by
 simp only[IntKind.wrap,IntKind.bits,IntKind.signed];simp;omega
theorem dw {α:Type}{l:List α}{i:Nat}{x:α}(h:l[i]?=some x):l.drop i=x::l.drop (i+1):=by
 obtain ⟨hi,rfl⟩:=List.getElem?_eq_some_iff.1 h;exact List.drop_eq_getElem_cons hi
theorem cast_zero:((0:Nat):Int)=0:=rfl
attribute [go_sem] cast_zero
theorem Gt (l:List Value)(i j:Nat):(l.toArray).extract i j=((l.drop i).take (j - i)).toArray:=by
 apply Array.ext';simp[List.extract_eq_drop_take]
attribute [go_sem] Gt
structure b8 (T:Type) where
 n:Nat
 rel:(Addr->Option Value)->T->List Value->Prop
 mono:∀{ro aN:Addr->Option Value} {x:T} {cs:List Value},Ext ro aN->rel ro x cs->rel aN x cs
 len:∀{ro:Addr->Option Value} {x:T} {cs:List Value},rel ro x cs->cs.length=n
 one:∀{ro:Addr->Option Value} {x:T} {cs:List Value},rel ro x cs->∀v∈cs,bJ v=true
def iS {T:Type}(n:Nat)(c:T->List Value)(h:∀x,(c x).length=n)(h1:∀x,∀v∈c x,bJ v=true):b8 T:=
 ⟨n,fun _ x cs=>cs=c x,fun _ h=>h,fun e=>by rw[e];exact h _,fun e=>by rw[e];exact h1 _⟩
def rI:b8 Int:=iS 1 (fun n=>[.int .i64 n]) (fun _=>rfl) (fun _ v a=>by simp at a;subst a;rfl)
def rB:b8 Bool:=iS 1 (fun n=>[.bool n]) (fun _=>rfl) (fun _ v a=>by simp at a;subst a;rfl)
def az {T:Type}(r:b8 T)(ro:Addr->Option Value)(s:Value)(l:List T):Prop:=
 ∃ad cap,s= .slice ad l.length cap/\l.length<=cap/\l.length<=1000000000000000/\∀i x,l[i]?=some x->∃p cs,ad=some p/\r.rel ro x cs/\∀j v,cs[j]?=some v->ro ((p.add (i*r.n)).add j)=some v
theorem az.mono {T:Type}{r:b8 T}{ro aN:Addr->Option Value}{s:Value}{l:List T}(h:az r ro s l)(a:Ext ro aN):az r aN s l:=by
 obtain ⟨ad,cap,h1,h2,b,h3⟩:=h;refine ⟨ad,cap,h1,h2,b,fun i x hi=>?_⟩;obtain ⟨p,cs,c,d,hm⟩:=h3 i x hi;exact ⟨p,cs,c,r.mono a d,fun j v e=>a _ _ (hm j v e)⟩
theorem az.nil {T:Type}(r:b8 T)(ro:Addr->Option Value):az r ro (.slice none 0 0) []:=⟨none,0,rfl,Nat.le_refl _,by simp,fun i x h=>by simp at h⟩
def rL {T:Type}(r:b8 T):b8 (List T):=
 ⟨1,fun ro l cs=>∃s,cs=[s]/\az r ro s l,fun b ⟨s,h1,h2⟩=>⟨s,h1,h2.mono b⟩,fun ⟨s,h1,_⟩=>by rw[h1];rfl,fun ⟨s,h1,ad,cap,h2,_⟩ v a=>by rw[h1] at a;simp at a;subst a;rw[h2];rfl⟩
theorem az.part {T:Type}{r:b8 T}{ro:Addr->Option Value}{ad:Option Addr}{cap:Nat}{l:List T}(h:az r ro (.slice ad l.length cap) l)(lo hi:Nat)(h1:lo<=hi)(h2:hi<=l.length):
  az r ro (.slice (if cap=lo then ad else ad.map (·.add (lo*r.n))) (hi - lo) (cap - lo)) ((l.take hi).drop lo):=by
 obtain ⟨g,k,e,h3,m,b⟩:=h
 cases e
 have hlen:((l.take hi).drop lo).length=hi - lo:=by simp;omega
 refine ⟨_,cap - lo,by rw[hlen],by rw[hlen];omega,by rw[hlen];omega,fun i x a=>?_⟩
 rw[List.getElem?_drop,List.getElem?_take] at a
 split at a
 case isFalse=>cases a
 obtain ⟨p,cs,c,d,hm⟩:=b _ x a
 have o:lo+i<l.length:=(List.getElem?_eq_some_iff.1 a).1
 refine ⟨p.add (lo*r.n),cs,?_,d,fun j v f=>?_⟩
 .have aG:¬cap=lo:=by omega
  rw[if_neg aG,c];rfl
 .have:=hm j v f
  rw[lS] at this
  rw[lS,lS]
  rw[show lo*r.n+(i*r.n+j)=(lo+i)*r.n+j by rw[Nat.add_mul];omega]
  exact this
def Apart (ks:List Nat)(aW:List (Nat×Obj)):Prop:=∀k∈keys aW,k∉ks
theorem Apart.nil (ks:List Nat):Apart ks []:=fun k h=>(by cases h)
theorem lU:∀{l:List (Nat×Obj)} {b:Nat},av l b->b∉keys l
 |[],_,_=>by simp[keys]
 |(c,o)::l,b,h=>by simp only[keys,List.map_cons,List.mem_cons,not_or];exact ⟨h.1,lU h.2⟩
theorem m0:∀{l:List (Nat×Obj)} {b:Nat},b∉keys l->av l b
 |[],_,_=>trivial
 |(c,o)::l,b,h=>by simp only[keys,List.map_cons,List.mem_cons,not_or] at h;exact ⟨h.1,m0 h.2⟩
theorem Apart.push {ks:List Nat}{aW:List (Nat×Obj)}{b:Nat}(h:Apart ks aW)(hb:av aW b):Apart (b::ks) aW:=fun k a=>by
 simp only[List.mem_cons,not_or]
 exact ⟨fun e=>lU hb (e▸a),h k a⟩
theorem Apart.drop {ks:List Nat}{aW:List (Nat×Obj)}{b:Nat}(h:Apart (b::ks) aW):Apart ks aW:=fun k a=>(by have:=h k a;simp only[List.mem_cons,not_or] at this;exact this.2)
def aQ {T:Type}(r:b8 T)(ro:Addr->Option Value)(e:TypeId)(v:Value)(l:List T)(aW:List (Nat×Obj)):Prop:=
 ∃ls:List (List Value),Gr ro e r.n v ls aW/\ls.length=l.length/\l.length<=1000000/\∀(i:Nat) (x:T),l[i]?=some x->∃cs:List Value,ls[i]?=some cs/\r.rel ro x cs
theorem aQ.nil {T:Type}(r:b8 T)(ro:Addr->Option Value)(e:TypeId):aQ r ro e (.slice none 0 0) [] []:=⟨[],.inl ⟨rfl,rfl,rfl⟩,rfl,by simp,fun i x h=>by simp at h⟩
theorem aQ.len {T:Type}{r:b8 T}{ro:Addr->Option Value}{e:TypeId}{v:Value}{l:List T}{aW:List (Nat×Obj)}(h:aQ r ro e v l aW):∃ad cap,v= .slice ad l.length cap/\l.length<=cap:=by
 obtain ⟨ls,hg,a,-⟩:=h;rcases hg with ⟨rfl,rfl,rfl⟩|⟨b,arr,cap,rfl,rfl,hs,hle,-⟩
 .exact ⟨none,0,by rw[<-a];rfl,by rw[<-a];exact Nat.le_refl _⟩
 .exact ⟨_,cap,by rw[a],by omega⟩
def aD (ro:Addr->Option Value)(own:List (Nat×Obj)):Prop:=∀b∈keys own,∀off sp,ro ⟨b,off,sp⟩=none
theorem aQ.mono {T:Type}{r:b8 T}{ro aN:Addr->Option Value}{e:TypeId}{v:Value}{l:List T}{aW:List (Nat×Obj)}(h:aQ r ro e v l aW)(a:Ext ro aN)(c:aD aN aW):aQ r aN e v l aW:=by
 obtain ⟨ls,hg,d,hm,f⟩:=h;refine ⟨ls,?_,d,hm,fun i x hi=>?_⟩
 .rcases hg with h|⟨b,arr,cap,h1,h2,h3,g,j,k,m⟩
  .exact .inl h
  .exact .inr ⟨b,arr,cap,h1,h2,h3,g,j,k,c b (by rw[h2];simp[keys])⟩
 .obtain ⟨cs,h1,h2⟩:=f i x hi;exact ⟨cs,h1,r.mono a h2⟩
theorem Apart.fresh {pre aW:List (Nat×Obj)}{ks:List Nat}(h:Apart ks aW)(a:keys pre=ks):∀k∈keys aW,av pre k:=fun k b=>m0 (by rw[a];exact h k b)
theorem qH {n:Nat}:∀(ls:List (List Value)) (i:Nat) (cs:List Value),(∀x∈ls,x.length=n)->ls[i]?=some cs->∀j v,cs[j]?=some v->ls.flatten[i*n+j]?=some v
 |[],i,cs,_,h,_,_,_=>by simp at h
 |y::ls,0,cs,b,h,j,v,a=>by
  simp at h;subst h
  have:j<y.length:=(List.getElem?_eq_some_iff.1 a).1
  simp only[Nat.zero_mul,Nat.zero_add,List.flatten_cons]
  rw[List.getElem?_append_left this]
  exact a
 |y::ls,i+1,cs,b,h,j,v,a=>by
  simp at h
  have ih:=qH ls i cs (fun x d=>b x (by simp[d])) h j v a
  have c:=b y (by simp)
  simp only[List.flatten_cons]
  rw[List.getElem?_append_right (by rw[c,Nat.add_mul];omega)]
  rw[show (i+1)*n+j - y.length=i*n+j by rw[c,Nat.add_mul];omega]
  exact ih
theorem aQ.Bp {T:Type}{r:b8 T}{ro:Addr->Option Value}{e:TypeId}{v:Value}{l:List T}{aW:List (Nat×Obj)}{ks:List Nat}(h:aQ r ro e v l aW)(pre:List (Nat×Obj))(m:Apart ks aW)(o:keys pre=ks)(d:aD ro pre):
  ∃aN,Ext ro aN/\aD aN pre/\az r aN v l/\Le ⟨aN,pre⟩ ⟨ro,pre++aW⟩:=by
 obtain ⟨ls,hg,f,hm,p⟩:=h
 rcases hg with ⟨rfl,rfl,rfl⟩|⟨b,arr,cap,rfl,rfl,hs,hle,ht,g,q⟩
 .have:l=[]:=List.eq_nil_of_length_eq_zero (by simpa using f.symm)
  subst this
  exact ⟨ro,Ext.refl ro,d,az.nil r ro,by rw[List.append_nil];exact Le.refl _⟩
 .have hb:b∉keys pre:=by rw[o];exact m b (by simp[keys])
  refine ⟨bU ro b (.cells arr e),gH _ _ _,fun c k off sp=>?_,⟨some ⟨b,0,none⟩,cap,by rw[f],by omega,by omega,fun i x hi=>?_⟩,kV ?_ (List.sublist_append_left _ _) (m0 hb)⟩
  .have aG:¬c=b:=fun e=>hb (e▸k)
   simp[bU,d c k,aG]
  .obtain ⟨cs,h1,h2⟩:=p i x hi
   refine ⟨_,cs,rfl,r.mono (gH _ _ _) h2,fun j v s=>?_⟩
   have a:=qH ls i cs g h1 j v s
   rw[lS,lT,Nat.zero_add,jA q]
   have t:i*r.n+j<ls.length*r.n:=by
    have:=(List.getElem?_eq_some_iff.1 a).1
    rw[iQ g] at this
    exact this
   rw[<-ht,List.getElem?_take_of_lt t] at a
   simpa [cellOf] using a
  .have:∀(pre:List (Nat×Obj)),b∉keys pre->lk (pre++[(b,Obj.cells arr e)]) b=some (.cells arr e):=fun pre h=>wT (m0 h)
   exact this pre hb
theorem aQ.elem {T:Type}{r:b8 T}{ro:Addr->Option Value}{e:TypeId}{v:Value}{l:List T}{aW:List (Nat×Obj)}(h:aQ r ro e v l aW){i:Nat}{x:T}(hi:l[i]?=some x):
  ∃b arr cap cs,v= .slice (some ⟨b,0,none⟩) l.length cap/\aW=[(b,.cells arr e)]/\(∀off sp,ro ⟨b,off,sp⟩=none)/\r.rel ro x cs/\∀j v,cs[j]?=some v->arr[i*r.n+j]?=some v:=by
 obtain ⟨ls,hg,d,hm,f⟩:=h
 obtain ⟨cs,h1,h2⟩:=f i x hi
 rcases hg with ⟨rfl,rfl,rfl⟩|⟨b,arr,cap,rfl,rfl,hs,hle,ht,c,g⟩
 .simp at h1
 .refine ⟨b,arr,cap,cs,by rw[d],rfl,g,h2,fun j v k=>?_⟩
  have a:=qH ls i cs c h1 j v k
  have m:i*r.n+j<ls.length*r.n:=by
   have:=(List.getElem?_eq_some_iff.1 a).1
   rw[iQ c] at this
   exact this
  rw[<-ht,List.getElem?_take_of_lt m] at a
  simpa using a
theorem aL {ro:Addr->Option Value}{own:List (Nat×Obj)}:Ext ro (aa.cx ⟨ro,own⟩).ro:=fun a v h=>by simp[aa.cx,aa.get,h]
theorem cp {ro:Addr->Option Value}{own:List (Nat×Obj)}{F:aa}(h:Knows ⟨ro,own⟩ F):Ext ro F.cx.ro:=fun a v b=>by
 have:F.ro a=some v:=h.1 a v b
 simp[aa.cx,aa.get,this]
theorem az.qI {T:Type}{r:b8 T}{ro:Addr->Option Value}{ad:Option Addr}{cap:Nat}{l x:List T}(h:az r ro (.slice ad l.length cap) l)(lo hi:Nat)(h1:lo<=hi)(h2:hi<=l.length)(b:x=(l.take hi).drop lo):
  ∃a,(if cap=lo then ad else ad.map (·.add (lo*r.n)))=a/\hi - lo=x.length/\az r ro (.slice a x.length (cap - lo)) x:=by
 subst b
 have hlen:((l.take hi).drop lo).length=hi - lo:=by simp;omega
 refine ⟨_,rfl,hlen.symm,?_⟩
 rw[hlen]
 exact h.part lo hi h1 h2
theorem az.one {T:Type}{r:b8 T}{ro:Addr->Option Value}{own:List (Nat×Obj)}{b:Nat}{x:T}{cs:Array Value}{e:TypeId}(a:∀off sp,ro ⟨b,off,sp⟩=none)(d:lk own b=some (.cells cs e))(h:r.rel ro x cs.toList):
  az r (bU ro b (.cells cs e)) (.slice (some ⟨b,0,none⟩) 1 1) [x]:=by
 refine ⟨some ⟨b,0,none⟩,1,rfl,Nat.le_refl _,by simp,fun i y hi=>?_⟩
 have:i=0/\y=x:=by
  cases i with
  |zero=>simp at hi;exact ⟨rfl,hi.symm⟩
  |succ i=>simp at hi
 obtain ⟨rfl,rfl⟩:=this
 refine ⟨_,_,rfl,r.mono (gH _ _ _) h,fun j v c=>?_⟩
 rw[Nat.zero_mul,add_zero',lT,Nat.zero_add,jA a]
 simpa [cellOf] using c
theorem az.flat {T:Type}{r:b8 T}{ro:Addr->Option Value}{b:Nat}{cs:Array Value}{e:TypeId}(c:T->List Value)(l:List T)(a:∀x,r.rel ro x (c x))(d:∀off sp,ro ⟨b,off,sp⟩=none)(f:cs.toList=(l.map c).flatten)(hlen:l.length<=1000000000000000):
  az r (bU ro b (.cells cs e)) (.slice (some ⟨b,0,none⟩) l.length l.length) l:=by
 refine ⟨some ⟨b,0,none⟩,l.length,rfl,Nat.le_refl _,hlen,fun i x hi=>⟨_,c x,rfl,r.mono (gH _ _ _) (a x),fun j v g=>?_⟩⟩
 have h1:(l.map c)[i]?=some (c x):=by rw[List.getElem?_map,hi];rfl
 have h:∀y∈l.map c,y.length=r.n:=fun y k=>by
  obtain ⟨z,_,rfl⟩:=List.mem_map.1 k
  exact r.len (a z)
 have:=qH (l.map c) i (c x) h h1 j v g
 rw[lT,lT,Nat.zero_add,jA d]
 rw[<-f] at this
 simpa [cellOf] using this
theorem kX {ro:Addr->Option Value}{own:List (Nat×Obj)}{b:Nat}{o:Obj}(e:lk own b=some o):Ext (bU ro b o) (aa.cx ⟨ro,own⟩).ro:=fun a v h=>by
 unfold bU at h
 simp only[aa.cx,aa.get]
 split at h
 .rename_i x c;rw[c];exact h
 .rename_i c
  split at h
  .rename_i d
   rw[c]
   simp only
   rw[if_pos d.2,d.1,e]
   exact h
  .cases h
section
variable {P:Program}{main:Bool}{J:Goroutine->aa->Prop}
theorem iu (hJ:Closed P main J){f:FuncId}{args:Array Value}{F F':aa}{K:Value->aa->Prop}(hle:Le F F')(h:cY P J f args F K):cY P J f args F' K:=fun c cs k=>hJ.mono hle (h c cs k)
end
theorem aQ.bd {T:Type}{r:b8 T}{ro:Addr->Option Value}{e:TypeId}{v:Value}{l:List T}{aW:List (Nat×Obj)}(h:aQ r ro e v l aW):l.length<=1000000:=by
 obtain ⟨ls,_,_,hm,_⟩:=h;exact hm
theorem aF.Bp {P:Program}{f:FuncId}{args:Array Value}{ro:Addr->Option Value}{R:Value->Prop}(h:aF P f args ⟨ro,[]⟩ (fun v _=>R v)):aF P f args ⟨ro,[]⟩ (fun v G=>R v/\G=⟨ro,[]⟩):=by
 intro main J hJ c cs b
 exact wC (F:=⟨ro,[]⟩) (R:=R) (by
  have e:aa.cx ⟨ro,[]⟩=⟨ro,[]⟩:=by
   simp only[aa.cx,aa.mk.injEq,and_true];funext a;simp only[aa.get];cases ro a with
   |none=>simp[lk]
   |some v=>rfl
  rw[e];exact h) main J hJ c cs b
end Go.Sep
end
section
namespace Go.Sep
open Go Go.Conc Go.ConcM
open Go.ConcN (sumTo upd sumTo_upd upd_ne upd_same)
def dH (P:Program)(Φ:Goroutine->aa->Prop)(g:Goroutine)(F:aa):Prop:=
 ∀(bD:Loc->Prop) (gs:Array Goroutine) (w:World) (sl:Option (Nat×Nat)) (t:Trace) (q:Nat->Nat),j5 P bD g F gs w t q->
  ∃(N:Nat) (bW:Array Goroutine) (w':World) (c:Option (Nat×Nat)) (a:Trace) (d:Nat->Nat) (g':Goroutine) (F':aa) (b:Loc->Prop),
   runNT P N (crowd gs w sl) t=(.next (crowd bW w' c),a)/\j5 P b g' F' bW w' a d/\fB F F' w w'/\(∀l,b l->bD l\/¬l.low w.heap.size)/\Φ g' F'
theorem dH.done {P:Program}{Φ:Goroutine->aa->Prop}{g:Goroutine}{F:aa}(h:Φ g F):dH P Φ g F:=
 fun bD gs w sl t q a=>⟨0,gs,w,sl,t,q,g,F,bD,rfl,a,.refl _ _,fun _ h=>.inl h,h⟩
theorem qJ (P:Program)(Φ:Goroutine->aa->Prop):Closed P true (dH P Φ) where
 mono hle h bD gs w sl t q b:=by
  obtain ⟨N,bW,w',v,z,A,g',F',B,g,C,hu,D,E⟩:=h bD gs w sl t q ⟨b.g0,b.lv,b.fV,hle.has w b.has,fun l hs H=>b.apart l hs (hle.gW H),b.low⟩
  exact ⟨N,bW,w',v,z,A,g',F',B,g,C,hu.le hle,D,E⟩
 step {fr cs F} h bD gs w sl t q b:=by
  obtain ⟨N,k,d,m,a2,n,t1,I,g,a3,h0,p,J,K⟩:=sL (P:=P) (a:=G fr cs) rfl _ gs w sl t q (Nat.le_refl _) b.g0 b.lv b.fV
  obtain ⟨g',w',es,F',hgo,hu,L,M,hJ⟩:=h (w.at m) (b.has.at m)
  have c:ef F F' w w':=⟨hu.os,hu.tape,hu.output,hu.size,hu.frame,hu.ro,hu.own⟩
  have O:=runT_crowd_go (P:=P) (sl:=n) (i:=0) h0 (show stepG P (0==0) (G fr cs) (w.at m)=_ from hgo)
  have Q:0<k.size:=(Array.getElem?_eq_some_iff.1 h0).1
  have r:=j5.next (P:=P) b.apart b.low c
  obtain ⟨R,S,w2,T,t2,U,V,W,X,Y,Z,ab,ad,ae⟩:=hJ bD ((k.map (woken P (G fr cs) g' w')).setIfInBounds 0 g') w' n (t1++MemOp.ofEvents 0 (G fr cs).frame.fn (G fr cs).frame.place es) I
   {g0:=by simp[Q]
    lv:=⟨fun j x f s=>by
     have aG:0≠j:=by omega
     rw[Array.getElem?_setIfInBounds_ne aG,Array.getElem?_map] at s
     obtain ⟨y,al,rfl⟩:=Option.map_eq_some_iff.1 s
     have u:=p.old j y f al
     rw[woken_quitsD u,Deaf_other t1 (by omega) _ (fun op o=>by obtain ⟨e,_,rfl⟩:=Go.Conc.mem_ofEvents o;rfl)]
     exact u,fun j f=>by
     rw[Deaf_other t1 (g':=0) (by simp at f;omega) _ (fun op o=>by obtain ⟨e,_,rfl⟩:=Go.Conc.mem_ofEvents o;rfl)]
     exact p.above j (by simpa using f)⟩
    fV:=(J.mono c.size).own fun e he=>AQ b.has c.size b.apart b.low (M e he)
    has:=L
    apart:=r.1
    low:=r.2}
  refine ⟨N+1+R,S,w2,T,t2,U,V,W,X,?_,Z,(fB.qq c).trans ab,fun l ao=>(ad l ao).imp id fun ar a0=>ar (Loc.low_mono c.size a0),ae⟩
  have:runNT P (N+1) (crowd gs w sl) t=(.next (crowd ((k.map (woken P (G fr cs) g' w')).setIfInBounds 0 g') w' n),t1++MemOp.ofEvents 0 (G fr cs).frame.fn (G fr cs).frame.place es):=by
   rw[runNT_add,g]
   simp only[runNT,K,O]
  rw[j6 this]
  exact Y
def fY (P:Program)(f:FuncId)(args:Array Value)(F:aa)(R:Value->aa->Prop):Prop:=∀Φ,cY P (dH P Φ) f args F R
theorem Bq {P:Program}{f:FuncId}{args:Array Value}{ro:Addr->Option Value}{own:List (Nat×Obj)}{R:Value->aa->Prop}(h:fY P f args ⟨ro,[]⟩ R):
  fY P f args ⟨ro,own⟩ (fun v F'=>∃G,R v G/\F'=G.star ⟨ro,own⟩/\Fits ⟨ro,own⟩ G/\mY ⟨ro,own⟩ G):=by
 intro Φ c cs F bD gs w sl t q d
 let Fr:aa:=⟨ro,own⟩
 have H:j5 P bD (G (Frame.enter P f args .normal) (c::cs)) ⟨ro,[]⟩ gs w t q:=
  ⟨d.g0,d.lv,d.fV,⟨d.has.ro,fun b o hb=>(by cases hb),List.nodup_nil,fun a v j hm=>(by cases hm)⟩,fun l hs i=>d.apart l hs (by
   cases l with
   |cell a=>exact i.elim (fun x=>by cases x) .inr
   |obj r=>cases i
   |_=>exact i),d.low⟩
 obtain ⟨N,bW,w',I,s,u,g',F',A,j,g,hu,n,v,rfl,p⟩:=h (fun g' F'=>∃v,g'=G (c.finish v) cs/\R v F') c cs (fun v F' p=>dH.done ⟨v,rfl,p⟩) bD gs w sl t q H
 have B:Has Fr w':=⟨fun a v j=>by
  have h0:=d.has.ro a v j
  have J:=d.has.ig (a:=a) (by rw[j];rfl)
  unfold World.cell? at h0 ⊢
  rw[hu.frame _ J (fun hm=>by cases hm)]
  exact h0,fun b o hb=>by
  rw[hu.frame b (d.has.lt (e6 hb)) (fun hm=>by cases hm)]
  exact d.has.own b o hb,d.has.nodup,d.has.apart⟩
 have C:Fits Fr F':=⟨⟨w',g.has,B⟩,fun b hb hm=>by
  rcases hu.own b hb with x|x
  .cases x
  .have:=d.has.lt (b:=b) hm;omega,fun a k hm=>by
  rcases hu.own _ hm with x|x
  .cases x
  .have:=d.has.ig (a:=a) k;omega⟩
 have K:mY Fr F':=fun a k hm=>by
  rcases hu.ro a k with x|x|x
  .obtain ⟨y,L⟩:=Option.isSome_iff_exists.1 x
   exact d.has.apart a y L hm
  .cases x
  .have:=d.has.lt (b:=a.block) hm;omega
 have M:j5 P A (G (c.finish v) cs) (F'.star Fr) bW w' s u:=by
  refine ⟨g.g0,g.lv,g.fV,C.both g.has B,fun l hs i=>?_,g.low⟩
  have D:∀b,b∈keys own->(l= .obj b\/∃a,l= .cell a/\a.block=b)->False:=fun b hb m=>by
   rcases n l hs with x|x
   .refine d.apart l x ?_
    rcases m with rfl|⟨a,rfl,e⟩
    .exact hb
    .exact .inl (e▸hb)
   .refine x ?_
    have:=d.has.lt (b:=b) hb
    rcases m with rfl|⟨a,rfl,e⟩
    .exact this
    .show a.block<_;rw[e];exact this
  cases l with
  |cell a=>
   rcases i with x|x
   .simp only[aa.star,cr,List.mem_append] at x
    rcases x with x|x
    .exact g.apart _ hs (.inl x)
    .exact D _ x (.inr ⟨a,rfl,rfl⟩)
   .rcases kR x with y|y
    .rcases n _ hs with z|z
     .exact d.apart _ z (.inr y)
     .exact z (d.has.ig (a:=a) y)
    .exact g.apart _ hs (.inr y)
  |obj r=>
   simp only[aa.gW,aa.star,cr,List.mem_append] at i
   rcases i with x|x
   .exact g.apart _ hs x
   .exact D _ x (.inl rfl)
  |_=>exact i
 obtain ⟨O,Q,w2,S,t2,T,U,V,W,X,Y,Z,ab,ad⟩:=F v (F'.star Fr) ⟨F',p,rfl,C,K⟩ A bW w' I s u M
 have ae:fB ⟨ro,own⟩ (F'.star Fr) w w':=⟨hu.os,hu.tape,hu.output,hu.size,fun b hb E=>hu.frame b hb (fun x=>by cases x),fun a k=>by
  rcases kR k with y|y
  .exact .inl y
  .rcases hu.ro a y with z|z|z
   .exact .inl z
   .cases z
   .exact .inr (.inr z),fun b hb=>by
  simp only[aa.star,cr,List.mem_append] at hb
  rcases hb with x|x
  .rcases hu.own b x with y|y
   .cases y
   .exact .inr y
  .exact .inl x⟩
 exact ⟨N+O,Q,w2,S,t2,T,U,V,W,by rw[j6 j];exact X,Y,ae.trans Z,fun l m=>(ab l m).elim (n l) fun E=>.inr fun al=>E (Loc.low_mono hu.size al),ad⟩
theorem fY.go {P:Program}{f:FuncId}{fn:Func}{c:Code}{n:Nat}{rs:List ResultVar}{args:Array Value}{F:aa}{R:Value->aa->Prop}(j:P.funcs[f]?=some fn)(hb:fn.body=some c)(d:fn.ntmps=n)(k:fn.results=rs.toArray)(m:args.size<=n)
  (h:∀Φ,Closed P true (dH P Φ)->∀A:Act,sz A=n->A.defers=[]->(∀i,slot A i=args.getD i undef)->Wp (dH P Φ) c (g5 P rs R) A F):fY P f args F R:=fun Φ=>by
 refine cY.of_wp (qJ P Φ) j hb ?_
 refine (h Φ (qJ P Φ) _ (by simp[sz,d];omega) rfl fun i=>?_).mono fun e a F g=>?_
 .simp only[slot,d,Array.getD_eq_getD_getElem?]
  rcases Nat.lt_or_ge i args.size with hi|hi
  .rw[Array.getElem?_append_left hi]
  .rw[Array.getElem?_append_right hi,Array.getElem?_replicate,Array.getElem?_eq_none hi]
   split<;>rfl
 .cases e with
  |exit i=>exact g
  |_=>
   obtain ⟨hd,b⟩:=g
   split at b
   .rename_i v l
    show iP P a.defers _ F
    rw[hd]
    exact s3 k l b
   .exact b.elim
def qK (P:Program)(f:FuncId)(args:Array Value)(ro:Addr->Option Value)(R:Value->(Addr->Option Value)->Prop):Prop:=
 fY P f args ⟨ro,[]⟩ (fun v G=>∃aN,Ext ro aN/\Le ⟨aN,[]⟩ G/\R v aN)
theorem Gu {P:Program}{Φ:Goroutine->aa->Prop}{f:FuncId}{args:Array Value}{ro:Addr->Option Value}{own:List (Nat×Obj)}{K:Value->aa->Prop}(R:Value->(Addr->Option Value)->Prop)
  (h:qK P f args ro R) (k:∀v aN,Ext ro aN->(∀b∈keys own,∀off sp,aN ⟨b,off,sp⟩=none)->R v aN->K v ⟨aN,own⟩):cY P (dH P Φ) f args ⟨ro,own⟩ K:=by
 intro c cs l
 refine Bq (own:=own) h Φ c cs fun v F' m=>?_
 obtain ⟨G,⟨aN,n,hle,o⟩,rfl,e,p⟩:=m
 have i:∀a,(aN a).isSome=true->a.block∉keys own:=fun a g=>(hle.ro a g).elim (p a) (e.own _)
 refine (qJ P Φ).mono (F:=⟨aN,own⟩) ⟨fun w hw=>?_,fun b hb=>?_,fun a g=>?_⟩ (l v ⟨aN,own⟩ (k v aN n (fun b hb off sp=>?_) o))
 .have q:=hle.has w (e.right hw)
  have j:=e.left hw
  exact ⟨q.ro,j.own,j.nodup,fun a v d=>i a (by simp only at d;simp[d])⟩
 .simp only[aa.star,cr,List.mem_append];exact .inr hb
 .rcases hle.ro a g with x|x
  .exact (gX (.inr x)).imp id (fun z=>by simp only[aa.star,cr,List.mem_append];exact .inr z)
  .exact .inr (by simp only[aa.star,cr,List.mem_append];exact .inl x)
 .cases d:aN ⟨b,off,sp⟩ with
  |none=>rfl
  |some v=>exact absurd hb (i ⟨b,off,sp⟩ (by simp[d]))
theorem Br {P:Program}{Φ:Goroutine->aa->Prop}{f:FuncId}{args:Array Value}{ro:Addr->Option Value}{own:List (Nat×Obj)}{K:Value->aa->Prop}(v:Value)
  (h:fY P f args ⟨ro,[]⟩ (fun d _=>d=v)) (e:K v ⟨ro,own⟩):cY P (dH P Φ) f args ⟨ro,own⟩ K:=by
 intro c cs g
 refine Bq (own:=own) h Φ c cs fun d F' i=>?_
 obtain ⟨G,rfl,rfl,j,l⟩:=i
 refine (qJ P Φ).mono (F:=⟨ro,own⟩) ⟨fun w hw=>j.left hw,fun b hb=>?_,fun a k=>?_⟩ (g d ⟨ro,own⟩ e)
 .simp only[aa.star,cr,List.mem_append];exact .inr hb
 .exact (gX (.inl k)).imp id (fun z=>by simp only[aa.star,cr,List.mem_append];exact .inr z)
end Go.Sep
end
section
namespace Go.Sep
open Go Go.Conc Go.ConcM
def Bs (P:Program)(R:Value->aa->Prop)(g:Goroutine)(F:aa):Prop:=
 ∃(fr:Frame) (fn:Func) (t:Nat) (v:Value),g=G fr []/\fr.kind= .normal/\P.inits.idxOf? fr.fn=none/\fr.mode= .returning/\fr.defers=[]/\P.funcs[fr.fn]?=some fn/\fn.results=#[.tmp t]/\fr.tmps.getD t undef=v/\R v F
def m3 (P:Program)(f:FuncId)(args:Array Value)(F:aa)(R:Value->aa->Prop):Prop:=
 ∀Φ:Goroutine->aa->Prop,(∀g F',Bs P R g F'->Φ g F')->dH P Φ (G (Frame.enter P f args .normal) []) F
theorem m3.go {P:Program}{f:FuncId}{fn:Func}{c:Code}{n t:Nat}{args:Array Value}{F:aa}{R:Value->aa->Prop}(g:P.funcs[f]?=some fn)(hb:fn.body=some c)(j:fn.ntmps=n)(m:fn.results=[.tmp t].toArray)(s:args.size<=n)(hi:P.inits.idxOf? f=none)
  (h:∀Φ,Closed P true (dH P Φ)->∀A:Act,sz A=n->A.defers=[]->(∀i,slot A i=args.getD i undef)->Wp (dH P Φ) c (g5 P [.tmp t] R) A F):m3 P f args F R:=by
 intro Φ o
 have hJ:=qJ P Φ
 let b:Frame:={(default:Frame) with fn:=f,kind:=.normal}
 have p:Frame.enter P f args .normal=on b {tmps:=args++Array.replicate (fn.ntmps - args.size) undef,defers:=[]} [.code c]:=by
  simp[Frame.enter,on,g,hb,b]
  rfl
 rw[p]
 have k:∀(a:Act) (F':aa) (fr:Frame),fr.kind= .normal->fr.mode= .returning->fr.defers=a.defers->fr.fn=f->fr.tmps=a.tmps->g5 P [.tmp t] R .normal a F'->dH P Φ (G fr []) F':=by
  intro a F' fr h0 h1 h2 h3 q d
  obtain ⟨hd,r⟩:=d
  refine dH.done (o _ _ ⟨fr,fn,t,_,rfl,h0,by rw[h3];exact hi,h1,by rw[h2,hd],by rw[h3];exact g,m,rfl,?_⟩)
  rw[q]
  simpa [mV,mU,qB,slot] using r
 refine h Φ hJ _ (by simp[sz,j];omega) rfl (fun i=>?_) b [] [] ⟨by simp[b],.inl rfl⟩ fun e l F' d=>?_
 .simp only[slot,j,Array.getD_eq_getD_getElem?]
  rcases Nat.lt_or_ge i args.size with hi|hi
  .rw[Array.getElem?_append_left hi]
  .rw[Array.getElem?_append_right hi,Array.getElem?_replicate,Array.getElem?_eq_none hi]
   split<;>rfl
 .cases e with
  |normal=>exact hJ.move (fun _=>mL rfl) (k l F' _ rfl rfl rfl rfl rfl d)
  |exit i=>exact d.elim
  |ret=>exact fun u=>hJ.move (fun _=>stepG_ret' rfl) (k l F' _ rfl rfl rfl rfl rfl d)
theorem m3.ends {P:Program}{f:FuncId}{args:Array Value}{F:aa}{R:Value->aa->Prop}(h:m3 P f args F R){W:World}(i:Has F W){a:Value->World->Prop}
  (j:∀v F' w',R v F'->fB F F' W w'->a v w'):
  ∃M last o w' b,runNT P (M+1) (solo (G (Frame.enter P f args .normal) []) W) #[]=(.ended o w',b)/\runN P M (solo (G (Frame.enter P f args .normal) []) W)= .next last/\step P last= .ended o w'/\Go.Conc.Good P a last o w' b:=by
 obtain ⟨N,bW,w',k,b,y,g',F',l,g,c,hu,_,fr,fn,t,v,rfl,m,hi,h1,h2,h3,n,p,q⟩:=h (Bs P R) (fun _ _ x=>x) (fun _=>False) #[G (Frame.enter P f args .normal) []] W none #[] (fun _=>0)
  ⟨rfl,leavers_one P _,past_nil.mono (Nat.zero_le _),i,fun _ x=>x.elim,fun _ x=>x.elim⟩
 have hg:Goes P true AtRel (fun _ _ _=>False) (AtEnd P l w'.heap.size a) 0 (G fr []) w':=by
  refine Goes.stop fun z ⟨d,hd⟩=>?_
  subst hd
  refine ⟨rfl,v,seen P fr.fn #[],?_,fun e he=>?_,j v F' _ q ⟨hu.os,hu.tape,hu.output,hu.size,hu.frame,hu.ro,hu.own⟩⟩
  .have r:fr.tmps[t]?.getD undef=v:=by rw[<-p,Array.getD_eq_getD_getElem?]
   simp[G,stepG,unwind,h1,h2,h3,results,n,r,doReturn,GStep.after,Sem.runT,m,hi]
  .exact absurd (mem_seen he) (by simp)
 obtain ⟨s,last,o,w2,t2,e1,e2,u,w⟩:=beside_ends (sl:=k) (fun _ _ _ x=>x.elim) c.g0 c.lv c.fV hg
 refine ⟨N+s,last,o,w2,t2,?_,?_,u,w⟩
 .rw[solo_eq_crowd,Nat.add_assoc,j6 g,e1]
 .rw[solo_eq_crowd,runN_add]
  have:=runNT_fst P N (crowd #[G (Frame.enter P f args .normal) []] W none) #[]
  rw[g] at this
  rw[<-this]
  exact e2
end Go.Sep
end
section
namespace Go.Proofs.YtnaejeiofbpbkaaGreatDoor
open Go Go.Sep Go.Proofs
set_option maxRecDepth 100000
theorem mixed:Tryz.prog.follows .mixedOrders=true:=by kernel_rfl
@[go_sem] theorem Ok:cC Tryz.prog 3=some false:=by kernel_rfl
@[go_sem] theorem lV:bZ Tryz.prog 3=some 1:=by kernel_rfl
theorem lW:bytesOf Tryz.prog 3=some 8:=by kernel_rfl
theorem lX:zeroOf Tryz.prog 3=some (.int .i64 0):=by kernel_rfl
theorem Ol:cC Tryz.prog 4=some false:=by kernel_rfl
theorem Bt:bZ Tryz.prog 4=some 1:=by kernel_rfl
theorem Gv:zeroOf Tryz.prog 4=some (.bool false):=by kernel_rfl
theorem Om:wO Tryz.prog 4=true:=by kernel_rfl
theorem On:cC Tryz.prog 23=some true:=by kernel_rfl
theorem Gw:bZ Tryz.prog 23=some 2:=by kernel_rfl
attribute [go_sem] lX Ol Bt Gv Om On Gw
theorem Gx:bytesOf Tryz.prog 23=some 16:=by kernel_rfl
theorem Bu:zeroOf Tryz.prog 23=some (.agg #[.int .i64 0,.int .i64 0]):=by kernel_rfl
theorem Oo:oC Tryz.prog 23=some [true,true]:=by kernel_rfl
theorem Oq:cT Tryz.prog 23 0=some 0:=by kernel_rfl
theorem Ot:cT Tryz.prog 23 1=some 1:=by kernel_rfl
theorem Ou:placesOf Tryz.prog 23=some [(0,1),(1,1)]:=by kernel_rfl
theorem Ov:cC Tryz.prog 24=some false:=by kernel_rfl
theorem Ow:bZ Tryz.prog 24=some 1:=by kernel_rfl
theorem Ox:kU Tryz.prog 24=true:=by kernel_rfl
theorem Bv:dm Tryz.prog 24=some 129:=by kernel_rfl
theorem Oy:cC Tryz.prog 25=some false:=by kernel_rfl
theorem Oz:bZ Tryz.prog 25=some 1:=by kernel_rfl
theorem OA:kU Tryz.prog 25=true:=by kernel_rfl
theorem j8:dm Tryz.prog 25=some 43:=by kernel_rfl
theorem OB:cC Tryz.prog 26=some false:=by kernel_rfl
theorem OC:bZ Tryz.prog 26=some 1:=by kernel_rfl
theorem OD:kU Tryz.prog 26=true:=by kernel_rfl
theorem s9:dm Tryz.prog 26=some 47:=by kernel_rfl
theorem OE:cC Tryz.prog 27=some false:=by kernel_rfl
theorem OF:bZ Tryz.prog 27=some 1:=by kernel_rfl
theorem OG:kU Tryz.prog 27=true:=by kernel_rfl
theorem ep:dm Tryz.prog 27=some 49:=by kernel_rfl
theorem OH:cC Tryz.prog 29=some true:=by kernel_rfl
theorem OI:bZ Tryz.prog 29=some 8:=by kernel_rfl
theorem OJ:zeroOf Tryz.prog 29=some (.agg #[.int .i64 0,.int .i64 0,.int .i64 0,.int .i64 0,.slice none 0 0,.slice none 0 0,.slice none 0 0,.slice none 0 0]):=by kernel_rfl
theorem OK:cT Tryz.prog 29 0=some 0:=by kernel_rfl
theorem OL:cT Tryz.prog 29 1=some 1:=by kernel_rfl
theorem OM:cT Tryz.prog 29 2=some 2:=by kernel_rfl
theorem ON:cT Tryz.prog 29 3=some 4:=by kernel_rfl
theorem OO:cT Tryz.prog 29 4=some 5:=by kernel_rfl
theorem OP:cT Tryz.prog 29 5=some 6:=by kernel_rfl
theorem OQ:cT Tryz.prog 29 6=some 7:=by kernel_rfl
theorem OR:placesOf Tryz.prog 29=some [(0,1),(1,1),(2,2),(4,1),(5,1),(6,1),(7,1)]:=by kernel_rfl
theorem OS:cC Tryz.prog 35=some false:=by kernel_rfl
theorem tc:bZ Tryz.prog 35=some 1:=by kernel_rfl
attribute [go_sem] Bu Oo Oq Ot Ou Ov Ow Ox Bv Oy Oz OA j8 OB OC OD s9 OE OF OG ep OH OI OJ OK OL OM ON OO OP OQ OR OS tc
theorem td:bytesOf Tryz.prog 35=some 24:=by kernel_rfl
theorem tf:zeroOf Tryz.prog 35=some (.slice none 0 0):=by kernel_rfl
theorem OT:kU Tryz.prog 35=true:=by kernel_rfl
theorem gh:dm Tryz.prog 35=some 3:=by kernel_rfl
theorem OU:cC Tryz.prog 43=some true:=by kernel_rfl
theorem qL:bZ Tryz.prog 43=some 2:=by kernel_rfl
attribute [go_sem] tf OT gh OU qL
theorem qM:bytesOf Tryz.prog 43=some 16:=by kernel_rfl
theorem qN:zeroOf Tryz.prog 43=some (.agg #[.int .i64 0,.int .i64 0]):=by kernel_rfl
theorem OV:cT Tryz.prog 43 0=some 0:=by kernel_rfl
theorem OW:cT Tryz.prog 43 1=some 1:=by kernel_rfl
theorem OX:placesOf Tryz.prog 43=some [(0,1),(1,1)]:=by kernel_rfl
theorem OY:cC Tryz.prog 45=some true:=by kernel_rfl
theorem OZ:bZ Tryz.prog 45=some 2:=by kernel_rfl
theorem O0:zeroOf Tryz.prog 45=some (.agg #[.int .i64 0,.int .i64 0]):=by kernel_rfl
theorem O1:cT Tryz.prog 45 0=some 0:=by kernel_rfl
theorem O2:cT Tryz.prog 45 1=some 1:=by kernel_rfl
theorem O3:placesOf Tryz.prog 45=some [(0,1),(1,1)]:=by kernel_rfl
theorem O4:cC Tryz.prog 47=some true:=by kernel_rfl
theorem Bw:bZ Tryz.prog 47=some 3:=by kernel_rfl
attribute [go_sem] qN OV OW OX OY OZ O0 O1 O2 O3 O4 Bw
theorem Bx:bytesOf Tryz.prog 47=some 24:=by kernel_rfl
theorem By:zeroOf Tryz.prog 47=some (.agg #[.int .i64 0,.int .i64 0,.int .i64 0]):=by kernel_rfl
theorem O5:cT Tryz.prog 47 0=some 0:=by kernel_rfl
theorem O6:cT Tryz.prog 47 1=some 1:=by kernel_rfl
theorem O7:placesOf Tryz.prog 47=some [(0,1),(1,2)]:=by kernel_rfl
theorem O8:cC Tryz.prog 49=some true:=by kernel_rfl
theorem iw:bZ Tryz.prog 49=some 2:=by kernel_rfl
attribute [go_sem] By O5 O6 O7 O8 iw
theorem iy:bytesOf Tryz.prog 49=some 16:=by kernel_rfl
theorem iz:zeroOf Tryz.prog 49=some (.agg #[.int .i64 0,.bool false]):=by kernel_rfl
theorem O9:cT Tryz.prog 49 0=some 0:=by kernel_rfl
theorem Pa:cT Tryz.prog 49 1=some 1:=by kernel_rfl
theorem Pb:placesOf Tryz.prog 49=some [(0,1),(1,1)]:=by kernel_rfl
theorem Pd:cC Tryz.prog 52=some true:=by kernel_rfl
theorem Pe:bZ Tryz.prog 52=some 2:=by kernel_rfl
theorem Pf:zeroOf Tryz.prog 52=some (.agg #[.int .i64 0,.int .i64 0]):=by kernel_rfl
theorem Pg:placesOf Tryz.prog 52=some [(0,1),(1,1)]:=by kernel_rfl
theorem Pj:cC Tryz.prog 96=some true:=by kernel_rfl
theorem Pk:bZ Tryz.prog 96=some 8:=by kernel_rfl
theorem Pm:zeroOf Tryz.prog 96=some (.agg #[.int .i64 0,.int .i64 0,.int .i64 0,.int .i64 0,.slice none 0 0,.slice none 0 0,.slice none 0 0,.slice none 0 0]):=by kernel_rfl
theorem Pn:cT Tryz.prog 96 0=some 0:=by kernel_rfl
theorem Po:placesOf Tryz.prog 96=some [(0,8)]:=by kernel_rfl
theorem Pp:cC Tryz.prog 97=some false:=by kernel_rfl
theorem Pq:bZ Tryz.prog 97=some 1:=by kernel_rfl
theorem Bz:dm Tryz.prog 97=some 138:=by kernel_rfl
theorem Pt:cC Tryz.prog 99=some true:=by kernel_rfl
theorem Pu:bZ Tryz.prog 99=some 9:=by kernel_rfl
theorem Pv:zeroOf Tryz.prog 99=some (.agg #[.int .i64 0,.int .i64 0,.int .i64 0,.int .i64 0,.slice none 0 0,.slice none 0 0,.slice none 0 0,.slice none 0 0,.slice none 0 0]):=by kernel_rfl
theorem Pw:cT Tryz.prog 99 0=some 0:=by kernel_rfl
theorem Px:cT Tryz.prog 99 1=some 8:=by kernel_rfl
theorem Py:placesOf Tryz.prog 99=some [(0,8),(8,1)]:=by kernel_rfl
theorem oG:dm Tryz.prog 102=some 109:=by kernel_rfl
theorem Pz:cC Tryz.prog 103=some false:=by kernel_rfl
theorem PA:bZ Tryz.prog 103=some 1:=by kernel_rfl
theorem PB:zeroOf Tryz.prog 103=some (.slice none 0 0):=by kernel_rfl
theorem BA:dm Tryz.prog 103=some 105:=by kernel_rfl
theorem PC:cC Tryz.prog 105=some true:=by kernel_rfl
theorem Gy:bZ Tryz.prog 105=some 2:=by kernel_rfl
attribute [go_sem] iz O9 Pa Pb Pd Pe Pf Pg Pj Pk Pm Pn Po Pp Pq Bz Pt Pu Pv Pw Px Py oG Pz PA PB BA PC Gy
theorem Gz:bytesOf Tryz.prog 105=some 16:=by kernel_rfl
theorem GA:zeroOf Tryz.prog 105=some (.agg #[.int .i64 0,.int .i64 0]):=by kernel_rfl
theorem PD:oC Tryz.prog 105=some [true,true]:=by kernel_rfl
theorem PE:cT Tryz.prog 105 0=some 0:=by kernel_rfl
theorem PF:cT Tryz.prog 105 1=some 1:=by kernel_rfl
theorem PG:placesOf Tryz.prog 105=some [(0,1),(1,1)]:=by kernel_rfl
theorem PI:cC Tryz.prog 107=some true:=by kernel_rfl
theorem PJ:bZ Tryz.prog 107=some 3:=by kernel_rfl
theorem PK:zeroOf Tryz.prog 107=some (.agg #[.int .i64 0,.int .i64 0,.int .i64 0]):=by kernel_rfl
theorem PL:oC Tryz.prog 107=some [true,true,true]:=by kernel_rfl
theorem PM:cT Tryz.prog 107 0=some 0:=by kernel_rfl
theorem PN:cT Tryz.prog 107 1=some 1:=by kernel_rfl
theorem PO:placesOf Tryz.prog 107=some [(0,1),(1,2)]:=by kernel_rfl
theorem PR:cC Tryz.prog 109=some true:=by kernel_rfl
theorem xd:bZ Tryz.prog 109=some 6:=by kernel_rfl
attribute [go_sem] GA PD PE PF PG PI PJ PK PL PM PN PO PR xd
theorem xe:bytesOf Tryz.prog 109=some 48:=by kernel_rfl
theorem xg:zeroOf Tryz.prog 109=some (.agg #[.int .i64 0,.int .i64 0,.int .i64 0,.int .i64 0,.int .i64 0,.int .i64 0]):=by kernel_rfl
theorem PS:cT Tryz.prog 109 0=some 0:=by kernel_rfl
theorem PU:cT Tryz.prog 109 1=some 3:=by kernel_rfl
theorem PV:cT Tryz.prog 109 2=some 4:=by kernel_rfl
theorem PW:wH Tryz.prog 109 2=some (4,2,true):=by kernel_rfl
theorem PX:placesOf Tryz.prog 109=some [(0,3),(3,1),(4,2)]:=by kernel_rfl
theorem lY:dm Tryz.prog 114=some 35:=by kernel_rfl
theorem PY:cC Tryz.prog 120=some false:=by kernel_rfl
theorem PZ:bZ Tryz.prog 120=some 1:=by kernel_rfl
theorem P1:zeroOf Tryz.prog 120=some .nilFunc:=by kernel_rfl
theorem P2:cC Tryz.prog 129=some true:=by kernel_rfl
theorem GB:bZ Tryz.prog 129=some 2:=by kernel_rfl
attribute [go_sem] xg PS PU PV PW PX lY PY PZ P1 P2 GB
theorem GC:bytesOf Tryz.prog 129=some 16:=by kernel_rfl
theorem BB:zeroOf Tryz.prog 129=some (.agg #[.int .i64 0,.int .i64 0]):=by kernel_rfl
theorem P3:cT Tryz.prog 129 0=some 0:=by kernel_rfl
theorem P4:cT Tryz.prog 129 1=some 1:=by kernel_rfl
theorem P5:placesOf Tryz.prog 129=some [(0,1),(1,1)]:=by kernel_rfl
theorem P6:cC Tryz.prog 135=some false:=by kernel_rfl
theorem P7:bZ Tryz.prog 135=some 1:=by kernel_rfl
theorem P8:zeroOf Tryz.prog 135=some (.map none):=by kernel_rfl
theorem P9:cC Tryz.prog 138=some true:=by kernel_rfl
theorem GD:bZ Tryz.prog 138=some 3:=by kernel_rfl
attribute [go_sem] BB P3 P4 P5 P6 P7 P8 P9 GD
theorem GF:bytesOf Tryz.prog 138=some 24:=by kernel_rfl
theorem GG:zeroOf Tryz.prog 138=some (.agg #[.int .i64 0,.int .i64 0,.int .i64 0]):=by kernel_rfl
theorem Qa:oz Tryz.prog 138=some (3,3):=by kernel_rfl
theorem BC:dm Tryz.prog 141=some 23:=by kernel_rfl
theorem Qb:cC Tryz.prog 151=some false:=by kernel_rfl
theorem Qc:bZ Tryz.prog 151=some 1:=by kernel_rfl
theorem Qd:zeroOf Tryz.prog 151=some .nilFunc:=by kernel_rfl
theorem Qe:cC Tryz.prog 158=some false:=by kernel_rfl
theorem Qf:dm Tryz.prog 168=some 120:=by kernel_rfl
theorem Qg:cC Tryz.prog 174=some false:=by kernel_rfl
theorem Qh:bZ Tryz.prog 174=some 1:=by kernel_rfl
theorem Qi:zeroOf Tryz.prog 174=some (.slice none 0 0):=by kernel_rfl
theorem Qj:dm Tryz.prog 174=some 4:=by kernel_rfl
theorem Qk:cT Tryz.prog 179 0=some 0:=by kernel_rfl
theorem Ql:cT Tryz.prog 179 1=some 1:=by kernel_rfl
theorem Qm:zeroOf Tryz.prog 181=some (.agg #[.int .i32 0,.int .u32 0]):=by kernel_rfl
theorem Qo:cT Tryz.prog 181 1=some 0:=by kernel_rfl
theorem Qp:cT Tryz.prog 186 2=some 0:=by kernel_rfl
theorem Qq:zeroOf Tryz.prog 188=some (.agg #[.int .u64 0,.int .u32 0]):=by kernel_rfl
theorem Qr:cT Tryz.prog 188 1=some 0:=by kernel_rfl
theorem Qs:cT Tryz.prog 188 2=some 1:=by kernel_rfl
theorem Qt:cC Tryz.prog 198=some true:=by kernel_rfl
theorem Qu:bZ Tryz.prog 198=some 5:=by kernel_rfl
theorem Qv:oz Tryz.prog 198=some (5,120):=by kernel_rfl
theorem Qw:cC Tryz.prog 252=some false:=by kernel_rfl
theorem Qx:bZ Tryz.prog 252=some 1:=by kernel_rfl
theorem Qy:zeroOf Tryz.prog 252=some (.int .u64 0):=by kernel_rfl
theorem Qz:aH Tryz.prog 2=true:=by kernel_rfl
theorem QA:aH Tryz.prog 3=true:=by kernel_rfl
theorem QB:aH Tryz.prog 4=true:=by kernel_rfl
theorem QC:aH Tryz.prog 5=true:=by kernel_rfl
theorem QD:aH Tryz.prog 6=true:=by kernel_rfl
theorem QE:aH Tryz.prog 7=true:=by kernel_rfl
theorem QF:aH Tryz.prog 8=true:=by kernel_rfl
theorem QG:aH Tryz.prog 9=true:=by kernel_rfl
theorem QH:aH Tryz.prog 10=true:=by kernel_rfl
theorem QI:aH Tryz.prog 11=true:=by kernel_rfl
theorem QJ:aH Tryz.prog 12=true:=by kernel_rfl
theorem QK:aH Tryz.prog 13=true:=by kernel_rfl
theorem QL:aH Tryz.prog 14=true:=by kernel_rfl
theorem QM:aH Tryz.prog 15=true:=by kernel_rfl
theorem QN:aH Tryz.prog 16=true:=by kernel_rfl
theorem QO:aH Tryz.prog 17=true:=by kernel_rfl
theorem QS:aH Tryz.prog 18=true:=by kernel_rfl
theorem QT:aH Tryz.prog 19=true:=by kernel_rfl
theorem QU:aH Tryz.prog 20=true:=by kernel_rfl
theorem QV:aH Tryz.prog 21=true:=by kernel_rfl
theorem QW:aH Tryz.prog 22=true:=by kernel_rfl
theorem QX:aH Tryz.prog 23=true:=by kernel_rfl
theorem QY:aH Tryz.prog 24=true:=by kernel_rfl
theorem QZ:aH Tryz.prog 25=true:=by kernel_rfl
theorem Q0:aH Tryz.prog 26=true:=by kernel_rfl
theorem Q1:aH Tryz.prog 27=true:=by kernel_rfl
theorem Q2:aH Tryz.prog 28=true:=by kernel_rfl
theorem Q3:aH Tryz.prog 29=true:=by kernel_rfl
theorem Q4:aH Tryz.prog 30=true:=by kernel_rfl
theorem Q5:aH Tryz.prog 31=true:=by kernel_rfl
theorem Q6:aH Tryz.prog 32=true:=by kernel_rfl
theorem Q7:aH Tryz.prog 33=true:=by kernel_rfl
theorem Q8:aH Tryz.prog 34=true:=by kernel_rfl
theorem Q9:aH Tryz.prog 35=true:=by kernel_rfl
theorem Ra:aH Tryz.prog 36=true:=by kernel_rfl
theorem Rb:aH Tryz.prog 37=true:=by kernel_rfl
theorem Rc:aH Tryz.prog 38=true:=by kernel_rfl
theorem Re:aH Tryz.prog 39=true:=by kernel_rfl
theorem Rf:aH Tryz.prog 40=true:=by kernel_rfl
theorem Rg:aH Tryz.prog 41=true:=by kernel_rfl
theorem Rh:aH Tryz.prog 42=true:=by kernel_rfl
theorem Ri:aH Tryz.prog 43=true:=by kernel_rfl
theorem Rj:aH Tryz.prog 44=true:=by kernel_rfl
theorem Rl:aH Tryz.prog 45=true:=by kernel_rfl
theorem Rm:aH Tryz.prog 46=true:=by kernel_rfl
theorem Rn:aH Tryz.prog 47=true:=by kernel_rfl
theorem Ro:aH Tryz.prog 48=true:=by kernel_rfl
theorem Rp:aH Tryz.prog 49=true:=by kernel_rfl
theorem Rq:aH Tryz.prog 50=true:=by kernel_rfl
theorem Rr:aH Tryz.prog 51=true:=by kernel_rfl
theorem Rs:aH Tryz.prog 52=true:=by kernel_rfl
theorem Rt:aH Tryz.prog 53=true:=by kernel_rfl
theorem Ru:aH Tryz.prog 54=true:=by kernel_rfl
theorem Rv:aH Tryz.prog 55=true:=by kernel_rfl
theorem Rw:aH Tryz.prog 56=true:=by kernel_rfl
theorem Rx:aH Tryz.prog 57=true:=by kernel_rfl
theorem Ry:aH Tryz.prog 58=true:=by kernel_rfl
theorem Rz:aH Tryz.prog 59=true:=by kernel_rfl
theorem RA:aH Tryz.prog 60=true:=by kernel_rfl
theorem RB:aH Tryz.prog 61=true:=by kernel_rfl
theorem RD:aH Tryz.prog 62=true:=by kernel_rfl
theorem RE:aH Tryz.prog 63=true:=by kernel_rfl
theorem RF:aH Tryz.prog 64=true:=by kernel_rfl
theorem RG:aH Tryz.prog 65=true:=by kernel_rfl
theorem RH:aH Tryz.prog 66=true:=by kernel_rfl
theorem RI:aH Tryz.prog 67=true:=by kernel_rfl
theorem RJ:aH Tryz.prog 68=true:=by kernel_rfl
theorem RK:aH Tryz.prog 69=true:=by kernel_rfl
theorem RL:aH Tryz.prog 70=true:=by kernel_rfl
theorem RN:aH Tryz.prog 71=true:=by kernel_rfl
theorem RO:aH Tryz.prog 72=true:=by kernel_rfl
theorem RP:aH Tryz.prog 73=true:=by kernel_rfl
theorem RQ:aH Tryz.prog 74=true:=by kernel_rfl
theorem RR:aH Tryz.prog 75=true:=by kernel_rfl
theorem RS:aH Tryz.prog 76=true:=by kernel_rfl
theorem RU:aH Tryz.prog 77=true:=by kernel_rfl
theorem RV:aH Tryz.prog 78=true:=by kernel_rfl
theorem RX:aH Tryz.prog 79=true:=by kernel_rfl
theorem RY:aH Tryz.prog 80=true:=by kernel_rfl
theorem RZ:aH Tryz.prog 81=true:=by kernel_rfl
theorem R1:aH Tryz.prog 82=true:=by kernel_rfl
theorem R2:aH Tryz.prog 83=true:=by kernel_rfl
theorem R3:aH Tryz.prog 84=true:=by kernel_rfl
theorem R4:aH Tryz.prog 85=true:=by kernel_rfl
theorem R5:aH Tryz.prog 86=true:=by kernel_rfl
theorem R6:aH Tryz.prog 87=true:=by kernel_rfl
theorem R7:aH Tryz.prog 88=true:=by kernel_rfl
theorem R8:aH Tryz.prog 89=true:=by kernel_rfl
theorem R9:aH Tryz.prog 90=true:=by kernel_rfl
theorem Sa:aH Tryz.prog 91=true:=by kernel_rfl
theorem Sb:aH Tryz.prog 92=true:=by kernel_rfl
theorem Sd:aH Tryz.prog 93=true:=by kernel_rfl
theorem Se:aH Tryz.prog 94=true:=by kernel_rfl
theorem Sf:aH Tryz.prog 95=true:=by kernel_rfl
theorem Si:aH Tryz.prog 96=true:=by kernel_rfl
theorem Sj:aH Tryz.prog 97=true:=by kernel_rfl
theorem Sk:aH Tryz.prog 98=true:=by kernel_rfl
theorem Sl:aH Tryz.prog 99=true:=by kernel_rfl
theorem Sn:aH Tryz.prog 100=true:=by kernel_rfl
theorem So:aH Tryz.prog 101=true:=by kernel_rfl
theorem Sp:aH Tryz.prog 102=true:=by kernel_rfl
theorem Sq:aH Tryz.prog 103=true:=by kernel_rfl
theorem Sr:aH Tryz.prog 104=true:=by kernel_rfl
theorem Ss:aH Tryz.prog 105=true:=by kernel_rfl
theorem Su:aH Tryz.prog 106=true:=by kernel_rfl
theorem Sv:aH Tryz.prog 107=true:=by kernel_rfl
theorem Sw:aH Tryz.prog 108=true:=by kernel_rfl
theorem Sx:aH Tryz.prog 109=true:=by kernel_rfl
theorem Sy:aH Tryz.prog 110=true:=by kernel_rfl
theorem Sz:aH Tryz.prog 111=true:=by kernel_rfl
theorem SA:aH Tryz.prog 112=true:=by kernel_rfl
theorem SB:aH Tryz.prog 113=true:=by kernel_rfl
theorem SC:aH Tryz.prog 114=true:=by kernel_rfl
theorem SD:aH Tryz.prog 115=true:=by kernel_rfl
theorem SE:aH Tryz.prog 116=true:=by kernel_rfl
theorem SF:aH Tryz.prog 117=true:=by kernel_rfl
theorem SG:aH Tryz.prog 118=true:=by kernel_rfl
theorem SH:aH Tryz.prog 119=true:=by kernel_rfl
theorem SI:aH Tryz.prog 120=true:=by kernel_rfl
theorem SJ:aH Tryz.prog 121=true:=by kernel_rfl
theorem SK:aH Tryz.prog 122=true:=by kernel_rfl
theorem SL:aH Tryz.prog 123=true:=by kernel_rfl
theorem SM:aH Tryz.prog 124=true:=by kernel_rfl
theorem SN:aH Tryz.prog 125=true:=by kernel_rfl
theorem SO:aH Tryz.prog 126=true:=by kernel_rfl
theorem SP:aH Tryz.prog 127=true:=by kernel_rfl
theorem BD:aH Tryz.prog 128=true:=by kernel_rfl
theorem SQ:aH Tryz.prog 129=true:=by kernel_rfl
theorem SS:aH Tryz.prog 130=true:=by kernel_rfl
theorem SU:aH Tryz.prog 131=true:=by kernel_rfl
theorem SV:aH Tryz.prog 132=true:=by kernel_rfl
theorem GH:aH Tryz.prog 133=true:=by kernel_rfl
theorem GI:aH Tryz.prog 134=true:=by kernel_rfl
theorem GJ:aH Tryz.prog 135=true:=by kernel_rfl
theorem SW:aH Tryz.prog 136=true:=by kernel_rfl
theorem SX:aH Tryz.prog 137=true:=by kernel_rfl
theorem SY:aH Tryz.prog 138=true:=by kernel_rfl
theorem SZ:aH Tryz.prog 139=true:=by kernel_rfl
theorem S0:aH Tryz.prog 140=true:=by kernel_rfl
theorem S1:aH Tryz.prog 141=true:=by kernel_rfl
theorem S2:aH Tryz.prog 142=true:=by kernel_rfl
theorem S4:aH Tryz.prog 143=true:=by kernel_rfl
theorem S5:aH Tryz.prog 144=true:=by kernel_rfl
theorem S6:aH Tryz.prog 145=true:=by kernel_rfl
theorem S7:aH Tryz.prog 146=true:=by kernel_rfl
theorem S8:aH Tryz.prog 147=true:=by kernel_rfl
theorem S9:aH Tryz.prog 148=true:=by kernel_rfl
theorem Ta:aH Tryz.prog 149=true:=by kernel_rfl
theorem Tb:aH Tryz.prog 150=true:=by kernel_rfl
theorem Tc:aH Tryz.prog 151=true:=by kernel_rfl
theorem Td:aH Tryz.prog 152=true:=by kernel_rfl
theorem Te:aH Tryz.prog 159=true:=by kernel_rfl
theorem BE:aH Tryz.prog 160=true:=by kernel_rfl
theorem xh:aH Tryz.prog 162=true:=by kernel_rfl
theorem GK:aH Tryz.prog 163=true:=by kernel_rfl
theorem Tf:aH Tryz.prog 166=true:=by kernel_rfl
theorem GL:aH Tryz.prog 167=true:=by kernel_rfl
theorem GM:aH Tryz.prog 168=true:=by kernel_rfl
theorem GN:aH Tryz.prog 171=true:=by kernel_rfl
theorem Tg:aH Tryz.prog 174=true:=by kernel_rfl
theorem Ti:aH Tryz.prog 175=true:=by kernel_rfl
theorem Tj:aH Tryz.prog 176=true:=by kernel_rfl
theorem Tk:aH Tryz.prog 177=true:=by kernel_rfl
theorem Tl:aH Tryz.prog 178=true:=by kernel_rfl
theorem Tm:aH Tryz.prog 179=true:=by kernel_rfl
theorem Tn:aH Tryz.prog 180=true:=by kernel_rfl
theorem To:aH Tryz.prog 181=true:=by kernel_rfl
theorem Tq:aH Tryz.prog 186=true:=by kernel_rfl
theorem GO:aH Tryz.prog 188=true:=by kernel_rfl
theorem GP:aH Tryz.prog 190=true:=by kernel_rfl
theorem Tr:aH Tryz.prog 192=true:=by kernel_rfl
theorem Tt:aH Tryz.prog 193=true:=by kernel_rfl
theorem Tu:aH Tryz.prog 194=true:=by kernel_rfl
theorem Tv:aH Tryz.prog 195=true:=by kernel_rfl
theorem Tw:aH Tryz.prog 196=true:=by kernel_rfl
theorem Tx:aH Tryz.prog 197=true:=by kernel_rfl
theorem Ty:aH Tryz.prog 198=true:=by kernel_rfl
theorem Tz:aH Tryz.prog 199=true:=by kernel_rfl
theorem TA:aH Tryz.prog 200=true:=by kernel_rfl
theorem TB:aH Tryz.prog 201=true:=by kernel_rfl
theorem TC:aH Tryz.prog 202=true:=by kernel_rfl
theorem TD:aH Tryz.prog 203=true:=by kernel_rfl
theorem TE:aH Tryz.prog 211=true:=by kernel_rfl
theorem TF:aH Tryz.prog 212=true:=by kernel_rfl
theorem TG:aH Tryz.prog 213=true:=by kernel_rfl
theorem TH:aH Tryz.prog 214=true:=by kernel_rfl
theorem TI:aH Tryz.prog 215=true:=by kernel_rfl
theorem TJ:aH Tryz.prog 216=true:=by kernel_rfl
theorem TK:aH Tryz.prog 233=true:=by kernel_rfl
theorem TL:aH Tryz.prog 234=true:=by kernel_rfl
theorem TM:aH Tryz.prog 235=true:=by kernel_rfl
theorem TN:aH Tryz.prog 236=true:=by kernel_rfl
theorem TO:aH Tryz.prog 237=true:=by kernel_rfl
theorem TP:aH Tryz.prog 241=true:=by kernel_rfl
attribute [go_sem] GG Qa BC Qb Qc Qd Qe Qf Qg Qh Qi Qj Qk Ql Qm Qo Qp Qq Qr Qs Qt Qu Qv Qw Qx Qy Qz QA QB QC QD QE QF QG QH QI QJ QK QL QM QN QO QS QT QU QV QW QX QY QZ Q0 Q1 Q2 Q3 Q4 Q5 Q6 Q7 Q8 Q9 Ra Rb Rc Re Rf Rg Rh Ri Rj Rl Rm Rn Ro Rp Rq Rr Rs Rt Ru Rv Rw Rx Ry Rz RA RB RD RE RF RG RH RI RJ RK RL RN RO RP RQ RR RS RU RV RX RY RZ R1 R2 R3 R4 R5 R6 R7 R8 R9 Sa Sb Sd Se Sf Si Sj Sk Sl Sn So Sp Sq Sr Ss Su Sv Sw Sx Sy Sz SA SB SC SD SE SF SG SH SI SJ SK SL SM SN SO SP BD SQ SS SU SV GH GI GJ SW SX SY SZ S0 S1 S2 S4 S5 S6 S7 S8 S9 Ta Tb Tc Td Te BE xh GK Tf GL GM GN Tg Ti Tj Tk Tl Tm Tn To Tq GO GP Tr Tt Tu Tv Tw Tx Ty Tz TA TB TC TD TE TF TG TH TI TJ TK TL TM TN TO TP
end Go.Proofs.YtnaejeiofbpbkaaGreatDoor
end
section
namespace Go.Sep
open Go Go.Conc
def kY (o:Oper):Option (TypeId×Nat):=match o.op,o.dst,o.guard with
 | .alloc t,some d,none=>some (t,d)
 |_,_,_=>none
def BG (ops:Array Oper)(m:Nat):Bool:=
 oF ops (m+1)&&decide (m+2<=ops.size)&&
 (match (ops[m]?).bind kY,(ops[m+1]?).bind kY with|some (_,d),some (_,a)=>!(d==a)|_,_=>false)&&
 decide (Region.ready .any ops (cZ ops.size m)=[m,m+1])&&decide (Region.ready .any ops ((cZ ops.size m).setIfInBounds (m+1) true)=[m])
theorem BH {ro:Addr->Option Value}{x y:Nat×Obj}{l:List (Nat×Obj)}:Le ⟨ro,x::y::l⟩ ⟨ro,y::x::l⟩:=by
 have c:∀b,b∈keys (x::y::l)↔b∈keys (y::x::l):=fun b=>by
  simp only[keys,List.map_cons,List.mem_cons];exact ⟨fun h=>by rcases h with h|h|h;exact .inr (.inl h);exact .inl h;exact .inr (.inr h),fun h=>by rcases h with h|h|h;exact .inr (.inl h);exact .inl h;exact .inr (.inr h)⟩
 refine ⟨fun w hw=>⟨hw.ro,fun b o hb=>hw.own b o ?_,?_,fun a v h hm=>hw.apart a v h ((c _).1 hm)⟩,fun b hb=>(c b).1 hb,fun a d=>.inl d⟩
 .rcases List.mem_cons.1 hb with h|h
  .exact List.mem_cons_of_mem _ (h▸List.mem_cons_self)
  .rcases List.mem_cons.1 h with h|h
   .exact h▸List.mem_cons_self
   .exact List.mem_cons_of_mem _ (List.mem_cons_of_mem _ h)
 .have:=hw.nodup;simp only[keys,List.map_cons,List.nodup_cons,List.mem_cons,not_or] at this ⊢;exact ⟨⟨fun e=>this.1.1 e.symm,this.2.1⟩,this.1.2,this.2.2⟩
section
variable {P:Program}{main:Bool}{J:Goroutine->aa->Prop}{ops:Array Oper}{Q:Act->aa->Prop}{F0:aa}
theorem BI {o:Oper}{t:TypeId}{d:Nat}(h:kY o=some (t,d)):o.op= .alloc t/\o.dst=some d/\o.guard=none:=by
 unfold kY at h;split at h
 .rename_i h1 h2 h3;cases h;exact ⟨h1,h2,h3⟩
 .cases h
theorem qO {o:Oper}{a:Act}(h:o.guard=none):cD ops o a=some true:=by unfold cD;rw[h]
theorem xj {o:Oper}{t:TypeId}{a:Act}{F:aa}{z:Value}{R:Value->aa->Prop}{D:Deferred->aa->Prop}(d:o.op= .alloc t)(e:zeroOf P t=some z)
  (h:∀b,eg F b->∃c,Le c (F.push b (.cells z.cells t))/\R (.pointer (some ⟨b,0,none⟩)) c):aX P (execOp a.eval o) (kQ P J R D) F:=by
 have:Oper.oD o=false:=by unfold Oper.oD;rw[d]
 refine A9 (R:=fun v F=>∃c,Le c F/\R v c) this ?_
 unfold cN
 rw[d]
 simp only[e]
 exact h
theorem GQ (m:Nat){o1 o2:Oper}{rest:List Oper}{t1 t2 d1 d2:Nat}(hm:m+2<=ops.size)(v:ops[m]?=some o1)(w:ops[m+1]?=some o2)(K:kY o1=some (t1,d1))(L:kY o2=some (t2,d2)){p:Value}(y:zeroOf P t2=some p)(hd:¬d1=d2)
  (A:ops.toList.drop (m+2)=rest) (B:Region.ready .any ops (cZ ops.size m)=[m,m+1]) (C:Region.ready .any ops ((cZ ops.size m).setIfInBounds (m+1) true)=[m])
  (D:∀j,j<ops.size - (m+1)->Region.ready .any ops (cZ ops.size (m+1+j))=[m+1+j]) (E:Region.ready .any ops (cZ ops.size ops.size)=[])
  {a:Act} {F:aa} (q:Knows F0 F) (h:eP P J ops F0 Q (o1::o2::rest) true a F):dU P J ops Q (Knows F0) (ops.size - m) (cZ ops.size m) a F:=by
 obtain ⟨e1,r,s⟩:=BI K
 obtain ⟨e2,G,H⟩:=BI L
 have M:ops.size - m=(ops.size - (m+1))+1:=by omega
 have N:ops.size - (m+1)=(ops.size - (m+2))+1:=by omega
 unfold eP at h
 rw[qO s] at h
 simp only at h
 have k:∃z,zeroOf P t1=some z:=by
  unfold cN at h
  rw[e1] at h
  simp only at h
  split at h
  .rename_i z O;exact ⟨z,O⟩
  .exact h.elim
 obtain ⟨g,k⟩:=k
 have h1:∀b,eg F b->Knows F0 (F.push b (.cells g.cells t1))/\eP P J ops F0 Q (o2::rest) (!Oper.calls o1) (bf a (some d1) (.pointer (some ⟨b,0,none⟩))) (F.push b (.cells g.cells t1)):=by
  unfold cN at h
  rw[e1] at h
  simp only[k,r] at h
  exact h
 have h2:∀b,eg F b->∀f,eg (F.push b (.cells g.cells t1)) f->Knows F0 ((F.push b (.cells g.cells t1)).push f (.cells p.cells t2))/\
   eP P J ops F0 Q rest (!Oper.calls o2) (bf (bf a (some d1) (.pointer (some ⟨b,0,none⟩))) (some d2) (.pointer (some ⟨f,0,none⟩))) ((F.push b (.cells g.cells t1)).push f (.cells p.cells t2)):=by
  intro b hb
  have:=(h1 b hb).2
  unfold eP at this
  rw[qO H] at this
  simp only at this
  unfold cN at this
  rw[e2] at this
  simp only[y,G] at this
  exact this
 have I:=s5 (n:=ops.size) (m:=m) (by omega)
 have R:=s5 (n:=ops.size) (m:=m+1) (by omega)
 rw[M]
 refine ⟨fun h0=>(by rw[B] at h0;cases h0),fun i hi=>?_⟩
 rw[B] at hi
 simp only[List.mem_cons,List.not_mem_nil,or_false] at hi
 rcases hi with hi|hi
 .subst hi
  unfold dQ
  simp only[v]
  rw[if_pos (cg (qO s))]
  refine xj e1 k fun b hb=>⟨_,Le.refl _,(h1 b hb).1,?_⟩
  rw[I,r]
  exact mX (i+1) D E (o2::rest) (i+1) _ _ _ (Nat.le_refl _) (by omega) (by
   have:=List.drop_eq_getElem_cons (l:=ops.toList) (i:=i+1) (by simp;omega)
   rw[this,A]
   obtain ⟨_,he⟩:=Array.getElem?_eq_some_iff.1 w
   simp[he]) (h1 b hb).2
 .subst hi
  unfold dQ
  simp only[w]
  rw[if_pos (cg (qO H))]
  refine xj e2 y fun f t=>⟨_,Le.refl _,?_,?_⟩
  .refine ⟨q.1,q.2.1,?_⟩
   have S:∀(l own:List (Nat×Obj)),av own f->jy l own->jy l ((f,.cells p.cells t2)::own):=fun l own T u=>by
    induction l with
    |nil=>trivial
    |cons x l ih=>
     obtain ⟨c,o⟩:=x
     refine ⟨?_,ih u.2⟩
     have U:¬f=c:=fun e=>lU T (e▸e6 (ia u.1))
     simp only[lk,if_neg U]
     exact u.1
   exact S _ _ t.own q.2.2
  .rw[N]
   refine ⟨fun h0=>(by rw[C] at h0;cases h0),fun i hi=>?_⟩
   rw[C] at hi
   simp only[List.mem_cons,List.not_mem_nil,or_false] at hi
   subst hi
   unfold dQ
   simp only[v]
   rw[if_pos (cg (qO s))]
   refine xj e1 k fun b hb=>?_
   have V:eg F b:=⟨hb.ro,hb.own.2⟩
   have aG:¬f=b:=fun e=>hb.own.1 e.symm
   have W:eg (F.push b (.cells g.cells t1)) f:=⟨t.ro,⟨aG,t.own⟩⟩
   obtain ⟨X,Y⟩:=h2 b V f W
   refine ⟨_,BH,X,?_⟩
   have Z:bf (bf a o2.dst (.pointer (some ⟨f,0,none⟩))) o1.dst (.pointer (some ⟨b,0,none⟩))=bf (bf a (some d1) (.pointer (some ⟨b,0,none⟩))) (some d2) (.pointer (some ⟨f,0,none⟩)):=by
    rw[r,G]
    exact Act.put_comm a _ _ (fun d ab=>by cases ab;intro e;cases e;exact hd rfl)
   have hs:((cZ ops.size i).setIfInBounds (i+1) true).setIfInBounds i true=cZ ops.size (i+2):=by
    rw[Array.setIfInBounds_comm _ _ (by omega:i+1≠i),I,R]
   show dU P J ops Q (Knows F0) (ops.size - (i+2)) _ (bf (bf a o2.dst _) o1.dst _) _
   rw[hs,Z]
   exact mX (i+1) D E rest (i+2) _ _ _ (by omega) hm A Y
theorem BJ {Q:Ex->Act->aa->Prop}(hJ:Closed P main J)(o:P.follows .mixedOrders=true)(m:Nat){id:Nat}{a:Act}{F:aa}(F0:aa)(e:Knows F0 F)(f:BG ops m=true)(t2:TypeId){p:Value}(g:((ops[m+1]?).bind kY).map (·.1)=some t2)(q:zeroOf P t2=some p)
  (h:eA P J ops F0 (fun j=>eP P J ops F0 (Q .normal) (ops.toList.drop m) true j F) (ops.toList.take m) true a):Wp J (.region id ops true) Q a F:=by
 simp only[BG,Bool.and_eq_true,decide_eq_true_eq] at f
 obtain ⟨⟨⟨⟨r,hm⟩,b⟩,s⟩,t⟩:=f
 have k:=Bi r
 simp only[qC,Bool.and_eq_true,decide_eq_true_eq,List.all_eq_true,List.mem_range] at k
 obtain ⟨⟨⟨⟨h1,h2⟩,h3⟩,u⟩,v⟩:=k
 cases c:(ops[m]?).bind kY with
 |none=>rw[c] at b;cases b
 |some w=>
  cases d:(ops[m+1]?).bind kY with
  |none=>rw[c,d] at b;cases b
  |some x=>
   obtain ⟨t1,d1⟩:=w
   obtain ⟨y,d2⟩:=x
   rw[d] at g
   obtain rfl:y=t2:=by simpa using g
   rw[c,d] at b
   obtain ⟨o1,e1,a1⟩:=Option.bind_eq_some_iff.1 c
   obtain ⟨o2,e2,a2⟩:=Option.bind_eq_some_iff.1 d
   have hd:¬d1=d2:=by simpa using b
   have z:ops.toList.drop m=o1::o2::ops.toList.drop (m+2):=by
    obtain ⟨A,c1⟩:=Array.getElem?_eq_some_iff.1 e1
    obtain ⟨b2,c2⟩:=Array.getElem?_eq_some_iff.1 e2
    rw[List.drop_eq_getElem_cons (l:=ops.toList) (i:=m) (by simpa using A),List.drop_eq_getElem_cons (l:=ops.toList) (i:=m+1) (by simpa using b2)]
    simp[c1,c2]
   refine wz hJ (Knows F0) o ?_
   rw[<-Bj]
   have:=s6 (P:=P) (J:=J) (Q:=Q .normal) m (by omega) h1 (fun i hi=>by have:=h3 i (by omega);simpa using this) e (fun j n=>by
    rw[z] at n
    exact GQ (F0:=F0) m hm e1 e2 a1 a2 q hd rfl s t u v e n) _ 0 true a (by simp) (Nat.zero_le _) h
   simpa using this
end
def pick (ops:Array Oper):List Nat->List Oper
 |[]=>[]
 |i::is=>match ops[i]? with
  |some o=>o::pick ops is
  |none=>pick ops is
def xk:List Nat->Array Bool->Array Bool
 |[],L=>L
 |i::is,L=>xk is (L.setIfInBounds i true)
def tg (ops:Array Oper):List Nat->Array Bool->Bool
 |[],_=>true
 |i::is,L=>Region.free .any ops L i&&(Region.ready .any ops L).contains i&&(ops[i]?).isSome&&tg ops is (L.setIfInBounds i true)
def qP (ops:Array Oper):List Nat->Array Bool->Bool
 |[],L=>decide (Region.ready .any ops L=[])
 |i::is,L=>decide (Region.ready .any ops L=[i])&&(ops[i]?).isSome&&qP ops is (L.setIfInBounds i true)
def BK (ops:Array Oper)(is a:List Nat):Bool:=
 Region.noSelect ops&&tg ops is (Array.replicate ops.size false)&&qP ops a (xk is (Array.replicate ops.size false))&&decide (is.length+a.length=ops.size)
section
variable {P:Program}{main:Bool}{J:Goroutine->aa->Prop}{ops:Array Oper}{Q:Act->aa->Prop}{F0:aa}
theorem BL {K:Act->Prop}(m:Region.noSelect ops=true){F:aa}(b:Knows F0 F)(fuel:Nat):
  ∀(is:List Nat) (L:Array Bool) (go:Bool) (a:Act),tg ops is L=true->eA P J ops F0 K (pick ops is) go a->(∀n,K n->dU P J ops Q (Knows F0) fuel (xk is L) n F)->
   dU P J ops Q (Knows F0) (fuel+is.length) L a F
 |[],L,go,a,_,h,k=>by unfold pick eA at h;exact k a h
 |i::is,L,go,a,p,h,k=>by
  simp only[tg,Bool.and_eq_true] at p
  obtain ⟨⟨⟨c1,c2⟩,c3⟩,c4⟩:=p
  obtain ⟨o,c⟩:=Option.isSome_iff_exists.1 c3
  have g:(Region.noSelect ops&&Region.free .any ops L i&&(Region.ready .any ops L).contains i)=true:=by rw[m,c1,c2];rfl
  have q:pick ops (i::is)=o::pick ops is:=by simp only[pick,c]
  rw[q] at h
  have e:fuel+(i::is).length=(fuel+is.length)+1:=by simp only[List.length_cons];omega
  rw[e]
  have next:∀go v,eA P J ops F0 K (pick ops is) go (bf a o.dst v)->dU P J ops Q (Knows F0) (fuel+is.length) (L.setIfInBounds i true) (bf a o.dst v) F:=fun go v d=>
   BL m b fuel is _ go _ c4 d k
  unfold eA at h
  split at h
  .rename_i hg
   exact Bc i c g hg b (next true undef h)
  .rename_i hg
   split at h
   .rename_i t x l
    split at h
    case h_2=>exact h.elim
    rename_i ad r
    split at h
    case h_2=>exact h.elim
    rename_i v d
    refine oE i v c g hg (fun F R j f=>?_) b (next _ v h)
    unfold cN
    simp only[l,r,j.fC d]
    exact f
   .rename_i x args argTypes l
    split at h
    case h_2=>exact h.elim
    rename_i fn first captured s
    obtain ⟨u,v,w,h⟩:=h
    refine oE i v c g hg (fun F R j f=>?_) b (next _ v h)
    unfold cN
    simp only[l,s]
    exact ⟨u,(w F j).mono fun z F' y=>by obtain ⟨rfl,rfl⟩:=y;exact f⟩
   .split at h
    case h_2=>exact h.elim
    rename_i v d
    exact oE i v c g hg (fun F R j f=>s4 d f) b (next _ v h)
  .exact h.elim
theorem BM:∀(b:List Nat) (L:Array Bool) (go:Bool) (a:Act) (F:aa),qP ops b L=true->eP P J ops F0 Q (pick ops b) go a F->dU P J ops Q (Knows F0) b.length L a F
 |[],L,go,a,F,c,h=>by
  simp only[qP,decide_eq_true_eq] at c
  unfold pick eP at h
  exact AM c h _
 |j::b,L,go,a,F,c,h=>by
  simp only[qP,Bool.and_eq_true,decide_eq_true_eq] at c
  obtain ⟨⟨c1,c3⟩,c4⟩:=c
  obtain ⟨o,d⟩:=Option.isSome_iff_exists.1 c3
  have e:pick ops (j::b)=o::pick ops b:=by simp only[pick,d]
  rw[e] at h
  unfold eP at h
  split at h
  .rename_i hg
   refine Be j d c1 hg ?_
   refine mX.s7 ?_ h
   rintro v F' ⟨h1,h2⟩
   exact ⟨h1,BM b _ _ _ F' c4 h2⟩
  .exact h.elim
theorem GR {Q:Ex->Act->aa->Prop}(hJ:Closed P main J)(e:P.follows .mixedOrders=true)(is b:List Nat){id:Nat}{a:Act}{F:aa}(F0:aa)(f:Knows F0 F)(d:BK ops is b=true)
  (h:eA P J ops F0 (fun c=>eP P J ops F0 (Q .normal) (pick ops b) true c F) (pick ops is) true a):Wp J (.region id ops true) Q a F:=by
 simp only[BK,Bool.and_eq_true,decide_eq_true_eq] at d
 obtain ⟨⟨⟨h1,h2⟩,h3⟩,i⟩:=d
 refine wz hJ (Knows F0) e ?_
 have:=BL (P:=P) (J:=J) (Q:=Q .normal) h1 f b.length is _ true a h2 h (fun c g=>BM b _ true c F h3 g)
 rwa [show b.length+is.length=ops.size by omega] at this
end
attribute [go_sem] pick
inductive kZ where
 |done
 |rd (i:Nat) (p:kZ)
 |one (i:Nat) (p:kZ)
 |two (i:Nat) (p:kZ) (j:Nat) (q:kZ)
inductive lZ where
 |done
 |rd (o:Oper) (p:lZ)
 |one (o:Oper) (p:lZ)
 |two (o:Oper) (p:lZ) (o':Oper) (q:lZ)
 |bad
def kZ.opers (ops:Array Oper):kZ->lZ
 | .done=>.done
 | .rd i p=>match ops[i]? with
  |some o=>.rd o (p.opers ops)
  |none=>.bad
 | .one i p=>match ops[i]? with
  |some o=>.one o (p.opers ops)
  |none=>.bad
 | .two i p j q=>match ops[i]?,ops[j]? with
  |some o,some o'=>.two o (p.opers ops) o' (q.opers ops)
  |_,_=>.bad
def kZ.len:kZ->Nat
 | .done=>0
 | .rd _ p=>p.len+1
 | .one _ p=>p.len+1
 | .two _ p _ q=>max p.len q.len+1
def gi (P:Program)(J:Goroutine->aa->Prop)(ops:Array Oper)(F0:aa)(Q:Act->aa->Prop):lZ->Bool->Act->aa->Prop
 | .done,_,a,F=>Q a F
 | .bad,_,_,_=>False
 | .rd o p,_,a,F=>match cD ops o a with
  |some false=>gi P J ops F0 Q p true (bf a o.dst undef) F
  |some true=>match o.op with
   | .load t x=>match ev a x with
    | .pointer (some ad)=>match fC P F0 t ad with
     |some v=>gi P J ops F0 Q p true (bf a o.dst v) F
     |none=>False
    |_=>False
   | .call {callee:=.value x,args, ..}=>match ev a x with
    | .func (.func fn) first captured=>aH P fn=true/\∃v,Plain P J F0 fn (first++args.map (ev a)++captured) v/\gi P J ops F0 Q p false (bf a o.dst v) F
    |_=>False
   |_=>match jz P o a with
    |some v=>gi P J ops F0 Q p true (bf a o.dst v) F
    |none=>False
  |none=>False
 | .one o p,_,a,F=>match cD ops o a with
  |some true=>cN P J o (fun v F'=>Knows F0 F'/\gi P J ops F0 Q p (!Oper.calls o) (bf a o.dst v) F') a F
  |_=>False
 | .two o p o' q,_,a,F=>(match cD ops o a with
  |some true=>cN P J o (fun v F'=>Knows F0 F'/\gi P J ops F0 Q p (!Oper.calls o) (bf a o.dst v) F') a F
  |_=>False)/\(match cD ops o' a with
  |some true=>cN P J o' (fun v F'=>Knows F0 F'/\gi P J ops F0 Q q (!Oper.calls o') (bf a o'.dst v) F') a F
  |_=>False)
theorem GU {P:Program}{J:Goroutine->aa->Prop}{ops:Array Oper}{F0:aa}{Q:Act->aa->Prop}{go:Bool}{a:Act}{F:aa}:gi P J ops F0 Q .done go a F=Q a F:=rfl
theorem GV {P:Program}{J:Goroutine->aa->Prop}{ops:Array Oper}{F0:aa}{Q:Act->aa->Prop}{o:Oper}{p:lZ}{a:Act}{F:aa}:gi P J ops F0 Q (.rd o p) true a F=match cD ops o a with
  |some false=>gi P J ops F0 Q p true (bf a o.dst undef) F
  |some true=>match o.op with
   | .load t x=>match ev a x with
    | .pointer (some ad)=>match fC P F0 t ad with
     |some v=>gi P J ops F0 Q p true (bf a o.dst v) F
     |none=>False
    |_=>False
   | .call {callee:=.value x,args, ..}=>match ev a x with
    | .func (.func fn) first captured=>aH P fn=true/\∃v,Plain P J F0 fn (first++args.map (ev a)++captured) v/\gi P J ops F0 Q p false (bf a o.dst v) F
    |_=>False
   |_=>match jz P o a with
    |some v=>gi P J ops F0 Q p true (bf a o.dst v) F
    |none=>False
  |none=>False:=(Eq.refl _).trans (Eq.refl _)
theorem GW {P:Program}{J:Goroutine->aa->Prop}{ops:Array Oper}{F0:aa}{Q:Act->aa->Prop}{o:Oper}{p:lZ}{a:Act}{F:aa}:gi P J ops F0 Q (.one o p) true a F=match cD ops o a with
  |some true=>cN P J o (fun v F'=>Knows F0 F'/\gi P J ops F0 Q p (!Oper.calls o) (bf a o.dst v) F') a F
  |_=>False:=(Eq.refl _).trans (Eq.refl _)
attribute [irreducible] gi
attribute [go_sem] GU GV GW kZ.opers
theorem BN {F:aa}{a:Addr}:∀(cs:List Value) (i:Nat),(∀j v,cs[j]?=some v->F.get (a.add (i+j))=some v)->F.dA a i cs.length=some cs
 |[],i,_=>rfl
 |v::cs,i,h=>by
  have h0:=h 0 v rfl
  rw[Nat.add_zero] at h0
  have ih:=BN cs (i+1) (fun j w hw=>by
   have:=h (j+1) w (by simpa using hw)
   rwa [show i+(j+1)=i+1+j by omega] at this)
  simp only[List.length_cons,aa.dA,h0,ih]
theorem BO {F:aa}{a:Addr}:∀(m i k:Nat) (c b:List Value),F.dA a i m=some c->F.dA a (i+m) k=some b->F.dA a i (m+k)=some (c++b)
 |0,i,k,c,b,h1,h2=>by
  simp only[aa.dA,Option.some.injEq] at h1
  subst h1
  rw[Nat.zero_add]
  simpa using h2
 |m+1,i,k,c,b,h1,h2=>by
  unfold aa.dA at h1
  split at h1
  case h_2=>cases h1
  rename_i v d
  split at h1
  case h_2=>cases h1
  rename_i e f
  cases h1
  have ih:=BO m (i+1) k e b f (by rwa [show i+1+m=i+(m+1) by omega])
  rw[show m+1+k=(m+k)+1 by omega]
  simp only[aa.dA,d,ih,List.cons_append]
theorem az.cells {T:Type}{r:b8 T}{ro:Addr->Option Value}{ad:Option Addr}{c:Nat}{l:List T}(h:az r ro (.slice ad l.length c) l)(F:aa)(t:∀a v,ro a=some v->F.get a=some v):
  ∃b:List (List Value),b.length=l.length/\(∀x∈b,x.length=r.n/\∀v∈x,bJ v=true)/\(∀(i:Nat) (x:T),l[i]?=some x->∃cs,b[i]?=some cs/\r.rel ro x cs)/\gF F r.n (.slice ad l.length c)=some b.flatten:=by
 obtain ⟨C,D,e,_,_,he⟩:=h
 cases e
 cases f:l with
 |nil=>subst f;refine ⟨[],rfl,by simp,by simp,?_⟩;cases ad<;>simp[gF,aa.dA]
 |cons u l0=>
  obtain ⟨p,E,w,-,-⟩:=he 0 u (by rw[f];rfl)
  subst w
  rw[<-f]
  have key:∀k,k<=l.length->∃b:List (List Value),b.length=k/\(∀x∈b,x.length=r.n/\∀v∈x,bJ v=true)/\(∀(i:Nat) (x:T),i<k->l[i]?=some x->∃cs,b[i]?=some cs/\r.rel ro x cs)/\F.dA p 0 (k*r.n)=some b.flatten:=by
   intro k
   induction k with
   |zero=>intro _;exact ⟨[],rfl,by simp,by simp,by simp[aa.dA]⟩
   |succ k ih=>
    intro G
    obtain ⟨b,h1,h2,h3,m⟩:=ih (by omega)
    have d:l[k]?=some l[k]:=List.getElem?_eq_getElem (by omega)
    obtain ⟨H,cs,z,o,hm⟩:=he k _ d
    cases z
    have s:=r.len o
    refine ⟨b++[cs],by simp[h1],fun y A=>?_,fun i x hi q=>?_,?_⟩
    .rcases List.mem_append.1 A with h|h
     .exact h2 y h
     .simp only[List.mem_singleton] at h;subst h;exact ⟨s,r.one o⟩
    .rcases Nat.lt_or_ge i k with h|h
     .obtain ⟨cs',a1,a2⟩:=h3 i x h q
      exact ⟨cs',by rw[List.getElem?_append_left (by omega)];exact a1,a2⟩
     .have:i=k:=by omega
      subst this
      rw[d] at q
      obtain rfl:=Option.some.inj q
      exact ⟨cs,by rw[List.getElem?_append_right (by omega)];simp[h1],o⟩
    .rw[Nat.succ_mul]
     have g:=BN (F:=F) (a:=p) cs (k*r.n) (fun j v B=>t _ _ (by have:=hm j v B;rwa [lS] at this))
     rw[s] at g
     have:=BO (k*r.n) 0 r.n b.flatten cs m (by rw[Nat.zero_add];exact g)
     rw[this]
     simp
  obtain ⟨b,h1,h2,h3,m⟩:=key l.length (Nat.le_refl _)
  exact ⟨b,h1,h2,fun i x d=>h3 i x (List.getElem?_eq_some_iff.1 d).1 d,m⟩
theorem aQ.empty {T:Type}{r:b8 T}{ro:Addr->Option Value}{e:TypeId}{b:Nat}(a:∀off sp,ro ⟨b,off,sp⟩=none):aQ r ro e (.slice (some ⟨b,0,none⟩) 0 0) [] [(b,.cells #[] e)]:=
 ⟨[],.inr ⟨b,#[],0,rfl,rfl,by simp,Nat.le_refl _,by simp,by simp,a⟩,rfl,by simp,fun i x h=>by simp at h⟩
theorem BP {ro:Addr->Option Value}{x:Nat×Obj}{l:List (Nat×Obj)}:Le ⟨ro,l++[x]⟩ ⟨ro,x::l⟩:=by
 have d:∀b,b∈keys (l++[x])↔b∈keys (x::l):=fun b=>by
  simp only[keys,List.map_append,List.map_cons,List.map_nil,List.mem_append,List.mem_cons,List.not_mem_nil,or_false];exact Or.comm
 refine ⟨fun w hw=>⟨hw.ro,fun b o hb=>hw.own b o ?_,?_,fun a v h hm=>hw.apart a v h ((d _).1 hm)⟩,fun b hb=>(d b).1 hb,fun a c=>.inl c⟩
 .rcases List.mem_append.1 hb with h|h
  .exact List.mem_cons_of_mem _ h
  .simp only[List.mem_singleton] at h;rw[h];exact List.mem_cons_self
 .have:=hw.nodup;simp only[keys,List.map_cons,List.nodup_cons] at this;simp only[keys,List.map_append,List.map_cons,List.map_nil];rw[List.nodup_append];refine ⟨this.2,by simp,fun a c b hb e=>?_⟩;simp only[List.mem_singleton] at hb;subst hb;exact this.1 (e▸c)
theorem qQ {P:Program}{T:Type}{r:b8 T}{ro:Addr->Option Value}{rest:List (Nat×Obj)}{ks:List Nat}{R:Value->aa->Prop}{argTypes:Array TypeId}{m o e y:TypeId}{f b c:Nat}{ad:Option Addr}{z:Value}{xs:List T}
  (A:∀off sp,ro ⟨b,off,sp⟩=none) (B:av rest b) (p:keys rest=ks) (hlen:xs.length<=1000000) (C:az r ro (.slice ad xs.length c) xs)
  (h0:argTypes[0]?=some m) (h1:argTypes[1]?=some o) (he:dm P m=some e) (D:dm P o=some y) (hs:bZ P e=some r.n) (E:zeroOf P e=some z) (F:z.cells.size=r.n) (hb:bytesOf P e=some f)
  (G:0<f) (H:f<=10000)
  (q:∀v g,aQ r ro e v xs g->Apart ks g->R v ⟨ro,rest++g⟩):mT P argTypes (.slice (some ⟨b,0,none⟩) 0 0) (.slice ad xs.length c) R ⟨ro,(b,.cells #[] e)::rest⟩:=by
 intro ty
 obtain ⟨d,k1,I,J,K⟩:=C.cells ⟨ro,(b,.cells #[] e)::rest⟩ (fun a v h=>by simp[aa.get,h])
 have s:∀x∈d,x.length=r.n:=fun x h=>(I x h).1
 have i:=iQ s
 refine wS (old:=[]) h0 h1 he D hs E hb G H (by simpa using hlen) (by simp[gF,aa.dA]) K (fun L=>?_) (fun L k t l u=>?_)
 .have M:xs.length=0:=by omega
  have N:xs=[]:=List.eq_nil_of_length_eq_zero M
  have O:d=[]:=List.eq_nil_of_length_eq_zero (by omega)
  subst N O
  refine .inl ⟨_,_,rfl,rfl,⟨ro,rest++[(b,.cells #[] e)]⟩,BP,q _ _ (aQ.empty A) fun k l=>?_⟩
  simp only[keys,List.map_cons,List.map_nil,List.mem_singleton] at l
  subst l
  rw[<-p]
  exact lU B
 .refine ⟨⟨ro,rest++[(t,.cells (([]:List Value).toArray++d.flatten.toArray++Builtin.zeroCells z.cells (k - (0+xs.length))) e)]⟩,BP.trans (Le.sub (.cons₂ _ (.cons _ (List.Sublist.refl _)))),q _ _ ?_ fun j w=>?_⟩
  .refine ⟨d,.inr ⟨t,_,k,by rw[k1,Nat.zero_add],rfl,?_,by omega,?_,s,u.ro⟩,k1,hlen,J⟩
   .simp only[List.nil_append,Array.size_append,List.size_toArray,List.length_nil,Builtin.zeroCells,Array.size_map,Array.size_range,i,F,k1]
    rw[Nat.zero_add,<-Nat.add_mul]
    congr 1;omega
   .simp only[Array.toList_append,List.nil_append]
    rw[List.take_append_of_le_length (by simp[i])]
    rw[List.take_of_length_le (by simp[i])]
  .simp only[keys,List.map_cons,List.map_nil,List.mem_singleton] at w
   subst w
   rw[<-p]
   exact lU u.own.2
end Go.Sep
end

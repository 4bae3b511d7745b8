/- A part of the proof: QX2. -/
import Derived.Test.YtdgblangfefjmaaGreatDoorQX1
import Derived.WalkKit
import Derived.IntWalk
import Derived.NoCompilerSame
import Derived.Test.YtdgblangfefjmaaGreatDoorProg
set_option linter.all false
section
namespace Go.Sep
open Go Go.Conc
section
variable {α β:Type}{P:Program}{Q:α->af->Prop}{F:af}
@[go_sem] theorem bP (a:α):bp P (Pure.pure a) Q F=Q a F:=rfl
@[go_sem] theorem J3 (a:α):bp P (Sem.pure a) Q F=Q a F:=rfl
@[go_sem] theorem bF {R:β->af->Prop}(x:Sem α)(f:α->Sem β):bp P (x>>= f) R F=bp P x (fun a G=>bp P (f a) R G) F:=propext (x9 x F)
@[go_sem] theorem J4 {R:β->af->Prop}(x:Sem α)(f:α->β):bp P (Functor.map f x) R F=bp P x (fun a G=>R (f a) G) F:=propext (x9 x F)
@[go_sem] theorem dH (c:Prop)[Decidable c](x y:Sem α):bp P (if c then x else y) Q F=if c then bp P x Q F else bp P y Q F:=by split<;>rfl
@[go_sem] theorem yF {Q:Value->af->Prop}(a:Addr):bp P (load a) Q F=∃v,F.get a=some v/\Q v F:=by simp[load,bp]
@[go_sem] theorem Cj {Q:Unit->af->Prop}(a:Addr)(v:Value):bp P (store a v) Q F=∃F',F.lG a v=some F'/\Q () F':=by simp[store,bp]
theorem ov {Q:Nat->af->Prop}(o:Obj):bp P (newObj o) Q F=(o.isChan=false/\∀b,ez F b->Q b (F.push b o)):=rfl
theorem jT {Q:Program->af->Prop}:bp P program Q F=Q P F:=rfl
theorem tu {Q:Nat->af->Prop}(q:Question):bp P (choose q) Q F=if q.forced then Q 0 F else ∀t,Q (q.cut t) F:=rfl
theorem mO {Q:Obj->af->Prop}(r:Nat):bp P (getObj r) Q F=∃o,F.fy r=some o/\Q o F:=rfl
theorem lJ {Q:Unit->af->Prop}(r:Nat)(o:Obj):bp P (Go.setObj r o) Q F=(o.isChan=false/\(F.fy r).isSome=true/\Q () (F.put r o)):=rfl
theorem J5 (s:String):bp P (stuck s:Sem α) Q F=False:=rfl
theorem J6 {Q:Unit->af->Prop}(m:Mark):bp P (mark m) Q F=(om m=true/\Q () F):=rfl
attribute [go_sem] ov jT tu mO lJ J5 J6
@[go_sem] theorem dO {Q:TypeDesc->af->Prop}(t:TypeId):bp P (underlying t) Q F=match P.underlying t with|some d=>Q d F|none=>False:=by
 simp only[underlying,bF,jT];cases P.underlying t<;>rfl
@[go_sem] theorem ow {Q:TypeInfo->af->Prop}(t:TypeId):bp P (typeInfo t) Q F=match P.info? t with|some d=>Q d F|none=>False:=by
 simp only[typeInfo,bF,jT];cases P.info? t<;>rfl
def bZ (P:Program)(t:TypeId):Option Nat:=(P.info? t).map (·.size)
def zeroOf (P:Program)(t:TypeId):Option Value:=(P.info? t).bind (·.zero)
def bytesOf (P:Program)(t:TypeId):Option Nat:=(P.info? t).map (·.bytes)
@[go_sem] theorem eY {Q:Nat->af->Prop}(t:TypeId):bp P (sizeOf t) Q F=match bZ P t with|some n=>Q n F|none=>False:=by
 simp only[sizeOf,bF,ow,bZ];cases P.info? t<;>rfl
@[go_sem] theorem lK {Q:Value->af->Prop}(t:TypeId):bp P (zeroValue t) Q F=match zeroOf P t with|some n=>Q n F|none=>False:=by
 simp only[zeroValue,bF,ow,zeroOf];cases P.info? t with
 |none=>rfl
 |some i=>simp only[Option.bind_some];cases i.zero<;>rfl
def cp (P:Program)(t:TypeId):Option Bool:=(P.underlying t).map fun| .struct _=>true| .array _ _=>true|_=>false
@[go_sem] theorem lM {Q:Bool->af->Prop}(t:TypeId):bp P (isAgg t) Q F=match cp P t with|some n=>Q n F|none=>False:=by
 simp only[isAgg,bF,dO,cp];cases P.underlying t with
 |none=>rfl
 |some d=>cases d<;>rfl
def af.lN (F:af)(a:Addr):Nat->List Value->Prop
 |_,[]=>True
 |i,v::b=>F.get (a.add i)=some v/\F.lN a (i+1) b
theorem tv {Q:Array Value->af->Prop}(a:Addr):∀(b:List Value) (i:Nat) (acc:Array Value),F.lN a i b->Q (acc++b.toArray) F->bp P (loadCellsFrom a i b.length acc) Q F
 |[],i,acc,_,h=>by simpa [loadCellsFrom,bP] using h
 |v::b,i,acc,hg,h=>by
  simp only[List.length_cons,loadCellsFrom,bF,yF]
  refine ⟨v,hg.1,tv a b (i+1) (acc.push v) hg.2 ?_⟩
  simpa using h
theorem Ck {Q:Value->af->Prop}{t:TypeId}{a:Addr}(b:List Value)(ht:cp P t=some true)(hs:bZ P t=some b.length)(hg:F.lN a 0 b)(h:Q (.agg b.toArray) F):bp P (loadVar t a) Q F:=by
 simp only[loadVar,bF,lM,ht,dH,if_true,eY,hs,loadCells];exact tv a b 0 #[] hg (by simpa [bP] using h)
theorem Cl {Q:Value->af->Prop}{t:TypeId}{a:Addr}(v:Value)(ht:cp P t=some false)(hg:F.get a=some v)(h:Q v F):bp P (loadVar t a) Q F:=by
 simp only[loadVar,bF,lM,ht,dH,yF];exact ⟨v,hg,h⟩
def af.ju (F:af)(a:Addr):Nat->List Value->Option af
 |_,[]=>some F
 |i,v::b=>match F.lG (a.add i) v with
  |some F'=>F'.ju a (i+1) b
  |none=>none
theorem qj {Q:Unit->af->Prop}(a:Addr):∀(b:List Value) (i:Nat) (F F':af),F.ju a i b=some F'->Q () F'->bp P (storeCells a b i) Q F
 |[],i,F,F',hg,h=>by simp only[af.ju,Option.some.injEq] at hg;subst hg;simpa [storeCells,bP] using h
 |v::b,i,F,F',hg,h=>by
  simp only[storeCells,bF,Cj]
  unfold af.ju at hg
  split at hg
  .rename_i c d
   exact ⟨c,d,qj a b (i+1) c F' hg h⟩
  .cases hg
theorem Cm {Q:Unit->af->Prop}{t:TypeId}{a:Addr}{v:Value}(F':af)(hs:bZ P t=some v.cells.size)(hg:F.ju a 0 v.cells.toList=some F')(h:Q () F'):bp P (storeVar t a v) Q F:=by
 simp only[storeVar,bF,eY,hs,ne_eq,not_true_eq_false,if_false];exact qj a _ 0 F F' hg h
@[go_sem] theorem yG {Q:Addr->af->Prop}(t:TypeId)(v:Value):bp P (newVar t v) Q F=∀b,ez F b->Q ⟨b,0,none⟩ (F.push b (.cells v.cells t)):=by
 simp only[newVar,newRow,bF,ov,bP];simp[Obj.isChan]
@[go_sem] theorem ql {Q:Addr->af->Prop}(t:TypeId)(v:Array Value):bp P (newRow t v) Q F=∀b,ez F b->Q ⟨b,0,none⟩ (F.push b (.cells v t)):=by
 simp only[newRow,bF,ov,bP];simp[Obj.isChan]
theorem oz {Q:Addr->af->Prop}(a:Addr):bp P (Instr.sureAddr (.pointer (some a))) Q F=Q a F:=rfl
theorem kH {Q:IntKind×Int->af->Prop}(k:IntKind)(n:Int):bp P (asIntOf (.int k n)) Q F=Q (k,n) F:=rfl
theorem yH {Q:Int->af->Prop}(k:IntKind)(n:Int):bp P (asInt (.int k n)) Q F=Q n F:=rfl
theorem Cn {Q:Bool->af->Prop}(b:Bool):bp P (asBool (.bool b)) Q F=Q b F:=rfl
theorem Co {Q:Array Value->af->Prop}(b:Array Value):bp P (asAgg (.agg b)) Q F=Q b F:=rfl
attribute [go_sem] oz kH yH Cn Co
end
def slot (a:Act)(i:Nat):Value:=a.tmps.getD i undef
def sz (a:Act):Nat:=a.tmps.size
def bq (a:Act)(d:Option Tmp)(v:Value):Act:=a.put d v
def ev (a:Act)(x:Operand):Value:=a.eval x
theorem J7 (a:Act)(t:Nat):ev a (.tmp t)=slot a t:=rfl
theorem J8 (a:Act)(v:Value):ev a (.const v)=v:=rfl
theorem J9 (a:Act)(g:Nat):ev a (.global g)= .pointer (some ⟨g,0,none⟩):=rfl
theorem Ka (a:Act)(f:Nat):ev a (.func f)= .func (.func f) #[] #[]:=rfl
theorem Kb (a:Act)(v:Value):bq a none v=a:=rfl
attribute [go_sem] J7 J8 J9 Ka Kb
@[go_sem] theorem yI (a:Act)(d:Option Tmp)(v:Value):sz (bq a d v)=sz a:=by cases d<;>simp[sz,bq,Act.put]
theorem Cp (a:Act)(d:Nat)(v:Value)(h:d<sz a):slot (bq a (some d) v) d=v:=by
 simp only[sz] at h;simp[slot,bq,Act.put,h]
theorem tw (a:Act)(d i:Nat)(v:Value)(h:¬d=i):slot (bq a (some d) v) i=slot a i:=by
 simp[slot,bq,Act.put,Array.getElem?_setIfInBounds_ne h]
@[go_sem] theorem Kc (a:Act)(d i:Nat)(v:Value)(h:d<sz a):slot (bq a (some d) v) i=if d=i then v else slot a i:=by
 split
 .rename_i e;subst e;exact Cp a d v h
 .rename_i e;exact tw a d i v e
@[go_sem] theorem yJ (a:Act)(d:Option Tmp)(v:Value):(bq a d v).defers=a.defers:=by cases d<;>rfl
theorem aA.start {P:Program}{f:FuncId}{fn:Func}{c:Code}{n:Nat}{args:Array Value}{F:af}{R:Value->af->Prop}(d:P.funcs[f]?=some fn)(hb:fn.body=some c)(b:fn.ntmps=n)(e:args.size<=n)
  (h:∀main J,Closed P main J->∀A:Act,sz A=n->A.defers=[]->(∀i,slot A i=args.getD i undef)->Wp J c (qg P fn R) A F):aA P f args F R:=
 aA.of_wp d hb fun main J hJ=>h main J hJ _ (by simp[sz,b];omega) rfl fun i=>by
  simp only[slot,b,Array.getD_eq_getD_getElem?]
  rcases Nat.lt_or_ge i args.size with a|a
  .rw[Array.getElem?_append_left a]
  .rw[Array.getElem?_append_right a,Array.getElem?_replicate,Array.getElem?_eq_none a]
   split<;>rfl
def c9 (P:Program)(t:TypeId):Option TypeId:=match P.underlying t with|some (.slice e)=>some e|_=>none
def jU (P:Program)(t:TypeId):Option (Nat×TypeId):=match P.underlying t with|some (.array n e)=>some (n,e)|_=>none
def cu (P:Program)(t:TypeId)(n:Nat):Option Nat:=
 match P.underlying t with
 |some (.struct a)=>match a[n]? with
  |some f=>match bZ P f.type with
   |some (_+1)=>some f.offset
   |_=>none
  |none=>none
 |_=>none
def tA (P:Program)(t:TypeId)(n:Nat):Option (Nat×Nat×Bool):=
 match P.underlying t with
 |some (.struct a)=>match a[n]? with
  |some f=>match bZ P f.type,cp P f.type with
   |some s,some g=>some (f.offset,s,g)
   |_,_=>none
  |none=>none
 |_=>none
def placesOf (P:Program)(t:TypeId):Option (List (Nat×Nat)):=
 match P.underlying t with
 |some (.struct a)=>a.toList.mapM fun f=>(bZ P f.type).map fun s=>(f.offset,s)
 |_=>none
def aN (P:Program)(f:FuncId):Bool:=match P.funcs[f]? with|some fn=>!(fn.body.isNone||fn.name== "runtime.NumGoroutine")|none=>false
def af.dP (F:af)(a:Addr):Nat->Nat->Option (List Value)
 |_,0=>some []
 |i,n+1=>match F.get (a.add i) with
  |some v=>match F.dP a (i+1) n with
   |some b=>some (v::b)
   |none=>none
  |none=>none
theorem tB (F:af)(a:Addr):∀(n i:Nat) (b:List Value),F.dP a i n=some b->F.lN a i b/\b.length=n
 |0,i,b,h=>by simp only[af.dP,Option.some.injEq] at h;subst h;exact ⟨trivial,rfl⟩
 |n+1,i,b,h=>by
  unfold af.dP at h
  split at h
  .rename_i v c
   split at h
   .rename_i ws d
    cases h
    obtain ⟨e,f⟩:=tB F a n (i+1) ws d
    exact ⟨⟨c,e⟩,by simp[f]⟩
   .cases h
  .cases h
def fC (P:Program)(F:af)(t:TypeId)(ad:Addr):Option Value:=
 match cp P t with
 |some false=>F.get ad
 |some true=>match bZ P t with
  |some n=>match F.dP ad 0 n with
   |some a=>some (.agg a.toArray)
   |none=>none
  |none=>none
 |none=>none
def qm (P:Program)(F:af)(t:TypeId)(ad:Addr)(v:Value):Option af:=
 match bZ P t with
 |some n=>if n=v.cells.size then F.ju ad 0 v.cells.toList else none
 |none=>none
theorem yK {P:Program}{F:af}{t:TypeId}{ad:Addr}{v:Value}{Q:Value->af->Prop}(h:fC P F t ad=some v)(a:Q v F):bp P (loadVar t ad) Q F:=by
 unfold fC at h;split at h
 .rename_i hg;exact Cl v hg h a
 .rename_i hg;split at h
  .rename_i n c;split at h
   .rename_i b d;cases h;obtain ⟨e,f⟩:=tB F ad n 0 b d;exact Ck b hg (by rw[c,f]) e a
   .cases h
  .cases h
 .cases h
theorem Cq {P:Program}{F F':af}{t:TypeId}{ad:Addr}{v:Value}{Q:Unit->af->Prop}(h:qm P F t ad v=some F')(a:Q () F'):bp P (storeVar t ad v) Q F:=by
 unfold qm at h;split at h
 .rename_i n b;split at h
  .rename_i e;exact Cm F' (by rw[b,e]) h a
  .cases h
 .cases h
def mP (op:BinOp):Value->Value->Option Value
 | .int k a,.int c b=>if k=c then match op with
   | .add=>some (.int k (k.wrap (a+b)))
   | .sub=>some (.int k (k.wrap (a - b)))
   | .mul=>some (.int k (k.wrap (a*b)))
   | .quo=>if b=0 then none else some (.int k (k.wrap (a.tdiv b)))
   | .rem=>if b=0 then none else some (.int k (a.tmod b))
   | .eql=>some (.bool (a==b))
   | .neq=>some (.bool (a != b))
   | .lss=>some (.bool (decide (a<b)))
   | .leq=>some (.bool (decide (a<=b)))
   | .gtr=>some (.bool (decide (a>b)))
   | .geq=>some (.bool (decide (a≥b)))
   | .shl=>if b<0 then none else some (.int k (k.wrap (a*2 ^ min b.toNat k.bits)))
   | .shr=>if b<0 then none else some (.int k (a.fdiv (2 ^ min b.toNat k.bits)))
   | .and=>some (.int k (k.wrap (BitVec.ofInt k.bits a&&& BitVec.ofInt k.bits b).toNat))
   | .or=>some (.int k (k.wrap (BitVec.ofInt k.bits a|||BitVec.ofInt k.bits b).toNat))
   | .andNot=>some (.int k (k.wrap (BitVec.ofInt k.bits a&&& ~~~(BitVec.ofInt k.bits b)).toNat))
   | .xor=>some (.int k (k.wrap (BitVec.ofInt k.bits a ^^^ BitVec.ofInt k.bits b).toNat))
  else none
 |_,_=>none
theorem iS {P:Program}{s:Sem Value}{Q:Next->af->Prop}{F:af}:bp P (do pure (Next.value (<-s)):Sem Next) Q F=bp P s (fun v G=>Q (.value v) G) F:=by
 simp only[bF,bP]
theorem tC {P:Program}(op:BinOp)(t:TypeId)(x y:Operand)(k c:IntKind)(a b:Int){Q:Unit->af->Prop}{F:af}(h:Q () F):bp P (eqGuard op t x y (.int k a) (.int c b)) Q F:=by
 unfold eqGuard;cases op<;>simp<;>exact h
theorem Cr {P:Program}{op:BinOp}{t:TypeId}{x y:Operand}{u v w:Value}{Q:Value->af->Prop}{F:af}(h:mP op u v=some w)(c:Q w F):bp P (do eqGuard op t x y u v;binOp op t u v) Q F:=by
 unfold mP at h;split at h
 case h_2=>cases h
 rename_i k a e b;split at h
 case isFalse=>cases h
 rename_i d;subst d;rw[bF];refine tC op t x y k k a b ?_;cases op<;>simp only[binOp,ne_eq,not_true_eq_false,if_false,Op.intArith,Op.intDiv,Op.intCmp,Op.intBits,Op.shift,dH] at h ⊢<;>first
  |(cases h;done)
  |(cases h;exact c)
  |(split at h
    .cases h
    .rename_i hb;rw[if_neg hb];cases h;exact c)
def lO (op:UnOp):Value->Option Value
 | .int k a=>match op with
  | .neg=>some (.int k (k.wrap (0 - a)))
  |_=>none
 | .bool b=>match op with
  | .not=>some (.bool (!b))
  |_=>none
 |_=>none
theorem Cs {P:Program}{op:UnOp}{u w:Value}{Q:Value->af->Prop}{F:af}(h:lO op u=some w)(a:Q w F):bp P (Op.unary op u) Q F:=by
 cases u<;>cases op<;>simp only[lO] at h<;>first|(cases h;done)|(cases h;exact a)
def qn:Value->Value->Option Value
 | .int k x,.int _ y=>some (.int k (if y>x then y else x))
 |_,_=>none
def qo:Value->Value->Option Value
 | .int k x,.int _ y=>some (.int k (if y<x then y else x))
 |_,_=>none
def oA (P:Program)(t:TypeId):Value->Value->Option Value
 | .slice (some ad) len _,.int _ i=>match c9 P t with
  |some e=>match bZ P e with
   |some n=>if 0<=i/\i<(len:Int) then some (.pointer (some (ad.add (i.toNat*n)))) else none
   |none=>none
  |none=>none
 | .pointer (some ad),.int _ i=>match jU P t with
  |some (len,e)=>match bZ P e with
   |some n=>if 0<=i/\i<(len:Int) then some (.pointer (some (ad.add (i.toNat*n)))) else none
   |none=>none
  |none=>none
 |_,_=>none
theorem Ct {P:Program}{t:TypeId}{u v w:Value}{Q:Value->af->Prop}{F:af}(h:oA P t u v=some w)(d:Q w F):bp P (Instr.indexAt t u v) Q F:=by
 unfold oA at h;split at h
 .rename_i ad len cap k i;split at h
  case h_2=>cases h
  rename_i e he;split at h
  case h_2=>cases h
  rename_i n a;split at h
  case isFalse=>cases h
  rename_i b;cases h;have hu:P.underlying t=some (.slice e):=by
   unfold c9 at he;split at he
   .rename_i f c;cases he;exact c
   .cases he
  simp only[Instr.indexAt,bF,kH,dO,hu,bP,dH,if_pos b,eY,a];exact d
 .rename_i ad k i;split at h
  case h_2=>cases h
  rename_i len e he;split at h
  case h_2=>cases h
  rename_i n a;split at h
  case isFalse=>cases h
  rename_i b;cases h;have hu:P.underlying t=some (.array len e):=by
   unfold jU at he;split at he
   .rename_i g f c;cases he;exact c
   .cases he
  simp only[Instr.indexAt,bF,kH,dO,hu,bP,oz,dH,if_pos b,eY,a];exact d
 .cases h
def lP (P:Program)(t:TypeId)(x:Value)(a b:Option Value):Option Value:=
 match x,c9 P t with
 | .slice ad len cap,some e=>match bZ P e with
  |some n=>
   match (match a with|none=>some 0|some (.int _ i)=>if 0<=i then some i.toNat else none|_=>none),(match b with|none=>some len|some (.int _ i)=>if 0<=i then some i.toNat else none|_=>none) with
   |some l,some h=>if l<=h/\h<=cap then some (.slice (if cap=l then ad else ad.map (·.add (l*n))) (h - l) (cap - l)) else none
   |_,_=>none
  |none=>none
 | .pointer (some ad),none=>match jU P t,a,b with
  |some (n,e),none,none=>match bZ P e with
   |some _=>some (.slice (some ad) n n)
   |none=>none
  |_,_,_=>none
 |_,_=>none
theorem Cu {P:Program}{t:TypeId}{x w:Value}{d g:Option Value}{Q:Value->af->Prop}{F:af}(hlen:∀ad len cap,x= .slice ad len cap->len<=cap)(h:lP P t x d g=some w)(c:Q w F):bp P (Instr.sliceAt t x d g none) Q F:=by
 unfold lP at h;split at h
 case h_3=>cases h
 case h_2=>
  rename_i ad _;split at h
  case h_2=>cases h
  rename_i n e he;have hu:P.underlying t=some (.array n e):=by
   unfold jU at he;split at he
   .rename_i u p m;cases he;exact m
   .cases he
  split at h
  case h_2=>cases h
  rename_i sz hs;cases h;simp only[Instr.sliceAt,bF,dO,hu,oz,Instr.sliceBounds,bP,eY,hs,Nat.zero_mul,Nat.sub_zero];have:(if n=0 then ad else ad.add 0)=ad:=by split<;>rfl
  rw[this];exact c
 rename_i ad len cap e he;have y:=hlen ad len cap rfl;have hu:P.underlying t=some (.slice e):=by
  unfold c9 at he;split at he
  .rename_i p m;cases he;exact m
  .cases he
 split at h
 case h_2=>cases h
 rename_i n f;split at h
 case h_2=>cases h
 rename_i l z a b;split at h
 case isFalse=>cases h
 rename_i hb;cases h;simp only[Instr.sliceAt,bF,dO,hu,Instr.slice,Instr.sliceBounds,bP];cases g with
 |none=>
  simp only[Option.some.injEq] at b;subst b;simp only[bP];cases d with
  |none=>
   simp only[Option.some.injEq] at a;subst a;simp only[bP,eY,f];exact c
  |some v=>
   cases v<;>simp only[reduceCtorEq] at a;rename_i k i;split at a
   case isFalse=>cases a
   rename_i o;cases a;have:0<=i/\i<=(len:Int):=⟨o,aa⟩
   simp only[Instr.sliceBound,bF,kH,dH,if_pos this,bP,eY,f];exact c
 |some v=>
  cases v<;>simp only[reduceCtorEq] at b;rename_i k i;split at b
  case isFalse=>cases b
  rename_i o;cases b;have q:0<=i/\i<=(cap:Int):=⟨o,aa⟩
  simp only[Instr.sliceBound,bF,kH,dH,if_pos q,bP];cases d with
  |none=>
   simp only[Option.some.injEq] at a;subst a;simp only[bP,eY,f];exact c
  |some v=>
   cases v<;>simp only[reduceCtorEq] at a;rename_i A j;split at a
   case isFalse=>cases a
   rename_i r;cases a;have s:0<=j/\j<=((i.toNat:Nat):Int):=⟨r,aa⟩
   simp only[bF,kH,dH,if_pos s,bP,eY,f];exact c
def gH:List Value->List Value->Option Bool
 |[],[]=>some true
 | .int k a::xs,.int c b::ys=>if k=c then match gH xs ys with
   |some r=>some (a==b&&r)
   |none=>none
  else none
 | .bool a::xs,.bool b::ys=>match gH xs ys with
   |some r=>some (a==b&&r)
   |none=>none
 |_,_=>none
theorem qp:∀{xs ys:List Value} {us b:List Value} {r:Bool},xs.length=ys.length->gH (xs++us) (ys++b)=some r->∃r1 r2,gH xs ys=some r1/\gH us b=some r2/\r=(r1&&r2)
 |[],[],us,b,r,_,h=>⟨true,r,rfl,h,av⟩
 |[],y::ys,_,_,_,a,_=>by simp at a
 |x::xs,[],_,_,_,a,_=>by simp at a
 |x::xs,y::ys,us,b,r,a,h=>by
  have f:xs.length=ys.length:=by simpa using a
  cases x<;>cases y<;>simp only[List.cons_append,gH,reduceCtorEq] at h ⊢
  .split at h
   .rename_i g c
    obtain ⟨r1,r2,d,e,rfl⟩:=qp f c
    cases h
    exact ⟨_,r2,by rw[d],e,by rw[Bool.and_assoc]⟩
   .cases h
  .split at h
   .rename_i i
    split at h
    .rename_i g c
     obtain ⟨r1,r2,d,e,rfl⟩:=qp f c
     cases h
     exact ⟨_,r2,by rw[if_pos i,d],e,by rw[Bool.and_assoc]⟩
    .cases h
   .cases h
def Kd:List Bool->List Value->Prop
 |[],[]=>True
 |true::ks,.int _ _::xs=>Kd ks xs
 |false::ks,.bool _::xs=>Kd ks xs
 |_,_=>False
theorem Kd.length:∀{ks:List Bool} {xs:List Value},Kd ks xs->xs.length=ks.length
 |[],[],_=>rfl
 |[],x::xs,h=>by simp[Kd] at h
 |k::ks,[],h=>by cases k<;>simp[Kd] at h
 |k::ks,x::xs,h=>by
  have:Kd ks xs:=by cases k<;>cases x<;>simp only[Kd] at h<;>exact h
  simp[Kd.length this]
theorem Kd.split:∀{ks:List Bool} {ls:List Bool} {xs:List Value},Kd (ks++ls) xs->Kd ks (xs.take ks.length)/\Kd ls (xs.drop ks.length)
 |[],_,_,h=>⟨by simp[Kd],by simpa using h⟩
 |k::ks,ls,[],h=>by cases k<;>simp[Kd] at h
 |k::ks,ls,x::xs,h=>by
  cases k<;>cases x<;>simp only[List.cons_append,Kd] at h
  all_goals
   obtain ⟨a,b⟩:=Kd.split h
   exact ⟨by simpa [Kd] using a,by simpa using b⟩
def oB (P:Program)(g:TypeId->Option (List Bool)):List Field->Nat->Option (List Bool)
 |[],_=>some []
 |f::a,off=>if f.name≠ "_"/\f.offset=off then match g f.type with
   |some ks=>if bZ P f.type=some ks.length then match oB P g a (off+ks.length) with
     |some ls=>some (ks++ls)
     |none=>none
    else none
   |none=>none
  else none
def jV (P:Program):Nat->TypeId->Option (List Bool)
 |0,_=>none
 |d+1,t=>match P.underlying t with
  |some .bool=>if cp P t=some false then some [false] else none
  |some (.int _)=>if cp P t=some false then some [true] else none
  |some (.struct a)=>if cp P t=some true/\P.stoodInHeld t=false then oB P (jV P d) a.toList 0 else none
  |some (.array n e)=>if cp P t=some true then match jV P d e with
    |some ks=>if bZ P e=some ks.length then some (List.replicate n ks).flatten else none
    |none=>none
   else none
  |_=>none
def Sc (v:Value):Prop:=(∃k a,v= .int k a)\/∃b,v= .bool b
theorem Kd.sc:∀{ks:List Bool} {xs:List Value},Kd ks xs->∀x∈xs,Sc x
 |[],[],_=>by simp
 |[],x::xs,h=>by simp[Kd] at h
 |k::ks,[],h=>by simp
 |k::ks,x::xs,h=>by
  have:Sc x/\Kd ks xs:=by cases k<;>cases x<;>simp only[Kd] at h<;>first|exact ⟨.inl ⟨_,_,rfl⟩,h⟩|exact ⟨.inr ⟨_,rfl⟩,h⟩
  simpa using ⟨this.1,Kd.sc this.2⟩
theorem Sc.cells {v:Value}(h:Sc v):v.cells=#[v]:=by
 rcases h with ⟨k,a,rfl⟩|⟨b,rfl⟩<;>rfl
def Shape (P:Program)(t:TypeId)(v:Value):Prop:=(cp P t=some true->∃xs,v= .agg xs)/\(cp P t=some false->Sc v)
section
variable {P:Program}
theorem qq {t:TypeId}{xs:Array Value}{off m:Nat}{g:Bool}{Q:Value->af->Prop}{F:af}(hg:cp P t=some g)(hs:bZ P t=some m)(hm:g=false->m=1)(e:off+m<=xs.size)
  (d:∀x∈xs.toList,Sc x) (h:∀v,v.cells.toList=(xs.toList.drop off).take m->Shape P t v->Q v F):bp P (part t xs off) Q F:=by
 simp only[part,bF,lM,hg,dH]
 cases g with
 |true=>
  simp only[if_true,bF,eY,hs,bP]
  refine h _ ?_ ⟨fun _=>⟨_,rfl⟩,fun a=>by rw[hg] at a;cases a⟩
  simp only[Value.cells,Array.toList_extract,List.extract_eq_take_drop]
  congr 1;omega
 |false=>
  have:=hm rfl
  subst this
  have b:off<xs.size:=aa
  simp only[Bool.false_eq_true,if_false,Array.getElem?_eq_getElem b,bP]
  have c:=d xs[off] av
  refine h _ ?_ ⟨fun a=>(by rw[hg] at a;cases a),fun _=>c⟩
  rw[c.cells]
  have:off<xs.toList.length:=by simpa using b
  rw[List.drop_eq_getElem_cons this]
  simp
def tD (P:Program)(d:Nat)(t:TypeId)(ks:List Bool):Prop:=
 ∀(u v:Value) (r:Bool) (Q:Bool->af->Prop) (F:af),Shape P t u->Shape P t v->Kd ks u.cells.toList->Kd ks v.cells.toList->gH u.cells.toList v.cells.toList=some r->Q r F->bp P (Op.equalIn d t u v) Q F
theorem yL {d t:Nat}{ks:List Bool}(h:jV P d t=some ks):∃g,cp P t=some g/\(g=false->ks.length=1):=by
 cases d with
 |zero=>cases h
 |succ d=>
  unfold jV at h;split at h
  .split at h
   .rename_i hg;cases h;exact ⟨_,hg,fun _=>rfl⟩
   .cases h
  .split at h
   .rename_i hg;cases h;exact ⟨_,hg,fun _=>rfl⟩
   .cases h
  .split at h
   .rename_i hg;exact ⟨true,hg.1,fun x=>by cases x⟩
   .cases h
  .split at h
   .rename_i hg;exact ⟨true,hg,fun x=>by cases x⟩
   .cases h
  .cases h
theorem yM {d:Nat}(ih:∀t ks,jV P d t=some ks->tD P d t ks){xs ys:Array Value}{Q:Bool->af->Prop}{F:af}(n:∀x∈xs.toList,Sc x)(o:∀x∈ys.toList,Sc x):
  ∀(c:List Field) (off:Nat) (ks:List Bool) (r:Bool),oB P (jV P d) c off=some ks->Kd ks (xs.toList.drop off)->Kd ks (ys.toList.drop off)->gH (xs.toList.drop off) (ys.toList.drop off)=some r->off<=xs.size->off<=ys.size->Q r F->
  bp P (do
   let x<-forIn c ((none,()):Option Bool×Unit) fun f _=>do
    if f.name≠ "_" then
     if (!(<-Op.equalIn d f.type (<-part f.type xs f.offset) (<-part f.type ys f.offset)))=true then pure (ForInStep.done (some false,())) else pure (ForInStep.yield (none,()))
    else pure (ForInStep.yield (none,()))
   match x.fst with
    |some a=>pure a
    |none=>pure true:Sem Bool) Q F
 |[],off,ks,r,b,e,h,he,_,_,i=>by
  simp only[oB,Option.some.injEq] at b
  subst b
  have j:=e.length
  have l:=h.length
  rw[List.eq_nil_of_length_eq_zero j,List.eq_nil_of_length_eq_zero l] at he
  cases he
  simp only[List.forIn_nil,bF,bP]
  exact i
 |f::c,off,ks,r,b,e,h,he,G,H,i=>by
  unfold oB at b
  split at b
  case isFalse=>cases b
  rename_i m
  obtain ⟨m,rfl⟩:=m
  split at b
  case h_2=>cases b
  rename_i k p
  split at b
  case isFalse=>cases b
  rename_i hs
  split at b
  case h_2=>cases b
  rename_i ls z
  cases b
  obtain ⟨g,hg,q⟩:=yL p
  have A:=e.length
  have B:=h.length
  simp only[List.length_drop,Array.length_toList,List.length_append] at A B
  obtain ⟨C,s⟩:=e.split
  obtain ⟨D,w⟩:=h.split
  rw[List.drop_drop] at s w
  have e1:xs.toList.drop f.offset=(xs.toList.drop f.offset).take k.length++xs.toList.drop (f.offset+k.length):=by
   rw[<-List.drop_drop,List.take_append_drop]
  have e2:ys.toList.drop f.offset=(ys.toList.drop f.offset).take k.length++ys.toList.drop (f.offset+k.length):=by
   rw[<-List.drop_drop,List.take_append_drop]
  rw[e1,e2] at he
  obtain ⟨r1,r2,j,l,rfl⟩:=qp (by simp;omega) he
  simp only[List.forIn_cons,bF,if_pos m]
  refine qq hg hs q aa n fun u hu E=>?_
  refine qq hg hs q aa o fun v y sv=>?_
  refine ih _ _ p u v r1 _ F E sv (by rw[hu];exact C) (by rw[y];exact D) (by rw[hu,y];exact j) ?_
  cases r1 with
  |false=>simpa [bP,dH] using i
  |true=>
   have:=yM ih n o c (f.offset+k.length) ls r2 z s w l aa aa (Q:=Q) (F:=F) (by simpa using i)
   simpa [bP,dH,bF] using this
theorem yN {d e k:Nat}{ks:List Bool}{g:Bool}(t:tD P d e ks)(h:ks.length=k)(hg:cp P e=some g)(j:g=false->ks.length=1)(hs:bZ P e=some ks.length){xs ys:Array Value}{Q:Bool->af->Prop}{F:af}(w:∀x∈xs.toList,Sc x)(y:∀x∈ys.toList,Sc x):
  ∀(n i:Nat) (r:Bool),Kd (List.replicate n ks).flatten (xs.toList.drop (i*k))->Kd (List.replicate n ks).flatten (ys.toList.drop (i*k))->gH (xs.toList.drop (i*k)) (ys.toList.drop (i*k))=some r->i*k<=xs.size->i*k<=ys.size->Q r F->
  bp P (do
   let x<-forIn (List.range' i n) ((none,()):Option Bool×Unit) fun i _=>do
    if (!(<-Op.equalIn d e (<-part e xs (i*k)) (<-part e ys (i*k))))=true then pure (ForInStep.done (some false,())) else pure (ForInStep.yield (none,()))
   match x.fst with
    |some a=>pure a
    |none=>pure true:Sem Bool) Q F
 |0,i,r,b,c,he,_,_,f=>by
  have l:=b.length
  have m:=c.length
  rw[List.eq_nil_of_length_eq_zero l,List.eq_nil_of_length_eq_zero m] at he
  cases he
  simp only[List.range'_zero,List.forIn_nil,bF,bP]
  exact f
 |n+1,i,r,b,c,he,E,G,f=>by
  have o:(i+1)*k=i*k+k:=by simp only[Nat.add_mul,Nat.one_mul]
  have B:=b.length
  have C:=c.length
  simp only[List.replicate_succ,List.flatten_cons,List.length_drop,Array.length_toList,List.length_append] at B C
  simp only[List.replicate_succ,List.flatten_cons] at b c
  obtain ⟨z,p⟩:=b.split
  obtain ⟨A,q⟩:=c.split
  rw[h] at z p A q
  rw[List.drop_drop,<-o] at p q
  have e1:xs.toList.drop (i*k)=(xs.toList.drop (i*k)).take k++xs.toList.drop ((i+1)*k):=by
   rw[o,<-List.drop_drop,List.take_append_drop]
  have e2:ys.toList.drop (i*k)=(ys.toList.drop (i*k)).take k++ys.toList.drop ((i+1)*k):=by
   rw[o,<-List.drop_drop,List.take_append_drop]
  rw[e1,e2] at he
  obtain ⟨r1,r2,l,m,rfl⟩:=qp (by simp;omega) he
  simp only[List.range'_succ,List.forIn_cons,bF]
  refine qq hg hs j aa w fun u hu D=>?_
  refine qq hg hs j aa y fun v s sv=>?_
  rw[h] at hu s
  refine t u v r1 _ F D sv (by rw[hu];exact z) (by rw[s];exact A) (by rw[hu,s];exact l) ?_
  cases r1 with
  |false=>simpa [bP,dH] using f
  |true=>
   have:=yN t h hg j hs w y n (i+1) r2 p q m aa aa (Q:=Q) (F:=F) (by simpa using f)
   simpa [bP,dH,bF] using this
theorem tE:∀(d t:Nat) (ks:List Bool),jV P d t=some ks->tD P d t ks
 |0,_,_,h=>by cases h
 |d+1,t,ks,h=>by
  intro u v r Q F i sv hu c he j
  unfold jV at h
  split at h
  .rename_i f
   split at h
   case isFalse=>cases h
   rename_i hg
   cases h
   have a1:=i.2 hg
   have a2:=sv.2 hg
   rw[a1.cells] at he hu
   rw[a2.cells] at he c
   simp only[Op.equalIn,bF,dO,f]
   rcases a1 with ⟨k,a,rfl⟩|⟨a,rfl⟩<;>rcases a2 with ⟨m,b,rfl⟩|⟨b,rfl⟩<;>simp[Kd] at hu c
   simp[gH] at he
   subst he
   simpa [bP] using j
  .rename_i f
   split at h
   case isFalse=>cases h
   rename_i hg
   cases h
   have a1:=i.2 hg
   have a2:=sv.2 hg
   rw[a1.cells] at he hu
   rw[a2.cells] at he c
   simp only[Op.equalIn,bF,dO,f]
   rcases a1 with ⟨k,a,rfl⟩|⟨a,rfl⟩<;>rcases a2 with ⟨m,b,rfl⟩|⟨b,rfl⟩<;>simp[Kd] at hu c
   simp[gH] at he
   obtain ⟨l,rfl⟩:=he
   simpa [bP,dH,l] using j
  .rename_i o f
   split at h
   case isFalse=>cases h
   rename_i hg
   obtain ⟨hg,p⟩:=hg
   obtain ⟨xs,rfl⟩:=i.1 hg
   obtain ⟨ys,rfl⟩:=sv.1 hg
   simp only[Op.equalIn,bF,dO,f,jT,p,Bool.false_eq_true,if_false,dH,bP]
   have:=yM (P:=P) (d:=d) (fun t ks q=>tE d t ks q) (xs:=xs) (ys:=ys) (Q:=Q) (F:=F) hu.sc c.sc o.toList 0 ks r h (by simpa [Value.cells] using hu) (by simpa [Value.cells] using c) (by simpa [Value.cells] using he) aa aa j
   rw[<-Array.forIn_toList]
   simp[bF] at this ⊢
   exact gW (fun a G h=>by rcases a with ⟨_|_,_⟩<;>exact h) _ _ this
  .rename_i n e f
   split at h
   case isFalse=>cases h
   rename_i hg
   split at h
   case h_2=>cases h
   rename_i k l
   split at h
   case isFalse=>cases h
   rename_i hs
   cases h
   obtain ⟨xs,rfl⟩:=i.1 hg
   obtain ⟨ys,rfl⟩:=sv.1 hg
   obtain ⟨g,s,w⟩:=yL l
   simp only[Op.equalIn,bF,dO,f,eY,hs]
   have:=yN (P:=P) (d:=d) (tE d e k l) rfl s w hs (xs:=xs) (ys:=ys) (Q:=Q) (F:=F) hu.sc c.sc n 0 r (by simpa [Value.cells] using hu) (by simpa [Value.cells] using c) (by simpa [Value.cells] using he) av av j
   simp only[Std.Legacy.Range.forIn_eq_forIn_range',Std.Legacy.Range.size,Nat.sub_zero,Nat.add_one_sub_one,Nat.div_one]
   simp[bF] at this ⊢
   exact gW (fun a G h=>by rcases a with ⟨_|_,_⟩<;>exact h) _ _ this
  .cases h
def iT:List Bool->List Value->Bool
 |[],[]=>true
 |true::ks,.int _ _::xs=>iT ks xs
 |false::ks,.bool _::xs=>iT ks xs
 |_,_=>false
theorem tF:∀{ks:List Bool} {xs:List Value},iT ks xs=true->Kd ks xs
 |[],[],_=>trivial
 |[],x::xs,h=>by simp[iT] at h
 |k::ks,[],h=>by cases k<;>simp[iT] at h
 |k::ks,x::xs,h=>by
  cases k<;>cases x<;>first
   |(simp only[iT,reduceCtorEq,Bool.false_eq_true] at h;done)
   |exact tF (ks:=ks) (xs:=xs) (by simpa only[iT] using h)
def lQ (P:Program)(t:TypeId):Option (List Bool):=if P.eqGuardType P.depth t=false/\cp P t=some true then jV P Op.maxDepth t else none
def lR (P:Program)(t:TypeId):Value->Value->Option Bool
 | .agg xs,.agg ys=>match lQ P t with
  |some ks=>if iT ks xs.toList&&iT ks ys.toList then gH xs.toList ys.toList else none
  |none=>none
 |_,_=>none
theorem tG {t:TypeId}{u v:Value}{r:Bool}{Q:Bool->af->Prop}{F:af}(h:lR P t u v=some r)(c:Q r F):bp P (Op.equal t u v) Q F/\P.eqGuardType P.depth t=false/\(∃xs,u= .agg xs)/\∃ys,v= .agg ys:=by
 unfold lR at h;split at h
 case h_2=>cases h
 rename_i xs ys;split at h
 case h_2=>cases h
 rename_i ks a;split at h
 case isFalse=>cases h
 rename_i b;simp only[Bool.and_eq_true] at b;unfold lQ at a;split at a
 case isFalse=>cases a
 rename_i hg;refine ⟨?_,hg.1,⟨_,rfl⟩,_,rfl⟩;exact tE _ _ _ a _ _ r Q F ⟨fun _=>⟨_,rfl⟩,fun x=>by rw[hg.2] at x;cases x⟩ ⟨fun _=>⟨_,rfl⟩,fun x=>by rw[hg.2] at x;cases x⟩ (tF b.1) (tF b.2) h c
def tH (P:Program)(t:TypeId):Bool:=match P.underlying t with|some .bool=>true|_=>false
def jW (P:Program)(t:TypeId):Bool:=match P.underlying t with|some (.slice _)=>true|_=>false
def oC (P:Program)(t:TypeId):Value->Value->Option Bool
 | .bool a,.bool b=>if tH P t=true then some (a==b) else none
 | .slice none _ _,.slice b _ _=>if jW P t=true then some b.isNone else none
 | .slice (some _) _ _,.slice none _ _=>if jW P t=true then some false else none
 |_,_=>none
theorem yO {t:TypeId}{u v:Value}{r:Bool}{Q:Bool->af->Prop}{F:af}(h:oC P t u v=some r)(e:Q r F):bp P (Op.equal t u v) Q F/\((∃a b,u= .bool a/\v= .bool b)\/∃a n c b m d,u= .slice a n c/\v= .slice b m d):=by
 obtain ⟨d,hd⟩:∃d,Op.maxDepth=d+1:=⟨_,rfl⟩
 unfold oC at h;split at h
 .split at h
  .rename_i hb;cases h;unfold tH at hb;split at hb
   .rename_i hu;refine ⟨?_,.inl ⟨_,_,rfl,rfl⟩⟩;unfold Op.equal;rw[hd];simp only[Op.equalIn,bF,dO,hu,bP];exact e
   .cases hb
  .cases h
 .split at h
  .rename_i hb;cases h;unfold jW at hb;split at hb
   .rename_i hu;refine ⟨?_,.inr ⟨_,_,_,_,_,_,rfl,rfl⟩⟩;unfold Op.equal;rw[hd];simp only[Op.equalIn,bF,dO,hu,bP];exact e
   .cases hb
  .cases h
 .split at h
  .rename_i hb;cases h;unfold jW at hb;split at hb
   .rename_i hu;refine ⟨?_,.inr ⟨_,_,_,_,_,_,rfl,rfl⟩⟩;unfold Op.equal;rw[hd];simp only[Op.equalIn,bF,dO,hu,bP];exact e
   .cases hb
  .cases h
 .cases h
def oD (P:Program)(op:BinOp)(t:TypeId)(u v:Value):Option Value:=
 match mP op u v with
 |some w=>some w
 |none=>match op with
  | .eql=>match lR P t u v with
   |some r=>some (.bool r)
   |none=>match oC P t u v with
    |some r=>some (.bool r)
    |none=>none
  | .neq=>match lR P t u v with
   |some r=>some (.bool (!r))
   |none=>match oC P t u v with
    |some r=>some (.bool (!r))
    |none=>none
  | .shr=>match u,v with
   | .int k a,.int _ b=>if b<0 then none else some (.int k (a.fdiv (2 ^ min b.toNat k.bits)))
   |_,_=>none
  | .shl=>match u,v with
   | .int k a,.int _ b=>if b<0 then none else some (.int k (k.wrap (a*2 ^ min b.toNat k.bits)))
   |_,_=>none
  |_=>none
theorem Cv {op:BinOp}{t:TypeId}{x y:Operand}{u v w:Value}{Q:Value->af->Prop}{F:af}(h:oD P op t u v=some w)(e:Q w F):bp P (do eqGuard op t x y u v;binOp op t u v) Q F:=by
 unfold oD at h;split at h
 .rename_i w' hw;cases h;exact Cr hw e
 .split at h
  .split at h
   .rename_i r f;cases h;obtain ⟨g,i,⟨xs,rfl⟩,ys,rfl⟩:=tG (Q:=fun r G=>Q (.bool r) G) f e;simp only[bF,eqGuard,binOp,jT,i,dH,bP];simpa using g
   .split at h
    .rename_i r f;cases h;obtain ⟨g,i⟩:=yO (Q:=fun r G=>Q (.bool r) G) f e;rcases i with ⟨a,b,rfl,rfl⟩|⟨a,n,c,b,m,d,rfl,rfl⟩<;>
     .simp only[bF,eqGuard,binOp,jT,dH,bP];simpa using g
    .cases h
  .split at h
   .rename_i r f;cases h;obtain ⟨g,i,⟨xs,rfl⟩,ys,rfl⟩:=tG (Q:=fun r G=>Q (.bool (!r)) G) f e;simp only[bF,eqGuard,binOp,jT,i,dH,bP];simpa using g
   .split at h
    .rename_i r f;cases h;obtain ⟨g,i⟩:=yO (Q:=fun r G=>Q (.bool (!r)) G) f e;rcases i with ⟨a,b,rfl,rfl⟩|⟨a,n,c,b,m,d,rfl,rfl⟩<;>
     .simp only[bF,eqGuard,binOp,jT,dH,bP];simpa using g
    .cases h
  .split at h
   .split at h
    .cases h
    .rename_i hb;cases h;rw[bF];refine tC .shr t x y _ _ _ _ ?_;simp only[binOp,Op.shift,dH];rw[if_neg hb];exact e
   .cases h
  .split at h
   .split at h
    .cases h
    .rename_i hb;cases h;rw[bF];refine tC .shl t x y _ _ _ _ ?_;simp only[binOp,Op.shift,dH];rw[if_neg hb];exact e
   .cases h
  .cases h
end
theorem tJ {P:Program}{t e:TypeId}(h:c9 P t=some e):P.underlying t=some (.slice e):=by
 unfold c9 at h;split at h
 .rename_i a he;cases h;exact he
 .cases h
theorem yP (n:Nat):∀(r c:Nat),Builtin.growBy n r c<=2 ^ r*(c+768)
 |0,c=>by simp[Builtin.growBy]
 |r+1,c=>by
  unfold Builtin.growBy
  split
  .have:1<=2 ^ (r+1):=Nat.one_le_two_pow
   have:=Nat.mul_le_mul_right (c+768) this
   omega
  .have h:=yP n r (c+(c+768)/4)
   refine Nat.le_trans h ?_
   rw[Nat.pow_succ,Nat.mul_assoc]
   refine Nat.mul_le_mul_left _ ?_
   omega
theorem nextslicecap_le {n c:Nat}(h:c<n)(b:n<=1000000):Builtin.nextslicecap n c<=20000000:=by
 unfold Builtin.nextslicecap;split
 .omega
 .split
  .omega
  .have a:=yP n 4 c;have e:(2:Nat) ^ 4=16:=aO;rw[e] at a;refine Nat.le_trans a ?_;omega
section
variable {P:Program}
theorem Cw {Q:Array Value->af->Prop}{F:af}(a:Addr){n:Nat}{b:List Value}(h:F.dP a 0 n=some b)(c:Q b.toArray F):bp P (loadCells a n) Q F:=by
 obtain ⟨d,e⟩:=tB F a n 0 b h;subst e;exact tv a b 0 #[] d (by simpa using c)
def gm (F:af)(size:Nat):Value->Option (List Value)
 | .slice (some a) n _=>F.dP a 0 (n*size)
 | .slice none 0 _=>some []
 |_=>none
theorem tK {Q:Array Value->af->Prop}{F:af}{size n:Nat}{ad:Option Addr}{c:Nat}{b:List Value}(h:gm F size (.slice ad n c)=some b)(d:Q b.toArray F):bp P (Builtin.firstCells size n (.slice ad n c)) Q F:=by
 cases ad with
 |none=>
  cases n with
  |zero=>simp only[gm,Option.some.injEq] at h;subst h;exact d
  |succ n=>simp[gm] at h
 |some a=>exact Cw a h d
theorem tL {Q:Unit->af->Prop}{F:af}(n:Nat)(h:Q () F):bp P (askRoom n) Q F:=by
 unfold askRoom;rw[dH];split
 .exact ⟨rfl,h⟩
 .exact h
theorem tN {F:af}{Q:Value->af->Prop}{argTypes:Array TypeId}{ty i j e p:TypeId}{size d len cap n c:Nat}{base l:Option Addr}{z:Value}{old new:List Value}
  (q:argTypes[0]?=some i) (r:argTypes[1]?=some j) (he:c9 P i=some e) (s:c9 P j=some p) (hs:bZ P e=some size) (u:zeroOf P e=some z) (hb:bytesOf P e=some d)
  (D:0<d) (v:d<=10000) (w:len+n<=1000000) (hold:gm F size (.slice base len cap)=some old) (m:gm F size (.slice l n c)=some new)
  (f:len+n<=cap->(∃a F',base=some a/\F.ju (a.add (len*size)) 0 new=some F'/\Q (.slice base (len+n) cap) F')\/(base=none/\Q (.slice base (len+n) cap) F))
  (x:cap<len+n->∀k b,len+n<=k->ez F b->Q (.slice (some ⟨b,0,none⟩) (len+n) k) (F.push b (.cells (old.toArray++new.toArray++Builtin.zeroCells z.cells (k - (len+n))) e))):
  bp P (Builtin.append_ argTypes ty #[.slice base len cap,.slice l n c]) Q F:=by
 have hu:=tJ he
 have y:=tJ s
 unfold bytesOf at hb
 obtain ⟨info,A,rfl⟩:=Option.map_eq_some_iff.1 hb
 simp only[Builtin.append_,q,r,List.getElem?_toArray,List.getElem?_cons_zero,List.getElem?_cons_succ,bF,dO,hu,y,eY,hs,bP,Builtin.lenOf,Bool.false_eq_true,if_false,dH,Bool.not_false,if_true,ow,A]
 split
 .rename_i hle
  have f:=f hle
  refine tK m ?_
  rcases f with ⟨a,F',rfl,B,g⟩|⟨rfl,g⟩
  .simp only[bF]
   refine qj _ _ 0 F F' (by simpa using B) ?_
   exact g
  .exact g
 .rename_i E
  have C:=nextslicecap_le (n:=len+n) (c:=cap) aa w
  have e1:¬(((len+n:Nat):Int)>IntKind.i64.max/\(false=true\/info.bytes=0)):=by
   rintro ⟨_,h|h⟩
   .cases h
   .omega
  have e2:¬(Builtin.nextslicecap (len+n) cap*info.bytes>2 ^ 48):=by
   have:Builtin.nextslicecap (len+n) cap*info.bytes<=20000000*10000:=Nat.mul_le_mul C v
   omega
  rw[if_neg (by simpa using e1),if_neg e2]
  rw[tu]
  rw[if_neg (by simp[Question.forced])]
  intro t
  have o:len+n<=(Question.appendCap (len+n) cap e).cut t:=Nat.le_add_right _ _
  generalize (Question.appendCap (len+n) cap e).cut t=k at o ⊢
  refine tL _ ?_
  refine tK hold ?_
  refine tK m ?_
  simp only[bF,lK,u,ql,bP]
  exact fun b hb=>x aa k b o hb
end
theorem tO:∀{pre:List (Nat×Obj)} {b:Nat} {o:Obj},au pre b->lk (pre++[(b,o)]) b=some o
 |[],b,o,_=>by simp[lk]
 |(c,x)::pre,b,o,h=>by
  have a:¬c=b:=fun e=>h.1 e.symm
  simp[lk,a,tO h.2]
def cU (arr:Array Value)(k:Nat):List Value->Array Value
 |[]=>arr
 |v::a=>cU (arr.setIfInBounds k v) (k+1) a
theorem qs:∀(a:List Value) (arr:Array Value) (k:Nat),(cU arr k a).size=arr.size
 |[],_,_=>rfl
 |v::a,arr,k=>by rw[cU,qs a];simp
theorem qt:∀(a:List Value) (arr:Array Value) (k:Nat),k+a.length<=arr.size->(cU arr k a).toList=arr.toList.take k++a++arr.toList.drop (k+a.length)
 |[],arr,k,_=>by simp[cU]
 |v::a,arr,k,h=>by
  simp only[List.length_cons] at h
  rw[cU,qt a _ _ (by simp;omega)]
  have b:k<arr.toList.length:=by simp;omega
  rw[Array.toList_setIfInBounds]
  have e1:(arr.toList.set k v).take (k+1)=arr.toList.take k++[v]:=by
   rw[List.take_succ_eq_append_getElem (by simpa using b),List.take_set_of_le (Nat.le_refl _)]
   simp
  have e2:(arr.toList.set k v).drop (k+1+a.length)=arr.toList.drop (k+(v::a).length):=by
   rw[List.drop_set_of_lt aa]
   congr 1
   simp;omega
  rw[e1,e2]
  simp
def Gr (ro:Addr->Option Value)(e:TypeId)(size:Nat)(v:Value)(l:List (List Value))(bh:List (Nat×Obj)):Prop:=
 (v= .slice none 0 0/\l=[]/\bh=[])\/
 ∃b arr cap,v= .slice (some ⟨b,0,none⟩) l.length cap/\bh=[(b,.cells arr e)]/\arr.size=cap*size/\l.length<=cap/\arr.toList.take (l.length*size)=l.flatten/\(∀x∈l,x.length=size)/\∀off sp,ro ⟨b,off,sp⟩=none
theorem ij {size:Nat}:∀{l:List (List Value)},(∀x∈l,x.length=size)->l.flatten.length=l.length*size
 |[],_=>by simp
 |x::l,h=>by
  have ih:l.flatten.length=l.length*size:=ij (fun y a=>h y (List.mem_cons_of_mem _ a))
  simp only[List.flatten_cons,List.length_append,List.length_cons,h x av,ih,Nat.add_mul,Nat.one_mul]
  omega
theorem yQ {ro:Addr->Option Value}{pre:List (Nat×Obj)}{b:Nat}{e:TypeId}{arr:Array Value}(a:au pre b)(c:∀off sp,ro ⟨b,off,sp⟩=none):∀(n i:Nat),i+n<=arr.size->
  af.dP ⟨ro,pre++[(b,.cells arr e)]⟩ ⟨b,0,none⟩ i n=some ((arr.toList.drop i).take n)
 |0,i,_=>by simp[af.dP]
 |n+1,i,h=>by
  have f:(⟨b,0,none⟩:Addr).add i=⟨b,i,none⟩:=by
   unfold Addr.add
   split
   .rename_i g;subst g;rfl
   .simp
  have d:i<arr.size:=aa
  unfold af.dP
  have ih:=yQ (e:=e) (arr:=arr) a c n (i+1) aa
  simp only[af.get,f,c,if_true,tO a,Option.bind_some,cellOf,Array.getElem?_eq_getElem d,ih]
  have j:i<arr.toList.length:=by simpa using d
  rw[List.drop_eq_getElem_cons j,List.take_succ_cons]
  simp
theorem Gr.gm {ro:Addr->Option Value}{e:TypeId}{size:Nat}{v:Value}{l:List (List Value)}{bh pre:List (Nat×Obj)}(h:Gr ro e size v l bh)(a:∀k∈keys bh,au pre k):
  Go.Sep.gm ⟨ro,pre++bh⟩ size v=some l.flatten:=by
 rcases h with ⟨rfl,rfl,rfl⟩|⟨b,arr,cap,rfl,rfl,hs,c,ht,f,d⟩
 .rfl
 .simp only[Go.Sep.gm]
  have hle:l.length*size<=arr.size:=by rw[hs];exact Nat.mul_le_mul_right _ c
  rw[yQ (a b (by simp[keys])) d _ _ aa]
  simp[ht]
def oE (P:Program)(t:TypeId)(parts:List (Nat×Value)):Option Value:=
 match zeroOf P t,placesOf P t with
 |some z,some pl=>match Instr.fill (fun i=>pl[i]?) z.cells parts with
  |some cs=>some (.agg cs)
  |none=>none
 |_,_=>none
theorem yR {P:Program}{Q:Array (Nat×Nat)->af->Prop}{F:af}:∀(a:List Field) (pl:List (Nat×Nat)) (acc:Array (Nat×Nat)),(a.mapM fun f=>(bZ P f.type).map fun s=>(f.offset,s))=some pl->
  Q (acc++pl.toArray) F->bp P (a.foldlM (fun (b:Array (Nat×Nat)) f=>do let s<-sizeOf f.type;pure (b.push (f.offset,s))) acc) Q F
 |[],pl,acc,h,c=>by
  simp at h;subst h
  simpa [bP] using c
 |f::a,pl,acc,h,c=>by
  simp only[List.mapM_cons] at h
  cases hs:bZ P f.type with
  |none=>simp[hs] at h
  |some s=>
   cases d:(a.mapM fun f=>(bZ P f.type).map fun s=>(f.offset,s)) with
   |none=>simp[hs,d] at h
   |some e=>
    simp[hs,d] at h
    subst h
    simp only[List.foldlM_cons,bF,eY,hs,bP]
    exact yR a e _ d (by simpa using c)
theorem Cx {P:Program}{Q:Array (Nat×Nat)->af->Prop}{F:af}(a:Array Field)(pl:List (Nat×Nat))(h:(a.toList.mapM fun f=>(bZ P f.type).map fun s=>(f.offset,s))=some pl)
  (b:Q pl.toArray F):bp P (a.mapM fun f=>do let s<-sizeOf f.type;pure (f.offset,s)) Q F:=by
 rw[Array.mapM_eq_foldlM,<-Array.foldlM_toList]
 have:=yR (Q:=Q) (F:=F) a.toList pl #[] h (by simpa using b)
 simpa using this
theorem Cz {P:Program}{t:TypeId}{parts:Array (Nat×Value)}{w:Value}{Q:Value->af->Prop}{F:af}(h:oE P t parts.toList=some w)(b:Q w F):bp P (Instr.build t parts) Q F:=by
 unfold oE at h;split at h
 case h_2=>cases h
 rename_i z pl c a;split at h
 case h_2=>cases h
 rename_i cs d;cases h;unfold placesOf at a;split at a
 case h_2=>cases a
 rename_i e f;simp only[Instr.build,bF,lK,c,dO,f];refine Cx e pl a ?_;simp only[List.getElem?_toArray,d,bP];exact b
def qu (P:Program)(t:TypeId)(len:Nat)(parts:List (Nat×Value)):Option (TypeId×Array Value):=
 match c9 P t with
 |some e=>match bZ P e,zeroOf P e with
  |some size,some z=>if len*size<=2 ^ 24/\0<len*size then
    match Instr.fill (fun i=>some (i*size,size)) ((Array.range (len*size)).map (z.cells[· % z.cells.size]!)) parts with
    |some cs=>some (e,cs)
    |none=>none
   else if len*size=0/\parts.isEmpty=true then some (e,#[]) else none
  |_,_=>none
 |none=>none
theorem CA {P:Program}{t:TypeId}{len:Nat}{parts:Array (Nat×Value)}{e:TypeId}{cs:Array Value}{Q:Value->af->Prop}{F:af}(h:qu P t len parts.toList=some (e,cs))
  (d:∀b,ez F b->Q (.slice (some ⟨b,0,none⟩) len len) (F.push b (.cells cs e))):bp P (Instr.buildSlice t len parts) Q F:=by
 unfold qu at h
 split at h
 case h_2=>cases h
 rename_i f he
 split at h
 case h_2=>cases h
 rename_i size z hs g
 split at h
 case isFalse=>
  split at h
  case isFalse=>cases h
  rename_i hb
  cases h
  have hu:P.underlying t=some (.slice e):=by
   unfold c9 at he
   split at he
   .rename_i f a;cases he;exact a
   .cases he
  have c:¬(len*size>2 ^ 24):=by rw[hb.1];decide
  have i:parts.toList=[]:=List.isEmpty_iff.1 hb.2
  simp only[Instr.buildSlice,bF,dO,hu,eY,hs,dH,if_neg c,if_pos hb.1,bP,i]
  rw[hb.1]
  have e0:Array.range 0=#[]:=rfl
  simp only[e0,Array.map_empty,Instr.fill,bF,ql,bP]
  exact d
 rename_i hb
 split at h
 case h_2=>cases h
 rename_i cs' j
 cases h
 have hu:P.underlying t=some (.slice e):=by
  unfold c9 at he
  split at he
  .rename_i f a;cases he;exact a
  .cases he
 have c:¬(len*size>2 ^ 24):=aa
 have k:¬(len*size=0):=aa
 simp only[Instr.buildSlice,bF,dO,hu,eY,hs,dH,if_neg c,if_neg k,lK,g,bP,j,ql]
 exact d
def oF (P:Program)(t:TypeId)(n:Nat):Value->Option Value
 | .agg cs=>match tA P t n with
  |some (off,s,true)=>some (.agg (cs.extract off (off+s)))
  |some (off,_,false)=>cs[off]?
  |none=>none
 |_=>none
theorem CB {P:Program}{t:TypeId}{n:Nat}{u w:Value}{Q:Value->af->Prop}{F:af}(h:oF P t n u=some w)(b:Q w F):bp P (Instr.field t u n) Q F:=by
 cases u<;>simp only[oF,reduceCtorEq] at h;rename_i cs;unfold tA at h;cases hu:P.underlying t with
 |none=>simp[hu] at h
 |some d=>
  cases d<;>simp only[hu,reduceCtorEq] at h;rename_i c;cases a:c[n]? with
  |none=>simp[a] at h
  |some f=>
   simp only[a] at h;cases hs:bZ P f.type with
   |none=>simp[hs] at h
   |some s=>
    cases hg:cp P f.type with
    |none=>simp[hs,hg] at h
    |some g=>
     simp only[hs,hg] at h;simp only[Instr.field,bF,dO,hu,a,Co,part,lM,hg,dH];cases g with
     |true=>simp only[Option.some.injEq] at h;subst h;simpa [eY,hs,bP] using b
     |false=>
      simp only at h;simp only[Bool.false_eq_true,if_false,h];exact b
def qv (n:Nat):Value->Option Value
 | .tuple a=>a[n]?
 |_=>none
def lS (P:Program)(src dst:TypeId):Value->Option Value
 | .int _ n=>match P.underlying src,P.underlying dst with
  |some (.int _),some (.int k)=>some (.int k (k.wrap n))
  |_,_=>none
 |_=>none
theorem CC {P:Program}{src dst:TypeId}{u w:Value}{Q:Value->af->Prop}{F:af}(h:lS P src dst u=some w)(a:Q w F):bp P (convert src dst u) Q F:=by
 cases u<;>simp only[lS,reduceCtorEq] at h;rename_i k n;split at h
 .rename_i k1 d b c;cases h;simp only[convert,bF,dO,b,c,Conv.intToInt,bP];exact a
 .cases h
def qw (P:Program)(t:TypeId):Value->Option Value
 | .slice _ n _=>match c9 P t with
  |some _=>some (.int .i64 n)
  |none=>none
 |_=>none
def oG (P:Program)(t:TypeId):Value->Value->Option Value
 | .agg cs,.int _ i=>match jU P t with
  |some (len,e)=>match bZ P e,cp P e with
   |some s,some true=>if 0<=i/\i<(len:Int) then some (.agg (cs.extract (i.toNat*s) (i.toNat*s+s))) else none
   |some s,some false=>if 0<=i/\i<(len:Int) then cs[i.toNat*s]? else none
   |_,_=>none
  |none=>none
 | .string s,.int _ i=>match P.underlying t with
  |some .string=>if 0<=i then (s[i.toNat]?).map fun b=>.int .u8 b.toNat else none
  |_=>none
 |_,_=>none
theorem CD {P:Program}{t:TypeId}{u v w:Value}{Q:Value->af->Prop}{F:af}(h:oG P t u v=some w)(c:Q w F):bp P (Instr.index t u v) Q F:=by
 unfold oG at h;split at h
 case h_3=>cases h
 case h_2=>
  rename_i s k i;split at h
  case h_2=>cases h
  rename_i hu;split at h
  case isFalse=>cases h
  rename_i a;obtain ⟨b,hb,rfl⟩:=Option.map_eq_some_iff.1 h;simp only[Instr.index,bF,kH,dO,hu,if_pos a,hb,bP];exact c
 rename_i cs k i;split at h
 case h_2=>cases h
 rename_i len e he;have hu:P.underlying t=some (.array len e):=by
  unfold jU at he;split at he
  .rename_i f g d;cases he;exact d
  .cases he
 split at h
 .rename_i s hs hg;split at h
  case isFalse=>cases h
  rename_i a;cases h;simp only[Instr.index,bF,kH,dO,hu,dH,if_pos a,eY,hs,part,lM,hg,if_true,bP];exact c
 .rename_i s hs hg;split at h
  case isFalse=>cases h
  rename_i a;simp only[Instr.index,bF,kH,dO,hu,dH,if_pos a,eY,hs,part,lM,hg,Bool.false_eq_true,if_false,h,bP];exact c
 .cases h
def lT (P:Program)(argTypes:Array TypeId)(s x:Value)(R:Value->af->Prop)(F:af):Prop:=
 ∀ty,bp P (Builtin.append_ argTypes ty #[s,x]) (fun v F=>∃F0,Le F0 F/\R v F0) F
def Oper.mQ (o:Oper):Bool:=match o.op with| .call {callee:=.builtin .append, ..}=>true|_=>false
def gI (P:Program)(J:Goroutine->af->Prop)(y:Value)(args:Array Value)(F:af)(R:Value->af->Prop):Prop:=
 match y with
 | .func (.func fn) first captured=>aN P fn=true/\c8 P J fn (first++args++captured) F R
 | .func (.yield l) first captured=>first=#[]/\captured=#[]/\∃r,F.fy l=some (.loop r)/\args.size=r.params.size/\jq J l r.fn ((r.params.zip args).foldl (fun tmps (t,a)=>tmps.setIfInBounds t a) r.tmps) r.assign r.body F R
 |_=>False
theorem gI.mono {P:Program}{J:Goroutine->af->Prop}{y:Value}{args:Array Value}{F:af}{R a:Value->af->Prop}(h:gI P J y args F R)(b:∀v F',R v F'->a v F'):gI P J y args F a:=by
 unfold gI at h ⊢;split at h
 .exact ⟨h.1,h.2.mono b⟩
 .obtain ⟨e1,e2,r,c,d,e⟩:=h;exact ⟨e1,e2,r,c,d,e.mono b⟩
 .exact h.elim
theorem CE {P:Program}{J:Goroutine->af->Prop}{fn:FuncId}{first captured args:Array Value}{F:af}{R:Value->af->Prop}:gI P J (.func (.func fn) first captured) args F R=(aN P fn=true/\c8 P J fn (first++args++captured) F R):=rfl
def ff (P:Program)(m:Sem Value)(R:Value->af->Prop)(F:af):Prop:=bp P m R F
def cV (P:Program)(J:Goroutine->af->Prop)(o:Oper)(R:Value->af->Prop)(a:Act)(F:af):Prop:=
 match o.op with
 | .move x| .assign x=>R (ev a x) F
 | .nilCheck x=>match ev a x with
  | .pointer (some _)=>R (ev a x) F
  |_=>False
 | .pick c x y=>match ev a c with
  | .bool b=>R (if b then ev a x else ev a y) F
  |_=>False
 | .alloc t=>match zeroOf P t with
  |some z=>∀b,ez F b->R (.pointer (some ⟨b,0,none⟩)) (F.push b (.cells z.cells t))
  |none=>False
 | .box t x=>∀b,ez F b->R (.pointer (some ⟨b,0,none⟩)) (F.push b (.cells (ev a x).cells t))
 | .build t parts=>match oE P t (parts.map fun (i,x)=>(i,ev a x)).toList with
  |some v=>R v F
  |none=>False
 | .buildSlice t len parts=>match qu P t len (parts.map fun (i,x)=>(i,ev a x)).toList with
  |some (e,cs)=>∀b,ez F b->R (.slice (some ⟨b,0,none⟩) len len) (F.push b (.cells cs e))
  |none=>False
 | .load t x=>match ev a x with
  | .pointer (some ad)=>match fC P F t ad with
   |some v=>R v F
   |none=>False
  |_=>False
 | .store t x y=>match ev a x with
  | .pointer (some ad)=>match qm P F t ad (ev a y) with
   |some F'=>R undef F'
   |none=>False
  |_=>False
 | .binOp op t x y _=>match oD P op t (ev a x) (ev a y) with
  |some v=>R v F
  |none=>False
 | .unOp op _ x=>match lO op (ev a x) with
  |some v=>R v F
  |none=>False
 | .convert src dst x=>match lS P src dst (ev a x) with
  |some v=>R v F
  |none=>False
 | .makeFunc fn first captured=>R (.func fn (first.map (ev a)) (captured.map (ev a))) F
 | .slice t x d f none=>(match ev a x with| .slice _ len cap=>len<=cap| .pointer (some _)=>True|_=>False)/\match lP P t (ev a x) (d.map (ev a)) (f.map (ev a)) with
  |some v=>R v F
  |none=>False
 | .fieldAddr s x n=>match ev a x with
  | .pointer (some ad)=>match cu P s n with
   |some k=>R (.pointer (some (ad.add k))) F
   |none=>False
  |_=>False
 | .field s x n=>match oF P s n (ev a x) with
  |some v=>R v F
  |none=>False
 | .indexAddr t x i=>match oA P t (ev a x) (ev a i) with
  |some v=>R v F
  |none=>False
 | .index t x i=>match oG P t (ev a x) (ev a i) with
  |some v=>R v F
  |none=>False
 | .extract x n=>match qv n (ev a x) with
  |some v=>R v F
  |none=>False
 | .call {callee:=.value x,args, ..}=>gI P J (ev a x) (args.map (ev a)) F R
 | .call {callee:=.builtin .len,args,argTypes}=>match argTypes[0]?,args[0]? with
  |some t,some x=>match qw P t (ev a x) with
   |some v=>R v F
   |none=>ff P (Builtin.len_ argTypes o.type (args.map (ev a))) R F
  |_,_=>False
 | .makeMap t r=>ff P (Instr.makeMap t (r.map (ev a))) R F
 | .makeSlice t l c=>ff P (Instr.makeSlice t (ev a l) (ev a c)) R F
 | .mapUpdate t m k x=>ff P (Instr.mapUpdate t (ev a m) (ev a k) (ev a x)>>= fun _=>pure undef) R F
 | .call {callee:=.builtin .clear,args,argTypes}=>ff P (Builtin.clear_ argTypes o.type (args.map (ev a))) R F
 | .call {callee:=.builtin .cap,args,argTypes}=>ff P (Builtin.cap_ argTypes o.type (args.map (ev a))) R F
 | .call {callee:=.builtin .copy,args,argTypes}=>ff P (Builtin.copy_ argTypes o.type (args.map (ev a))) R F
 | .call {callee:=.builtin .append,args,argTypes}=>match args.toList with
  |[x,y]=>lT P argTypes (ev a x) (ev a y) R F
  |_=>False
 | .call {callee:=.builtin .max,args, ..}=>match args.toList with
  |[x,y]=>match qn (ev a x) (ev a y) with
   |some v=>R v F
   |none=>False
  |_=>False
 | .call {callee:=.builtin .min,args, ..}=>match args.toList with
  |[x,y]=>match qo (ev a x) (ev a y) with
   |some v=>R v F
   |none=>False
  |_=>False
 |_=>False
theorem eR (a:Act):a.eval=ev a:=rfl
theorem yS {P:Program}{J:Goroutine->af->Prop}{o:Oper}{R:Value->af->Prop}{D:Deferred->af->Prop}{a:Act}{F:af}(C:Oper.mQ o=false)(h:cV P J o R a F):bp P (execOp a.eval o) (fO P J R D) F:=by
 obtain ⟨dst,op,type,pos,after,guard⟩:=o;unfold execOp;simp only[eR];unfold cV at h;simp only at h;cases op<;>simp only at h ⊢
 case move x=>exact h
 case assign x=>exact h
 case nilCheck x=>
  split at h
  .rename_i ad g;simp only[g,bP,fO];rw[g] at h;exact h
  .exact h.elim
 case pick c x y=>
  split at h
  .rename_i b hb;simp only[bF,hb,Cn,bP,fO];exact h
  .exact h.elim
 case alloc t=>
  split at h
  .rename_i z E;simp only[Instr.alloc,bF,lK,E,yG,bP,fO];exact h
  .exact h.elim
 case box t x=>
  simp only[Instr.box,bF,yG,bP,fO];exact h
 case build t parts=>
  split at h
  .rename_i v d;simp only[bF,bP];exact Cz d h
  .exact h.elim
 case buildSlice t len parts=>
  split at h
  .rename_i e cs d;simp only[bF,bP];exact CA d h
  .exact h.elim
 case load t x=>
  split at h
  case h_2=>exact h.elim
  rename_i ad q;split at h
  case h_2=>exact h.elim
  rename_i v d;simp only[Instr.loadAt,bF,q,oz,bP];exact yK d h
 case store t x y=>
  split at h
  case h_2=>exact h.elim
  rename_i ad q;split at h
  case h_2=>exact h.elim
  rename_i F' G;simp only[Instr.storeAt,bF,q,oz,bP];exact Cq G h
 case binOp op t x y X=>
  split at h
  case h_2=>exact h.elim
  rename_i v d;rw[iS];exact Cv d h
 case unOp op t x=>
  split at h
  case h_2=>exact h.elim
  rename_i v d;rw[iS];exact Cs d h
 case convert src dst x=>
  split at h
  case h_2=>exact h.elim
  rename_i v d;rw[iS];exact CC d h
 case makeFunc fn first captured=>
  simp only[Instr.makeFunc,bF,bP,fO];exact h
 case slice t x Y Z H=>
  cases H with
  |some m=>exact h.elim
  |none=>
   simp only at h;obtain ⟨u,h⟩:=h;split at h
   case h_2=>exact h.elim
   rename_i v d;rw[iS];exact Cu (fun ad len cap e=>by rw[e] at u;exact u) d h
 case fieldAddr s x n=>
  split at h
  case h_2=>exact h.elim
  rename_i ad q;split at h
  case h_2=>exact h.elim
  rename_i k j;unfold cu at j;split at j
  case h_2=>cases j
  rename_i ab I;split at j
  case h_2=>cases j
  rename_i f w;split at j
  case h_2=>cases j
  rename_i m hm;cases j;rw[iS];simp only[Instr.fieldAt,bF,dO,I,w,q,oz,fieldPlace,eY,hm];simpa [bP,fO] using h
 case field s x n=>
  split at h
  case h_2=>exact h.elim
  rename_i v d;rw[iS];exact CB d h
 case indexAddr t x i=>
  split at h
  case h_2=>exact h.elim
  rename_i v d;rw[iS];exact Ct d h
 case index t x i=>
  split at h
  case h_2=>exact h.elim
  rename_i v d;rw[iS];exact CD d h
 case extract x n=>
  split at h
  case h_2=>exact h.elim
  rename_i v d;rw[iS];unfold qv at d;split at d
  .rename_i ae K;simp only[K,Instr.extract,d];exact h
  .cases d
 case makeMap t r=>
  rw[iS];exact h
 case makeSlice t l c=>
  rw[iS];exact h
 case mapUpdate t m k x=>
  unfold ff at h;rw[bF] at h;rw[bF];exact h
 case call c=>
  obtain ⟨callee,args,argTypes⟩:=c;cases callee with
  |value x=>
   simp only at h;unfold gI at h;split at h
   case h_3=>exact h.elim
   .rename_i fn first captured g
    obtain ⟨p,L⟩:=h;unfold aN at p;split at p
    case h_2=>cases p
    rename_i f w;simp only[Bool.not_eq_true',Bool.or_eq_false_iff] at p;simp only[resolve,g,Deferred.ofValue,bF,bP,invoke,callFunc,jT,w,p.1,p.2,Bool.false_eq_true,if_false,fO];exact L
   .rename_i l first captured g
    obtain ⟨rfl,rfl,r,u,M,N⟩:=h;simp only[resolve,g,Deferred.ofValue,bF,bP,invoke,Instr.yield,Instr.getLoop,Array.append_empty,Array.empty_append,Array.map_map];refine ⟨_,u,?_⟩;have O:∀{α:Type} (x:α) (Q:α->af->Prop) (F:af),bp P (Sem.pure x) Q F=Q x F:=fun _ _ _=>rfl;simp only[bF,O,bP,dH,ne_eq,M,not_true_eq_false,if_false,fO];exact N
  |invoke r m=>exact h.elim
  |builtin b=>
   cases b<;>simp only at h
   case append=>simp[Oper.mQ] at C
   case clear=>
    simp only[resolve,bF,bP,invoke,builtin];exact h
   case cap=>
    simp only[resolve,bF,bP,invoke,builtin];exact h
   case copy=>
    simp only[resolve,bF,bP,invoke,builtin];exact h
   case len=>
    split at h
    case h_2=>exact h.elim
    rename_i t x ht g;split at h
    case h_2=>
     simp only[resolve,bF,bP,invoke,builtin];exact h
    rename_i v d;unfold qw at d;split at d
    case h_2=>cases d
    rename_i ad n cap S;split at d
    case h_2=>cases d
    rename_i e T;have he:=tJ T;cases d;have U:(args.map (ev a))[0]?=some (.slice ad n cap):=by simp[g,S]
    simp only[resolve,bF,bP,invoke,builtin,Builtin.len_,ht,U,dO,he];exact h
   case max=>
    split at h
    case h_2=>exact h.elim
    rename_i x y A;split at h
    case h_2=>exact h.elim
    rename_i v d;unfold qn at d;split at d
    case h_2=>cases d
    rename_i k V W y' g B;cases d;simp only[resolve,bF,bP,invoke,builtin,Builtin.max_,Array.toList_map,A,List.map_cons,List.map_nil,List.foldlM_cons,List.foldlM_nil,g,B,Builtin.max2,fO];exact h
   case min=>
    split at h
    case h_2=>exact h.elim
    rename_i x y A;split at h
    case h_2=>exact h.elim
    rename_i v d;unfold qo at d;split at d
    case h_2=>cases d
    rename_i k V W y' g B;cases d;simp only[resolve,bF,bP,invoke,builtin,Builtin.min_,Array.toList_map,A,List.map_cons,List.map_nil,List.foldlM_cons,List.foldlM_nil,g,B,Builtin.min2,fO];exact h
theorem kI {P:Program}{J:Goroutine->af->Prop}{o:Oper}{R:Value->af->Prop}{D:Deferred->af->Prop}{a:Act}{F:af}(h:cV P J o R a F):bp P (execOp a.eval o) (jR P J R D) F:=
by
 cases b:Oper.mQ o with
 |false=>exact gW B9 _ _ (yS b h)
 |true=>
  obtain ⟨dst,op,type,pos,after,guard⟩:=o
  unfold Oper.mQ at b
  split at b
  .rename_i callee args argTypes c
   simp only at c
   subst c
   unfold cV at h
   simp only at h
   split at h
   case h_2=>exact h.elim
   rename_i x y d
   have e:args=#[x,y]:=by rw[<-Array.toList_inj];simpa using d
   subst e
   unfold execOp
   simp only[eR,resolve,bF,bP,invoke,builtin]
   have:=h type
   simpa [jR,fO,bF,bP] using this
  .cases b
def cJ (ops:Array Oper)(o:Oper)(a:Act):Option Bool:=
 match o.guard with
 |none=>some true
 |some (j,want)=>match (ops[j]?).bind (·.dst) with
  |some d=>match slot a d with
   | .bool b=>some (b==want)
   | .tuple _=>some false
   |_=>none
  |none=>none
theorem cv {ops:Array Oper}{o:Oper}{a:Act}{t:Bool}(h:cJ ops o a=some t):Region.wanted o (yielded ops a.tmps)=t:=by
 unfold cJ at h;unfold Region.wanted;split at h
 .rename_i hg;rw[hg];cases h;rfl
 .rename_i j want hg;rw[hg];split at h
  .rename_i d hd;split at h
   .rename_i b hb;cases h;have ht:a.tmps[d]?=some (.bool b):=by
     unfold slot at hb;rw[Array.getD_eq_getD_getElem?] at hb;cases c:a.tmps[d]? with
     |none=>rw[c] at hb;simp[undef] at hb
     |some v=>rw[c] at hb;simpa using hb
    simp only[yielded,hd,Option.bind_some,ht];cases b<;>cases want<;>rfl
   .rename_i b hb;cases h;simp only[yielded,hd,Option.bind_some];unfold slot at hb;rw[Array.getD_eq_getD_getElem?] at hb;cases c:a.tmps[d]? with
    |none=>rfl
    |some v=>
     rw[c] at hb;simp at hb;subst hb;rfl
   .cases h
  .cases h
def Oper.calls (o:Oper):Bool:=match o.op with| .call {callee:=.value _, ..}=>true| .call {callee:=.builtin .append, ..}=>true| .call {callee:=.builtin .clear, ..}=>true| .call {callee:=.builtin .cap, ..}=>true| .call {callee:=.builtin .copy, ..}=>true| .makeMap ..=>true| .makeSlice ..=>true| .mapUpdate ..=>true|_=>false
def fh (P:Program)(J:Goroutine->af->Prop)(ops:Array Oper)(K:Act->af->Prop):List Oper->Bool->Act->af->Prop
 |[],_,a,F=>K a F
 |o::rest,_,a,F=>match cJ ops o a with
  |some true=>cV P J o (fun v F'=>fh P J ops K rest (!Oper.calls o) (bq a o.dst v) F') a F
  |some false=>fh P J ops K rest true (bq a o.dst undef) F
  |none=>False
theorem yT {P:Program}{J:Goroutine->af->Prop}{ops:Array Oper}{K:Act->af->Prop}{go:Bool}{a:Act}{F:af}:fh P J ops K [] go a F=K a F:=rfl
theorem yU {P:Program}{J:Goroutine->af->Prop}{ops:Array Oper}{K:Act->af->Prop}{o:Oper}{rest:List Oper}{a:Act}{F:af}:fh P J ops K (o::rest) true a F=match cJ ops o a with
  |some true=>cV P J o (fun v F'=>fh P J ops K rest (!Oper.calls o) (bq a o.dst v) F') a F
  |some false=>fh P J ops K rest true (bq a o.dst undef) F
  |none=>False:=(Eq.refl _).trans (Eq.refl _)
theorem aP {P:Program}{J:Goroutine->af->Prop}{ops:Array Oper}{K:Act->af->Prop}:∀{l:List Oper} {go:Bool} {a:Act} {F:af},fh P J ops K l true a F->fh P J ops K l go a F
 |[],_,_,_,h=>h
 |_::_,_,_,_,h=>h
theorem tP {P:Program}{J:Goroutine->af->Prop}{ops:Array Oper}{K:Act->af->Prop}:∀(l:List Oper) (k:Nat) (go:Bool) (a:Act) (F:af),ops.toList.drop k=l->fh P J ops K l go a F->
  fY P J ops K (List.range' k l.length) a F
 |[],k,_,a,F,_,h=>h
 |o::rest,k,_,a,F,b,h=>by
  have d:ops[k]?=some o:=by
   have:=congrArg List.head? b
   simpa [List.head?_drop] using this
  have c:ops.toList.drop (k+1)=rest:=by
   have:=congrArg List.tail b
   simpa [List.tail_drop] using this
  simp only[List.length_cons,List.range'_succ]
  show ef P J ops k (fY P J ops K (List.range' (k+1) rest.length)) a F
  unfold ef
  simp only[d]
  unfold fh at h
  split at h
  .rename_i hg
   rw[if_pos (cv hg)]
   exact gW (oq (fun v F' e=>tP rest (k+1) _ _ F' c e) (fun _ _ x=>x)) _ _ (kI h)
  .rename_i hg
   rw[if_neg (by rw[cv hg];simp)]
   exact tP rest (k+1) _ _ F c h
  .exact h.elim
theorem aG {P:Program}{main:Bool}{J:Goroutine->af->Prop}{Q:Ex->Act->af->Prop}{a:Act}{F:af}(hJ:Closed P main J){id:Nat}{ops:Array Oper}(h:fh P J ops (Q .normal) ops.toList true a F):Wp J (.region id ops false) Q a F:=by
 refine Cg hJ ?_;have:=tP ops.toList 0 true a F av h;simpa [List.range_eq_range'] using this
theorem an {P:Program}{main:Bool}{J:Goroutine->af->Prop}{Q:Ex->Act->af->Prop}{a:Act}{F:af}(hJ:Closed P main J){id:Nat}{ops:Array Oper}{y:Code}(h:fh P J ops (qd J y Q .normal) ops.toList true a F):Wp J (.seq (.region id ops false) y) Q a F:=ah hJ (aG hJ h)
attribute [irreducible] fh
theorem mR {P:Program}{J:Goroutine->af->Prop}{ops:Array Oper}{Q:Act->af->Prop}{S:af->Prop}(i:Nat){b:Oper}(v:Value){fuel:Nat}{listed:Array Bool}{a:Act}{F:af}(d:ops[i]?=some b)
  (e:(Region.noSelect ops&&Region.free .any ops listed i&&(Region.ready .any ops listed).contains i)=true)
  (hg:cJ ops b a=some true) (f:∀F R,S F->R v F->cV P J b R a F) (c:S F)
  (h:eu P J ops Q S fuel (listed.setIfInBounds i true) (bq a b.dst v) F):eu P J ops Q S (fuel+1) listed a F:=
 yt i v d e (.inl ⟨cv hg,fun F R c g=>kI (f F R c g)⟩) c h
theorem yV {P:Program}{J:Goroutine->af->Prop}{ops:Array Oper}{Q:Act->af->Prop}{S:af->Prop}(i:Nat){b:Oper}{fuel:Nat}{listed:Array Bool}{a:Act}{F:af}(c:ops[i]?=some b)
  (d:(Region.noSelect ops&&Region.free .any ops listed i&&(Region.ready .any ops listed).contains i)=true)
  (hg:cJ ops b a=some false) (e:S F)
  (h:eu P J ops Q S fuel (listed.setIfInBounds i true) (bq a b.dst undef) F):eu P J ops Q S (fuel+1) listed a F:=
 yt i undef c d (.inr ⟨cv hg,rfl⟩) e h
theorem yW {P:Program}{J:Goroutine->af->Prop}{ops:Array Oper}{Q:Act->af->Prop}{S:af->Prop}(i:Nat){b:Oper}{fuel:Nat}{listed:Array Bool}{a:Act}{F:af}(c:ops[i]?=some b)
  (d:Region.ready .any ops listed=[i]) (hg:cJ ops b a=some true)
  (h:cV P J b (fun v F'=>S F'/\eu P J ops Q S fuel (listed.setIfInBounds i true) (bq a b.dst v) F') a F):eu P J ops Q S (fuel+1) listed a F:=by
 refine Cd i d ?_
 unfold ef
 simp only[c]
 rw[if_pos (cv hg)]
 exact kI h
theorem aD {P:Program}{main:Bool}{J:Goroutine->af->Prop}{Q:Ex->Act->af->Prop}{a:Act}{F:af}{B:Prop}(hJ:Closed P main J){id:Nat}{ops:Array Oper}{y:Code}(h:B)(e:fh P J ops (qd J y Q .normal) ops.toList true a F=B:=by conv=>lhs;simp only[*,go_sem]):Wp J (.seq (.region id ops false) y) Q a F:=ah hJ (aG hJ (e▸h))
theorem aM {P:Program}{main:Bool}{J:Goroutine->af->Prop}{Q:Ex->Act->af->Prop}{a:Act}{F:af}{B:Prop}(hJ:Closed P main J){id:Nat}{ops:Array Oper}(h:B)(e:fh P J ops (Q .normal) ops.toList true a F=B:=by conv=>lhs;simp only[*,go_sem]):Wp J (.region id ops false) Q a F:=aG hJ (e▸h)
theorem mS {P:Program}{main:Bool}{J:Goroutine->af->Prop}{Q:Ex->Act->af->Prop}{a:Act}{F:af}{B:Prop}(hJ:Closed P main J)(h:B)(e:Q .normal a F=B:=by conv=>lhs;simp only[*,go_sem]):Wp J .skip Q a F:=aK hJ (e▸h)
theorem b9 {J:Goroutine->af->Prop}{Q:Ex->Act->af->Prop}{a:Act}{F:af}{B:Prop}(h:B)(e:Q .ret a F=B:=by conv=>lhs;simp only[*,go_sem]):Wp J .ret Q a F:=aJ (e▸h)
attribute [go_sem] List.isEmpty_nil List.isEmpty_cons undef yT yU Oper.calls Bool.not_true Bool.not_false cJ cV af.push af.get af.put lk iQ cellOf fC qm af.dP af.ju af.lG bN frozenAt oD lR oC Option.isNone_none Option.isNone_some gH iT mP lO qn qo oA oG lP oF qv lS qw oE qu
theorem add_zero' (a:Addr):a.add 0=a:=rfl
theorem kJ (a:Addr)(m n:Nat):(a.add m).add n=a.add (m+n):=by
 unfold Addr.add;by_cases hm:m=0
 .subst hm;simp
 .by_cases b:n=0
  .subst b;simp[hm]
  .have:¬m+n=0:=aa;simp[hm,b,this,Nat.add_assoc]
theorem kK (b o n:Nat):(⟨b,o,none⟩:Addr).add n=⟨b,o+n,none⟩:=by
 unfold Addr.add;by_cases a:n=0
 .subst a;simp
 .simp[a]
attribute [go_sem] add_zero' kJ kK Nat.add_assoc Int.reduceLE Int.reduceLT Int.reduceToNat Int.toNat_zero Int.le_refl
attribute [go_sem] Value.cells Instr.fill qg ig tg qd CE
attribute [go_sem] and_true true_and Array.getD_eq_getD_getElem? List.getElem?_toArray List.getElem?_cons_zero List.getElem?_cons_succ List.getElem?_nil Option.getD_some Option.getD_none Option.bind_some Option.bind_none Option.map_some Option.map_none
attribute [go_sem] Nat.reduceLT Nat.reduceEqDiff Nat.reduceAdd Nat.reduceMul Nat.reduceSub if_true if_false reduceIte reduceCtorEq List.setIfInBounds_toArray List.set_cons_zero List.set_cons_succ
attribute [go_sem] List.map_toArray List.map_cons List.map_nil List.append_toArray List.cons_append List.nil_append List.append_nil Array.append_empty Array.empty_append List.toList_toArray List.length_cons List.length_nil List.size_toArray ne_eq not_true_eq_false not_false_eq_true forall_const
theorem dI {ro:Addr->Option Value}{own:List (Nat×Obj)}{b:Nat}(h:ez ⟨ro,own⟩ b):∀off sp,ro ⟨b,off,sp⟩=none:=h.ro
theorem ew {ro:Addr->Option Value}{own:List (Nat×Obj)}{b:Nat}(h:ez ⟨ro,own⟩ b):au own b:=h.own
def oH (P:Program)(F:af)(a:Act):ResultVar->Option Value
 | .tmp t=>some (slot a t)
 | .cell ad t=>match slot a ad with
  | .pointer (some p)=>fC P F t p
  |_=>none
def lU (P:Program)(F:af)(a:Act):List ResultVar->Option (List Value)
 |[]=>some []
 |r::rs=>match oH P F a r with
  |some v=>match lU P F a rs with
   |some b=>some (v::b)
   |none=>none
  |none=>none
def lV (P:Program)(F:af)(a:Act)(rs:List ResultVar):Option Value:=
 match lU P F a rs with
 |some [v]=>some v
 |some b=>some (.tuple b.toArray)
 |none=>none
attribute [go_sem] oH lU lV
theorem tQ {P:Program}{F:af}{a:Act}{Q:Array Value->af->Prop}:∀(rs:List ResultVar) (d:List Value) (acc:Array Value),lU P F a rs=some d->Q (acc++d.toArray) F->
  bp P (rs.foldlM (fun (b:Array Value) r=>do let x<-(match r with| .tmp t=>pure (a.tmps.getD t undef)| .cell ad t=>do loadVar t (<-asAddr (a.tmps.getD ad undef)):Sem Value);pure (b.push x)) acc) Q F
 |[],d,acc,h,e=>by
  simp only[lU,Option.some.injEq] at h;subst h
  simpa [bP] using e
 |r::rs,d,acc,h,e=>by
  unfold lU at h
  split at h
  case h_2=>cases h
  rename_i v c
  split at h
  case h_2=>cases h
  rename_i ws i
  cases h
  have f:=tQ rs ws (acc.push v) i (Q:=Q) (by simpa using e)
  simp only[List.foldlM_cons,bF]
  cases r with
  |tmp t=>
   simp only[oH,Option.some.injEq,slot] at c
   subst c
   simpa only[bP] using f
  |cell ad t=>
   simp only[oH] at c
   split at c
   .rename_i p g
    unfold slot at g
    simp only[bF,g,asAddr,bP]
    exact yK c f
   .cases c
theorem qx {P:Program}{fn:Func}{rs:List ResultVar}{F:af}{a:Act}{v:Value}{R:Value->af->Prop}(d:fn.results=rs.toArray)(h:lV P F a rs=some v)(c:R v F):bp P (results fn a.tmps) R F:=by
 unfold results;rw[d,bF,Array.mapM_eq_foldlM,<-Array.foldlM_toList];unfold lV at h;split at h
 case h_3=>cases h
 .rename_i x b;cases h;exact tQ rs [v] #[] b (by simpa [bP] using c)
 .rename_i e f b;cases h;refine tQ rs e #[] b ?_;simp only[Array.empty_append,bP];split
  .rename_i hs;simp at hs;obtain ⟨v,rfl⟩:=List.length_eq_one_iff.1 hs;exact absurd rfl (f v)
  .exact c
def iU (P:Program)(rs:List ResultVar)(R:Value->af->Prop):Ex->Act->af->Prop
 | .exit _,_,_=>False
 |_,a,F=>a.defers=[]/\match lV P F a rs with|some v=>R v F|none=>False
attribute [go_sem] iU
theorem aA.go {P:Program}{f:FuncId}{fn:Func}{c:Code}{n:Nat}{rs:List ResultVar}{args:Array Value}{F:af}{R:Value->af->Prop}(g:P.funcs[f]?=some fn)(hb:fn.body=some c)(j:fn.ntmps=n)(k:fn.results=rs.toArray)(l:args.size<=n)
  (h:∀main J,Closed P main J->∀A:Act,sz A=n->A.defers=[]->(∀i,slot A i=args.getD i undef)->Wp J c (iU P rs R) A F):aA P f args F R:=
 aA.start g hb j l fun main J hJ A m o p=>(h main J hJ A m o p).mono fun e a F d=>by
  cases e with
  |exit i=>exact d
  |_=>
   obtain ⟨hd,b⟩:=d
   split at b
   .rename_i v q
    show ig P a.defers _ F
    rw[hd]
    exact qx k q b
   .exact b.elim
def dh (n m:Nat):Array Bool:=(Array.range n).map fun i=>decide (i<m)
def oI (ops:Array Oper)(m:Nat):Bool:=
 Region.noSelect ops&&decide (m<=ops.size)&&((List.range m).all fun i=>Region.free .any ops (dh ops.size i) i&&(Region.ready .any ops (dh ops.size i)).contains i)&&
 ((List.range (ops.size - m)).all fun j=>decide (Region.ready .any ops (dh ops.size (m+j))=[m+j]))&&decide (Region.ready .any ops (dh ops.size ops.size)=[])
def CF (D:List Nat)(L:List (List Nat))(x y:Nat):Bool:=RegionTabs.apart ⟨#[],D.toArray,L.toArray⟩ x y
def tR (A:List (List Nat))(D:List Nat)(L:List (List Nat))(n m:Nat):Bool:=
 decide (m<=n)&&((List.range m).all fun k=>(A.getD k []).all (fun x=>decide (x<k))&&(List.range n).all fun j=>decide (j<=k)||(A.getD j []).contains k||CF D L k j)&&
 ((List.range (n - m)).all fun t=>(A.getD (m+t) []).all (fun x=>decide (x<m+t))&&(List.range (n - (m+t+1))).all fun u=>!(A.getD (m+t+1+u) []).all (fun x=>decide (x<m+t)))
section
variable {ops:Array Oper}
theorem yX {n k i:Nat}(h:i<n):(dh n k).getD i true=decide (i<k):=by
 simp[dh,Array.getD_eq_getD_getElem?,h]
theorem CG {n k i:Nat}(a:k<=n):(dh n k).getD i false=decide (i<k):=by
 rcases Nat.lt_or_ge i n with h|h
 .simp[dh,Array.getD_eq_getD_getElem?,h]
 .have:¬i<k:=aa;simp[dh,Array.getD_eq_getD_getElem?,Array.getElem?_eq_none,h,this]
theorem tS {A:List (List Nat)}{k:Nat}(a:Region.tabAfter .any ops=A)(b:k<=ops.size):
  Region.ready .any ops (dh ops.size k)=(List.range ops.size).filter fun i=>!decide (i<k)&&(A.getD i []).all fun x=>decide (x<k):=by
 have hlen:A.length=ops.size:=by rw[<-a];simp[Region.tabAfter]
 rw[<-RegionTabs.ready_eq]
 unfold RegionTabs.ready RegionTabs.of
 simp only[a,List.size_toArray,hlen]
 apply List.filter_congr
 intro i c
 have d:i<ops.size:=List.mem_range.1 c
 rw[yX d]
 congr 1
 rw[List.getElem?_toArray,List.getD_eq_getElem?_getD,List.getElem?_eq_getElem aa]
 simp only[Option.map_some,Option.getD_some]
 congr 1
 funext x
 exact CG b
theorem filter_one {k:Nat}{p:Nat->Bool}(b:p k=true):∀(n:Nat),k<n->(∀i,i<n->i≠k->p i=false)->(List.range n).filter p=[k]
 |0,d,_=>by omega
 |n+1,d,a=>by
  rw[List.range_succ,List.filter_append]
  by_cases e:k=n
  .subst e
   have:(List.range k).filter p=[]:=by
    rw[List.filter_eq_nil_iff]
    intro i c
    have f:=List.mem_range.1 c
    rw[a i aa aa];simp
   rw[this];simp[b]
  .rw[filter_one b n aa fun i c=>a i aa]
   simp[a n aa (fun x=>e x.symm)]
theorem CH {m n:Nat}(A:List (List Nat))(D:List Nat)(L:List (List Nat))(hs:Region.noSelect ops=true)(g:ops.size=n)(a:Region.tabAfter .any ops=A)(k:Region.tabDst ops=D)(l:Region.tabLooks ops=L)(h:tR A D L n m=true):oI ops m=true:=by
 subst g;have hlen:A.length=ops.size:=by rw[<-a];simp[Region.tabAfter]
 simp only[tR,Bool.and_eq_true,decide_eq_true_eq,List.all_eq_true,List.mem_range] at h;obtain ⟨⟨hm,d⟩,f⟩:=h;simp only[oI,Bool.and_eq_true,decide_eq_true_eq,List.all_eq_true,List.mem_range];refine ⟨⟨⟨⟨hs,hm⟩,fun i b=>⟨?_,?_⟩⟩,fun j c=>?_⟩,?_⟩
 .rw[<-RegionTabs.free_eq];unfold RegionTabs.free;have e1:(RegionTabs.of .any ops).after=A.toArray:=by simp[RegionTabs.of,a]
  rw[e1,List.size_toArray,hlen];simp only[Bool.and_eq_true,decide_eq_true_eq,List.all_eq_true,List.mem_range];refine ⟨aa,fun j c=>?_⟩;have:=(d i b).2 j c;simp only[Bool.or_eq_true,decide_eq_true_eq] at this;simp only[Bool.or_eq_true];rcases this with (hle|o)|p
  .rcases Nat.lt_or_eq_of_le hle with x|x
   .left;left;right;rw[yX aa];simpa using x
   .left;left;left;simpa using x
  .left;right;simpa [Array.getD_eq_getD_getElem?,List.getD_eq_getElem?_getD] using o
  .right;have e:RegionTabs.of .any ops=⟨A.toArray,D.toArray,L.toArray⟩:=by simp[RegionTabs.of,a,k,l]
   rw[e];exact p
 .rw[tS a aa];rw[List.contains_iff_mem,List.mem_filter];refine ⟨List.mem_range.2 aa,?_⟩;have:=(d i b).1;simpa [List.all_eq_true] using this
 .have q:m+j<ops.size:=aa;rw[tS a aa];refine filter_one ?_ _ q fun i b r=>?_
  .have:=(f j c).1;simpa [List.all_eq_true] using this
  .rcases Nat.lt_or_ge i (m+j) with x|x
   .simp[x]
   .have:=(f j c).2 (i - (m+j+1)) aa;rw[show m+j+1+(i - (m+j+1))=i by omega] at this;simp only[Bool.not_eq_true'] at this;simp only[this,Bool.and_false]
 .rw[tS a (Nat.le_refl _)];rw[List.filter_eq_nil_iff];intro i b;have:=List.mem_range.1 b;simp[this]
def tT (n:Nat)(k:Nat->Bool):Bool:=Nat.casesOn n (k 0) fun m=>k (m+1)
def oJ:List Nat->(List Nat->Bool)->Bool
 |[],k=>k []
 |x::xs,k=>tT x fun y=>oJ xs fun ys=>k (y::ys)
def oK:List (List Nat)->(List (List Nat)->Bool)->Bool
 |[],k=>k []
 |x::xs,k=>oJ x fun y=>oK xs fun ys=>k (y::ys)
theorem yY (n:Nat)(k:Nat->Bool):tT n k=k n:=by cases n<;>rfl
theorem tU:∀(l:List Nat) (k:List Nat->Bool),oJ l k=k l
 |[],_=>rfl
 |x::xs,k=>by rw[oJ,yY,tU xs]
theorem yZ:∀(l:List (List Nat)) (k:List (List Nat)->Bool),oK l k=k l
 |[],_=>rfl
 |x::xs,k=>by rw[oK,tU,yZ xs]
def mT (ops:Array Oper)(m:Nat):Bool:=Region.noSelect ops&&oK (Region.tabAfter .any ops) fun A=>oJ (Region.tabDst ops) fun D=>oK (Region.tabLooks ops) fun L=>tT ops.size fun n=>tR A D L n m
theorem y2 {m:Nat}(h:mT ops m=true):oI ops m=true:=by
 simp only[mT,Bool.and_eq_true,yZ,tU,yY] at h;exact CH _ _ _ h.1 rfl rfl rfl rfl h.2
end
def iV:List (Nat×Obj)->List (Nat×Obj)->Prop
 |[],_=>True
 |(b,o)::l,own=>lk own b=some o/\iV l own
def Knows (F0 F:af):Prop:=(∀a v,F0.ro a=some v->F.ro a=some v)/\(∀a,a.block∈keys F0.own->F0.ro a=none->F.ro a=none)/\iV F0.own F.own
theorem iV.lk:∀{l own:List (Nat×Obj)} {b:Nat} {o:Obj},iV l own->lk l b=some o->Go.Sep.lk own b=some o
 |[],_,_,_,_,h=>by cases h
 |(c,x)::l,own,b,o,a,h=>by
  unfold Go.Sep.lk at h
  split at h
  .rename_i e;cases h;exact e▸a.1
  .exact iV.lk a.2 h
theorem Knows.get {F0 F:af}(h:Knows F0 F){a:Addr}{v:Value}(hg:F0.get a=some v):F.get a=some v:=by
 unfold af.get at hg ⊢;cases b:F0.ro a with
 |some x=>rw[b] at hg;rw[h.1 a x b];exact hg
 |none=>
  rw[b] at hg;simp only at hg;split at hg
  .rename_i hs;obtain ⟨o,c,d⟩:=Option.bind_eq_some_iff.1 hg;rw[h.2.1 a (fe (gS c)) b];simp only;rw[if_pos hs,h.2.2.lk c];exact d
  .cases hg
theorem CI {ro:Addr->Option Value}{l own:List (Nat×Obj)}:Knows ⟨ro,l⟩ ⟨ro,own⟩=iV l own:=
 propext ⟨fun h=>h.2.2,fun h=>⟨fun _ _ x=>x,fun _ _ x=>x,h⟩⟩
theorem CJ {ro aT:Addr->Option Value}{l own:List (Nat×Obj)}(c:∀a v,ro a=some v->aT a=some v)(d:∀b∈keys l,∀off sp,aT ⟨b,off,sp⟩=none)(h:iV l own):Knows ⟨ro,l⟩ ⟨aT,own⟩:=
 ⟨c,fun a e _=>d a.block e a.off a.spot,h⟩
theorem Knows.lN {F0 F:af}(h:Knows F0 F){a:Addr}:∀{n i:Nat} {b:List Value},F0.dP a i n=some b->F.dP a i n=some b
 |0,_,_,hg=>hg
 |n+1,i,b,hg=>by
  unfold af.dP at hg ⊢
  split at hg
  case h_2=>cases hg
  rename_i v c
  split at hg
  case h_2=>cases hg
  rename_i ws d
  rw[h.get c,h.lN d]
  exact hg
theorem Knows.fC {P:Program}{F0 F:af}(h:Knows F0 F){t:TypeId}{ad:Addr}{v:Value}(hg:fC P F0 t ad=some v):Go.Sep.fC P F t ad=some v:=by
 unfold Go.Sep.fC at hg ⊢;split at hg
 .exact h.get hg
 .split at hg
  case h_2=>cases hg
  rename_i n b;split at hg
  case h_2=>cases hg
  rename_i c a;rw[h.lN a];exact hg
 .cases hg
def iW (P:Program)(o:Oper)(a:Act):Option Value:=
 match o.op with
 | .move x| .assign x=>some (ev a x)
 | .nilCheck x=>match ev a x with
  | .pointer (some ad)=>some (.pointer (some ad))
  |_=>none
 | .pick c x y=>match ev a c with
  | .bool b=>some (if b then ev a x else ev a y)
  |_=>none
 | .build t parts=>oE P t (parts.map fun (i,x)=>(i,ev a x)).toList
 | .binOp op t x y _=>oD P op t (ev a x) (ev a y)
 | .unOp op _ x=>lO op (ev a x)
 | .convert src dst x=>lS P src dst (ev a x)
 | .makeFunc fn first captured=>some (.func fn (first.map (ev a)) (captured.map (ev a)))
 | .slice t x d e none=>match ev a x with
  | .slice ad len cap=>if len<=cap then lP P t (.slice ad len cap) (d.map (ev a)) (e.map (ev a)) else none
  | .pointer (some ad)=>lP P t (.pointer (some ad)) (d.map (ev a)) (e.map (ev a))
  |_=>none
 | .fieldAddr s x n=>match ev a x with
  | .pointer (some ad)=>match cu P s n with
   |some k=>some (.pointer (some (ad.add k)))
   |none=>none
  |_=>none
 | .field s x n=>oF P s n (ev a x)
 | .indexAddr t x i=>oA P t (ev a x) (ev a i)
 | .index t x i=>oG P t (ev a x) (ev a i)
 | .extract x n=>qv n (ev a x)
 | .call {callee:=.builtin .len,args,argTypes}=>match argTypes[0]?,args[0]? with
  |some t,some x=>qw P t (ev a x)
  |_,_=>none
 | .call {callee:=.builtin .max,args, ..}=>match args.toList with
  |[x,y]=>qn (ev a x) (ev a y)
  |_=>none
 | .call {callee:=.builtin .min,args, ..}=>match args.toList with
  |[x,y]=>qo (ev a x) (ev a y)
  |_=>none
 |_=>none
theorem qy {P:Program}{J:Goroutine->af->Prop}{o:Oper}{a:Act}{v:Value}{R:Value->af->Prop}{F:af}(h:iW P o a=some v)(d:R v F):cV P J o R a F:=by
 obtain ⟨dst,op,type,pos,after,guard⟩:=o;unfold iW at h;unfold cV;cases op<;>simp only[reduceCtorEq] at h ⊢
 case move x=>cases h;exact d
 case assign x=>cases h;exact d
 case nilCheck x=>
  split at h
  .rename_i ad e;cases h;rw[e];exact d
  .cases h
 case pick c x y=>
  split at h
  .rename_i b hb;cases h;try rw[hb]
   exact d
  .cases h
 case build t parts=>rw[h];exact d
 case binOp=>rw[h];exact d
 case unOp=>rw[h];exact d
 case convert=>rw[h];exact d
 case makeFunc=>cases h;exact d
 case slice t x l p g=>
  cases g with
  |some m=>cases h
  |none=>
   simp only at h ⊢;split at h
   case h_3=>cases h
   case h_2=>
    rename_i ad e;rw[e];exact ⟨trivial,by rw[h];exact d⟩
   rename_i ad len cap e;split at h
   case isFalse=>cases h
   rename_i i;rw[e];exact ⟨i,by rw[h];exact d⟩
 case fieldAddr s x n=>
  split at h
  case h_2=>cases h
  rename_i ad e;split at h
  case h_2=>cases h
  rename_i k j;cases h;try rw[e]
  try simp only[j]
  exact d
 case field=>rw[h];exact d
 case indexAddr=>rw[h];exact d
 case index=>rw[h];exact d
 case extract=>rw[h];exact d
 case call c=>
  obtain ⟨callee,args,argTypes⟩:=c;cases callee with
  |value x=>cases h
  |invoke r m=>cases h
  |builtin b=>
   cases b<;>simp only[reduceCtorEq] at h ⊢
   case len=>
    split at h
    case h_2=>cases h
    rename_i t x ht e;simp only[ht,e,h];exact d
   case max=>
    split at h
    case h_2=>cases h
    rename_i x y f;simp only[f,h];exact d
   case min=>
    split at h
    case h_2=>cases h
    rename_i x y f;simp only[f,h];exact d
def Plain (P:Program)(J:Goroutine->af->Prop)(F0:af)(f:FuncId)(args:Array Value)(v:Value):Prop:=
 ∀F,Knows F0 F->c8 P J f args F (fun a F'=>a=v/\F'=F)
def eF (P:Program)(J:Goroutine->af->Prop)(ops:Array Oper)(F0:af)(K:Act->Prop):List Oper->Bool->Act->Prop
 |[],_,a=>K a
 |o::rest,_,a=>match cJ ops o a with
  |some false=>eF P J ops F0 K rest true (bq a o.dst undef)
  |some true=>match o.op with
   | .load t x=>match ev a x with
    | .pointer (some ad)=>match fC P F0 t ad with
     |some v=>eF P J ops F0 K rest true (bq a o.dst v)
     |none=>False
    |_=>False
   | .call {callee:=.value x,args, ..}=>match ev a x with
    | .func (.func fn) first captured=>aN P fn=true/\∃v,Plain P J F0 fn (first++args.map (ev a)++captured) v/\eF P J ops F0 K rest false (bq a o.dst v)
    |_=>False
   |_=>match iW P o a with
    |some v=>eF P J ops F0 K rest true (bq a o.dst v)
    |none=>False
  |none=>False
theorem CK {P:Program}{J:Goroutine->af->Prop}{ops:Array Oper}{F0:af}{K:Act->Prop}{go:Bool}{a:Act}:eF P J ops F0 K [] go a=K a:=rfl
theorem CL {P:Program}{J:Goroutine->af->Prop}{ops:Array Oper}{F0:af}{K:Act->Prop}{o:Oper}{rest:List Oper}{a:Act}:eF P J ops F0 K (o::rest) true a=match cJ ops o a with
  |some false=>eF P J ops F0 K rest true (bq a o.dst undef)
  |some true=>match o.op with
   | .load t x=>match ev a x with
    | .pointer (some ad)=>match fC P F0 t ad with
     |some v=>eF P J ops F0 K rest true (bq a o.dst v)
     |none=>False
    |_=>False
   | .call {callee:=.value x,args, ..}=>match ev a x with
    | .func (.func fn) first captured=>aN P fn=true/\∃v,Plain P J F0 fn (first++args.map (ev a)++captured) v/\eF P J ops F0 K rest false (bq a o.dst v)
    |_=>False
   |_=>match iW P o a with
    |some v=>eF P J ops F0 K rest true (bq a o.dst v)
    |none=>False
  |none=>False:=(Eq.refl _).trans (Eq.refl _)
theorem bY {P:Program}{J:Goroutine->af->Prop}{ops:Array Oper}{F0:af}{K:Act->Prop}:∀{l:List Oper} {go:Bool} {a:Act},eF P J ops F0 K l true a->eF P J ops F0 K l go a
 |[],_,_,h=>h
 |_::_,_,_,h=>h
theorem qz {n m:Nat}(h:m<n):(dh n m).setIfInBounds m true=dh n (m+1):=by
 apply Array.ext
 .simp[dh]
 .intro i a b;simp[dh] at a b;rw[Array.getElem_setIfInBounds (by simp[dh];omega)];by_cases e:m=i
  .subst e;simp[dh]
  .simp only[if_neg e,dh,Array.getElem_map,Array.getElem_range];rw[decide_eq_decide];omega
theorem y3 (n:Nat):dh n 0=Array.replicate n false:=by
 apply Array.ext
 .simp[dh]
 .intro i a b;simp[dh]
section
variable {P:Program}{main:Bool}{J:Goroutine->af->Prop}{ops:Array Oper}{Q:Act->af->Prop}{F0:af}
theorem qA {K:Act->Prop}(m:Nat)(hm:m<=ops.size)(r:Region.noSelect ops=true)(s:∀i,i<m->(Region.free .any ops (dh ops.size i) i&&(Region.ready .any ops (dh ops.size i)).contains i)=true)
  {F:af} (b:Knows F0 F) (hK:∀a,K a->eu P J ops Q (Knows F0) (ops.size - m) (dh ops.size m) a F):
  ∀(l:List Oper) (k:Nat) (go:Bool) (a:Act),(ops.toList.take m).drop k=l->k<=m->eF P J ops F0 K l go a->eu P J ops Q (Knows F0) (ops.size - k) (dh ops.size k) a F
 |[],k,_,a,c,z,h=>by
  have:k=m:=by
   have:=congrArg List.length c
   simp at this
   omega
  subst this
  exact hK a h
 |o::rest,k,_,a,c,z,h=>by
  have g:k<m:=by
   rcases Nat.lt_or_ge k m with x|x
   .exact x
   .rw[List.drop_eq_nil_of_le (by simp;omega)] at c;cases c
  have j:ops[k]?=some o:=by
   have:=congrArg List.head? c
   rw[List.head?_drop,List.getElem?_take_of_lt g] at this
   simpa using this
  have w:(ops.toList.take m).drop (k+1)=rest:=by
   have:=congrArg List.tail c
   simpa [List.tail_drop] using this
  have A:=s k g
  have e:ops.size - k=(ops.size - (k+1))+1:=aa
  have y:=qz (n:=ops.size) (m:=k) aa
  have p:(Region.noSelect ops&&Region.free .any ops (dh ops.size k) k&&(Region.ready .any ops (dh ops.size k)).contains k)=true:=by
   rw[r,Bool.true_and];exact A
  rw[e]
  unfold eF at h
  split at h
  .rename_i hg
   exact yV k j p hg b (by rw[y];exact qA m hm r s b hK rest (k+1) _ _ w g h)
  .rename_i hg
   have next:∀go v,eF P J ops F0 K rest go (bq a o.dst v)->eu P J ops Q (Knows F0) (ops.size - (k+1)) ((dh ops.size k).setIfInBounds k true) (bq a o.dst v) F:=fun go v d=>by
    rw[y];exact qA m hm r s b hK rest (k+1) _ _ w g d
   split at h
   .rename_i t x u
    split at h
    case h_2=>exact h.elim
    rename_i ad B
    split at h
    case h_2=>exact h.elim
    rename_i v d
    refine mR k v j p hg (fun F R q f=>?_) b (next _ v h)
    unfold cV
    simp only[u,B,q.fC d]
    exact f
   .rename_i x args argTypes u
    split at h
    case h_2=>exact h.elim
    rename_i fn first captured C
    obtain ⟨D,v,E,h⟩:=h
    refine mR k v j p hg (fun F R q f=>?_) b (next _ v h)
    unfold cV
    simp only[u,C]
    exact ⟨D,(E F q).mono fun H F' G=>by obtain ⟨rfl,rfl⟩:=G;exact f⟩
   .split at h
    case h_2=>exact h.elim
    rename_i v d
    exact mR k v j p hg (fun F R q f=>qy d f) b (next _ v h)
  .exact h.elim
def eZ (P:Program)(J:Goroutine->af->Prop)(ops:Array Oper)(F0:af)(Q:Act->af->Prop):List Oper->Bool->Act->af->Prop
 |[],_,a,F=>Q a F
 |o::rest,_,a,F=>match cJ ops o a with
  |some true=>cV P J o (fun v F'=>Knows F0 F'/\eZ P J ops F0 Q rest (!Oper.calls o) (bq a o.dst v) F') a F
  |_=>False
theorem CM {P:Program}{J:Goroutine->af->Prop}{ops:Array Oper}{F0:af}{Q:Act->af->Prop}{go:Bool}{a:Act}{F:af}:eZ P J ops F0 Q [] go a F=Q a F:=rfl
theorem CN {P:Program}{J:Goroutine->af->Prop}{ops:Array Oper}{F0:af}{Q:Act->af->Prop}{o:Oper}{rest:List Oper}{a:Act}{F:af}:eZ P J ops F0 Q (o::rest) true a F=match cJ ops o a with
  |some true=>cV P J o (fun v F'=>Knows F0 F'/\eZ P J ops F0 Q rest (!Oper.calls o) (bq a o.dst v) F') a F
  |_=>False:=(Eq.refl _).trans (Eq.refl _)
theorem gX {P:Program}{J:Goroutine->af->Prop}{ops:Array Oper}{F0:af}{Q:Act->af->Prop}:∀{l:List Oper} {go:Bool} {a:Act} {F:af},eZ P J ops F0 Q l true a F->eZ P J ops F0 Q l go a F
 |[],_,_,_,h=>h
 |_::_,_,_,_,h=>h
theorem lW (m:Nat)(i:∀j,j<ops.size - m->Region.ready .any ops (dh ops.size (m+j))=[m+j])(n:Region.ready .any ops (dh ops.size ops.size)=[]):
  ∀(l:List Oper) (k:Nat) (go:Bool) (a:Act) (F:af),m<=k->k<=ops.size->ops.toList.drop k=l->eZ P J ops F0 Q l go a F->eu P J ops Q (Knows F0) (ops.size - k) (dh ops.size k) a F
 |[],k,_,a,F,s,u,f,h=>by
  have:k=ops.size:=by
   have:=congrArg List.length f
   simp at this
   omega
  subst this
  exact yu n h _
 |o::rest,k,_,a,F,s,u,f,h=>by
  have w:k<ops.size:=by
   rcases Nat.lt_or_ge k ops.size with x|x
   .exact x
   .rw[List.drop_eq_nil_of_le (by simpa using x)] at f;cases f
  have y:ops[k]?=some o:=by
   have:=congrArg List.head? f
   simpa [List.head?_drop] using this
  have z:ops.toList.drop (k+1)=rest:=by
   have:=congrArg List.tail f
   simpa [List.tail_drop] using this
  have e:ops.size - k=(ops.size - (k+1))+1:=aa
  have p:=i (k - m) aa
  rw[show m+(k - m)=k by omega] at p
  rw[e]
  unfold eZ at h
  split at h
  .rename_i hg
   refine yW k y p hg ?_
   refine qB ?_ h
   rintro v F' ⟨A,g⟩
   refine ⟨A,?_⟩
   rw[qz w]
   exact lW m i n rest (k+1) _ _ F' aa aa z g
  .exact h.elim
where
 qB {o:Oper} {a:Act} {F:af} {R q:Value->af->Prop} (d:∀v F,R v F->q v F) (h:cV P J o R a F):cV P J o q a F:=by
  obtain ⟨dst,op,type,pos,after,guard⟩:=o
  unfold cV at h ⊢
  cases op<;>simp only at h ⊢<;>first
   |exact h.elim
   |exact d _ _ h
   |exact fun b hb=>d _ _ (h b hb)
   |exact gW (fun v F h=>d v F h) _ _ h
   |(split at h<;>first
     |exact h.elim
     |exact d _ _ h
     |exact fun b hb=>d _ _ (h b hb)
     |(split at h<;>first|exact h.elim|exact d _ _ h|exact fun b hb=>d _ _ (h b hb)))
   |skip
  case slice t x B C D=>
   cases D with
   |some m=>exact h.elim
   |none=>
    refine ⟨h.1,?_⟩
    have g:=h.2
    revert g
    cases lP P t (ev a x) (B.map (ev a)) (C.map (ev a)) with
    |some v=>exact fun x=>d _ _ x
    |none=>exact fun x=>x
  case call c=>
   obtain ⟨callee,args,argTypes⟩:=c
   cases callee with
   |value x=>
    exact gI.mono h d
   |invoke r m=>exact h.elim
   |builtin b=>
    cases b<;>simp only at h ⊢<;>first
     |exact h.elim
     |(split at h<;>first|exact h.elim|exact fun ty=>gW (fun v F ⟨F0,hle,h⟩=>⟨F0,hle,d _ _ h⟩) _ _ (h ty))
     |exact gW (fun v F h=>d v F h) _ _ h
     |(split at h<;>first|exact h.elim|(split at h<;>first|exact h.elim|exact d _ _ h|exact gW (fun v F h=>d v F h) _ _ h))
theorem eg {Q:Ex->Act->af->Prop}(hJ:Closed P main J)(e:P.follows .mixedOrders=true)(m:Nat){id:Nat}{a:Act}{F:af}(F0:af)(f:Knows F0 F)(g:mT ops m=true)
  (h:eF P J ops F0 (fun b=>eZ P J ops F0 (Q .normal) (ops.toList.drop m) true b F) (ops.toList.take m) true a):Wp J (.region id ops true) Q a F:=by
 have c:=y2 g
 simp only[oI,Bool.and_eq_true,decide_eq_true_eq,List.all_eq_true,List.mem_range] at c
 obtain ⟨⟨⟨⟨j,d⟩,k⟩,l⟩,n⟩:=c
 refine tj hJ (Knows F0) e ?_
 rw[<-y3]
 have:=qA (P:=P) (J:=J) (Q:=Q .normal) m d j (fun i o=>by have:=k i o;simpa using this) f (fun b p=>lW m l n _ m _ b F (Nat.le_refl _) d rfl p) _ 0 true a av (Nat.zero_le _) h
 simpa using this
theorem bD (hJ:Closed P main J){F0:af}{f:FuncId}{args:Array Value}{v:Value}(h:∀F,Knows F0 F->aA P f args F.cG (fun a _=>a=v)):Plain P J F0 f args v:=
 fun F b=>tr (h F b) main J hJ
end
attribute [irreducible] eF eZ
attribute [go_sem] iV CI iW CK CL CM CN qf List.take_succ_cons List.take_zero List.drop_succ_cons List.drop_zero Array.zipIdx_toArray List.zipIdx_cons List.zipIdx_nil List.foldl_toArray List.foldl_toArray' decide_eq_true_eq Bool.and_false Bool.false_and Bool.and_self Bool.true_and Bool.and_true List.foldl_cons List.foldl_nil decide_false decide_true Bool.or_false Bool.false_or Bool.or_self Bool.or_true Bool.true_or gt_iff_lt Nat.reduceGT Nat.lt_irrefl Bool.false_eq_true Nat.zero_add Nat.add_zero Nat.not_lt_zero
section
variable {P:Program}{main:Bool}{J:Goroutine->af->Prop}{Q:Ex->Act->af->Prop}{a:Act}{F:af}
theorem bf (hJ:Closed P main J){f:FuncId}{args:Array Value}{F:af}{K:Value->af->Prop}(v:Value)(h:aA P f args F.cG (fun a _=>a=v))(b:K v F):c8 P J f args F K:=
 (tr h main J hJ).mono fun a F' c=>by obtain ⟨rfl,rfl⟩:=c;exact b
theorem c5 (hJ:Closed P main J){c:Operand}{x y:Code}(b:ev a c= .bool true)(h:Wp J x Q a F):Wp J (.cond c x y) Q a F:=tf hJ true b h
theorem cW (hJ:Closed P main J){c:Operand}{x y:Code}(b:ev a c= .bool false)(h:Wp J y Q a F):Wp J (.cond c x y) Q a F:=tf hJ false b h
theorem CO (hJ:Closed P main J){c:Operand}{x y:Code}(b:Bool)(d:ev a c= .bool b)(e:b=true->Wp J x Q a F)(f:b=false->Wp J y Q a F):Wp J (.cond c x y) Q a F:=by
 refine tf hJ b d ?_;cases b
 .exact f rfl
 .exact e rfl
theorem cN (hJ:Closed P main J){c:Code}{F':af}(hle:Le F F')(h:Wp J c Q a F):Wp J c Q a F':=h.le (hJ:=hJ) hle
theorem Le.sub {ro:Addr->Option Value}{l l':List (Nat×Obj)}(h:l.Sublist l'):Le ⟨ro,l⟩ ⟨ro,l'⟩:=by
 have c:(keys l).Sublist (keys l'):=h.map _;exact ⟨fun w hw=>⟨hw.ro,fun b o hb=>hw.own b o (h.subset hb),c.nodup hw.nodup,fun a v d hm=>hw.apart a v d (c.subset hm)⟩,fun b hb=>c.subset hb,fun a e=>.inl e⟩
theorem mU (hJ:Closed P main J){c:Code}(I:Nat->Act->af->Prop)(n:Nat)(b:I n a F)(hs:∀n a F,I n a F->Wp J c (qf (fun m a F=>∃F0,Le F0 F/\I m a F0) n Q) a F):Wp J (.loop c) Q a F:=
 yy hJ (fun m a F=>∃F0,Le F0 F/\I m a F0) n ⟨F,Le.refl F,b⟩ fun n a F ⟨F0,hle,d⟩=>cN hJ hle (hs n a F0 d)
end
def gY:List Nat->Nat->Bool
 |[],_=>false
 |w::ws,i=>i==w||gY ws i
abbrev In (ws:List Nat)(i:Nat):Prop:=gY ws i=true
structure cR (ws:List Nat)(a a0:Act):Prop where
 size:sz a=sz a0
 defers:a.defers=a0.defers
 fD:∀i,¬In ws i->slot a i=slot a0 i
theorem cR.refl (ws:List Nat)(a:Act):cR ws a a:=⟨rfl,rfl,fun _ _=>rfl⟩
theorem cR.trans {ws:List Nat}{a b c:Act}(h:cR ws a b)(k:cR ws b c):cR ws a c:=⟨h.size.trans k.size,h.defers.trans k.defers,fun i d=>(h.fD i d).trans (k.fD i d)⟩
theorem cR.sub {ws c:List Nat}{a b:Act}(hs:∀i,In ws i->In c i)(h:cR ws a b):cR c a b:=⟨h.size,h.defers,fun i d=>h.fD i fun x=>d (hs i x)⟩
theorem CP {ws:List Nat}{a:Act}:cR ws a a=True:=eq_true (cR.refl ws a)
theorem CQ {ws:List Nat}{a a0:Act}{d:Nat}{v:Value}(h:gY ws d=true):cR ws (bq a (some d) v) a0=cR ws a a0:=by
 apply propext;constructor
 .intro k;refine ⟨by rw[<-k.size,yI],by rw[<-k.defers,yJ],fun i b=>?_⟩;rw[<-k.fD i b,tw _ _ _ _ (fun e=>b (by subst e;exact h))]
 .intro k;refine ⟨by rw[<-k.size,yI],by rw[<-k.defers,yJ],fun i b=>?_⟩;rw[<-k.fD i b,tw _ _ _ _ (fun e=>b (by subst e;exact h))]
def gq (ws a:List Nat):Bool:=ws.all fun w=>gY a w
theorem y4:∀{ws:List Nat} {i:Nat},gY ws i=true->i∈ws
 |[],_,h=>by cases h
 |w::ws,i,h=>by
  simp only[gY,Bool.or_eq_true,beq_iff_eq] at h
  rcases h with h|h
  .rw[h];exact List.mem_cons_self
  .exact List.mem_cons_of_mem _ (y4 h)
theorem cR.gq {ws c:List Nat}{a b:Act}(h:cR ws a b)(hs:Sep.gq ws c=true):cR c a b:=h.sub fun i d=>by
 have:=y4 d
 exact List.all_eq_true.1 hs i this
def rg:Nat->Nat->List Nat->List Nat
 |_,0,ws=>ws
 |a,n+1,ws=>a::rg (a+1) n ws
theorem y5:∀(n a i:Nat) (ws:List Nat),gY (rg a n ws) i=(decide (a<=i)&&decide (i<a+n)||gY ws i)
 |0,a,i,ws=>by
  show gY ws i=_
  cases h:(decide (a<=i)&&decide (i<a+0)) with
  |false=>rfl
  |true=>rw[Bool.and_eq_true,decide_eq_true_eq,decide_eq_true_eq] at h;omega
 |n+1,a,i,ws=>by
  show (i==a||gY (rg (a+1) n ws) i)=_
  rw[y5 n (a+1) i ws,<-Bool.or_assoc]
  congr 1
  rw[Bool.eq_iff_iff]
  simp only[Bool.or_eq_true,Bool.and_eq_true,decide_eq_true_eq,beq_iff_eq]
  omega
attribute [go_sem] y5 Nat.reduceLeDiff Nat.reduceLT Nat.reduceAdd
attribute [go_sem] gY CP CQ or_true true_or or_false false_or Nat.reduceBEq
section
variable {P:Program}{main:Bool}{J:Goroutine->af->Prop}{Q:Ex->Act->af->Prop}{a:Act}{F:af}
theorem b7 (hJ:Closed P main J){c:Code}(ws:List Nat)(I:Nat->Act->af->Prop)(n:Nat)(h:I n a F)
  (hs:∀n b F',cR ws b a->I n b F'->Wp J c (qf (fun m a2 d=>cR ws a2 b/\∃F0,Le F0 d/\I m a2 F0) n Q) b F'):Wp J (.loop c) Q a F:=
 yy hJ (fun m a2 d=>cR ws a2 a/\∃F0,Le F0 d/\I m a2 F0) n ⟨.refl ws a,F,Le.refl F,h⟩ fun n b F' ⟨g,F0,hle,j⟩=>
  cN hJ hle ((hs n b F0 g j).mono fun e a2 d f=>by
   cases e with
   |normal=>obtain ⟨m,hm,k,l⟩:=f;exact ⟨m,hm,k.trans g,l⟩
   |exit i=>exact f
   |ret=>exact f)
end
def Ext (ro aT:Addr->Option Value):Prop:=∀a v,ro a=some v->aT a=some v
theorem Ext.refl (ro:Addr->Option Value):Ext ro ro:=fun _ _ h=>h
theorem Ext.trans {r s t:Addr->Option Value}(h:Ext r s)(k:Ext s t):Ext r t:=fun a v x=>k a v (h a v x)
def bR (ro:Addr->Option Value)(b:Nat)(o:Obj):Addr->Option Value:=fun a=>match ro a with
 |some v=>some v
 |none=>if a.block=b/\a.spot=none then cellOf o a.off else none
theorem gr (ro:Addr->Option Value)(b:Nat)(o:Obj):Ext ro (bR ro b o):=fun a v h=>by simp[bR,h]
theorem fE {ro:Addr->Option Value}{b off:Nat}{o:Obj}(h:∀off sp,ro ⟨b,off,sp⟩=none):bR ro b o ⟨b,off,none⟩=cellOf o off:=by simp[bR,h]
theorem jX {ro:Addr->Option Value}{own e:List (Nat×Obj)}{b:Nat}{o:Obj}(i:lk own b=some o)(hs:e.Sublist own)(hb:au e b):Le ⟨bR ro b o,e⟩ ⟨ro,own⟩:=by
 have g:(keys e).Sublist (keys own):=hs.map _;have hm:=gS i;have j:b∉keys e:=by
  clear i hs g hm
  induction e with
  |nil=>simp[keys]
  |cons x l ih=>
   simp only[keys,List.map_cons,List.mem_cons,not_or];exact ⟨hb.1,ih hb.2⟩
 refine ⟨fun w hw=>⟨fun a v h=>?_,fun c x d=>hw.own c x (hs.subset d),g.nodup hw.nodup,fun a v h d=>?_⟩,fun c d=>g.subset d,fun a k=>?_⟩
 .replace h:bR ro b o a=some v:=h;unfold bR at h;split at h
  .rename_i x f;cases h;exact hw.ro _ _ f
  .split at h
   .rename_i d;have:=hw.own b o hm;rw[<-d.1] at this;cases o<;>simp only[cellOf,reduceCtorEq] at h;simp[World.cell?,this,d.2,h]
   .cases h
 .replace h:bR ro b o a=some v:=h;unfold bR at h;split at h
  .rename_i x f;exact hw.apart a x f (g.subset d)
  .split at h
   .rename_i m;rw[m.1] at d;exact j d
   .cases h
 .obtain ⟨v,h⟩:=Option.isSome_iff_exists.1 k;replace h:bR ro b o a=some v:=h;unfold bR at h;split at h
  .rename_i x f;exact .inl (by simp[f])
  .split at h
   .rename_i d;exact .inr (by rw[d.1];exact fe hm)
   .cases h
def eT (P:Program)(f:FuncId)(args:Array Value)(ro:Addr->Option Value)(R:Value->(Addr->Option Value)->Prop):Prop:=
 aA P f args ⟨ro,[]⟩ (fun v G=>∃aT,Ext ro aT/\Le ⟨aT,[]⟩ G/\R v aT)
def lX (F G:af):Prop:=∀a,(G.ro a).isSome=true->a.block∉keys F.own
def tV (J:Goroutine->af->Prop)(F:af)(g:Goroutine)(G:af):Prop:=Fits F G->lX F G->J g (G.star F)
theorem y6 {P:Program}{main:Bool}{J:Goroutine->af->Prop}(hJ:Closed P main J)(F:af):Closed P main (tV J F) where
 mono {g G K} hle h c i:=by
  have n:=c.le hle
  have A:lX F G:=fun a d=>(hle.ro a d).elim (i a) (c.own _)
  refine hJ.mono ⟨fun w hw=>n.both (hle.has w (c.right hw)) (c.left hw),fun b hb=>?_,fun a d=>?_⟩ (h n A)
  .simp only[af.star,cE,List.mem_append] at hb ⊢
   exact hb.imp (hle.own b) id
  .rcases jS d with x|x
   .exact (gG (.inl x)).imp id (fun y=>by simp only[af.star,cE,List.mem_append];exact .inr y)
   .rcases hle.ro a x with y|y
    .exact (gG (.inr y)).imp id (fun z=>by simp only[af.star,cE,List.mem_append];exact .inr z)
    .exact .inr (by simp only[af.star,cE,List.mem_append];exact .inl y)
 step {fr cs G} h c i:=by
  refine hJ.step fun w hw=>?_
  have B:=c.right hw
  have f:=c.left hw
  obtain ⟨g',w',es,k,hgo,hu,p,C,D⟩:=h w B
  have q:Has F w':=by
   refine ⟨fun a v l=>?_,fun b o hb=>?_,f.nodup,f.apart⟩
   .have s:=f.ro a v l
    have E:=f.gU (a:=a) (by simp[l])
    unfold World.cell? at s ⊢
    rw[hu.frame _ E (c.ro a (by simp[l]))]
    exact s
   .rw[hu.frame b (f.lt (fe hb)) (fun hm=>c.own b hm (fe hb))]
    exact f.own b o hb
  have t:Fits F k:=by
   refine ⟨⟨w',p,q⟩,fun b hb hm=>?_,fun a d hm=>?_⟩
   .rcases hu.own b hb with x|x
    .exact c.own b x hm
    .have:=f.lt hm;omega
   .rcases hu.own _ hm with x|x
    .exact c.ro a d x
    .have:=f.gU d;omega
  have H:lX F k:=fun a d hm=>by
   rcases hu.ro a d with x|x|x
   .exact i a x hm
   .exact c.own _ x hm
   .have:=f.lt hm;omega
  refine ⟨g',w',es,k.star F,hgo,⟨hu.os,hu.tape,hu.output,hu.size,fun b hb i=>hu.frame b hb fun hm=>i ?_,fun a d=>?_,fun b hb=>?_⟩,t.both p q,fun e he=>?_,D t H⟩
  .simp only[af.star,cE,List.mem_append];exact .inl hm
  .rcases jS d with x|x
   .exact (gG (.inl x)).imp id (fun y=>.inl (by simp only[af.star,cE,List.mem_append];exact .inr y))
   .rcases hu.ro a x with y|y|y
    .exact (gG (.inr y)).imp id (fun z=>.inl (by simp only[af.star,cE,List.mem_append];exact .inr z))
    .exact .inr (.inl (by simp only[af.star,cE,List.mem_append];exact .inl y))
    .exact .inr (.inr y)
  .simp only[af.star,cE,List.mem_append] at hb ⊢
   rcases hb with hb|hb
   .exact (hu.own b hb).imp .inl id
   .exact .inl (.inr hb)
  .have u:∀b,gT G w.heap.size w'.heap.size b->gT (G.star F) w.heap.size w'.heap.size b:=fun b hb=>hb.imp (fun x=>by simp only[af.star,cE,List.mem_append];exact .inl x) id
   rcases C e he with ⟨a,wr,rfl,j|⟨I,j⟩⟩|⟨r,wr,rfl,j⟩|⟨m,rfl,hm⟩
   .exact .inl ⟨a,wr,rfl,.inl (u _ j)⟩
   .rcases gG (F:=F) (.inr j) with y|y
    .exact .inl ⟨a,wr,rfl,.inr ⟨I,y⟩⟩
    .exact .inl ⟨a,wr,rfl,.inl (.inl (by simp only[af.star,cE,List.mem_append];exact .inr y))⟩
   .exact .inr (.inl ⟨r,wr,rfl,u _ j⟩)
   .exact .inr (.inr ⟨m,rfl,hm⟩)
section
variable {P:Program}{main:Bool}{J:Goroutine->af->Prop}
theorem tX (hJ:Closed P main J){f:FuncId}{args:Array Value}{ro:Addr->Option Value}{own:List (Nat×Obj)}{K:Value->af->Prop}(R:Value->(Addr->Option Value)->Prop)(h:eT P f args ro R)
  (r:∀v aT,Ext ro aT->(∀b∈keys own,∀off sp,aT ⟨b,off,sp⟩=none)->R v aT->K v ⟨aT,own⟩):c8 P J f args ⟨ro,own⟩ K:=by
 intro c cs hK
 by_cases hw:∃w,Has ⟨ro,own⟩ w
 .obtain ⟨i,j⟩:=hw
  let F:af:=⟨fun _=>none,own⟩
  have m:∀w,Has ⟨ro,own⟩ w->Has F w:=fun w hw=>⟨fun a v h=>(by cases h),hw.own,hw.nodup,fun a v h=>(by cases h)⟩
  have n:∀w,Has ⟨ro,own⟩ w->Has ⟨ro,[]⟩ w:=fun w hw=>⟨hw.ro,fun b o hb=>(by cases hb),List.nodup_nil,fun a v e hm=>(by cases hm)⟩
  have p:Fits F ⟨ro,[]⟩:=⟨⟨i,n i j,m i j⟩,fun b hb=>(by cases hb),fun a d hm=>(by cases hm)⟩
  have s:lX F ⟨ro,[]⟩:=fun a d hm=>by
   obtain ⟨v,t⟩:=Option.isSome_iff_exists.1 d
   exact j.apart a v t hm
  have u:tV J F (G (Frame.enter P f args .normal) (c::cs)) ⟨ro,[]⟩:=by
   refine h main _ (y6 hJ F) c cs fun v G k l y=>?_
   obtain ⟨aT,A,hle,k⟩:=k
   have q:∀a,(aT a).isSome=true->a.block∉keys own:=fun a d=>(hle.ro a d).elim (y a) (l.own _)
   refine hJ.mono (F:=⟨aT,own⟩) ⟨fun w hw=>?_,fun b hb=>?_,fun a d=>?_⟩ (hK v ⟨aT,own⟩ (r v aT A (fun b hb off sp=>?_) k))
   .have B:=hle.has w (l.right hw)
    have g:=l.left hw
    exact ⟨B.ro,g.own,g.nodup,fun a v e=>q a (by simp only at e;simp[e])⟩
   .simp only[af.star,cE,List.mem_append];exact .inr hb
   .rcases hle.ro a d with x|x
    .exact (gG (.inr x)).imp id (fun z=>by simp only[af.star,cE,List.mem_append];exact .inr z)
    .exact .inr (by simp only[af.star,cE,List.mem_append];exact .inl x)
   .cases e:aT ⟨b,off,sp⟩ with
    |none=>rfl
    |some v=>exact absurd hb (q ⟨b,off,sp⟩ (by simp[e]))
  refine hJ.mono ⟨fun w hw=>p.both (n w hw) (m w hw),fun b hb=>?_,fun a d=>?_⟩ (u p s)
  .simpa [af.star,F] using hb
  .rcases jS d with x|x
   .cases x
   .exact .inl x
 .exact hJ.step fun w g=>absurd ⟨w,g⟩ hw
end
attribute [go_sem] beq_self_eq_true beq_iff_eq beq_true beq_false Int.toNat_natCast Int.natCast_nonneg Int.ofNat_lt Nat.zero_mul Nat.mul_one List.length_map Bool.not_eq_true Bool.not_not decide_not
inductive Fl (σ ρ:Type) where
 |nx (s:σ)
 |bk (s:σ)
 |br (k:Nat) (s:σ)
 |rt (r:ρ)
def aj {α β:Type}(x:Option α)(f:α->Option β):Option β:=match x with
 |some a=>f a
 |none=>none
theorem dJ {α β:Type}{x:Option α}{f:α->Option β}{r:β}(h:aj x f=some r):∃a,x=some a/\f a=some r:=by
 cases x with
 |none=>cases h
 |some a=>exact ⟨a,rfl,h⟩
theorem gJ {α:Type}{b:Bool}{x y:Option α}{r:α}(h:cond b x y=some r):(b=true/\x=some r)\/(b=false/\y=some r):=by
 cases b
 .exact .inr ⟨rfl,h⟩
 .exact .inl ⟨rfl,h⟩
def aL {σ ρ τ:Type}(o:Fl σ ρ)(f:σ->Option τ)(g:Nat->σ->Option τ)(h:ρ->Option τ):Option τ:=match o with
 | .nx s=>f s
 | .bk s=>f s
 | .br k s=>g k s
 | .rt r=>h r
def bB {σ ρ:Type}(f:σ->Option (Fl σ ρ)):Nat->σ->Option (Fl σ ρ)
 |0,_=>none
 |n+1,s=>aj (f s) fun o=>match o with
  | .nx s'=>bB f n s'
  | .bk s'=>some (.nx s')
  | .br k s'=>some (.br k s')
  | .rt r=>some (.rt r)
def bQ {α σ ρ:Type}(f:Nat->α->σ->Option (Fl σ ρ)):Nat->List α->σ->Option (Fl σ ρ)
 |_,[],s=>some (.nx s)
 |i,x::l,s=>aj (f i x s) fun o=>match o with
  | .nx s'=>bQ f (i+1) l s'
  | .bk s'=>some (.nx s')
  | .br k s'=>some (.br k s')
  | .rt r=>some (.rt r)
def fu:Nat:=1000000000000000000
def bH {α:Type}(l:List α)(i:Int):Option α:=if 0<=i then l[i.toNat]? else none
theorem c6 {α:Type}{l:List α}{i:Int}{x:α}(h:bH l i=some x):0<=i/\i<l.length/\l[i.toNat]?=some x:=by
 unfold bH at h;split at h
 .rename_i a;obtain ⟨b,_⟩:=List.getElem?_eq_some_iff.1 h;exact ⟨a,aa,h⟩
 .cases h
def eA {α:Type}(l xs:List α):Option (List α):=if l.length+xs.length<=1000000 then some (l++xs) else none
theorem dQ {α:Type}{l xs r:List α}(h:eA l xs=some r):l.length+xs.length<=1000000/\r=l++xs:=by
 unfold eA at h;split at h
 .rename_i a;cases h;exact ⟨a,rfl⟩
 .cases h
def jv {α:Type}(l:List α)(a b:Int):Option (List α):=if 0<=a/\a<=b/\b<=l.length then some ((l.take b.toNat).drop a.toNat) else none
theorem mV {α:Type}{l r:List α}{a b:Int}(h:jv l a b=some r):0<=a/\a<=b/\b<=l.length/\r=(l.take b.toNat).drop a.toNat:=by
 unfold jv at h;split at h
 .rename_i c;cases h;exact ⟨c.1,c.2.1,c.2.2,rfl⟩
 .cases h
def eG (a b:Int):Option Int:=if b=0 then none else some (IntKind.i64.wrap (a.tdiv b))
theorem gZ {a b r:Int}(h:eG a b=some r):¬b=0/\IntKind.i64.wrap (a.tdiv b)=r:=by
 unfold eG at h;split at h
 .cases h
 .rename_i c;cases h;exact ⟨c,rfl⟩
def g5 (a b:Int):Option Int:=if b=0 then none else some (a.tmod b)
theorem lY {a b r:Int}(h:g5 a b=some r):¬b=0/\a.tmod b=r:=by
 unfold g5 at h;split at h
 .cases h
 .rename_i c;cases h;exact ⟨c,rfl⟩
def tY (a b:Int):Option Int:=if b<0 then none else some (IntKind.i64.wrap (a*2 ^ min b.toNat 64))
theorem CR {a b r:Int}(h:tY a b=some r):¬b<0/\IntKind.i64.wrap (a*2 ^ min b.toNat 64)=r:=by
 unfold tY at h;split at h
 .cases h
 .rename_i c;cases h;exact ⟨c,rfl⟩
def tZ (a b:Int):Option Int:=if b<0 then none else some (a.fdiv (2 ^ min b.toNat 64))
theorem CS {a b r:Int}(h:tZ a b=some r):¬b<0/\a.fdiv (2 ^ min b.toNat 64)=r:=by
 unfold tZ at h;split at h
 .cases h
 .rename_i c;cases h;exact ⟨c,rfl⟩
def y7 (a b:Int):Int:=IntKind.i64.wrap (BitVec.ofInt 64 a&&& BitVec.ofInt 64 b).toNat
theorem CU (a b:Int):IntKind.i64.wrap (BitVec.ofInt IntKind.i64.bits a&&& BitVec.ofInt IntKind.i64.bits b).toNat=y7 a b:=rfl
attribute [go_sem ↓] CU
def CV (a b:Int):Int:=IntKind.u8.wrap (BitVec.ofInt 8 a&&& BitVec.ofInt 8 b).toNat
theorem CW (a b:Int):IntKind.u8.wrap (BitVec.ofInt IntKind.u8.bits a&&& BitVec.ofInt IntKind.u8.bits b).toNat=CV a b:=rfl
attribute [go_sem ↓] CW
def oL (a b:Int):Option Int:=if b<0 then none else some (IntKind.u64.wrap (a*2 ^ min b.toNat IntKind.u64.bits))
theorem ua {a b r:Int}(h:oL a b=some r):¬b<0/\IntKind.u64.wrap (a*2 ^ min b.toNat IntKind.u64.bits)=r:=by
 unfold oL at h;split at h
 .cases h
 .rename_i c;cases h;exact ⟨c,rfl⟩
def uf (a b:Int):Option Int:=if b<0 then none else some (a.fdiv (2 ^ min b.toNat IntKind.u64.bits))
theorem CX {a b r:Int}(h:uf a b=some r):¬b<0/\a.fdiv (2 ^ min b.toNat IntKind.u64.bits)=r:=by
 unfold uf at h;split at h
 .cases h
 .rename_i c;cases h;exact ⟨c,rfl⟩
def iq (a b:Int):Int:=IntKind.u64.wrap (BitVec.ofInt 64 a&&& BitVec.ofInt 64 b).toNat
theorem CZ (a b:Int):IntKind.u64.wrap (BitVec.ofInt IntKind.u64.bits a&&& BitVec.ofInt IntKind.u64.bits b).toNat=iq a b:=rfl
def g6 (a b:Int):Int:=IntKind.u64.wrap (BitVec.ofInt 64 a ^^^ BitVec.ofInt 64 b).toNat
theorem C0 (a b:Int):IntKind.u64.wrap (BitVec.ofInt IntKind.u64.bits a ^^^ BitVec.ofInt IntKind.u64.bits b).toNat=g6 a b:=rfl
attribute [go_sem ↓] CZ C0
theorem cw {n:Nat}(h:n<1000000000000000):IntKind.i64.wrap ((n:Int)+1)=((n+1:Nat):Int):=by
 simp only[IntKind.wrap,IntKind.bits,IntKind.signed];simp;omega
theorem dr {α:Type}{l:List α}{i:Nat}{x:α}(h:l[i]?=some x):l.drop i=x::l.drop (i+1):=by
 obtain ⟨a,rfl⟩:=List.getElem?_eq_some_iff.1 h;exact List.drop_eq_getElem_cons a
theorem cast_zero:((0:Nat):Int)=0:=rfl
attribute [go_sem] cast_zero
theorem C1 (l:List Value)(i j:Nat):(l.toArray).extract i j=((l.drop i).take (j - i)).toArray:=by
 apply Array.ext';simp[List.extract_eq_drop_take]
attribute [go_sem] C1
structure cc (T:Type) where
 n:Nat
 rel:(Addr->Option Value)->T->List Value->Prop
 mono:∀{ro aT:Addr->Option Value} {x:T} {cs:List Value},Ext ro aT->rel ro x cs->rel aT x cs
 len:∀{ro:Addr->Option Value} {x:T} {cs:List Value},rel ro x cs->cs.length=n
 one:∀{ro:Addr->Option Value} {x:T} {cs:List Value},rel ro x cs->∀v∈cs,bN v=true
def fS {T:Type}(n:Nat)(c:T->List Value)(h:∀x,(c x).length=n)(a:∀x,∀v∈c x,bN v=true):cc T:=
 ⟨n,fun _ x cs=>cs=c x,fun _ h=>h,fun e=>by rw[e];exact h _,fun e=>by rw[e];exact a _⟩
def rI:cc Int:=fS 1 (fun n=>[.int .i64 n]) (fun _=>rfl) (fun _ v a=>by simp at a;subst a;rfl)
def rB:cc Bool:=fS 1 (fun n=>[.bool n]) (fun _=>rfl) (fun _ v a=>by simp at a;subst a;rfl)
def aB {T:Type}(r:cc T)(ro:Addr->Option Value)(s:Value)(l:List T):Prop:=
 ∃ad cap,s= .slice ad l.length cap/\l.length<=cap/\l.length<=1000000000000000/\∀i x,l[i]?=some x->∃p cs,ad=some p/\r.rel ro x cs/\∀j v,cs[j]?=some v->ro ((p.add (i*r.n)).add j)=some v
theorem aB.mono {T:Type}{r:cc T}{ro aT:Addr->Option Value}{s:Value}{l:List T}(h:aB r ro s l)(a:Ext ro aT):aB r aT s l:=by
 obtain ⟨ad,cap,b,c,d,e⟩:=h;refine ⟨ad,cap,b,c,d,fun i x f=>?_⟩;obtain ⟨p,cs,g,k,hm⟩:=e i x f;exact ⟨p,cs,g,r.mono a k,fun j v m=>a _ _ (hm j v m)⟩
theorem aB.nil {T:Type}(r:cc T)(ro:Addr->Option Value):aB r ro (.slice none 0 0) []:=⟨none,0,rfl,Nat.le_refl _,av,fun i x h=>by simp at h⟩
def rL {T:Type}(r:cc T):cc (List T):=
 ⟨1,fun ro l cs=>∃s,cs=[s]/\aB r ro s l,fun d ⟨s,a,b⟩=>⟨s,a,b.mono d⟩,fun ⟨s,a,_⟩=>by rw[a];rfl,fun ⟨s,a,ad,cap,b,_⟩ v c=>by rw[a] at c;simp at c;subst c;rw[b];rfl⟩
theorem aB.part {T:Type}{r:cc T}{ro:Addr->Option Value}{ad:Option Addr}{cap:Nat}{l:List T}(h:aB r ro (.slice ad l.length cap) l)(a b:Nat)(o:a<=b)(q:b<=l.length):
  aB r ro (.slice (if cap=a then ad else ad.map (·.add (a*r.n))) (b - a) (cap - a)) ((l.take b).drop a):=by
 obtain ⟨s,t,e,u,w,d⟩:=h
 cases e
 have hlen:((l.take b).drop a).length=b - a:=by simp;omega
 refine ⟨_,cap - a,by rw[hlen],by rw[hlen];omega,by rw[hlen];omega,fun i x c=>?_⟩
 rw[List.getElem?_drop,List.getElem?_take] at c
 split at c
 case isFalse=>cases c
 obtain ⟨p,cs,f,g,hm⟩:=d _ x c
 have y:a+i<l.length:=(List.getElem?_eq_some_iff.1 c).1
 refine ⟨p.add (a*r.n),cs,?_,g,fun j v k=>?_⟩
 .have m:¬cap=a:=aa
  rw[if_neg m,f];rfl
 .have:=hm j v k
  rw[kJ] at this
  rw[kJ,kJ]
  rw[show a*r.n+(i*r.n+j)=(a+i)*r.n+j by rw[Nat.add_mul];omega]
  exact this
def Apart (ks:List Nat)(bh:List (Nat×Obj)):Prop:=∀k∈keys bh,k∉ks
theorem Apart.nil (ks:List Nat):Apart ks []:=fun k h=>(by cases h)
theorem kL:∀{l:List (Nat×Obj)} {b:Nat},au l b->b∉keys l
 |[],_,_=>by simp[keys]
 |(c,o)::l,b,h=>by simp only[keys,List.map_cons,List.mem_cons,not_or];exact ⟨h.1,kL h.2⟩
theorem lZ:∀{l:List (Nat×Obj)} {b:Nat},b∉keys l->au l b
 |[],_,_=>trivial
 |(c,o)::l,b,h=>by simp only[keys,List.map_cons,List.mem_cons,not_or] at h;exact ⟨h.1,lZ h.2⟩
theorem Apart.push {ks:List Nat}{bh:List (Nat×Obj)}{b:Nat}(h:Apart ks bh)(hb:au bh b):Apart (b::ks) bh:=fun k a=>by
 simp only[List.mem_cons,not_or]
 exact ⟨fun e=>kL hb (e▸a),h k a⟩
theorem Apart.drop {ks:List Nat}{bh:List (Nat×Obj)}{b:Nat}(h:Apart (b::ks) bh):Apart ks bh:=fun k a=>(by have:=h k a;simp only[List.mem_cons,not_or] at this;exact this.2)
def aZ {T:Type}(r:cc T)(ro:Addr->Option Value)(e:TypeId)(v:Value)(l:List T)(bh:List (Nat×Obj)):Prop:=
 ∃ls:List (List Value),Gr ro e r.n v ls bh/\ls.length=l.length/\l.length<=1000000/\∀(i:Nat) (x:T),l[i]?=some x->∃cs:List Value,ls[i]?=some cs/\r.rel ro x cs
theorem aZ.nil {T:Type}(r:cc T)(ro:Addr->Option Value)(e:TypeId):aZ r ro e (.slice none 0 0) [] []:=⟨[],.inl ⟨rfl,rfl,rfl⟩,rfl,av,fun i x h=>by simp at h⟩
theorem aZ.len {T:Type}{r:cc T}{ro:Addr->Option Value}{e:TypeId}{v:Value}{l:List T}{bh:List (Nat×Obj)}(h:aZ r ro e v l bh):∃ad cap,v= .slice ad l.length cap/\l.length<=cap:=by
 obtain ⟨ls,hg,a,-⟩:=h;rcases hg with ⟨rfl,rfl,rfl⟩|⟨b,arr,cap,rfl,rfl,hs,hle,-⟩
 .exact ⟨none,0,by rw[<-a];rfl,by rw[<-a];exact Nat.le_refl _⟩
 .exact ⟨_,cap,by rw[a],aa⟩
def aF (ro:Addr->Option Value)(own:List (Nat×Obj)):Prop:=∀b∈keys own,∀off sp,ro ⟨b,off,sp⟩=none
theorem aZ.mono {T:Type}{r:cc T}{ro aT:Addr->Option Value}{e:TypeId}{v:Value}{l:List T}{bh:List (Nat×Obj)}(h:aZ r ro e v l bh)(d:Ext ro aT)(f:aF aT bh):aZ r aT e v l bh:=by
 obtain ⟨ls,hg,g,hm,j⟩:=h;refine ⟨ls,?_,g,hm,fun i x k=>?_⟩
 .rcases hg with h|⟨b,arr,cap,c,a,m,n,o,p,q⟩
  .exact .inl h
  .exact .inr ⟨b,arr,cap,c,a,m,n,o,p,f b (by rw[a];simp[keys])⟩
 .obtain ⟨cs,c,a⟩:=j i x k;exact ⟨cs,c,r.mono d a⟩
theorem Apart.fresh {pre bh:List (Nat×Obj)}{ks:List Nat}(h:Apart ks bh)(a:keys pre=ks):∀k∈keys bh,au pre k:=fun k b=>lZ (by rw[a];exact h k b)
theorem oM {n:Nat}:∀(ls:List (List Value)) (i:Nat) (cs:List Value),(∀x∈ls,x.length=n)->ls[i]?=some cs->∀j v,cs[j]?=some v->ls.flatten[i*n+j]?=some v
 |[],i,cs,_,h,_,_,_=>by simp at h
 |y::ls,0,cs,b,h,j,v,a=>by
  simp at h;subst h
  have:j<y.length:=(List.getElem?_eq_some_iff.1 a).1
  simp only[Nat.zero_mul,Nat.zero_add,List.flatten_cons]
  rw[List.getElem?_append_left this]
  exact a
 |y::ls,i+1,cs,b,h,j,v,a=>by
  simp at h
  have ih:=oM ls i cs (fun x d=>b x (by simp[d])) h j v a
  have c:=b y av
  simp only[List.flatten_cons]
  rw[List.getElem?_append_right (by rw[c,Nat.add_mul];omega)]
  rw[show (i+1)*n+j - y.length=i*n+j by rw[c,Nat.add_mul];omega]
  exact ih
theorem aZ.y8 {T:Type}{r:cc T}{ro:Addr->Option Value}{e:TypeId}{v:Value}{l:List T}{bh:List (Nat×Obj)}{ks:List Nat}(h:aZ r ro e v l bh)(pre:List (Nat×Obj))(m:Apart ks bh)(o:keys pre=ks)(d:aF ro pre):
  ∃aT,Ext ro aT/\aF aT pre/\aB r aT v l/\Le ⟨aT,pre⟩ ⟨ro,pre++bh⟩:=by
 obtain ⟨ls,hg,f,hm,p⟩:=h
 rcases hg with ⟨rfl,rfl,rfl⟩|⟨b,arr,cap,rfl,rfl,hs,hle,ht,g,q⟩
 .have:l=[]:=List.eq_nil_of_length_eq_zero (by simpa using f.symm)
  subst this
  exact ⟨ro,Ext.refl ro,d,aB.nil r ro,by rw[List.append_nil];exact Le.refl _⟩
 .have hb:b∉keys pre:=by rw[o];exact m b (by simp[keys])
  refine ⟨bR ro b (.cells arr e),gr _ _ _,fun c k off sp=>?_,⟨some ⟨b,0,none⟩,cap,by rw[f],aa,aa,fun i x s=>?_⟩,jX ?_ (List.sublist_append_left _ _) (lZ hb)⟩
  .have t:¬c=b:=fun e=>hb (e▸k)
   simp[bR,d c k,t]
  .obtain ⟨cs,u,w⟩:=p i x s
   refine ⟨_,cs,rfl,r.mono (gr _ _ _) w,fun j v y=>?_⟩
   have a:=oM ls i cs g u j v y
   rw[kJ,kK,Nat.zero_add,fE q]
   have z:i*r.n+j<ls.length*r.n:=by
    have:=(List.getElem?_eq_some_iff.1 a).1
    rw[ij g] at this
    exact this
   rw[<-ht,List.getElem?_take_of_lt z] at a
   simpa [cellOf] using a
  .have:∀(pre:List (Nat×Obj)),b∉keys pre->lk (pre++[(b,Obj.cells arr e)]) b=some (.cells arr e):=fun pre h=>tO (lZ h)
   exact this pre hb
theorem aZ.elem {T:Type}{r:cc T}{ro:Addr->Option Value}{e:TypeId}{v:Value}{l:List T}{bh:List (Nat×Obj)}(h:aZ r ro e v l bh){i:Nat}{x:T}(f:l[i]?=some x):
  ∃b arr cap cs,v= .slice (some ⟨b,0,none⟩) l.length cap/\bh=[(b,.cells arr e)]/\(∀off sp,ro ⟨b,off,sp⟩=none)/\r.rel ro x cs/\∀j v,cs[j]?=some v->arr[i*r.n+j]?=some v:=by
 obtain ⟨ls,hg,g,hm,k⟩:=h
 obtain ⟨cs,c,m⟩:=k i x f
 rcases hg with ⟨rfl,rfl,rfl⟩|⟨b,arr,cap,rfl,rfl,hs,hle,ht,d,o⟩
 .simp at c
 .refine ⟨b,arr,cap,cs,by rw[g],rfl,o,m,fun j v p=>?_⟩
  have a:=oM ls i cs d c j v p
  have q:i*r.n+j<ls.length*r.n:=by
   have:=(List.getElem?_eq_some_iff.1 a).1
   rw[ij d] at this
   exact this
  rw[<-ht,List.getElem?_take_of_lt q] at a
  simpa using a
theorem bg {ro:Addr->Option Value}{own:List (Nat×Obj)}:Ext ro (af.cG ⟨ro,own⟩).ro:=fun a v h=>by simp[af.cG,af.get,h]
theorem cx {ro:Addr->Option Value}{own:List (Nat×Obj)}{F:af}(h:Knows ⟨ro,own⟩ F):Ext ro F.cG.ro:=fun a v b=>by
 have:F.ro a=some v:=h.1 a v b
 simp[af.cG,af.get,this]
theorem aB.mW {T:Type}{r:cc T}{ro:Addr->Option Value}{ad:Option Addr}{cap:Nat}{l x:List T}(h:aB r ro (.slice ad l.length cap) l)(a b:Nat)(d:a<=b)(e:b<=l.length)(f:x=(l.take b).drop a):
  ∃c,(if cap=a then ad else ad.map (·.add (a*r.n)))=c/\b - a=x.length/\aB r ro (.slice c x.length (cap - a)) x:=by
 subst f
 have hlen:((l.take b).drop a).length=b - a:=by simp;omega
 refine ⟨_,rfl,hlen.symm,?_⟩
 rw[hlen]
 exact h.part a b d e
theorem aB.one {T:Type}{r:cc T}{ro:Addr->Option Value}{own:List (Nat×Obj)}{b:Nat}{x:T}{cs:Array Value}{e:TypeId}(c:∀off sp,ro ⟨b,off,sp⟩=none)(f:lk own b=some (.cells cs e))(h:r.rel ro x cs.toList):
  aB r (bR ro b (.cells cs e)) (.slice (some ⟨b,0,none⟩) 1 1) [x]:=by
 refine ⟨some ⟨b,0,none⟩,1,rfl,Nat.le_refl _,av,fun i y a=>?_⟩
 have:i=0/\y=x:=by
  cases i with
  |zero=>simp at a;exact ⟨rfl,a.symm⟩
  |succ i=>simp at a
 obtain ⟨rfl,rfl⟩:=this
 refine ⟨_,_,rfl,r.mono (gr _ _ _) h,fun j v d=>?_⟩
 rw[Nat.zero_mul,add_zero',kK,Nat.zero_add,fE c]
 simpa [cellOf] using d
theorem aB.flat {T:Type}{r:cc T}{ro:Addr->Option Value}{b:Nat}{cs:Array Value}{e:TypeId}(c:T->List Value)(l:List T)(a:∀x,r.rel ro x (c x))(d:∀off sp,ro ⟨b,off,sp⟩=none)(f:cs.toList=(l.map c).flatten)(hlen:l.length<=1000000000000000):
  aB r (bR ro b (.cells cs e)) (.slice (some ⟨b,0,none⟩) l.length l.length) l:=by
 refine ⟨some ⟨b,0,none⟩,l.length,rfl,Nat.le_refl _,hlen,fun i x g=>⟨_,c x,rfl,r.mono (gr _ _ _) (a x),fun j v h=>?_⟩⟩
 have k:(l.map c)[i]?=some (c x):=by rw[List.getElem?_map,g];rfl
 have m:∀y∈l.map c,y.length=r.n:=fun y o=>by
  obtain ⟨z,_,rfl⟩:=List.mem_map.1 o
  exact r.len (a z)
 have:=oM (l.map c) i (c x) m k j v h
 rw[kK,kK,Nat.zero_add,fE d]
 rw[<-f] at this
 simpa [cellOf] using this
theorem jw {ro:Addr->Option Value}{own:List (Nat×Obj)}{b:Nat}{o:Obj}(e:lk own b=some o):Ext (bR ro b o) (af.cG ⟨ro,own⟩).ro:=fun a v h=>by
 unfold bR at h
 simp only[af.cG,af.get]
 split at h
 .rename_i x c;rw[c];exact h
 .rename_i c
  split at h
  .rename_i d
   rw[c]
   simp only
   rw[if_pos d.2,d.1,e]
   exact h
  .cases h
section
variable {P:Program}{main:Bool}{J:Goroutine->af->Prop}
theorem gK (hJ:Closed P main J){f:FuncId}{args:Array Value}{F F':af}{K:Value->af->Prop}(hle:Le F F')(h:c8 P J f args F K):c8 P J f args F' K:=fun c cs k=>hJ.mono hle (h c cs k)
end
theorem aZ.bd {T:Type}{r:cc T}{ro:Addr->Option Value}{e:TypeId}{v:Value}{l:List T}{bh:List (Nat×Obj)}(h:aZ r ro e v l bh):l.length<=1000000:=by
 obtain ⟨ls,_,_,hm,_⟩:=h;exact hm
theorem aA.y8 {P:Program}{f:FuncId}{args:Array Value}{ro:Addr->Option Value}{R:Value->Prop}(h:aA P f args ⟨ro,[]⟩ (fun v _=>R v)):aA P f args ⟨ro,[]⟩ (fun v G=>R v/\G=⟨ro,[]⟩):=by
 intro main J hJ c cs hK
 exact tr (F:=⟨ro,[]⟩) (R:=R) (by
  have e:af.cG ⟨ro,[]⟩=⟨ro,[]⟩:=by
   simp only[af.cG,af.mk.injEq,and_true];funext a;simp only[af.get];cases ro a with
   |none=>simp[lk]
   |some v=>rfl
  rw[e];exact h) main J hJ c cs hK
end Go.Sep
end
section
namespace Go.Sep
open Go Go.Conc Go.ConcM
open Go.ConcN (sumTo upd sumTo_upd upd_ne upd_same)
def eH (P:Program)(Φ:Goroutine->af->Prop)(g:Goroutine)(F:af):Prop:=
 ∀(bI:Loc->Prop) (gs:Array Goroutine) (w:World) (sl:Option (Nat×Nat)) (t:Trace) (q:Nat->Nat),jr P bI g F gs w t q->
  ∃(N:Nat) (cg:Array Goroutine) (w':World) (c:Option (Nat×Nat)) (a:Trace) (d:Nat->Nat) (g':Goroutine) (F':af) (b:Loc->Prop),
   runNT P N (crowd gs w sl) t=(.next (crowd cg w' c),a)/\jr P b g' F' cg w' a d/\fB F F' w w'/\(∀l,b l->bI l\/¬l.low w.heap.size)/\Φ g' F'
theorem eH.done {P:Program}{Φ:Goroutine->af->Prop}{g:Goroutine}{F:af}(h:Φ g F):eH P Φ g F:=
 fun bI gs w sl t q a=>⟨0,gs,w,sl,t,q,g,F,bI,rfl,a,.refl _ _,fun _ h=>.inl h,h⟩
theorem oN (P:Program)(Φ:Goroutine->af->Prop):Closed P true (eH P Φ) where
 mono hle h bI gs w sl t q b:=by
  obtain ⟨N,cg,w',z,A,B,g',F',C,g,D,hu,E,H⟩:=h bI gs w sl t q ⟨b.g0,b.lv,b.fR,hle.has w b.has,fun l hs I=>b.apart l hs (hle.gF I),b.low⟩
  exact ⟨N,cg,w',z,A,B,g',F',C,g,D,hu.le hle,E,H⟩
 step {fr cs F} h bI gs w sl t q b:=by
  obtain ⟨N,k,d,m,a4,n,t1,J,g,a5,p,r,K,L⟩:=qh (P:=P) (a:=G fr cs) rfl _ gs w sl t q (Nat.le_refl _) b.g0 b.lv b.fR
  obtain ⟨g',w',es,F',hgo,hu,M,O,hJ⟩:=h (w.at m) (b.has.at m)
  have c:ey F F' w w':=⟨hu.os,hu.tape,hu.output,hu.size,hu.frame,hu.ro,hu.own⟩
  have Q:=runT_crowd_go (P:=P) (sl:=n) (i:=0) p (show stepG P (0==0) (G fr cs) (w.at m)=_ from hgo)
  have R:0<k.size:=(Array.getElem?_eq_some_iff.1 p).1
  have s:=jr.next (P:=P) b.apart b.low c
  obtain ⟨S,T,w2,U,t2,V,W,X,Y,Z,ab,ad,ae,al⟩:=hJ bI ((k.map (woken P (G fr cs) g' w')).setIfInBounds 0 g') w' n (t1++MemOp.ofEvents 0 (G fr cs).frame.fn (G fr cs).frame.place es) J
   {g0:=by simp[R]
    lv:=⟨fun j x f u=>by
     have ao:0≠j:=aa
     rw[Array.getElem?_setIfInBounds_ne ao,Array.getElem?_map] at u
     obtain ⟨y,ar,rfl⟩:=Option.map_eq_some_iff.1 u
     have v:=r.old j y f ar
     rw[woken_quitsD v,Deaf_other t1 aa _ (fun op o=>by obtain ⟨e,_,rfl⟩:=Go.Conc.mem_ofEvents o;rfl)]
     exact v,fun j f=>by
     rw[Deaf_other t1 (g':=0) (by simp at f;omega) _ (fun op o=>by obtain ⟨e,_,rfl⟩:=Go.Conc.mem_ofEvents o;rfl)]
     exact r.above j (by simpa using f)⟩
    fR:=(K.mono c.size).own fun e he=>yz b.has c.size b.apart b.low (O e he)
    has:=M
    apart:=s.1
    low:=s.2}
  refine ⟨N+1+S,T,w2,U,t2,V,W,X,Y,?_,ab,(fB.ou c).trans ad,fun l a0=>(ae l a0).imp id fun a2 a3=>a2 (Loc.low_mono c.size a3),al⟩
  have:runNT P (N+1) (crowd gs w sl) t=(.next (crowd ((k.map (woken P (G fr cs) g' w')).setIfInBounds 0 g') w' n),t1++MemOp.ofEvents 0 (G fr cs).frame.fn (G fr cs).frame.place es):=by
   rw[runNT_add,g]
   simp only[runNT,L,Q]
  rw[js this]
  exact Z
def fT (P:Program)(f:FuncId)(args:Array Value)(F:af)(R:Value->af->Prop):Prop:=∀Φ,c8 P (eH P Φ) f args F R
theorem y9 {P:Program}{f:FuncId}{args:Array Value}{ro:Addr->Option Value}{own:List (Nat×Obj)}{R:Value->af->Prop}(h:fT P f args ⟨ro,[]⟩ R):
  fT P f args ⟨ro,own⟩ (fun v F'=>∃G,R v G/\F'=G.star ⟨ro,own⟩/\Fits ⟨ro,own⟩ G/\lX ⟨ro,own⟩ G):=by
 intro Φ c cs hK bI gs w sl t q d
 let Fr:af:=⟨ro,own⟩
 have H:jr P bI (G (Frame.enter P f args .normal) (c::cs)) ⟨ro,[]⟩ gs w t q:=
  ⟨d.g0,d.lv,d.fR,⟨d.has.ro,fun b o hb=>(by cases hb),List.nodup_nil,fun a v j hm=>(by cases hm)⟩,fun l hs i=>d.apart l hs (by
   cases l with
   |cell a=>exact i.elim (fun x=>by cases x) .inr
   |obj r=>cases i
   |_=>exact i),d.low⟩
 obtain ⟨N,cg,w',I,s,u,g',F',A,j,g,hu,n,v,rfl,p⟩:=h (fun g' F'=>∃v,g'=G (c.finish v) cs/\R v F') c cs (fun v F' p=>eH.done ⟨v,rfl,p⟩) bI gs w sl t q H
 have B:Has Fr w':=⟨fun a v j=>by
  have C:=d.has.ro a v j
  have J:=d.has.gU (a:=a) (by rw[j];rfl)
  unfold World.cell? at C ⊢
  rw[hu.frame _ J (fun hm=>by cases hm)]
  exact C,fun b o hb=>by
  rw[hu.frame b (d.has.lt (fe hb)) (fun hm=>by cases hm)]
  exact d.has.own b o hb,d.has.nodup,d.has.apart⟩
 have D:Fits Fr F':=⟨⟨w',g.has,B⟩,fun b hb hm=>by
  rcases hu.own b hb with x|x
  .cases x
  .have:=d.has.lt (b:=b) hm;omega,fun a k hm=>by
  rcases hu.own _ hm with x|x
  .cases x
  .have:=d.has.gU (a:=a) k;omega⟩
 have K:lX Fr F':=fun a k hm=>by
  rcases hu.ro a k with x|x|x
  .obtain ⟨y,L⟩:=Option.isSome_iff_exists.1 x
   exact d.has.apart a y L hm
  .cases x
  .have:=d.has.lt (b:=a.block) hm;omega
 have M:jr P A (G (c.finish v) cs) (F'.star Fr) cg w' s u:=by
  refine ⟨g.g0,g.lv,g.fR,D.both g.has B,fun l hs i=>?_,g.low⟩
  have E:∀b,b∈keys own->(l= .obj b\/∃a,l= .cell a/\a.block=b)->False:=fun b hb m=>by
   rcases n l hs with x|x
   .refine d.apart l x ?_
    rcases m with rfl|⟨a,rfl,e⟩
    .exact hb
    .exact .inl (e▸hb)
   .refine x ?_
    have:=d.has.lt (b:=b) hb
    rcases m with rfl|⟨a,rfl,e⟩
    .exact this
    .show a.block<_;rw[e];exact this
  cases l with
  |cell a=>
   rcases i with x|x
   .simp only[af.star,cE,List.mem_append] at x
    rcases x with x|x
    .exact g.apart _ hs (.inl x)
    .exact E _ x (.inr ⟨a,rfl,rfl⟩)
   .rcases jS x with y|y
    .rcases n _ hs with z|z
     .exact d.apart _ z (.inr y)
     .exact z (d.has.gU (a:=a) y)
    .exact g.apart _ hs (.inr y)
  |obj r=>
   simp only[af.gF,af.star,cE,List.mem_append] at i
   rcases i with x|x
   .exact g.apart _ hs x
   .exact E _ x (.inl rfl)
  |_=>exact i
 obtain ⟨O,Q,w2,S,t2,T,U,V,W,X,Y,Z,ab,ad⟩:=hK v (F'.star Fr) ⟨F',p,rfl,D,K⟩ A cg w' I s u M
 have ae:fB ⟨ro,own⟩ (F'.star Fr) w w':=⟨hu.os,hu.tape,hu.output,hu.size,fun b hb F=>hu.frame b hb (fun x=>by cases x),fun a k=>by
  rcases jS k with y|y
  .exact .inl y
  .rcases hu.ro a y with z|z|z
   .exact .inl z
   .cases z
   .exact .inr (.inr z),fun b hb=>by
  simp only[af.star,cE,List.mem_append] at hb
  rcases hb with x|x
  .rcases hu.own b x with y|y
   .cases y
   .exact .inr y
  .exact .inl x⟩
 exact ⟨N+O,Q,w2,S,t2,T,U,V,W,by rw[js j];exact X,Y,ae.trans Z,fun l m=>(ab l m).elim (n l) fun F=>.inr fun al=>F (Loc.low_mono hu.size al),ad⟩
theorem fT.go {P:Program}{f:FuncId}{fn:Func}{c:Code}{n:Nat}{rs:List ResultVar}{args:Array Value}{F:af}{R:Value->af->Prop}(k:P.funcs[f]?=some fn)(hb:fn.body=some c)(g:fn.ntmps=n)(l:fn.results=rs.toArray)(o:args.size<=n)
  (h:∀Φ,Closed P true (eH P Φ)->∀A:Act,sz A=n->A.defers=[]->(∀i,slot A i=args.getD i undef)->Wp (eH P Φ) c (iU P rs R) A F):fT P f args F R:=fun Φ=>by
 refine c8.of_wp (oN P Φ) k hb ?_
 refine (h Φ (oN P Φ) _ (by simp[sz,g];omega) rfl fun i=>?_).mono fun e a F j=>?_
 .simp only[slot,g,Array.getD_eq_getD_getElem?]
  rcases Nat.lt_or_ge i args.size with b|b
  .rw[Array.getElem?_append_left b]
  .rw[Array.getElem?_append_right b,Array.getElem?_replicate,Array.getElem?_eq_none b]
   split<;>rfl
 .cases e with
  |exit i=>exact j
  |_=>
   obtain ⟨hd,d⟩:=j
   split at d
   .rename_i v m
    show ig P a.defers _ F
    rw[hd]
    exact qx l m d
   .exact d.elim
def oO (P:Program)(f:FuncId)(args:Array Value)(ro:Addr->Option Value)(R:Value->(Addr->Option Value)->Prop):Prop:=
 fT P f args ⟨ro,[]⟩ (fun v G=>∃aT,Ext ro aT/\Le ⟨aT,[]⟩ G/\R v aT)
theorem C2 {P:Program}{Φ:Goroutine->af->Prop}{f:FuncId}{args:Array Value}{ro:Addr->Option Value}{own:List (Nat×Obj)}{K:Value->af->Prop}(R:Value->(Addr->Option Value)->Prop)
  (h:oO P f args ro R) (k:∀v aT,Ext ro aT->(∀b∈keys own,∀off sp,aT ⟨b,off,sp⟩=none)->R v aT->K v ⟨aT,own⟩):c8 P (eH P Φ) f args ⟨ro,own⟩ K:=by
 intro c cs hK
 refine y9 (own:=own) h Φ c cs fun v F' l=>?_
 obtain ⟨G,⟨aT,m,hle,n⟩,rfl,e,o⟩:=l
 have i:∀a,(aT a).isSome=true->a.block∉keys own:=fun a g=>(hle.ro a g).elim (o a) (e.own _)
 refine (oN P Φ).mono (F:=⟨aT,own⟩) ⟨fun w hw=>?_,fun b hb=>?_,fun a g=>?_⟩ (hK v ⟨aT,own⟩ (k v aT m (fun b hb off sp=>?_) n))
 .have p:=hle.has w (e.right hw)
  have j:=e.left hw
  exact ⟨p.ro,j.own,j.nodup,fun a v d=>i a (by simp only at d;simp[d])⟩
 .simp only[af.star,cE,List.mem_append];exact .inr hb
 .rcases hle.ro a g with x|x
  .exact (gG (.inr x)).imp id (fun z=>by simp only[af.star,cE,List.mem_append];exact .inr z)
  .exact .inr (by simp only[af.star,cE,List.mem_append];exact .inl x)
 .cases d:aT ⟨b,off,sp⟩ with
  |none=>rfl
  |some v=>exact absurd hb (i ⟨b,off,sp⟩ (by simp[d]))
theorem l5 {P:Program}{Φ:Goroutine->af->Prop}{f:FuncId}{args:Array Value}{ro:Addr->Option Value}{own:List (Nat×Obj)}{K:Value->af->Prop}(v:Value)
  (h:fT P f args ⟨ro,[]⟩ (fun d _=>d=v)) (e:K v ⟨ro,own⟩):c8 P (eH P Φ) f args ⟨ro,own⟩ K:=by
 intro c cs hK
 refine y9 (own:=own) h Φ c cs fun d F' g=>?_
 obtain ⟨G,rfl,rfl,i,k⟩:=g
 refine (oN P Φ).mono (F:=⟨ro,own⟩) ⟨fun w hw=>i.left hw,fun b hb=>?_,fun a j=>?_⟩ (hK d ⟨ro,own⟩ e)
 .simp only[af.star,cE,List.mem_append];exact .inr hb
 .exact (gG (.inl j)).imp id (fun z=>by simp only[af.star,cE,List.mem_append];exact .inr z)
end Go.Sep
end
section
namespace Go.Sep
open Go Go.Conc Go.ConcM
def za (P:Program)(R:Value->af->Prop)(g:Goroutine)(F:af):Prop:=
 ∃(fr:Frame) (fn:Func) (t:Nat) (v:Value),g=G fr []/\fr.kind= .normal/\P.inits.idxOf? fr.fn=none/\fr.mode= .returning/\fr.defers=[]/\P.funcs[fr.fn]?=some fn/\fn.results=#[.tmp t]/\fr.tmps.getD t undef=v/\R v F
def l6 (P:Program)(f:FuncId)(args:Array Value)(F:af)(R:Value->af->Prop):Prop:=
 ∀Φ:Goroutine->af->Prop,(∀g F',za P R g F'->Φ g F')->eH P Φ (G (Frame.enter P f args .normal) []) F
theorem l6.go {P:Program}{f:FuncId}{fn:Func}{c:Code}{n t:Nat}{args:Array Value}{F:af}{R:Value->af->Prop}(j:P.funcs[f]?=some fn)(hb:fn.body=some c)(k:fn.ntmps=n)(p:fn.results=[.tmp t].toArray)(y:args.size<=n)(d:P.inits.idxOf? f=none)
  (h:∀Φ,Closed P true (eH P Φ)->∀A:Act,sz A=n->A.defers=[]->(∀i,slot A i=args.getD i undef)->Wp (eH P Φ) c (iU P [.tmp t] R) A F):l6 P f args F R:=by
 intro Φ q
 have hJ:=oN P Φ
 let b:Frame:={(default:Frame) with fn:=f,kind:=.normal}
 have r:Frame.enter P f args .normal=on b {tmps:=args++Array.replicate (fn.ntmps - args.size) undef,defers:=[]} [.code c]:=by
  simp[Frame.enter,on,j,hb,b]
  rfl
 rw[r]
 have l:∀(a:Act) (F':af) (fr:Frame),fr.kind= .normal->fr.mode= .returning->fr.defers=a.defers->fr.fn=f->fr.tmps=a.tmps->iU P [.tmp t] R .normal a F'->eH P Φ (G fr []) F':=by
  intro a F' fr s u v m w g
  obtain ⟨hd,x⟩:=g
  refine eH.done (q _ _ ⟨fr,fn,t,_,rfl,s,by rw[m];exact d,u,by rw[v,hd],by rw[m];exact j,p,rfl,?_⟩)
  rw[w]
  simpa [lV,lU,oH,slot] using x
 refine h Φ hJ _ (by simp[sz,k];omega) rfl (fun i=>?_) b [] [] ⟨by simp[b],.inl rfl⟩ fun e o F' g=>?_
 .simp only[slot,k,Array.getD_eq_getD_getElem?]
  rcases Nat.lt_or_ge i args.size with d|d
  .rw[Array.getElem?_append_left d]
  .rw[Array.getElem?_append_right d,Array.getElem?_replicate,Array.getElem?_eq_none d]
   split<;>rfl
 .cases e with
  |normal=>exact hJ.move (fun _=>lI rfl) (l o F' _ rfl rfl rfl rfl rfl g)
  |exit i=>exact g.elim
  |ret=>exact fun z=>hJ.move (fun _=>stepG_ret' rfl) (l o F' _ rfl rfl rfl rfl rfl g)
theorem l6.ends {P:Program}{f:FuncId}{args:Array Value}{F:af}{R:Value->af->Prop}(h:l6 P f args F R){W:World}(i:Has F W){a:Value->World->Prop}
  (j:∀v F' w',R v F'->fB F F' W w'->a v w'):
  ∃M last o w' b,runNT P (M+1) (solo (G (Frame.enter P f args .normal) []) W) #[]=(.ended o w',b)/\runN P M (solo (G (Frame.enter P f args .normal) []) W)= .next last/\step P last= .ended o w'/\Go.Conc.Good P a last o w' b:=by
 obtain ⟨N,cg,w',k,b,C,g',F',l,g,c,hu,_,fr,fn,t,v,rfl,m,n,p,q,r,s,u,w⟩:=h (za P R) (fun _ _ x=>x) (fun _=>False) #[G (Frame.enter P f args .normal) []] W none #[] (fun _=>0)
  ⟨rfl,leavers_one P _,past_nil.mono (Nat.zero_le _),i,fun _ x=>x.elim,fun _ x=>x.elim⟩
 have hg:Goes P true AtRel (fun _ _ _=>False) (AtEnd P l w'.heap.size a) 0 (G fr []) w':=by
  refine Goes.stop fun D ⟨d,hd⟩=>?_
  subst hd
  refine ⟨rfl,v,seen P fr.fn #[],?_,fun e he=>?_,j v F' _ w ⟨hu.os,hu.tape,hu.output,hu.size,hu.frame,hu.ro,hu.own⟩⟩
  .have y:fr.tmps[t]?.getD undef=v:=by rw[<-u,Array.getD_eq_getD_getElem?]
   simp[G,stepG,unwind,p,q,r,results,s,y,doReturn,GStep.after,Sem.runT,m,n]
  .exact absurd (mem_seen he) av
 obtain ⟨z,last,o,w2,t2,e1,e2,A,B⟩:=beside_ends (sl:=k) (fun _ _ _ x=>x.elim) c.g0 c.lv c.fR hg
 refine ⟨N+z,last,o,w2,t2,?_,?_,A,B⟩
 .rw[solo_eq_crowd,Nat.add_assoc,js g,e1]
 .rw[solo_eq_crowd,runN_add]
  have:=runNT_fst P N (crowd #[G (Frame.enter P f args .normal) []] W none) #[]
  rw[g] at this
  rw[<-this]
  exact e2
end Go.Sep
end
section
namespace Go.Proofs.YtdgblangfefjmaaGreatDoor
open Go Go.Sep Go.Proofs
set_option maxRecDepth 100000
theorem mixed:Tryz.prog.follows .mixedOrders=true:=ai
@[go_sem] theorem Ke:cp Tryz.prog 3=some false:=ai
@[go_sem] theorem kM:bZ Tryz.prog 3=some 1:=ai
theorem kN:bytesOf Tryz.prog 3=some 8:=ai
@[go_sem] theorem kO:zeroOf Tryz.prog 3=some (.int .i64 0):=ai
@[go_sem] theorem Kf:cp Tryz.prog 4=some false:=ai
@[go_sem] theorem zb:bZ Tryz.prog 4=some 1:=ai
@[go_sem] theorem C3:zeroOf Tryz.prog 4=some (.bool false):=ai
@[go_sem] theorem Kg:tH Tryz.prog 4=true:=ai
@[go_sem] theorem Kh:cp Tryz.prog 23=some true:=ai
@[go_sem] theorem C4:bZ Tryz.prog 23=some 2:=ai
theorem C5:bytesOf Tryz.prog 23=some 16:=ai
@[go_sem] theorem ze:zeroOf Tryz.prog 23=some (.agg #[.int .i64 0,.int .i64 0]):=ai
@[go_sem] theorem Ki:lQ Tryz.prog 23=some [true,true]:=ai
@[go_sem] theorem Kj:cu Tryz.prog 23 0=some 0:=ai
@[go_sem] theorem Kk:cu Tryz.prog 23 1=some 1:=ai
@[go_sem] theorem Kl:placesOf Tryz.prog 23=some [(0,1),(1,1)]:=ai
@[go_sem] theorem Km:cp Tryz.prog 24=some false:=ai
@[go_sem] theorem Kn:bZ Tryz.prog 24=some 1:=ai
@[go_sem] theorem Ko:jW Tryz.prog 24=true:=ai
@[go_sem] theorem zf:c9 Tryz.prog 24=some 42:=ai
@[go_sem] theorem Kp:cp Tryz.prog 25=some false:=ai
@[go_sem] theorem Kq:bZ Tryz.prog 25=some 1:=ai
@[go_sem] theorem Kr:jW Tryz.prog 25=true:=ai
@[go_sem] theorem kP:c9 Tryz.prog 25=some 146:=ai
@[go_sem] theorem Ks:cp Tryz.prog 26=some false:=ai
@[go_sem] theorem Kt:bZ Tryz.prog 26=some 1:=ai
@[go_sem] theorem Ku:jW Tryz.prog 26=true:=ai
@[go_sem] theorem zg:c9 Tryz.prog 26=some 144:=ai
@[go_sem] theorem Kv:cp Tryz.prog 27=some false:=ai
@[go_sem] theorem Kw:bZ Tryz.prog 27=some 1:=ai
@[go_sem] theorem Kx:jW Tryz.prog 27=true:=ai
@[go_sem] theorem eM:c9 Tryz.prog 27=some 101:=ai
@[go_sem] theorem Ky:cp Tryz.prog 29=some true:=ai
@[go_sem] theorem Kz:bZ Tryz.prog 29=some 8:=ai
@[go_sem] theorem KA:zeroOf Tryz.prog 29=some (.agg #[.int .i64 0,.int .i64 0,.int .i64 0,.int .i64 0,.slice none 0 0,.slice none 0 0,.slice none 0 0,.slice none 0 0]):=ai
@[go_sem] theorem KB:cu Tryz.prog 29 0=some 0:=ai
@[go_sem] theorem KC:cu Tryz.prog 29 1=some 1:=ai
@[go_sem] theorem KD:cu Tryz.prog 29 2=some 2:=ai
@[go_sem] theorem KE:cu Tryz.prog 29 3=some 4:=ai
@[go_sem] theorem KF:cu Tryz.prog 29 4=some 5:=ai
@[go_sem] theorem KG:cu Tryz.prog 29 5=some 6:=ai
@[go_sem] theorem KH:cu Tryz.prog 29 6=some 7:=ai
@[go_sem] theorem KI:placesOf Tryz.prog 29=some [(0,1),(1,1),(2,2),(4,1),(5,1),(6,1),(7,1)]:=ai
@[go_sem] theorem KJ:cp Tryz.prog 33=some true:=ai
@[go_sem] theorem KL:bZ Tryz.prog 33=some 2:=ai
@[go_sem] theorem KM:zeroOf Tryz.prog 33=some (.agg #[.int .i64 0,.int .i64 0]):=ai
@[go_sem] theorem KN:cu Tryz.prog 33 0=some 0:=ai
@[go_sem] theorem KO:cu Tryz.prog 33 1=some 1:=ai
@[go_sem] theorem KP:placesOf Tryz.prog 33=some [(0,1),(1,1)]:=ai
@[go_sem] theorem KQ:cp Tryz.prog 42=some true:=ai
@[go_sem] theorem C6:bZ Tryz.prog 42=some 2:=ai
theorem C7:bytesOf Tryz.prog 42=some 16:=ai
@[go_sem] theorem zh:zeroOf Tryz.prog 42=some (.agg #[.int .i64 0,.int .i64 0]):=ai
@[go_sem] theorem KR:cu Tryz.prog 42 0=some 0:=ai
@[go_sem] theorem KS:cu Tryz.prog 42 1=some 1:=ai
@[go_sem] theorem KT:placesOf Tryz.prog 42=some [(0,1),(1,1)]:=ai
@[go_sem] theorem KU:cp Tryz.prog 44=some true:=ai
@[go_sem] theorem KV:bZ Tryz.prog 44=some 2:=ai
@[go_sem] theorem KW:zeroOf Tryz.prog 44=some (.agg #[.int .i64 0,.int .i64 0]):=ai
@[go_sem] theorem KX:lQ Tryz.prog 44=some [true,true]:=ai
@[go_sem] theorem KY:cu Tryz.prog 44 0=some 0:=ai
@[go_sem] theorem KZ:cu Tryz.prog 44 1=some 1:=ai
@[go_sem] theorem K0:placesOf Tryz.prog 44=some [(0,1),(1,1)]:=ai
@[go_sem] theorem K1:cp Tryz.prog 45=some false:=ai
@[go_sem] theorem K2:c9 Tryz.prog 45=some 44:=ai
@[go_sem] theorem K3:cp Tryz.prog 47=some true:=ai
@[go_sem] theorem K4:bZ Tryz.prog 47=some 2:=ai
@[go_sem] theorem K5:zeroOf Tryz.prog 47=some (.agg #[.int .i64 0,.int .i64 0]):=ai
@[go_sem] theorem K6:cu Tryz.prog 47 0=some 0:=ai
@[go_sem] theorem K7:cu Tryz.prog 47 1=some 1:=ai
@[go_sem] theorem K8:placesOf Tryz.prog 47=some [(0,1),(1,1)]:=ai
@[go_sem] theorem K9:cp Tryz.prog 48=some false:=ai
@[go_sem] theorem La:c9 Tryz.prog 48=some 68:=ai
@[go_sem] theorem Lb:cp Tryz.prog 50=some true:=ai
@[go_sem] theorem Lc:bZ Tryz.prog 50=some 5:=ai
@[go_sem] theorem Ld:zeroOf Tryz.prog 50=some (.agg #[.slice none 0 0,.int .i64 0,.int .i64 0,.int .i64 0,.slice none 0 0]):=ai
@[go_sem] theorem Lf:cu Tryz.prog 50 0=some 0:=ai
@[go_sem] theorem Lg:cu Tryz.prog 50 1=some 1:=ai
@[go_sem] theorem Lh:cu Tryz.prog 50 2=some 2:=ai
@[go_sem] theorem Li:cu Tryz.prog 50 3=some 4:=ai
@[go_sem] theorem Lj:placesOf Tryz.prog 50=some [(0,1),(1,1),(2,2),(4,1)]:=ai
@[go_sem] theorem Ll:cp Tryz.prog 60=some false:=ai
@[go_sem] theorem qC:bZ Tryz.prog 60=some 1:=ai
theorem qD:bytesOf Tryz.prog 60=some 24:=ai
@[go_sem] theorem qE:zeroOf Tryz.prog 60=some (.slice none 0 0):=ai
@[go_sem] theorem Lm:jW Tryz.prog 60=true:=ai
@[go_sem] theorem fZ:c9 Tryz.prog 60=some 3:=ai
@[go_sem] theorem Ln:cp Tryz.prog 68=some true:=ai
@[go_sem] theorem Lo:bZ Tryz.prog 68=some 3:=ai
@[go_sem] theorem Lp:zeroOf Tryz.prog 68=some (.agg #[.int .i64 0,.int .i64 0,.int .i64 0]):=ai
@[go_sem] theorem Lq:cu Tryz.prog 68 0=some 0:=ai
@[go_sem] theorem Lr:cu Tryz.prog 68 1=some 2:=ai
@[go_sem] theorem Ls:cp Tryz.prog 101=some true:=ai
@[go_sem] theorem ir:bZ Tryz.prog 101=some 2:=ai
theorem iu:bytesOf Tryz.prog 101=some 16:=ai
@[go_sem] theorem iw:zeroOf Tryz.prog 101=some (.agg #[.int .i64 0,.bool false]):=ai
@[go_sem] theorem Lt:cu Tryz.prog 101 0=some 0:=ai
@[go_sem] theorem Lu:cu Tryz.prog 101 1=some 1:=ai
@[go_sem] theorem Lv:placesOf Tryz.prog 101=some [(0,1),(1,1)]:=ai
@[go_sem] theorem Lx:cp Tryz.prog 108=some true:=ai
@[go_sem] theorem Ly:bZ Tryz.prog 108=some 8:=ai
@[go_sem] theorem Lz:zeroOf Tryz.prog 108=some (.agg #[.int .i64 0,.int .i64 0,.int .i64 0,.int .i64 0,.slice none 0 0,.slice none 0 0,.slice none 0 0,.slice none 0 0]):=ai
@[go_sem] theorem LA:cu Tryz.prog 108 0=some 0:=ai
@[go_sem] theorem LB:placesOf Tryz.prog 108=some [(0,8)]:=ai
@[go_sem] theorem LC:cp Tryz.prog 111=some false:=ai
@[go_sem] theorem LD:bZ Tryz.prog 111=some 1:=ai
@[go_sem] theorem LF:zeroOf Tryz.prog 111=some .nilFunc:=ai
@[go_sem] theorem LG:cp Tryz.prog 112=some true:=ai
@[go_sem] theorem C8:bZ Tryz.prog 112=some 2:=ai
theorem C9:bytesOf Tryz.prog 112=some 16:=ai
@[go_sem] theorem Da:zeroOf Tryz.prog 112=some (.agg #[.int .i64 0,.int .i64 0]):=ai
@[go_sem] theorem LH:lQ Tryz.prog 112=some [true,true]:=ai
@[go_sem] theorem LI:cu Tryz.prog 112 0=some 0:=ai
@[go_sem] theorem LJ:cu Tryz.prog 112 1=some 1:=ai
@[go_sem] theorem LK:placesOf Tryz.prog 112=some [(0,1),(1,1)]:=ai
@[go_sem] theorem LL:cp Tryz.prog 114=some true:=ai
@[go_sem] theorem LM:bZ Tryz.prog 114=some 3:=ai
@[go_sem] theorem LN:zeroOf Tryz.prog 114=some (.agg #[.int .i64 0,.int .i64 0,.int .i64 0]):=ai
@[go_sem] theorem LO:lQ Tryz.prog 114=some [true,true,true]:=ai
@[go_sem] theorem LP:cu Tryz.prog 114 0=some 0:=ai
@[go_sem] theorem LQ:cu Tryz.prog 114 1=some 1:=ai
@[go_sem] theorem LR:placesOf Tryz.prog 114=some [(0,1),(1,2)]:=ai
@[go_sem] theorem LS:cp Tryz.prog 116=some true:=ai
@[go_sem] theorem ug:bZ Tryz.prog 116=some 6:=ai
theorem uh:bytesOf Tryz.prog 116=some 48:=ai
@[go_sem] theorem uj:zeroOf Tryz.prog 116=some (.agg #[.int .i64 0,.int .i64 0,.int .i64 0,.int .i64 0,.int .i64 0,.int .i64 0]):=ai
@[go_sem] theorem LU:cu Tryz.prog 116 0=some 0:=ai
@[go_sem] theorem LV:cu Tryz.prog 116 1=some 3:=ai
@[go_sem] theorem LW:cu Tryz.prog 116 2=some 4:=ai
@[go_sem] theorem LX:tA Tryz.prog 116 2=some (4,2,true):=ai
@[go_sem] theorem LY:placesOf Tryz.prog 116=some [(0,3),(3,1),(4,2)]:=ai
@[go_sem] theorem zi:c9 Tryz.prog 118=some 23:=ai
@[go_sem] theorem LZ:cp Tryz.prog 122=some true:=ai
@[go_sem] theorem L0:bZ Tryz.prog 122=some 11:=ai
@[go_sem] theorem L1:zeroOf Tryz.prog 122=some (.agg #[.int .i64 0,.int .i64 0,.int .i64 0,.int .i64 0,.slice none 0 0,.int .i64 0,.int .i64 0,.int .i64 0,.int .i64 0,.int .i64 0,.int .i64 0]):=ai
@[go_sem] theorem L2:cu Tryz.prog 122 0=some 0:=ai
@[go_sem] theorem L3:cu Tryz.prog 122 1=some 1:=ai
@[go_sem] theorem L4:cu Tryz.prog 122 2=some 2:=ai
@[go_sem] theorem L5:placesOf Tryz.prog 122=some [(0,1),(1,1),(2,2),(4,1),(5,3),(8,3)]:=ai
@[go_sem] theorem L6:cp Tryz.prog 124=some true:=ai
@[go_sem] theorem L7:bZ Tryz.prog 124=some 5:=ai
@[go_sem] theorem L8:zeroOf Tryz.prog 124=some (.agg #[.slice none 0 0,.int .i64 0,.int .i64 0,.int .i64 0,.slice none 0 0]):=ai
@[go_sem] theorem L9:cu Tryz.prog 124 0=some 0:=ai
@[go_sem] theorem Ma:placesOf Tryz.prog 124=some [(0,5)]:=ai
@[go_sem] theorem Mb:cp Tryz.prog 127=some false:=ai
@[go_sem] theorem Mc:bZ Tryz.prog 127=some 1:=ai
@[go_sem] theorem Md:zeroOf Tryz.prog 127=some .nilFunc:=ai
@[go_sem] theorem Me:cp Tryz.prog 129=some true:=ai
@[go_sem] theorem Db:bZ Tryz.prog 129=some 4:=ai
theorem Dc:bytesOf Tryz.prog 129=some 32:=ai
@[go_sem] theorem Dd:zeroOf Tryz.prog 129=some (.agg #[.int .i64 0,.int .i64 0,.int .i64 0,.int .i64 0]):=ai
@[go_sem] theorem Mf:cu Tryz.prog 129 0=some 0:=ai
@[go_sem] theorem Mg:cu Tryz.prog 129 1=some 2:=ai
@[go_sem] theorem Mh:placesOf Tryz.prog 129=some [(0,2),(2,2)]:=ai
@[go_sem] theorem Mi:cp Tryz.prog 144=some true:=ai
@[go_sem] theorem De:bZ Tryz.prog 144=some 3:=ai
theorem Df:bytesOf Tryz.prog 144=some 24:=ai
@[go_sem] theorem Dg:zeroOf Tryz.prog 144=some (.agg #[.int .i64 0,.int .i64 0,.int .i64 0]):=ai
@[go_sem] theorem Mj:cu Tryz.prog 144 0=some 0:=ai
@[go_sem] theorem Mk:cu Tryz.prog 144 1=some 1:=ai
@[go_sem] theorem Ml:placesOf Tryz.prog 144=some [(0,1),(1,2)]:=ai
@[go_sem] theorem Mm:cp Tryz.prog 146=some true:=ai
@[go_sem] theorem qF:bZ Tryz.prog 146=some 2:=ai
theorem qG:bytesOf Tryz.prog 146=some 16:=ai
@[go_sem] theorem qH:zeroOf Tryz.prog 146=some (.agg #[.int .i64 0,.int .i64 0]):=ai
@[go_sem] theorem Mn:cu Tryz.prog 146 0=some 0:=ai
@[go_sem] theorem Mo:cu Tryz.prog 146 1=some 1:=ai
@[go_sem] theorem Mq:placesOf Tryz.prog 146=some [(0,1),(1,1)]:=ai
@[go_sem] theorem mX:c9 Tryz.prog 150=some 116:=ai
@[go_sem] theorem Mr:cp Tryz.prog 155=some false:=ai
@[go_sem] theorem Ms:bZ Tryz.prog 155=some 1:=ai
@[go_sem] theorem Mt:zeroOf Tryz.prog 155=some (.map none):=ai
@[go_sem] theorem Mv:cp Tryz.prog 158=some true:=ai
@[go_sem] theorem Dh:bZ Tryz.prog 158=some 3:=ai
theorem Di:bytesOf Tryz.prog 158=some 24:=ai
@[go_sem] theorem Dj:zeroOf Tryz.prog 158=some (.agg #[.int .i64 0,.int .i64 0,.int .i64 0]):=ai
@[go_sem] theorem Mw:jU Tryz.prog 158=some (3,3):=ai
@[go_sem] theorem Mx:cp Tryz.prog 159=some false:=ai
@[go_sem] theorem My:bZ Tryz.prog 159=some 1:=ai
@[go_sem] theorem zj:c9 Tryz.prog 159=some 158:=ai
@[go_sem] theorem Mz:cp Tryz.prog 161=some true:=ai
@[go_sem] theorem MA:bZ Tryz.prog 161=some 9:=ai
@[go_sem] theorem MB:zeroOf Tryz.prog 161=some (.agg #[.int .i64 0,.int .i64 0,.int .i64 0,.int .i64 0,.slice none 0 0,.slice none 0 0,.slice none 0 0,.slice none 0 0,.slice none 0 0]):=ai
@[go_sem] theorem MC:cu Tryz.prog 161 0=some 0:=ai
@[go_sem] theorem MD:cu Tryz.prog 161 1=some 8:=ai
@[go_sem] theorem ME:placesOf Tryz.prog 161=some [(0,8),(8,1)]:=ai
@[go_sem] theorem MF:cp Tryz.prog 169=some false:=ai
@[go_sem] theorem MG:cp Tryz.prog 170=some false:=ai
@[go_sem] theorem MH:bZ Tryz.prog 170=some 1:=ai
@[go_sem] theorem MI:zeroOf Tryz.prog 170=some (.slice none 0 0):=ai
@[go_sem] theorem zk:c9 Tryz.prog 170=some 112:=ai
@[go_sem] theorem kQ:c9 Tryz.prog 175=some 60:=ai
@[go_sem] theorem MJ:c9 Tryz.prog 184=some 111:=ai
@[go_sem] theorem MK:c9 Tryz.prog 186=some 127:=ai
@[go_sem] theorem ML:cp Tryz.prog 189=some false:=ai
@[go_sem] theorem MM:bZ Tryz.prog 189=some 1:=ai
@[go_sem] theorem zl:c9 Tryz.prog 189=some 129:=ai
@[go_sem] theorem MN:cp Tryz.prog 195=some false:=ai
@[go_sem] theorem MO:bZ Tryz.prog 195=some 1:=ai
@[go_sem] theorem MP:zeroOf Tryz.prog 195=some .nilFunc:=ai
@[go_sem] theorem MQ:cp Tryz.prog 202=some false:=ai
@[go_sem] theorem MR:cp Tryz.prog 204=some true:=ai
@[go_sem] theorem MS:bZ Tryz.prog 204=some 1:=ai
@[go_sem] theorem MT:zeroOf Tryz.prog 204=some (.agg #[.nilFunc]):=ai
@[go_sem] theorem MU:cu Tryz.prog 204 0=some 0:=ai
@[go_sem] theorem MV:cp Tryz.prog 205=some true:=ai
@[go_sem] theorem MW:bZ Tryz.prog 205=some 3:=ai
@[go_sem] theorem MX:jU Tryz.prog 205=some (3,204):=ai
@[go_sem] theorem MY:cp Tryz.prog 217=some false:=ai
@[go_sem] theorem MZ:bZ Tryz.prog 217=some 1:=ai
@[go_sem] theorem M0:zeroOf Tryz.prog 217=some (.slice none 0 0):=ai
@[go_sem] theorem M1:c9 Tryz.prog 217=some 4:=ai
@[go_sem] theorem M3:cu Tryz.prog 222 0=some 0:=ai
@[go_sem] theorem M4:cu Tryz.prog 222 1=some 1:=ai
@[go_sem] theorem M5:zeroOf Tryz.prog 224=some (.agg #[.int .i32 0,.int .u32 0]):=ai
@[go_sem] theorem M6:cu Tryz.prog 224 1=some 0:=ai
@[go_sem] theorem M7:cu Tryz.prog 229 2=some 0:=ai
@[go_sem] theorem M8:zeroOf Tryz.prog 231=some (.agg #[.int .u64 0,.int .u32 0]):=ai
@[go_sem] theorem M9:cu Tryz.prog 231 1=some 0:=ai
@[go_sem] theorem Na:cu Tryz.prog 231 2=some 1:=ai
@[go_sem] theorem Nb:cp Tryz.prog 235=some true:=ai
@[go_sem] theorem Nc:bZ Tryz.prog 235=some 5:=ai
@[go_sem] theorem Nf:jU Tryz.prog 235=some (5,111):=ai
@[go_sem] theorem Ng:cp Tryz.prog 297=some false:=ai
@[go_sem] theorem Nh:bZ Tryz.prog 297=some 1:=ai
@[go_sem] theorem Ni:zeroOf Tryz.prog 297=some (.int .u64 0):=ai
@[go_sem] theorem Nj:aN Tryz.prog 2=true:=ai
@[go_sem] theorem Nk:aN Tryz.prog 3=true:=ai
@[go_sem] theorem Nl:aN Tryz.prog 4=true:=ai
@[go_sem] theorem Nm:aN Tryz.prog 5=true:=ai
@[go_sem] theorem Nn:aN Tryz.prog 6=true:=ai
@[go_sem] theorem No:aN Tryz.prog 7=true:=ai
@[go_sem] theorem Np:aN Tryz.prog 8=true:=ai
@[go_sem] theorem Nq:aN Tryz.prog 9=true:=ai
@[go_sem] theorem Nr:aN Tryz.prog 10=true:=ai
@[go_sem] theorem Ns:aN Tryz.prog 11=true:=ai
@[go_sem] theorem Nt:aN Tryz.prog 12=true:=ai
@[go_sem] theorem Nu:aN Tryz.prog 13=true:=ai
@[go_sem] theorem Nv:aN Tryz.prog 14=true:=ai
@[go_sem] theorem Nw:aN Tryz.prog 15=true:=ai
@[go_sem] theorem Ny:aN Tryz.prog 16=true:=ai
@[go_sem] theorem Nz:aN Tryz.prog 17=true:=ai
@[go_sem] theorem NA:aN Tryz.prog 18=true:=ai
@[go_sem] theorem NB:aN Tryz.prog 19=true:=ai
@[go_sem] theorem NC:aN Tryz.prog 20=true:=ai
@[go_sem] theorem ND:aN Tryz.prog 21=true:=ai
@[go_sem] theorem NF:aN Tryz.prog 22=true:=ai
@[go_sem] theorem NG:aN Tryz.prog 23=true:=ai
@[go_sem] theorem NH:aN Tryz.prog 24=true:=ai
@[go_sem] theorem NI:aN Tryz.prog 25=true:=ai
@[go_sem] theorem NJ:aN Tryz.prog 26=true:=ai
@[go_sem] theorem NK:aN Tryz.prog 27=true:=ai
@[go_sem] theorem NL:aN Tryz.prog 28=true:=ai
@[go_sem] theorem NM:aN Tryz.prog 29=true:=ai
@[go_sem] theorem NN:aN Tryz.prog 30=true:=ai
@[go_sem] theorem NO:aN Tryz.prog 31=true:=ai
@[go_sem] theorem NP:aN Tryz.prog 32=true:=ai
@[go_sem] theorem NQ:aN Tryz.prog 33=true:=ai
@[go_sem] theorem NR:aN Tryz.prog 34=true:=ai
@[go_sem] theorem NS:aN Tryz.prog 35=true:=ai
@[go_sem] theorem NT:aN Tryz.prog 36=true:=ai
@[go_sem] theorem NU:aN Tryz.prog 37=true:=ai
@[go_sem] theorem NV:aN Tryz.prog 38=true:=ai
@[go_sem] theorem NW:aN Tryz.prog 39=true:=ai
@[go_sem] theorem NX:aN Tryz.prog 40=true:=ai
@[go_sem] theorem NY:aN Tryz.prog 41=true:=ai
@[go_sem] theorem NZ:aN Tryz.prog 42=true:=ai
@[go_sem] theorem N0:aN Tryz.prog 43=true:=ai
@[go_sem] theorem N1:aN Tryz.prog 44=true:=ai
@[go_sem] theorem N2:aN Tryz.prog 45=true:=ai
@[go_sem] theorem N3:aN Tryz.prog 46=true:=ai
@[go_sem] theorem N4:aN Tryz.prog 47=true:=ai
@[go_sem] theorem N5:aN Tryz.prog 48=true:=ai
@[go_sem] theorem N6:aN Tryz.prog 49=true:=ai
@[go_sem] theorem N7:aN Tryz.prog 50=true:=ai
@[go_sem] theorem N8:aN Tryz.prog 51=true:=ai
@[go_sem] theorem N9:aN Tryz.prog 52=true:=ai
@[go_sem] theorem Oa:aN Tryz.prog 53=true:=ai
@[go_sem] theorem Ob:aN Tryz.prog 54=true:=ai
@[go_sem] theorem Oc:aN Tryz.prog 55=true:=ai
@[go_sem] theorem Od:aN Tryz.prog 56=true:=ai
@[go_sem] theorem Oe:aN Tryz.prog 57=true:=ai
@[go_sem] theorem Of:aN Tryz.prog 58=true:=ai
@[go_sem] theorem Og:aN Tryz.prog 59=true:=ai
@[go_sem] theorem Oh:aN Tryz.prog 60=true:=ai
@[go_sem] theorem Oi:aN Tryz.prog 61=true:=ai
@[go_sem] theorem Oj:aN Tryz.prog 62=true:=ai
@[go_sem] theorem Ok:aN Tryz.prog 63=true:=ai
@[go_sem] theorem Ol:aN Tryz.prog 64=true:=ai
@[go_sem] theorem Om:aN Tryz.prog 65=true:=ai
@[go_sem] theorem On:aN Tryz.prog 66=true:=ai
@[go_sem] theorem Oo:aN Tryz.prog 67=true:=ai
@[go_sem] theorem Oq:aN Tryz.prog 68=true:=ai
@[go_sem] theorem Ot:aN Tryz.prog 69=true:=ai
@[go_sem] theorem Ou:aN Tryz.prog 70=true:=ai
@[go_sem] theorem Ov:aN Tryz.prog 71=true:=ai
@[go_sem] theorem Ow:aN Tryz.prog 72=true:=ai
@[go_sem] theorem Ox:aN Tryz.prog 73=true:=ai
@[go_sem] theorem Oy:aN Tryz.prog 74=true:=ai
@[go_sem] theorem Oz:aN Tryz.prog 75=true:=ai
@[go_sem] theorem OA:aN Tryz.prog 76=true:=ai
@[go_sem] theorem OB:aN Tryz.prog 77=true:=ai
@[go_sem] theorem OC:aN Tryz.prog 78=true:=ai
@[go_sem] theorem OD:aN Tryz.prog 79=true:=ai
@[go_sem] theorem OE:aN Tryz.prog 80=true:=ai
@[go_sem] theorem OF:aN Tryz.prog 81=true:=ai
@[go_sem] theorem OG:aN Tryz.prog 82=true:=ai
@[go_sem] theorem OH:aN Tryz.prog 83=true:=ai
@[go_sem] theorem OI:aN Tryz.prog 84=true:=ai
@[go_sem] theorem OJ:aN Tryz.prog 85=true:=ai
@[go_sem] theorem OK:aN Tryz.prog 86=true:=ai
@[go_sem] theorem OL:aN Tryz.prog 87=true:=ai
@[go_sem] theorem OM:aN Tryz.prog 88=true:=ai
@[go_sem] theorem ON:aN Tryz.prog 89=true:=ai
@[go_sem] theorem OO:aN Tryz.prog 90=true:=ai
@[go_sem] theorem OP:aN Tryz.prog 91=true:=ai
@[go_sem] theorem OQ:aN Tryz.prog 92=true:=ai
@[go_sem] theorem OR:aN Tryz.prog 93=true:=ai
@[go_sem] theorem OS:aN Tryz.prog 94=true:=ai
@[go_sem] theorem OT:aN Tryz.prog 95=true:=ai
@[go_sem] theorem OU:aN Tryz.prog 96=true:=ai
@[go_sem] theorem OV:aN Tryz.prog 97=true:=ai
@[go_sem] theorem OW:aN Tryz.prog 98=true:=ai
@[go_sem] theorem OX:aN Tryz.prog 99=true:=ai
@[go_sem] theorem OY:aN Tryz.prog 100=true:=ai
@[go_sem] theorem OZ:aN Tryz.prog 101=true:=ai
@[go_sem] theorem O0:aN Tryz.prog 102=true:=ai
@[go_sem] theorem O1:aN Tryz.prog 103=true:=ai
@[go_sem] theorem O2:aN Tryz.prog 104=true:=ai
@[go_sem] theorem O3:aN Tryz.prog 105=true:=ai
@[go_sem] theorem O4:aN Tryz.prog 106=true:=ai
@[go_sem] theorem O5:aN Tryz.prog 107=true:=ai
@[go_sem] theorem O6:aN Tryz.prog 108=true:=ai
@[go_sem] theorem O7:aN Tryz.prog 109=true:=ai
@[go_sem] theorem O8:aN Tryz.prog 110=true:=ai
@[go_sem] theorem O9:aN Tryz.prog 111=true:=ai
@[go_sem] theorem Pa:aN Tryz.prog 112=true:=ai
@[go_sem] theorem Pb:aN Tryz.prog 113=true:=ai
@[go_sem] theorem Pd:aN Tryz.prog 114=true:=ai
@[go_sem] theorem Pe:aN Tryz.prog 115=true:=ai
@[go_sem] theorem Pf:aN Tryz.prog 116=true:=ai
@[go_sem] theorem Pg:aN Tryz.prog 117=true:=ai
@[go_sem] theorem Pj:aN Tryz.prog 118=true:=ai
@[go_sem] theorem Pk:aN Tryz.prog 119=true:=ai
@[go_sem] theorem Pm:aN Tryz.prog 120=true:=ai
@[go_sem] theorem Pn:aN Tryz.prog 121=true:=ai
@[go_sem] theorem Po:aN Tryz.prog 122=true:=ai
@[go_sem] theorem Pp:aN Tryz.prog 123=true:=ai
@[go_sem] theorem Pq:aN Tryz.prog 124=true:=ai
@[go_sem] theorem Pt:aN Tryz.prog 125=true:=ai
@[go_sem] theorem Pu:aN Tryz.prog 126=true:=ai
@[go_sem] theorem Pv:aN Tryz.prog 127=true:=ai
@[go_sem] theorem Pw:aN Tryz.prog 128=true:=ai
@[go_sem] theorem Px:aN Tryz.prog 129=true:=ai
@[go_sem] theorem Py:aN Tryz.prog 130=true:=ai
@[go_sem] theorem Pz:aN Tryz.prog 131=true:=ai
@[go_sem] theorem PA:aN Tryz.prog 132=true:=ai
@[go_sem] theorem PB:aN Tryz.prog 133=true:=ai
@[go_sem] theorem PC:aN Tryz.prog 134=true:=ai
@[go_sem] theorem PD:aN Tryz.prog 135=true:=ai
@[go_sem] theorem PE:aN Tryz.prog 136=true:=ai
@[go_sem] theorem PF:aN Tryz.prog 137=true:=ai
@[go_sem] theorem PG:aN Tryz.prog 138=true:=ai
@[go_sem] theorem PI:aN Tryz.prog 139=true:=ai
@[go_sem] theorem PJ:aN Tryz.prog 140=true:=ai
@[go_sem] theorem PK:aN Tryz.prog 141=true:=ai
@[go_sem] theorem PL:aN Tryz.prog 142=true:=ai
@[go_sem] theorem PM:aN Tryz.prog 143=true:=ai
@[go_sem] theorem zm:aN Tryz.prog 144=true:=ai
@[go_sem] theorem PN:aN Tryz.prog 145=true:=ai
@[go_sem] theorem PO:aN Tryz.prog 146=true:=ai
@[go_sem] theorem PR:aN Tryz.prog 147=true:=ai
@[go_sem] theorem PS:aN Tryz.prog 148=true:=ai
@[go_sem] theorem Dk:aN Tryz.prog 149=true:=ai
@[go_sem] theorem Dl:aN Tryz.prog 150=true:=ai
@[go_sem] theorem Dm:aN Tryz.prog 151=true:=ai
@[go_sem] theorem PU:aN Tryz.prog 152=true:=ai
@[go_sem] theorem PV:aN Tryz.prog 153=true:=ai
@[go_sem] theorem PW:aN Tryz.prog 154=true:=ai
@[go_sem] theorem PX:aN Tryz.prog 155=true:=ai
@[go_sem] theorem PY:aN Tryz.prog 156=true:=ai
@[go_sem] theorem PZ:aN Tryz.prog 157=true:=ai
@[go_sem] theorem P1:aN Tryz.prog 158=true:=ai
@[go_sem] theorem P2:aN Tryz.prog 159=true:=ai
@[go_sem] theorem P3:aN Tryz.prog 160=true:=ai
@[go_sem] theorem P4:aN Tryz.prog 161=true:=ai
@[go_sem] theorem P5:aN Tryz.prog 162=true:=ai
@[go_sem] theorem P6:aN Tryz.prog 163=true:=ai
@[go_sem] theorem P7:aN Tryz.prog 164=true:=ai
@[go_sem] theorem P8:aN Tryz.prog 165=true:=ai
@[go_sem] theorem P9:aN Tryz.prog 166=true:=ai
@[go_sem] theorem Qa:aN Tryz.prog 167=true:=ai
@[go_sem] theorem Qb:aN Tryz.prog 168=true:=ai
@[go_sem] theorem Qc:aN Tryz.prog 169=true:=ai
@[go_sem] theorem Qd:aN Tryz.prog 170=true:=ai
@[go_sem] theorem Qe:aN Tryz.prog 177=true:=ai
@[go_sem] theorem zn:aN Tryz.prog 178=true:=ai
@[go_sem] theorem uk:aN Tryz.prog 180=true:=ai
@[go_sem] theorem Dn:aN Tryz.prog 181=true:=ai
@[go_sem] theorem Qf:aN Tryz.prog 184=true:=ai
@[go_sem] theorem Dp:aN Tryz.prog 185=true:=ai
@[go_sem] theorem Dq:aN Tryz.prog 186=true:=ai
@[go_sem] theorem Dr:aN Tryz.prog 189=true:=ai
@[go_sem] theorem Qg:aN Tryz.prog 192=true:=ai
@[go_sem] theorem Qh:aN Tryz.prog 193=true:=ai
@[go_sem] theorem Qi:aN Tryz.prog 194=true:=ai
@[go_sem] theorem Qj:aN Tryz.prog 195=true:=ai
@[go_sem] theorem Qk:aN Tryz.prog 196=true:=ai
@[go_sem] theorem Ql:aN Tryz.prog 197=true:=ai
@[go_sem] theorem Qm:aN Tryz.prog 198=true:=ai
@[go_sem] theorem Qo:aN Tryz.prog 199=true:=ai
@[go_sem] theorem Qp:aN Tryz.prog 200=true:=ai
@[go_sem] theorem Qq:aN Tryz.prog 201=true:=ai
@[go_sem] theorem Qr:aN Tryz.prog 202=true:=ai
@[go_sem] theorem Qs:aN Tryz.prog 203=true:=ai
@[go_sem] theorem Qt:aN Tryz.prog 204=true:=ai
@[go_sem] theorem Qu:aN Tryz.prog 205=true:=ai
@[go_sem] theorem Qv:aN Tryz.prog 206=true:=ai
@[go_sem] theorem Qw:aN Tryz.prog 211=true:=ai
@[go_sem] theorem Ds:aN Tryz.prog 213=true:=ai
@[go_sem] theorem Dt:aN Tryz.prog 215=true:=ai
@[go_sem] theorem Qx:aN Tryz.prog 217=true:=ai
@[go_sem] theorem Qy:aN Tryz.prog 218=true:=ai
@[go_sem] theorem Qz:aN Tryz.prog 219=true:=ai
@[go_sem] theorem QA:aN Tryz.prog 220=true:=ai
@[go_sem] theorem QB:aN Tryz.prog 221=true:=ai
@[go_sem] theorem QC:aN Tryz.prog 229=true:=ai
@[go_sem] theorem QD:aN Tryz.prog 247=true:=ai
@[go_sem] theorem QE:aN Tryz.prog 248=true:=ai
@[go_sem] theorem QF:aN Tryz.prog 249=true:=ai
@[go_sem] theorem QG:aN Tryz.prog 250=true:=ai
@[go_sem] theorem QH:aN Tryz.prog 251=true:=ai
@[go_sem] theorem QI:aN Tryz.prog 252=true:=ai
@[go_sem] theorem QJ:aN Tryz.prog 253=true:=ai
@[go_sem] theorem QK:aN Tryz.prog 254=true:=ai
@[go_sem] theorem QL:aN Tryz.prog 255=true:=ai
@[go_sem] theorem QM:aN Tryz.prog 256=true:=ai
@[go_sem] theorem QN:aN Tryz.prog 261=true:=ai
end Go.Proofs.YtdgblangfefjmaaGreatDoor
end
section
namespace Go.Sep
open Go Go.Conc
def jY (o:Oper):Option (TypeId×Nat):=match o.op,o.dst,o.guard with
 | .alloc t,some d,none=>some (t,d)
 |_,_,_=>none
def zo (ops:Array Oper)(m:Nat):Bool:=
 mT ops (m+1)&&decide (m+2<=ops.size)&&
 (match (ops[m]?).bind jY,(ops[m+1]?).bind jY with|some (_,d),some (_,a)=>!(d==a)|_,_=>false)&&
 decide (Region.ready .any ops (dh ops.size m)=[m,m+1])&&decide (Region.ready .any ops ((dh ops.size m).setIfInBounds (m+1) true)=[m])
theorem zq {ro:Addr->Option Value}{x y:Nat×Obj}{l:List (Nat×Obj)}:Le ⟨ro,x::y::l⟩ ⟨ro,y::x::l⟩:=by
 have c:∀b,b∈keys (x::y::l)↔b∈keys (y::x::l):=fun b=>by
  simp only[keys,List.map_cons,List.mem_cons];exact ⟨fun h=>by rcases h with h|h|h;exact .inr (.inl h);exact .inl h;exact .inr (.inr h),fun h=>by rcases h with h|h|h;exact .inr (.inl h);exact .inl h;exact .inr (.inr h)⟩
 refine ⟨fun w hw=>⟨hw.ro,fun b o hb=>hw.own b o ?_,?_,fun a v h hm=>hw.apart a v h ((c _).1 hm)⟩,fun b hb=>(c b).1 hb,fun a d=>.inl d⟩
 .rcases List.mem_cons.1 hb with h|h
  .exact List.mem_cons_of_mem _ (h▸List.mem_cons_self)
  .rcases List.mem_cons.1 h with h|h
   .exact h▸List.mem_cons_self
   .exact List.mem_cons_of_mem _ (List.mem_cons_of_mem _ h)
 .have:=hw.nodup;simp only[keys,List.map_cons,List.nodup_cons,List.mem_cons,not_or] at this ⊢;exact ⟨⟨fun e=>this.1.1 e.symm,this.2.1⟩,this.1.2,this.2.2⟩
section
variable {P:Program}{main:Bool}{J:Goroutine->af->Prop}{ops:Array Oper}{Q:Act->af->Prop}{F0:af}
theorem zu {o:Oper}{t:TypeId}{d:Nat}(h:jY o=some (t,d)):o.op= .alloc t/\o.dst=some d/\o.guard=none:=by
 unfold jY at h;split at h
 .rename_i a b c;cases h;exact ⟨a,b,c⟩
 .cases h
theorem oP {o:Oper}{a:Act}(h:o.guard=none):cJ ops o a=some true:=by unfold cJ;rw[h]
theorem um {o:Oper}{t:TypeId}{a:Act}{F:af}{z:Value}{R:Value->af->Prop}{D:Deferred->af->Prop}(d:o.op= .alloc t)(e:zeroOf P t=some z)
  (h:∀b,ez F b->∃c,Le c (F.push b (.cells z.cells t))/\R (.pointer (some ⟨b,0,none⟩)) c):bp P (execOp a.eval o) (jR P J R D) F:=by
 have:Oper.mQ o=false:=by unfold Oper.mQ;rw[d]
 refine yS (R:=fun v F=>∃c,Le c F/\R v c) this ?_
 unfold cV
 rw[d]
 simp only[e]
 exact h
theorem Du (m:Nat){o1 o2:Oper}{rest:List Oper}{t1 t2 d1 d2:Nat}(hm:m+2<=ops.size)(A:ops[m]?=some o1)(B:ops[m+1]?=some o2)(N:jY o1=some (t1,d1))(O:jY o2=some (t2,d2)){r:Value}(C:zeroOf P t2=some r)(hd:¬d1=d2)
  (D:ops.toList.drop (m+2)=rest) (E:Region.ready .any ops (dh ops.size m)=[m,m+1]) (G:Region.ready .any ops ((dh ops.size m).setIfInBounds (m+1) true)=[m])
  (H:∀j,j<ops.size - (m+1)->Region.ready .any ops (dh ops.size (m+1+j))=[m+1+j]) (I:Region.ready .any ops (dh ops.size ops.size)=[])
  {a:Act} {F:af} (s:Knows F0 F) (h:eZ P J ops F0 Q (o1::o2::rest) true a F):eu P J ops Q (Knows F0) (ops.size - m) (dh ops.size m) a F:=by
 obtain ⟨e1,t,u⟩:=zu N
 obtain ⟨e2,K,L⟩:=zu O
 have R:ops.size - m=(ops.size - (m+1))+1:=aa
 have S:ops.size - (m+1)=(ops.size - (m+2))+1:=aa
 unfold eZ at h
 rw[oP u] at h
 simp only at h
 have p:∃z,zeroOf P t1=some z:=by
  unfold cV at h
  rw[e1] at h
  simp only at h
  split at h
  .rename_i z T;exact ⟨z,T⟩
  .exact h.elim
 obtain ⟨k,p⟩:=p
 have v:∀b,ez F b->Knows F0 (F.push b (.cells k.cells t1))/\eZ P J ops F0 Q (o2::rest) (!Oper.calls o1) (bq a (some d1) (.pointer (some ⟨b,0,none⟩))) (F.push b (.cells k.cells t1)):=by
  unfold cV at h
  rw[e1] at h
  simp only[p,t] at h
  exact h
 have U:∀b,ez F b->∀f,ez (F.push b (.cells k.cells t1)) f->Knows F0 ((F.push b (.cells k.cells t1)).push f (.cells r.cells t2))/\
   eZ P J ops F0 Q rest (!Oper.calls o2) (bq (bq a (some d1) (.pointer (some ⟨b,0,none⟩))) (some d2) (.pointer (some ⟨f,0,none⟩))) ((F.push b (.cells k.cells t1)).push f (.cells r.cells t2)):=by
  intro b hb
  have:=(v b hb).2
  unfold eZ at this
  rw[oP L] at this
  simp only at this
  unfold cV at this
  rw[e2] at this
  simp only[C,K] at this
  exact this
 have M:=qz (n:=ops.size) (m:=m) aa
 have V:=qz (n:=ops.size) (m:=m+1) aa
 rw[R]
 refine ⟨fun q=>(by rw[E] at q;cases q),fun i g=>?_⟩
 rw[E] at g
 simp only[List.mem_cons,List.not_mem_nil,or_false] at g
 rcases g with g|g
 .subst g
  unfold ef
  simp only[A]
  rw[if_pos (cv (oP u))]
  refine um e1 p fun b hb=>⟨_,Le.refl _,(v b hb).1,?_⟩
  rw[M,t]
  exact lW (i+1) H I (o2::rest) (i+1) _ _ _ (Nat.le_refl _) aa (by
   have:=List.drop_eq_getElem_cons (l:=ops.toList) (i:=i+1) (by simp;omega)
   rw[this,D]
   obtain ⟨_,he⟩:=Array.getElem?_eq_some_iff.1 B
   simp[he]) (v b hb).2
 .subst g
  unfold ef
  simp only[B]
  rw[if_pos (cv (oP L))]
  refine um e2 C fun f w=>⟨_,Le.refl _,?_,?_⟩
  .refine ⟨s.1,s.2.1,?_⟩
   have W:∀(l own:List (Nat×Obj)),au own f->iV l own->iV l ((f,.cells r.cells t2)::own):=fun l own X y=>by
    induction l with
    |nil=>trivial
    |cons x l ih=>
     obtain ⟨c,o⟩:=x
     refine ⟨?_,ih y.2⟩
     have Y:¬f=c:=fun e=>kL X (e▸fe (gS y.1))
     simp only[lk,if_neg Y]
     exact y.1
   exact W _ _ w.own s.2.2
  .rw[S]
   refine ⟨fun q=>(by rw[G] at q;cases q),fun i g=>?_⟩
   rw[G] at g
   simp only[List.mem_cons,List.not_mem_nil,or_false] at g
   subst g
   unfold ef
   simp only[A]
   rw[if_pos (cv (oP u))]
   refine um e1 p fun b hb=>?_
   have Z:ez F b:=⟨hb.ro,hb.own.2⟩
   have ab:¬f=b:=fun e=>hb.own.1 e.symm
   have ad:ez (F.push b (.cells k.cells t1)) f:=⟨w.ro,⟨ab,w.own⟩⟩
   obtain ⟨ae,al⟩:=U b Z f ad
   refine ⟨_,zq,ae,?_⟩
   have ao:bq (bq a o2.dst (.pointer (some ⟨f,0,none⟩))) o1.dst (.pointer (some ⟨b,0,none⟩))=bq (bq a (some d1) (.pointer (some ⟨b,0,none⟩))) (some d2) (.pointer (some ⟨f,0,none⟩)):=by
    rw[t,K]
    exact Act.put_comm a _ _ (fun d ar=>by cases ar;intro e;cases e;exact hd rfl)
   have hs:((dh ops.size i).setIfInBounds (i+1) true).setIfInBounds i true=dh ops.size (i+2):=by
    rw[Array.setIfInBounds_comm _ _ (by omega:i+1≠i),M,V]
   show eu P J ops Q (Knows F0) (ops.size - (i+2)) _ (bq (bq a o2.dst _) o1.dst _) _
   rw[hs,ao]
   exact lW (i+1) H I rest (i+2) _ _ _ aa hm D al
theorem zv {Q:Ex->Act->af->Prop}(hJ:Closed P main J)(o:P.follows .mixedOrders=true)(m:Nat){id:Nat}{a:Act}{F:af}(F0:af)(e:Knows F0 F)(f:zo ops m=true)(t2:TypeId){p:Value}(g:((ops[m+1]?).bind jY).map (·.1)=some t2)(q:zeroOf P t2=some p)
  (h:eF P J ops F0 (fun j=>eZ P J ops F0 (Q .normal) (ops.toList.drop m) true j F) (ops.toList.take m) true a):Wp J (.region id ops true) Q a F:=by
 simp only[zo,Bool.and_eq_true,decide_eq_true_eq] at f
 obtain ⟨⟨⟨⟨r,hm⟩,b⟩,s⟩,t⟩:=f
 have k:=y2 r
 simp only[oI,Bool.and_eq_true,decide_eq_true_eq,List.all_eq_true,List.mem_range] at k
 obtain ⟨⟨⟨⟨u,D⟩,v⟩,w⟩,x⟩:=k
 cases c:(ops[m]?).bind jY with
 |none=>rw[c] at b;cases b
 |some y=>
  cases d:(ops[m+1]?).bind jY with
  |none=>rw[c,d] at b;cases b
  |some z=>
   obtain ⟨t1,d1⟩:=y
   obtain ⟨A,d2⟩:=z
   rw[d] at g
   obtain rfl:A=t2:=by simpa using g
   rw[c,d] at b
   obtain ⟨o1,e1,a1⟩:=Option.bind_eq_some_iff.1 c
   obtain ⟨o2,e2,a2⟩:=Option.bind_eq_some_iff.1 d
   have hd:¬d1=d2:=by simpa using b
   have B:ops.toList.drop m=o1::o2::ops.toList.drop (m+2):=by
    obtain ⟨C,c1⟩:=Array.getElem?_eq_some_iff.1 e1
    obtain ⟨b2,c2⟩:=Array.getElem?_eq_some_iff.1 e2
    rw[List.drop_eq_getElem_cons (l:=ops.toList) (i:=m) (by simpa using C),List.drop_eq_getElem_cons (l:=ops.toList) (i:=m+1) (by simpa using b2)]
    simp[c1,c2]
   refine tj hJ (Knows F0) o ?_
   rw[<-y3]
   have:=qA (P:=P) (J:=J) (Q:=Q .normal) m aa u (fun i E=>by have:=v i aa;simpa using this) e (fun j n=>by
    rw[B] at n
    exact Du (F0:=F0) m hm e1 e2 a1 a2 q hd rfl s t w x e n) _ 0 true a av (Nat.zero_le _) h
   simpa using this
end
def pick (ops:Array Oper):List Nat->List Oper
 |[]=>[]
 |i::is=>match ops[i]? with
  |some o=>o::pick ops is
  |none=>pick ops is
def uo:List Nat->Array Bool->Array Bool
 |[],L=>L
 |i::is,L=>uo is (L.setIfInBounds i true)
def qI (ops:Array Oper):List Nat->Array Bool->Bool
 |[],_=>true
 |i::is,L=>Region.free .any ops L i&&(Region.ready .any ops L).contains i&&(ops[i]?).isSome&&qI ops is (L.setIfInBounds i true)
def oQ (ops:Array Oper):List Nat->Array Bool->Bool
 |[],L=>decide (Region.ready .any ops L=[])
 |i::is,L=>decide (Region.ready .any ops L=[i])&&(ops[i]?).isSome&&oQ ops is (L.setIfInBounds i true)
def zw (ops:Array Oper)(is a:List Nat):Bool:=
 Region.noSelect ops&&qI ops is (Array.replicate ops.size false)&&oQ ops a (uo is (Array.replicate ops.size false))&&decide (is.length+a.length=ops.size)
section
variable {P:Program}{main:Bool}{J:Goroutine->af->Prop}{ops:Array Oper}{Q:Act->af->Prop}{F0:af}
theorem zx {K:Act->Prop}(l:Region.noSelect ops=true){F:af}(b:Knows F0 F)(fuel:Nat):
  ∀(is:List Nat) (L:Array Bool) (go:Bool) (a:Act),qI ops is L=true->eF P J ops F0 K (pick ops is) go a->(∀m,K m->eu P J ops Q (Knows F0) fuel (uo is L) m F)->
   eu P J ops Q (Knows F0) (fuel+is.length) L a F
 |[],L,go,a,_,h,hK=>by unfold pick eF at h;exact hK a h
 |i::is,L,go,a,n,h,hK=>by
  simp only[qI,Bool.and_eq_true] at n
  obtain ⟨⟨⟨c1,c2⟩,c3⟩,c4⟩:=n
  obtain ⟨o,c⟩:=Option.isSome_iff_exists.1 c3
  have g:(Region.noSelect ops&&Region.free .any ops L i&&(Region.ready .any ops L).contains i)=true:=by rw[l,c1,c2];rfl
  have p:pick ops (i::is)=o::pick ops is:=by simp only[pick,c]
  rw[p] at h
  have e:fuel+(i::is).length=(fuel+is.length)+1:=by simp only[List.length_cons];omega
  rw[e]
  have next:∀go v,eF P J ops F0 K (pick ops is) go (bq a o.dst v)->eu P J ops Q (Knows F0) (fuel+is.length) (L.setIfInBounds i true) (bq a o.dst v) F:=fun go v d=>
   zx l b fuel is _ go _ c4 d hK
  unfold eF at h
  split at h
  .rename_i hg
   exact yV i c g hg b (next true undef h)
  .rename_i hg
   split at h
   .rename_i t x k
    split at h
    case h_2=>exact h.elim
    rename_i ad q
    split at h
    case h_2=>exact h.elim
    rename_i v d
    refine mR i v c g hg (fun F R j f=>?_) b (next _ v h)
    unfold cV
    simp only[k,q,j.fC d]
    exact f
   .rename_i x args argTypes k
    split at h
    case h_2=>exact h.elim
    rename_i fn first captured r
    obtain ⟨s,v,u,h⟩:=h
    refine mR i v c g hg (fun F R j f=>?_) b (next _ v h)
    unfold cV
    simp only[k,r]
    exact ⟨s,(u F j).mono fun y F' w=>by obtain ⟨rfl,rfl⟩:=w;exact f⟩
   .split at h
    case h_2=>exact h.elim
    rename_i v d
    exact mR i v c g hg (fun F R j f=>qy d f) b (next _ v h)
  .exact h.elim
theorem zy:∀(b:List Nat) (L:Array Bool) (go:Bool) (a:Act) (F:af),oQ ops b L=true->eZ P J ops F0 Q (pick ops b) go a F->eu P J ops Q (Knows F0) b.length L a F
 |[],L,go,a,F,c,h=>by
  simp only[oQ,decide_eq_true_eq] at c
  unfold pick eZ at h
  exact yu c h _
 |j::b,L,go,a,F,c,h=>by
  simp only[oQ,Bool.and_eq_true,decide_eq_true_eq] at c
  obtain ⟨⟨c1,c3⟩,c4⟩:=c
  obtain ⟨o,d⟩:=Option.isSome_iff_exists.1 c3
  have e:pick ops (j::b)=o::pick ops b:=by simp only[pick,d]
  rw[e] at h
  unfold eZ at h
  split at h
  .rename_i hg
   refine yW j d c1 hg ?_
   refine lW.qB ?_ h
   rintro v F' ⟨f,g⟩
   exact ⟨f,zy b _ _ _ F' c4 g⟩
  .exact h.elim
theorem Dv {Q:Ex->Act->af->Prop}(hJ:Closed P main J)(e:P.follows .mixedOrders=true)(is b:List Nat){id:Nat}{a:Act}{F:af}(F0:af)(f:Knows F0 F)(d:zw ops is b=true)
  (h:eF P J ops F0 (fun c=>eZ P J ops F0 (Q .normal) (pick ops b) true c F) (pick ops is) true a):Wp J (.region id ops true) Q a F:=by
 simp only[zw,Bool.and_eq_true,decide_eq_true_eq] at d
 obtain ⟨⟨⟨g,i⟩,j⟩,l⟩:=d
 refine tj hJ (Knows F0) e ?_
 have:=zx (P:=P) (J:=J) (Q:=Q .normal) g f b.length is _ true a i h (fun c k=>zy b _ true c F j k)
 rwa [show b.length+is.length=ops.size by omega] at this
end
attribute [go_sem] pick
inductive jZ where
 |done
 |rd (i:Nat) (p:jZ)
 |one (i:Nat) (p:jZ)
 |two (i:Nat) (p:jZ) (j:Nat) (q:jZ)
inductive kR where
 |done
 |rd (o:Oper) (p:kR)
 |one (o:Oper) (p:kR)
 |two (o:Oper) (p:kR) (o':Oper) (q:kR)
 |bad
def jZ.opers (ops:Array Oper):jZ->kR
 | .done=>.done
 | .rd i p=>match ops[i]? with
  |some o=>.rd o (p.opers ops)
  |none=>.bad
 | .one i p=>match ops[i]? with
  |some o=>.one o (p.opers ops)
  |none=>.bad
 | .two i p j q=>match ops[i]?,ops[j]? with
  |some o,some o'=>.two o (p.opers ops) o' (q.opers ops)
  |_,_=>.bad
def jZ.len:jZ->Nat
 | .done=>0
 | .rd _ p=>p.len+1
 | .one _ p=>p.len+1
 | .two _ p _ q=>max p.len q.len+1
def ga (P:Program)(J:Goroutine->af->Prop)(ops:Array Oper)(F0:af)(Q:Act->af->Prop):kR->Bool->Act->af->Prop
 | .done,_,a,F=>Q a F
 | .bad,_,_,_=>False
 | .rd o p,_,a,F=>match cJ ops o a with
  |some false=>ga P J ops F0 Q p true (bq a o.dst undef) F
  |some true=>match o.op with
   | .load t x=>match ev a x with
    | .pointer (some ad)=>match fC P F0 t ad with
     |some v=>ga P J ops F0 Q p true (bq a o.dst v) F
     |none=>False
    |_=>False
   | .call {callee:=.value x,args, ..}=>match ev a x with
    | .func (.func fn) first captured=>aN P fn=true/\∃v,Plain P J F0 fn (first++args.map (ev a)++captured) v/\ga P J ops F0 Q p false (bq a o.dst v) F
    |_=>False
   |_=>match iW P o a with
    |some v=>ga P J ops F0 Q p true (bq a o.dst v) F
    |none=>False
  |none=>False
 | .one o p,_,a,F=>match cJ ops o a with
  |some true=>cV P J o (fun v F'=>Knows F0 F'/\ga P J ops F0 Q p (!Oper.calls o) (bq a o.dst v) F') a F
  |_=>False
 | .two o p o' q,_,a,F=>(match cJ ops o a with
  |some true=>cV P J o (fun v F'=>Knows F0 F'/\ga P J ops F0 Q p (!Oper.calls o) (bq a o.dst v) F') a F
  |_=>False)/\(match cJ ops o' a with
  |some true=>cV P J o' (fun v F'=>Knows F0 F'/\ga P J ops F0 Q q (!Oper.calls o') (bq a o'.dst v) F') a F
  |_=>False)
theorem Dw {P:Program}{J:Goroutine->af->Prop}{ops:Array Oper}{F0:af}{Q:Act->af->Prop}{go:Bool}{a:Act}{F:af}:ga P J ops F0 Q .done go a F=Q a F:=rfl
theorem Dx {P:Program}{J:Goroutine->af->Prop}{ops:Array Oper}{F0:af}{Q:Act->af->Prop}{o:Oper}{p:kR}{a:Act}{F:af}:ga P J ops F0 Q (.rd o p) true a F=match cJ ops o a with
  |some false=>ga P J ops F0 Q p true (bq a o.dst undef) F
  |some true=>match o.op with
   | .load t x=>match ev a x with
    | .pointer (some ad)=>match fC P F0 t ad with
     |some v=>ga P J ops F0 Q p true (bq a o.dst v) F
     |none=>False
    |_=>False
   | .call {callee:=.value x,args, ..}=>match ev a x with
    | .func (.func fn) first captured=>aN P fn=true/\∃v,Plain P J F0 fn (first++args.map (ev a)++captured) v/\ga P J ops F0 Q p false (bq a o.dst v) F
    |_=>False
   |_=>match iW P o a with
    |some v=>ga P J ops F0 Q p true (bq a o.dst v) F
    |none=>False
  |none=>False:=(Eq.refl _).trans (Eq.refl _)
theorem Dy {P:Program}{J:Goroutine->af->Prop}{ops:Array Oper}{F0:af}{Q:Act->af->Prop}{o:Oper}{p:kR}{a:Act}{F:af}:ga P J ops F0 Q (.one o p) true a F=match cJ ops o a with
  |some true=>cV P J o (fun v F'=>Knows F0 F'/\ga P J ops F0 Q p (!Oper.calls o) (bq a o.dst v) F') a F
  |_=>False:=(Eq.refl _).trans (Eq.refl _)
attribute [irreducible] ga
attribute [go_sem] Dw Dx Dy jZ.opers
theorem zz {F:af}{a:Addr}:∀(cs:List Value) (i:Nat),(∀j v,cs[j]?=some v->F.get (a.add (i+j))=some v)->F.dP a i cs.length=some cs
 |[],i,_=>rfl
 |v::cs,i,h=>by
  have b:=h 0 v rfl
  rw[Nat.add_zero] at b
  have ih:=zz cs (i+1) (fun j w hw=>by
   have:=h (j+1) w (by simpa using hw)
   rwa [show i+(j+1)=i+1+j by omega] at this)
  simp only[List.length_cons,af.dP,b,ih]
theorem zA {F:af}{a:Addr}:∀(m i k:Nat) (d c:List Value),F.dP a i m=some d->F.dP a (i+m) k=some c->F.dP a i (m+k)=some (d++c)
 |0,i,k,d,c,b,e=>by
  simp only[af.dP,Option.some.injEq] at b
  subst b
  rw[Nat.zero_add]
  simpa using e
 |m+1,i,k,d,c,b,e=>by
  unfold af.dP at b
  split at b
  case h_2=>cases b
  rename_i v f
  split at b
  case h_2=>cases b
  rename_i g h
  cases b
  have ih:=zA m (i+1) k g c h (by rwa [show i+1+m=i+(m+1) by omega])
  rw[show m+1+k=(m+k)+1 by omega]
  simp only[af.dP,f,ih,List.cons_append]
theorem aB.cells {T:Type}{r:cc T}{ro:Addr->Option Value}{ad:Option Addr}{c:Nat}{l:List T}(h:aB r ro (.slice ad l.length c) l)(F:af)(z:∀a v,ro a=some v->F.get a=some v):
  ∃b:List (List Value),b.length=l.length/\(∀x∈b,x.length=r.n/\∀v∈x,bN v=true)/\(∀(i:Nat) (x:T),l[i]?=some x->∃cs,b[i]?=some cs/\r.rel ro x cs)/\gm F r.n (.slice ad l.length c)=some b.flatten:=by
 obtain ⟨G,H,e,_,_,he⟩:=h
 cases e
 cases m:l with
 |nil=>subst m;refine ⟨[],rfl,av,av,?_⟩;cases ad<;>simp[gm,af.dP]
 |cons A l0=>
  obtain ⟨p,I,B,-,-⟩:=he 0 A (by rw[m];rfl)
  subst B
  rw[<-m]
  have key:∀k,k<=l.length->∃b:List (List Value),b.length=k/\(∀x∈b,x.length=r.n/\∀v∈x,bN v=true)/\(∀(i:Nat) (x:T),i<k->l[i]?=some x->∃cs,b[i]?=some cs/\r.rel ro x cs)/\F.dP p 0 (k*r.n)=some b.flatten:=by
   intro k
   induction k with
   |zero=>intro _;exact ⟨[],rfl,av,av,by simp[af.dP]⟩
   |succ k ih=>
    intro J
    obtain ⟨b,f,o,q,s⟩:=ih aa
    have d:l[k]?=some l[k]:=List.getElem?_eq_getElem aa
    obtain ⟨K,cs,C,t,hm⟩:=he k _ d
    cases C
    have w:=r.len t
    refine ⟨b++[cs],by simp[f],fun y D=>?_,fun i x L u=>?_,?_⟩
    .rcases List.mem_append.1 D with h|h
     .exact o y h
     .simp only[List.mem_singleton] at h;subst h;exact ⟨w,r.one t⟩
    .rcases Nat.lt_or_ge i k with h|h
     .obtain ⟨cs',a1,a2⟩:=q i x h u
      exact ⟨cs',by rw[List.getElem?_append_left aa];exact a1,a2⟩
     .have:i=k:=aa
      subst this
      rw[d] at u
      obtain rfl:=Option.some.inj u
      exact ⟨cs,by rw[List.getElem?_append_right aa];simp[f],t⟩
    .rw[Nat.succ_mul]
     have g:=zz (F:=F) (a:=p) cs (k*r.n) (fun j v E=>z _ _ (by have:=hm j v E;rwa [kJ] at this))
     rw[w] at g
     have:=zA (k*r.n) 0 r.n b.flatten cs s (by rw[Nat.zero_add];exact g)
     rw[this]
     simp
  obtain ⟨b,f,o,q,s⟩:=key l.length (Nat.le_refl _)
  exact ⟨b,f,o,fun i x d=>q i x (List.getElem?_eq_some_iff.1 d).1 d,s⟩
theorem aZ.empty {T:Type}{r:cc T}{ro:Addr->Option Value}{e:TypeId}{b:Nat}(a:∀off sp,ro ⟨b,off,sp⟩=none):aZ r ro e (.slice (some ⟨b,0,none⟩) 0 0) [] [(b,.cells #[] e)]:=
 ⟨[],.inr ⟨b,#[],0,rfl,rfl,av,Nat.le_refl _,av,av,a⟩,rfl,av,fun i x h=>by simp at h⟩
theorem zB {ro:Addr->Option Value}{x:Nat×Obj}{l:List (Nat×Obj)}:Le ⟨ro,l++[x]⟩ ⟨ro,x::l⟩:=by
 have d:∀b,b∈keys (l++[x])↔b∈keys (x::l):=fun b=>by
  simp only[keys,List.map_append,List.map_cons,List.map_nil,List.mem_append,List.mem_cons,List.not_mem_nil,or_false];exact Or.comm
 refine ⟨fun w hw=>⟨hw.ro,fun b o hb=>hw.own b o ?_,?_,fun a v h hm=>hw.apart a v h ((d _).1 hm)⟩,fun b hb=>(d b).1 hb,fun a c=>.inl c⟩
 .rcases List.mem_append.1 hb with h|h
  .exact List.mem_cons_of_mem _ h
  .simp only[List.mem_singleton] at h;rw[h];exact List.mem_cons_self
 .have:=hw.nodup;simp only[keys,List.map_cons,List.nodup_cons] at this;simp only[keys,List.map_append,List.map_cons,List.map_nil];rw[List.nodup_append];refine ⟨this.2,av,fun a c b hb e=>?_⟩;simp only[List.mem_singleton] at hb;subst hb;exact this.1 (e▸c)
theorem oR {P:Program}{T:Type}{r:cc T}{ro:Addr->Option Value}{rest:List (Nat×Obj)}{ks:List Nat}{R:Value->af->Prop}{argTypes:Array TypeId}{m o e y:TypeId}{f b c:Nat}{ad:Option Addr}{z:Value}{xs:List T}
  (A:∀off sp,ro ⟨b,off,sp⟩=none) (B:au rest b) (p:keys rest=ks) (hlen:xs.length<=1000000) (C:aB r ro (.slice ad xs.length c) xs)
  (D:argTypes[0]?=some m) (E:argTypes[1]?=some o) (he:c9 P m=some e) (F:c9 P o=some y) (hs:bZ P e=some r.n) (G:zeroOf P e=some z) (H:z.cells.size=r.n) (hb:bytesOf P e=some f)
  (I:0<f) (J:f<=10000)
  (q:∀v g,aZ r ro e v xs g->Apart ks g->R v ⟨ro,rest++g⟩):lT P argTypes (.slice (some ⟨b,0,none⟩) 0 0) (.slice ad xs.length c) R ⟨ro,(b,.cells #[] e)::rest⟩:=by
 intro ty
 obtain ⟨d,k1,K,L,M⟩:=C.cells ⟨ro,(b,.cells #[] e)::rest⟩ (fun a v h=>by simp[af.get,h])
 have s:∀x∈d,x.length=r.n:=fun x h=>(K x h).1
 have i:=ij s
 refine tN (old:=[]) D E he F hs G hb I J (by simpa using hlen) (by simp[gm,af.dP]) M (fun N=>?_) (fun N k t l u=>?_)
 .have O:xs.length=0:=aa
  have Q:xs=[]:=List.eq_nil_of_length_eq_zero O
  have S:d=[]:=List.eq_nil_of_length_eq_zero aa
  subst Q S
  refine .inl ⟨_,_,rfl,rfl,⟨ro,rest++[(b,.cells #[] e)]⟩,zB,q _ _ (aZ.empty A) fun k l=>?_⟩
  simp only[keys,List.map_cons,List.map_nil,List.mem_singleton] at l
  subst l
  rw[<-p]
  exact kL B
 .refine ⟨⟨ro,rest++[(t,.cells (([]:List Value).toArray++d.flatten.toArray++Builtin.zeroCells z.cells (k - (0+xs.length))) e)]⟩,zB.trans (Le.sub (.cons₂ _ (.cons _ (List.Sublist.refl _)))),q _ _ ?_ fun j w=>?_⟩
  .refine ⟨d,.inr ⟨t,_,k,by rw[k1,Nat.zero_add],rfl,?_,aa,?_,s,u.ro⟩,k1,hlen,L⟩
   .simp only[List.nil_append,Array.size_append,List.size_toArray,List.length_nil,Builtin.zeroCells,Array.size_map,Array.size_range,i,H,k1]
    rw[Nat.zero_add,<-Nat.add_mul]
    congr 1;omega
   .simp only[Array.toList_append,List.nil_append]
    rw[List.take_append_of_le_length (by simp[i])]
    rw[List.take_of_length_le (by simp[i])]
  .simp only[keys,List.map_cons,List.map_nil,List.mem_singleton] at w
   subst w
   rw[<-p]
   exact kL u.own.2
theorem qJ:∀{pre bw:List (Nat×Obj)} {b:Nat} {o:Obj},au pre b->lk (pre++((b,o)::bw)) b=some o
 |[],bw,b,o,_=>by simp[lk]
 |(c,x)::pre,bw,b,o,h=>by
  have a:¬c=b:=fun e=>h.1 e.symm
  simp[lk,a,qJ h.2]
theorem zC:∀{pre bw:List (Nat×Obj)} {b:Nat} {o x:Obj},au pre b->iQ (pre++((b,o)::bw)) b x=pre++((b,x)::bw)
 |[],bw,b,o,x,_=>by simp[iQ]
 |(c,y)::pre,bw,b,o,x,h=>by
  have a:¬c=b:=fun e=>h.1 e.symm
  simp[iQ,a,zC h.2]
theorem uq {ro:Addr->Option Value}{pre bw:List (Nat×Obj)}{b:Nat}{e:TypeId}(c:au pre b)(o:Nat):∀(a:List Value) (arr:Array Value) (i:Nat),(∀v∈a,bN v=true)->o+i+a.length<=arr.size->
  af.ju ⟨ro,pre++((b,.cells arr e)::bw)⟩ ⟨b,o,none⟩ i a=some ⟨ro,pre++((b,.cells (cU arr (o+i) a) e)::bw)⟩
 |[],arr,i,_,_=>rfl
 |v::a,arr,i,d,h=>by
  simp only[List.length_cons] at h
  have f:(⟨b,o,none⟩:Addr).add i=⟨b,o+i,none⟩:=by
   unfold Addr.add
   split
   .rename_i g;subst g;rfl
   .rfl
  unfold af.ju
  have:af.lG ⟨ro,pre++((b,.cells arr e)::bw)⟩ ((⟨b,o,none⟩:Addr).add i) v=some ⟨ro,pre++((b,.cells (arr.setIfInBounds (o+i) v) e)::bw)⟩:=by
   have j:o+i<arr.size:=aa
   simp[af.lG,f,qJ c,d v av,j,frozenAt,af.put,zC c]
  rw[this]
  simp only
  rw[uq c o a _ (i+1) (fun x k=>d x (by simp[k])) (by simp;omega)]
  rw[cU]
  congr 1
theorem zD {ro:Addr->Option Value}{pre bw:List (Nat×Obj)}{b:Nat}{e:TypeId}{arr:Array Value}(a:au pre b)(c:∀off sp,ro ⟨b,off,sp⟩=none):∀(n i:Nat),i+n<=arr.size->
  af.dP ⟨ro,pre++((b,.cells arr e)::bw)⟩ ⟨b,0,none⟩ i n=some ((arr.toList.drop i).take n)
 |0,i,_=>by simp[af.dP]
 |n+1,i,h=>by
  have f:(⟨b,0,none⟩:Addr).add i=⟨b,i,none⟩:=by
   unfold Addr.add
   split
   .rename_i g;subst g;rfl
   .simp
  have d:i<arr.size:=aa
  unfold af.dP
  have ih:=zD (e:=e) (arr:=arr) (bw:=bw) a c n (i+1) aa
  simp only[af.get,f,c,if_true,qJ a,Option.bind_some,cellOf,Array.getElem?_eq_getElem d,ih]
  have j:i<arr.toList.length:=by simpa using d
  rw[List.drop_eq_getElem_cons j,List.take_succ_cons]
  simp
theorem Gr.Dz {ro:Addr->Option Value}{e:TypeId}{size:Nat}{v:Value}{l:List (List Value)}{bh pre bw:List (Nat×Obj)}(h:Gr ro e size v l bh)(a:∀k∈keys bh,au pre k):
  Go.Sep.gm ⟨ro,pre++(bh++bw)⟩ size v=some l.flatten:=by
 rcases h with ⟨rfl,rfl,rfl⟩|⟨b,arr,cap,rfl,rfl,hs,c,ht,f,d⟩
 .rfl
 .simp only[Go.Sep.gm,List.cons_append,List.nil_append]
  have hle:l.length*size<=arr.size:=by rw[hs];exact Nat.mul_le_mul_right _ c
  rw[zD (a b (by simp[keys])) d _ _ aa]
  simp[ht]
theorem Le.ps {ro:Addr->Option Value}{l m l':List (Nat×Obj)}(e:l.Perm m)(hs:m.Sublist l'):Le ⟨ro,l⟩ ⟨ro,l'⟩:=by
 have c:(keys m).Sublist (keys l'):=hs.map _;have d:(keys l).Perm (keys m):=e.map _;exact ⟨fun w hw=>⟨hw.ro,fun b o hb=>hw.own b o (hs.subset (e.subset hb)),d.nodup_iff.2 (c.nodup hw.nodup),fun a v f hm=>hw.apart a v f (c.subset (d.subset hm))⟩,fun b hb=>c.subset (d.subset hb),fun a g=>.inl g⟩
structure aY (ks:List Nat):Prop where
 nd:ks.Nodup
abbrev Nd (l:List (Nat×Obj)):Prop:=(keys l).Nodup
theorem Nd.fresh {pre bh bw:List (Nat×Obj)}(h:Nd (pre++(bh++bw))):∀k∈keys bh,au pre k:=fun k a=>by
 refine lZ fun hm=>?_
 simp only[Nd,cE] at h
 exact (List.nodup_append.1 h).2.2 k hm k (List.mem_append_left _ a) rfl
theorem Nd.push {l:List (Nat×Obj)}{b:Nat}{o:Obj}(h:Nd l)(hb:au l b):Nd ((b,o)::l):=by
 simp only[Nd,keys,List.map_cons,List.nodup_cons];exact ⟨kL hb,h⟩
theorem Nd.drop {pre bh bw:List (Nat×Obj)}(h:Nd (pre++(bh++bw))):Nd (pre++bw):=
 ((List.Sublist.append_left (List.sublist_append_right bh bw) pre).map _).nodup h
theorem Nd.ins {pre bh bw:List (Nat×Obj)}{b:Nat}{o:Obj}(h:Nd (pre++(bh++bw)))(hb:au (pre++(bh++bw)) b):Nd (pre++([(b,o)]++bw)):=by
 have a:Nd ((b,o)::(pre++bw)):=h.drop.push (lZ fun hm=>kL hb (((List.Sublist.append_left (List.sublist_append_right bh bw) pre).map _).subset hm));have:(pre++([(b,o)]++bw)).Perm ((b,o)::(pre++bw)):=List.perm_middle;exact (this.map _).nodup_iff.2 a
section
variable {P:Program}
theorem zE {ro:Addr->Option Value}{pre bh bw:List (Nat×Obj)}{R:Value->af->Prop}{argTypes:Array TypeId}{ty B C e Q:TypeId}{size p n c:Nat}{D:Option Addr}{s z:Value}{l xs:List (List Value)}
  (E:argTypes[0]?=some B) (G:argTypes[1]?=some C) (he:c9 P B=some e) (d:c9 P C=some Q) (hs:bZ P e=some size) (H:zeroOf P e=some z) (S:z.cells.size=size) (hb:bytesOf P e=some p)
  (I:0<p) (J:p<=10000) (hg:Gr ro e size s l bh) (j:Nd (pre++(bh++bw))) (T:n=xs.length) (K:∀x∈xs,x.length=size/\∀v∈x,bN v=true) (L:gm ⟨ro,pre++(bh++bw)⟩ size (.slice D n c)=some xs.flatten)
  (M:l.length+xs.length<=1000000)
  (q:∀v r,Gr ro e size v (l++xs) r->Nd (pre++(r++bw))->∃F0,Le F0 ⟨ro,pre++(r++bw)⟩/\R v F0):
  bp P (Builtin.append_ argTypes ty #[s,.slice D n c]) (fun v F=>∃F0,Le F0 F/\R v F0) ⟨ro,pre++(bh++bw)⟩:=by
 subst T
 have N:=j.fresh
 have hold:=hg.Dz (bw:=bw) N
 have t:∀x∈xs,x.length=size:=fun x h=>(K x h).1
 have a:=ij t
 have out:∀(k b:Nat) (old:List Value),old=l.flatten->(∀x∈l,x.length=size)->l.length+xs.length<=k->ez ⟨ro,pre++(bh++bw)⟩ b->
   ∃F0,Le F0 (af.push ⟨ro,pre++(bh++bw)⟩ b (.cells (old.toArray++xs.flatten.toArray++Builtin.zeroCells z.cells (k - (l.length+xs.length))) e))/\R (.slice (some ⟨b,0,none⟩) (l.length+xs.length) k) F0:=by
  intro k b old U u i f
  subst U
  have w:=ij u
  have y:=q (.slice (some ⟨b,0,none⟩) (l.length+xs.length) k) [(b,.cells (l.flatten.toArray++xs.flatten.toArray++Builtin.zeroCells z.cells (k - (l.length+xs.length))) e)] (.inr ⟨b,_,k,av,rfl,?_,by simpa using i,?_,?_,f.ro⟩) (j.ins f.own)
  .obtain ⟨F0,hle,y⟩:=y
   refine ⟨F0,hle.trans ?_,y⟩
   exact Le.ps (m:=(b,.cells (l.flatten.toArray++xs.flatten.toArray++Builtin.zeroCells z.cells (k - (l.length+xs.length))) e)::(pre++bw)) List.perm_middle (.cons₂ _ (List.Sublist.append_left (List.sublist_append_right bh bw) pre))
  .simp only[Array.size_append,List.size_toArray,Builtin.zeroCells,Array.size_map,Array.size_range,w,a,S]
   rw[<-Nat.add_mul,<-Nat.add_mul]
   congr 1;omega
  .simp only[Array.toList_append,List.length_append,List.flatten_append]
   rw[List.take_append_of_le_length (by simp[w,a,Nat.add_mul])]
   rw[List.take_of_length_le (by simp[w,a,Nat.add_mul])]
  .intro x d
   rcases List.mem_append.1 d with h|h
   .exact u x h
   .exact t x h
 rcases id hg with ⟨rfl,rfl,rfl⟩|⟨b,arr,cap,rfl,rfl,A,u,ht,o,V⟩
 .refine tN E G he d hs H hb I J (by simpa using M) hold L (fun g=>.inr ⟨rfl,?_⟩) (fun g k b i f=>?_)
  .have:xs=[]:=List.eq_nil_of_length_eq_zero aa
   subst this
   exact q _ _ (.inl ⟨rfl,rfl,rfl⟩) j
  .have:=out k b [] rfl av (by simpa using i) f
   simpa using this
 .refine tN E G he d hs H hb I J M hold L (fun g=>.inl ⟨_,⟨ro,pre++([(b,.cells (cU arr (l.length*size) xs.flatten) e)]++bw)⟩,rfl,?_,?_⟩) (fun g k W i f=>out k W _ rfl o i f)
  .have X:(⟨b,0,none⟩:Addr).add (l.length*size)=⟨b,l.length*size,none⟩:=by
    unfold Addr.add
    split
    .rename_i Y;rw[Y]
    .simp
   rw[X]
   have O:l.length*size+xs.length*size<=arr.size:=by rw[A,<-Nat.add_mul];exact Nat.mul_le_mul_right _ g
   have:=uq (ro:=ro) (e:=e) (bw:=bw) (N b (by simp[keys])) (l.length*size) xs.flatten arr 0 (fun v Z=>by
    obtain ⟨x,ab,ad⟩:=List.mem_flatten.1 Z
    exact (K x ab).2 v ad) (by rw[a];omega)
   simpa using this
  .refine q _ _ (.inr ⟨b,_,cap,av,rfl,by rw[qs];exact A,by simpa using g,?_,?_,V⟩) (by simpa [Nd,keys] using j)
   .have O:l.length*size+xs.length*size<=arr.size:=by rw[A,<-Nat.add_mul];exact Nat.mul_le_mul_right _ g
    rw[qt _ _ _ (by rw[a];exact O),ht,List.length_append,List.flatten_append,a]
    rw[List.take_append_of_le_length (by simp[ij o,a,Nat.add_mul])]
    rw[List.take_of_length_le (by simp[ij o,a,Nat.add_mul])]
   .intro x d
    rcases List.mem_append.1 d with h|h
    .exact o x h
    .exact t x h
theorem zF:∀{pre own:List (Nat×Obj)} {b:Nat} {o:Obj},lk pre b=some o->lk (pre++own) b=some o
 |(c,x)::pre,own,b,o,h=>by
  simp only[List.cons_append,lk] at h ⊢
  split
  .rename_i a;rw[if_pos a] at h;exact h
  .rename_i a;rw[if_neg a] at h;exact zF h
theorem zG {ro:Addr->Option Value}{own:List (Nat×Obj)}{b:Nat}{cs:Array Value}{e:TypeId}(a:lk own b=some (.cells cs e))(c:∀off sp,ro ⟨b,off,sp⟩=none):∀n i,i+n<=cs.toList.length->af.dP ⟨ro,own⟩ ⟨b,0,none⟩ i n=some ((cs.toList.drop i).take n)
 |0,i,_=>by simp[af.dP]
 |n+1,i,d=>by
  have f:i<cs.toList.length:=aa
  unfold af.dP
  have g:(⟨b,0,none⟩:Addr).add i=⟨b,i,none⟩:=by
   unfold Addr.add
   split
   .rename_i d;subst d;rfl
   .simp
  have h:i<cs.size:=by simpa using f
  simp only[af.get,g,c,if_true,a,Option.bind_some,cellOf,Array.getElem?_eq_getElem h,zG a c n (i+1) aa]
  rw[List.drop_eq_getElem_cons f,List.take_succ_cons]
  simp
theorem aZ.more {T:Type}{r:cc T}{ro:Addr->Option Value}{e:TypeId}{l xs:List T}{ls ys:List (List Value)}{v:Value}{b:List (Nat×Obj)}(hg:Gr ro e r.n v (ls++ys) b)(c:ls.length=l.length)(d:ys.length=xs.length)
  (f:∀(i:Nat) (x:T),l[i]?=some x->∃cs:List Value,ls[i]?=some cs/\r.rel ro x cs) (g:∀(i:Nat) (x:T),xs[i]?=some x->∃cs:List Value,ys[i]?=some cs/\r.rel ro x cs) (j:l.length+xs.length<=1000000):aZ r ro e v (l++xs) b:=by
 refine ⟨_,hg,by simp[c,d],by simpa using j,fun i y a=>?_⟩
 rcases Nat.lt_or_ge i l.length with h|h
 .rw[List.getElem?_append_left h] at a
  rw[List.getElem?_append_left aa]
  exact f i y a
 .rw[List.getElem?_append_right h] at a
  rw[List.getElem?_append_right aa,c]
  exact g _ y a
theorem uu {T:Type}{r:cc T}{ro:Addr->Option Value}{bh:List (Nat×Obj)}{R:Value->af->Prop}{argTypes:Array TypeId}{h j e q e2:TypeId}{b c:Nat}{s z:Value}{l:List T}{x:T}{cs:Array Value}{own:List (Nat×Obj)}(pre bw:List (Nat×Obj))(t:own=pre++(bh++bw))
  (hg:aZ r ro e s l bh) (u:aY (keys own)) (k:l.length+[x].length<=1000000) (d:r.rel ro x cs.toList) (w:lk pre c=some (.cells cs e2)) (A:∀off sp,ro ⟨c,off,sp⟩=none)
  (B:argTypes[0]?=some h) (C:argTypes[1]?=some j) (he:c9 P h=some e) (D:c9 P j=some q) (hs:bZ P e=some r.n) (E:zeroOf P e=some z) (F:z.cells.size=r.n) (hb:bytesOf P e=some b)
  (G:0<b) (H:b<=10000)
  (I:∀v a,aZ r ro e v (l++[x]) a->∀f,f=pre++(a++bw)->aY (keys f)->∃F0,Le F0 ⟨ro,f⟩/\R v F0):lT P argTypes s (.slice (some ⟨c,0,none⟩) 1 1) R ⟨ro,own⟩:=by
 subst t
 obtain ⟨ls,J,o,hm,K⟩:=hg
 have L:=u.nd
 intro ty
 have hlen:cs.toList.length=r.n:=r.len d
 refine zE (xs:=[cs.toList]) (e:=e) (size:=r.n) (z:=z) (l:=ls) B C he D hs E F hb G H J L rfl (fun y p=>?_) ?_ (by simpa [o] using k) (fun v a M N=>I v a (aZ.more M o rfl K (fun i y g=>?_) k) _ rfl ⟨N⟩)
 .simp only[List.mem_singleton] at p;subst p;exact ⟨hlen,r.one d⟩
 .simp only[gm,Nat.one_mul]
  rw[zG (zF w) A _ _ aa]
  rw[List.drop_zero,List.take_of_length_le aa]
  simp
 .cases i with
  |zero=>simp at g;subst g;exact ⟨cs.toList,rfl,d⟩
  |succ m=>simp at g
theorem DC {T:Type}{r:cc T}{ro:Addr->Option Value}{bh:List (Nat×Obj)}{R:Value->af->Prop}{argTypes:Array TypeId}{g i e m:TypeId}{d c:Nat}{ad:Option Addr}{s z:Value}{l xs:List T}{own:List (Nat×Obj)}(pre bw:List (Nat×Obj))(o:own=pre++(bh++bw))
  (hg:aZ r ro e s l bh) (p:aY (keys own)) (j:l.length+xs.length<=1000000) (q:aB r ro (.slice ad xs.length c) xs)
  (t:argTypes[0]?=some g) (u:argTypes[1]?=some i) (he:c9 P g=some e) (w:c9 P i=some m) (hs:bZ P e=some r.n) (x:zeroOf P e=some z) (y:z.cells.size=r.n) (hb:bytesOf P e=some d)
  (A:0<d) (B:d<=10000)
  (C:∀v b,aZ r ro e v (l++xs) b->∀f,f=pre++(b++bw)->aY (keys f)->∃F0,Le F0 ⟨ro,f⟩/\R v F0):lT P argTypes s (.slice ad xs.length c) R ⟨ro,own⟩:=by
 subst o
 obtain ⟨ls,D,k,hm,E⟩:=hg
 have F:=p.nd
 intro ty
 obtain ⟨G,k1,H,I,J⟩:=q.cells ⟨ro,pre++(bh++bw)⟩ (fun a v h=>by simp[af.get,h])
 exact zE (xs:=G) (e:=e) (size:=r.n) (z:=z) (l:=ls) t u he w hs x y hb A B D F k1.symm H J (by rw[k,k1];exact j) (fun v b K L=>C v b (aZ.more K k k1 E I j) _ rfl ⟨L⟩)
theorem aZ.kS {T:Type}{r:cc T}{ro:Addr->Option Value}{e:TypeId}{v:Value}{l:List T}{bh:List (Nat×Obj)}(h:aZ r ro e v l bh){own:List (Nat×Obj)}(a pre bw:List (Nat×Obj))(f:own=pre++(bh++bw))(g:a=pre++bw)(i:aY (keys own))(j:aF ro a):
  ∃aT,Ext ro aT/\aF aT a/\aB r aT v l/\Le ⟨aT,a⟩ ⟨ro,own⟩:=by
 subst f g
 have c:Nd (pre++(bh++bw)):=i.nd
 have m:Apart (keys (pre++bw)) bh:=fun k d hm=>by
  simp only[Nd,cE] at c
  have b:=List.nodup_append.1 c
  simp only[cE,List.mem_append] at hm
  rcases hm with hm|hm
  .exact b.2.2 k hm k (List.mem_append_left _ d) rfl
  .exact (List.nodup_append.1 b.2.1).2.2 k d k hm rfl
 obtain ⟨aT,n,b,o,p⟩:=h.y8 (pre++bw) m rfl j
 refine ⟨aT,n,b,o,p.trans ?_⟩
 have q:((pre++bw)++bh).Perm (pre++(bh++bw)):=by
  rw[List.append_assoc]
  exact List.Perm.append_left pre List.perm_append_comm
 exact Le.ps q (List.Sublist.refl _)
theorem aZ.setAt {T:Type}{r:cc T}{ro:Addr->Option Value}{e:TypeId}{l:List T}{b n cap:Nat}{arr:Array Value}(h:aZ r ro e (.slice (some ⟨b,0,none⟩) n cap) l [(b,.cells arr e)]){i:Nat}{x y:T}(o:l[i]?=some x){cs:List Value}(m:r.rel ro y cs):
  aZ r ro e (.slice (some ⟨b,0,none⟩) n cap) (l.set i y) [(b,.cells (cU arr (i*r.n) cs) e)]:=by
 obtain ⟨ls,hg,p,hm,q⟩:=h
 have E:i<l.length:=(List.getElem?_eq_some_iff.1 o).1
 have a:=r.len m
 rcases hg with ⟨k,_,_⟩|⟨F,G,s,k,t,hs,hle,ht,c,u⟩
 .cases k
 .cases t
  obtain ⟨rfl,rfl⟩:n=ls.length/\cap=s:=by cases k;exact ⟨rfl,rfl⟩
  have v:i*r.n+cs.length<=arr.size:=by
   rw[hs,a,<-Nat.succ_mul]
   exact Nat.mul_le_mul_right _ aa
  refine ⟨ls.set i cs,.inr ⟨b,_,cap,av,rfl,by rw[qs];exact hs,by simpa using hle,?_,?_,u⟩,by simp[p],by simpa using hm,fun j z d=>?_⟩
  .rw[qt _ _ _ v]
   have H:=ij c
   have f:i<ls.length:=aa
   have e1:(ls.set i cs).flatten=(ls.take i).flatten++cs++(ls.drop (i+1)).flatten:=by
    rw[List.set_eq_take_append_cons_drop,if_pos f]
    simp
   have e2:ls.flatten=(ls.take i).flatten++(ls.drop i).flatten:=by rw[<-List.flatten_append,List.take_append_drop]
   have t1:((ls.take i).flatten).length=i*r.n:=by rw[ij (fun x h=>c x (List.mem_of_mem_take h)),List.length_take,Nat.min_eq_left aa]
   have w:(ls.drop i).flatten=ls[i]++(ls.drop (i+1)).flatten:=by rw[List.drop_eq_getElem_cons f,List.flatten_cons]
   have t2:ls[i].length=r.n:=c _ (List.getElem_mem f)
   have a1:arr.toList.take (i*r.n)=(ls.take i).flatten:=by
    have:=congrArg (List.take (i*r.n)) ht
    rw[List.take_take,Nat.min_eq_left (Nat.mul_le_mul_right _ aa),e2,List.take_append_of_le_length (Nat.le_of_eq t1.symm),List.take_of_length_le (Nat.le_of_eq t1)] at this
    exact this
   have a2:(arr.toList.take (ls.length*r.n)).drop (i*r.n+cs.length)=(ls.drop (i+1)).flatten:=by
    have t3:((ls.take i).flatten++ls[i]).length=i*r.n+cs.length:=by rw[List.length_append,t1,t2,a]
    rw[ht,e2,w,<-List.append_assoc,List.drop_append_of_le_length (Nat.le_of_eq t3.symm),List.drop_eq_nil_of_le (Nat.le_of_eq t3),List.nil_append]
   rw[a1,e1]
   simp only[List.length_set]
   have A:ls.length*r.n=(i*r.n+cs.length)+(ls.length*r.n - (i*r.n+cs.length)):=by
    have:i*r.n+cs.length<=ls.length*r.n:=by rw[a,<-Nat.succ_mul];exact Nat.mul_le_mul_right _ f
    omega
   rw[A,List.take_append]
   rw[List.take_of_length_le (by rw[List.length_append,t1];omega)]
   congr 1
   have:i*r.n+cs.length+(ls.length*r.n - (i*r.n+cs.length)) - ((ls.take i).flatten++cs).length=ls.length*r.n - (i*r.n+cs.length):=by simp only[List.length_append,t1];omega
   rw[this,<-a2,List.drop_take]
  .intro z B
   rcases List.mem_or_eq_of_mem_set B with h|h
   .exact c z h
   .rw[h];exact a
  .rcases Nat.decEq i j with g|g
   .rw[List.getElem?_set_ne g] at d
    obtain ⟨cs',C,D⟩:=q j z d
    exact ⟨cs',by rw[List.getElem?_set_ne g];exact C,D⟩
   .subst g
    rw[List.getElem?_set_self aa] at d
    obtain rfl:=Option.some.inj d
    exact ⟨cs,List.getElem?_set_self aa,m⟩
end
section
variable {P:Program}{main:Bool}{J:Goroutine->af->Prop}
theorem aE (hJ:Closed P main J){c:Code}{Q:Ex->Act->af->Prop}{a:Act}{F:af}(h:aY (keys F.own)->Wp J c Q a F):Wp J c Q a F:=by
 intro b k cs hb d;by_cases hw:∃w,Has F w
 .obtain ⟨w,hw⟩:=hw;exact h ⟨hw.nodup⟩ b k cs hb d
 .exact hJ.step fun w e=>absurd ⟨w,e⟩ hw
end
theorem aY.cons {l:List (Nat×Obj)}{b:Nat}(hb:au l b)(h:aY (keys l)):aY (b::keys l):=⟨List.nodup_cons.2 ⟨kL hb,h.nd⟩⟩
theorem aF.nil (ro:Addr->Option Value):aF ro []:=fun b h=>by cases h
theorem aF.cons {ro:Addr->Option Value}{b:Nat}{o:Obj}{l:List (Nat×Obj)}(hb:∀off sp,ro ⟨b,off,sp⟩=none)(h:aF ro l):aF ro ((b,o)::l):=fun c a=>by
 simp only[keys,List.map_cons,List.mem_cons] at a
 rcases a with rfl|a
 .exact hb
 .exact h c a
theorem aF.app {ro:Addr->Option Value}{l l':List (Nat×Obj)}(h:aF ro l)(b:aF ro l'):aF ro (l++l'):=fun c a=>by
 rw[cE] at a
 exact (List.mem_append.1 a).elim (h c) (b c)
theorem aF.hd {ro:Addr->Option Value}{b:Nat}{o:Obj}{l:List (Nat×Obj)}(h:aF ro ((b,o)::l)):∀off sp,ro ⟨b,off,sp⟩=none:=h b (by simp[keys])
theorem aF.tl {ro:Addr->Option Value}{x:Nat×Obj}{l:List (Nat×Obj)}(h:aF ro (x::l)):aF ro l:=fun c a=>h c (by simp only[keys,List.map_cons,List.mem_cons];exact .inr a)
theorem aF.l {ro:Addr->Option Value}{l l':List (Nat×Obj)}(h:aF ro (l++l')):aF ro l:=fun c a=>h c (by rw[cE];exact List.mem_append_left _ a)
theorem aF.r {ro:Addr->Option Value}{l l':List (Nat×Obj)}(h:aF ro (l++l')):aF ro l':=fun c a=>h c (by rw[cE];exact List.mem_append_right _ a)
theorem aZ.jx {T:Type}{r:cc T}{ro:Addr->Option Value}{e:TypeId}{v:Value}{l:List T}{bh:List (Nat×Obj)}(h:aZ r ro e v l bh):aF ro bh:=by
 obtain ⟨ls,hg,-⟩:=h;rcases hg with ⟨_,_,rfl⟩|⟨b,arr,cap,_,rfl,_,_,_,_,a⟩
 .exact aF.nil _
 .exact aF.cons a (aF.nil _)
theorem Le.back {ro:Addr->Option Value}{l l':List (Nat×Obj)}(A B O S:List (Nat×Obj))(a:l=A++(B++(O++S)))(b:l'=A++(O++(B++S))):Le ⟨ro,l⟩ ⟨ro,l'⟩:=by
 subst a b;refine Le.ps (m:=A++(O++(B++S))) (List.Perm.append_left A ?_) (List.Sublist.refl _);rw[<-List.append_assoc,<-List.append_assoc];exact List.Perm.append_right S List.perm_append_comm
section
variable {P:Program}{main:Bool}{J:Goroutine->af->Prop}
def qK (J:Goroutine->af->Prop)(jy:Frame)(F:af)(R:Value->af->Prop):Prop:=
 ∀(c:Frame) (cs:List Frame),(∀v F',R v F'->J (G (c.finish v) cs) F')->J (G jy (c::cs)) F
theorem zH (hJ:Closed P main J){jy:Frame}{ro:Addr->Option Value}{bh:List (Nat×Obj)}{K:Value->af->Prop}{own:List (Nat×Obj)}(pre bw:List (Nat×Obj))(q:own=pre++(bh++bw))(R:Value->List (Nat×Obj)->Prop)(h:∀(main:Bool) (J:Goroutine->af->Prop),Closed P main J->qK J jy ⟨ro,bh⟩ (fun v G=>∃d,R v d/\Le ⟨ro,d⟩ G))
  (M:∀v d,R v d->∀r,r=pre++(d++bw)->aY (keys r)->∃F0,Le F0 ⟨ro,r⟩/\K v F0):qK J jy ⟨ro,own⟩ K:=by
 subst q
 intro c cs hK
 by_cases hw:∃w,Has ⟨ro,pre++(bh++bw)⟩ w
 .obtain ⟨s,k⟩:=hw
  let F:af:=⟨fun _=>none,pre++bw⟩
  have t:(pre++bw).Sublist (pre++(bh++bw)):=List.Sublist.append_left (List.sublist_append_right bh bw) pre
  have u:bh.Sublist (pre++(bh++bw)):=(List.sublist_append_left bh bw).trans (List.sublist_append_right pre _)
  have B:∀w,Has ⟨ro,pre++(bh++bw)⟩ w->Has F w:=fun w hw=>⟨fun a v h=>(by cases h),fun b o hb=>hw.own b o (t.subset hb),(t.map _).nodup hw.nodup,fun a v h=>(by cases h)⟩
  have C:∀w,Has ⟨ro,pre++(bh++bw)⟩ w->Has ⟨ro,bh⟩ w:=fun w hw=>⟨hw.ro,fun b o hb=>hw.own b o (u.subset hb),(u.map _).nodup hw.nodup,fun a v i hm=>hw.apart a v i ((u.map _).subset hm)⟩
  have hd:∀b,b∈keys bh->b∉keys (pre++bw):=fun b hb hm=>by
   have l:=k.nodup
   simp only[cE] at l
   have D:=List.nodup_append.1 l
   simp only[cE,List.mem_append] at hm
   rcases hm with hm|hm
   .exact D.2.2 b hm b (List.mem_append_left _ hb) rfl
   .exact (List.nodup_append.1 D.2.1).2.2 b hb b hm rfl
  have E:Fits F ⟨ro,bh⟩:=⟨⟨s,C s k,B s k⟩,hd,fun a f hm=>(by cases f)⟩
  have N:lX F ⟨ro,bh⟩:=fun a f hm=>by
   obtain ⟨v,O⟩:=Option.isSome_iff_exists.1 f
   exact k.apart a v O ((t.map _).subset hm)
  have q:tV J F (G jy (c::cs)) ⟨ro,bh⟩:=by
   refine h main _ (y6 hJ F) c cs fun v H A m l=>?_
   obtain ⟨d,A,hle⟩:=A
   have I:Le ⟨ro,pre++(d++bw)⟩ (H.star F):=by
    refine ⟨fun w hw=>?_,fun b hb=>?_,fun a f=>?_⟩
    .have n:=hle.has w (m.right hw)
     have g:=m.left hw
     have Q:∀b,b∈keys d->b∉keys (pre++bw):=fun b hb=>m.own b (hle.own b hb)
     have j:(pre++(d++bw)).Perm (d++(pre++bw)):=by
      rw[<-List.append_assoc,<-List.append_assoc]
      exact List.Perm.append_right bw List.perm_append_comm
     refine ⟨n.ro,fun b o hb=>?_,?_,fun a v i hm=>?_⟩
     .rcases List.mem_append.1 (j.subset hb) with x|x
      .exact n.own b o x
      .exact g.own b o x
     .refine (j.map _).nodup_iff.2 ?_
      rw[List.map_append]
      exact List.nodup_append.2 ⟨n.nodup,g.nodup,fun a f b hb e=>Q a f (e▸hb)⟩
     .have L:=(j.map (·.1)).subset hm
      rw[List.map_append] at L
      rcases List.mem_append.1 L with x|x
      .exact n.apart a v i x
      .rcases hle.ro a (by simp only at i;simp[i]) with y|y
       .exact l a y x
       .exact m.own _ y x
    .simp only[af.star,cE,List.mem_append] at hb ⊢
     rcases hb with x|x|x
     .exact .inr (show b∈keys (pre++bw) by rw[cE];exact List.mem_append_left _ x)
     .exact .inl (hle.own b x)
     .exact .inr (show b∈keys (pre++bw) by rw[cE];exact List.mem_append_right _ x)
    .rcases hle.ro a f with x|x
     .exact (gG (.inr x)).imp id (fun z=>by simp only[af.star,cE,List.mem_append];exact .inr z)
     .exact .inr (by simp only[af.star,cE,List.mem_append];exact .inl x)
   have S:∃fr cs',G (c.finish v) cs=G fr cs':=⟨_,_,rfl⟩
   obtain ⟨fr,cs',T⟩:=S
   by_cases p:∃w,Has (H.star F) w
   .obtain ⟨w1,p⟩:=p
    obtain ⟨F0,U,V⟩:=M v d A _ rfl ⟨(I.has w1 p).nodup⟩
    exact hJ.mono (U.trans I) (hK v F0 V)
   .rw[T]
    exact hJ.step fun w g=>absurd ⟨w,g⟩ p
  refine hJ.mono ⟨fun w hw=>E.both (C w hw) (B w hw),fun b hb=>?_,fun a f=>?_⟩ (q E N)
  .have j:(bh++(pre++bw)).Perm (pre++(bh++bw)):=by
    rw[<-List.append_assoc,<-List.append_assoc]
    exact List.Perm.append_right bw List.perm_append_comm
   exact (j.map _).subset hb
  .rcases jS f with x|x
   .cases x
   .exact .inl x
 .exact hJ.step fun w g=>absurd ⟨w,g⟩ hw
theorem DD (hJ:Closed P main J){f:FuncId}{args:Array Value}{ro:Addr->Option Value}{bh:List (Nat×Obj)}{K:Value->af->Prop}{own:List (Nat×Obj)}(pre bw:List (Nat×Obj))(c:own=pre++(bh++bw))(R:Value->List (Nat×Obj)->Prop)(h:aA P f args ⟨ro,bh⟩ (fun v G=>∃a,R v a/\Le ⟨ro,a⟩ G))
  (d:∀v a,R v a->∀b,b=pre++(a++bw)->aY (keys b)->∃F0,Le F0 ⟨ro,b⟩/\K v F0):c8 P J f args ⟨ro,own⟩ K:=
 zH hJ (jy:=Frame.enter P f args .normal) pre bw c R h d
end
attribute [go_sem] Array.size_setIfInBounds
theorem aB.op {T:Type}{r:cc T}{ro:Addr->Option Value}{ad:Option Addr}{n cap:Nat}{l:List T}(h:aB r ro (.slice ad n cap) l):
  l.length<=cap/\l.length<=1000000000000000/\∀i x,l[i]?=some x->∃p cs,ad=some p/\r.rel ro x cs/\∀j v,cs[j]?=some v->ro ((p.add (i*r.n)).add j)=some v:=by
 obtain ⟨d,f,e,a,b,c⟩:=h
 cases e
 exact ⟨a,b,c⟩
theorem aY.sub {l l':List (Nat×Obj)}(A O S:List (Nat×Obj))(a:l=A++S)(b:l'=A++(O++S))(h:aY (keys l')):aY (keys l):=by
 subst a b;exact
 ⟨((List.Sublist.append_left (List.sublist_append_right O S) A).map _).nodup h.nd⟩
theorem aY.back {l l':List (Nat×Obj)}(A B O S:List (Nat×Obj))(a:l=A++(B++(O++S)))(b:l'=A++(O++(B++S)))(h:aY (keys l')):aY (keys l):=by
 subst a b;refine ⟨(List.Perm.map _ (List.Perm.append_left A ?_)).nodup_iff.2 h.nd⟩;rw[<-List.append_assoc,<-List.append_assoc];exact List.Perm.append_right S List.perm_append_comm
theorem e4 {ro:Addr->Option Value}{b:Nat}{o:Obj}(pre bw:List (Nat×Obj))(f:aY (keys (pre++((b,o)::bw))))(_hr:∀off sp,ro ⟨b,off,sp⟩=none)(g:aF ro (pre++bw)):
  Ext ro (bR ro b o)/\aF (bR ro b o) (pre++bw)/\Le ⟨bR ro b o,pre++bw⟩ ⟨ro,pre++((b,o)::bw)⟩:=by
 have a:(pre++((b,o)::bw)).Perm ((b,o)::(pre++bw)):=List.perm_middle
 have h:Nd ((b,o)::(pre++bw)):=(a.map _).nodup_iff.1 f.nd
 have hb:b∉keys (pre++bw):=(List.nodup_cons.1 h).1
 refine ⟨gr _ _ _,fun c d off sp=>?_,?_⟩
 .have i:¬c=b:=fun e=>hb (e▸d)
  simp[bR,g c d,i]
 .have j:Le ⟨bR ro b o,pre++bw⟩ ⟨ro,(b,o)::(pre++bw)⟩:=jX (by simp[lk]) (.cons _ (List.Sublist.refl _)) (lZ hb)
  exact j.trans (Le.ps a.symm (List.Sublist.refl _))
section
variable {P:Program}{main:Bool}{J:Goroutine->af->Prop}
theorem fF (hJ:Closed P main J){c:Code}{Q:Ex->Act->af->Prop}{a:Act}{F:af}(h:aY (keys F.own)->aF F.ro F.own->Wp J c Q a F):Wp J c Q a F:=by
 intro b k cs hb d;by_cases hw:∃w,Has F w
 .obtain ⟨w,hw⟩:=hw;refine h ⟨hw.nodup⟩ (fun b hb off sp=>?_) b k cs hb d;cases e:F.ro ⟨b,off,sp⟩ with
  |none=>rfl
  |some v=>exact absurd hb (hw.apart _ v e)
 .exact hJ.step fun w f=>absurd ⟨w,f⟩ hw
end
theorem uv:∀(a:List Value) (arr:Array Value) (k:Nat),k+a.length<=arr.size->∀q,(cU arr k a)[q]?=if k<=q/\q<k+a.length then a[q - k]? else arr[q]?
 |[],arr,k,h,q=>by
  have:¬(k<=q/\q<k+([]:List Value).length):=av
  rw[if_neg this];rfl
 |v::a,arr,k,h,q=>by
  simp only[List.length_cons] at h
  rw[cU,uv a _ (k+1) (by simp;omega)]
  simp only[List.length_cons]
  by_cases b:k=q
  .subst b
   rw[if_neg aa,if_pos aa,Array.getElem?_setIfInBounds_self_of_lt aa]
   simp
  .by_cases c:k+1<=q/\q<k+1+a.length
   .rw[if_pos c,if_pos aa]
    rw[show q - k=(q - (k+1))+1 by omega]
    simp
   .rw[if_neg c,if_neg aa,Array.getElem?_setIfInBounds_ne b]
theorem aZ.part {T:Type}{r:cc T}{ro:Addr->Option Value}{e:TypeId}{l:List T}{b n cap:Nat}{arr:Array Value}(h:aZ r ro e (.slice (some ⟨b,0,none⟩) n cap) l [(b,.cells arr e)]){i:Nat}{x y:T}(t:l[i]?=some x)(o:Nat)(a cs cs':List Value)
  (hm:∀j v,cs[j]?=some v->arr[i*r.n+j]?=some v) (hlen:cs.length=r.n) (g:cs'=cs.take o++a++cs.drop (o+a.length)) (A:o+a.length<=cs.length) (k:r.rel ro y cs'):
  aZ r ro e (.slice (some ⟨b,0,none⟩) n cap) (l.set i y) [(b,.cells (cU arr (i*r.n+o) a) e)]:=by
 have m:=h.setAt t k
 have d:=r.len k
 have u:i*r.n+r.n<=arr.size:=by
  rcases Nat.eq_zero_or_pos r.n with w|B
  .rw[w];omega
  .have c:r.n - 1<cs.length:=aa
   have:=hm (r.n - 1) cs[r.n - 1] (List.getElem?_eq_getElem c)
   have:=(Array.getElem?_eq_some_iff.1 this).1
   omega
 have e1:cU arr (i*r.n) cs'=cU arr (i*r.n+o) a:=by
  apply Array.ext_getElem?
  intro q
  rw[uv cs' arr _ (by rw[d];exact u),uv a arr _ aa]
  by_cases p:i*r.n+o<=q/\q<i*r.n+o+a.length
  .rw[if_pos p,if_pos (by rw[d];omega),g]
   rw[List.append_assoc,List.getElem?_append_right (by simp;omega),List.getElem?_append_left (by simp;omega)]
   congr 1
   simp;omega
  .rw[if_neg p]
   by_cases f:i*r.n<=q/\q<i*r.n+cs'.length
   .rw[if_pos f]
    rw[d] at f
    have z:arr[q]?=cs[q - i*r.n]?:=by
     have c:q - i*r.n<cs.length:=aa
     have:=hm (q - i*r.n) _ (List.getElem?_eq_getElem c)
     rw[show i*r.n+(q - i*r.n)=q by omega] at this
     rw[this,List.getElem?_eq_getElem c]
    rw[z,g]
    rcases Nat.lt_or_ge (q - i*r.n) o with s|s
    .rw[List.append_assoc,List.getElem?_append_left (by simp;omega),List.getElem?_take_of_lt s]
    .have C:o+a.length<=q - i*r.n:=aa
     rw[List.getElem?_append_right (by simp;omega),List.getElem?_drop]
     congr 1
     simp;omega
   .rw[if_neg f]
 rw[e1] at m
 exact m
theorem aZ.elemAt {T:Type}{r:cc T}{ro:Addr->Option Value}{e:TypeId}{b n cap:Nat}{l:List T}{bh:List (Nat×Obj)}(h:aZ r ro e (.slice (some ⟨b,0,none⟩) n cap) l bh){i:Nat}{x:T}(a:l[i]?=some x):
  ∃arr cs,bh=[(b,.cells arr e)]/\(∀off sp,ro ⟨b,off,sp⟩=none)/\r.rel ro x cs/\∀j v,cs[j]?=some v->arr[i*r.n+j]?=some v:=by
 obtain ⟨k,arr,m,cs,c,d,f,g,hm⟩:=h.elem a
 cases c
 exact ⟨arr,cs,d,f,g,hm⟩
theorem aZ.zI {T:Type}{r:cc T}{ro:Addr->Option Value}{e:TypeId}{ad:Option Addr}{n cap:Nat}{l:List T}{bh:List (Nat×Obj)}(h:aZ r ro e (.slice ad n cap) l bh){i:Nat}{x:T}(a:l[i]?=some x):
  ∃b arr cs,ad=some ⟨b,0,none⟩/\bh=[(b,.cells arr e)]/\(∀off sp,ro ⟨b,off,sp⟩=none)/\r.rel ro x cs/\∀j v,cs[j]?=some v->arr[i*r.n+j]?=some v:=by
 obtain ⟨c,arr,o,cs,d,f,g,k,hm⟩:=h.elem a
 injection d with m p q
 exact ⟨c,arr,cs,m,f,g,k,hm⟩
theorem aZ.iX {T:Type}{r:cc T}{ro:Addr->Option Value}{e:TypeId}{b n cap:Nat}{l:List T}{arr:Array Value}(h:aZ r ro e (.slice (some ⟨b,0,none⟩) n cap) l [(b,.cells arr e)]){i:Nat}{x:T}(c:l[i]?=some x):
  ∃cs,r.rel ro x cs/\∀j v,cs[j]?=some v->arr[i*r.n+j]?=some v:=by
 obtain ⟨f,cs,a,g,d,hm⟩:=h.elemAt c
 simp only[List.cons.injEq,Prod.mk.injEq,Obj.cells.injEq,true_and,and_true] at a
 subst a
 exact ⟨cs,d,hm⟩
theorem aZ.qL {T:Type}{r:cc T}{ro:Addr->Option Value}{e:TypeId}{l:List T}{b n cap:Nat}{arr:Array Value}(h:aZ r ro e (.slice (some ⟨b,0,none⟩) n cap) l [(b,.cells arr e)]){i:Nat}{y:T}(a:i<l.length){cs:List Value}(c:r.rel ro y cs):
  aZ r ro e (.slice (some ⟨b,0,none⟩) n cap) (l.set i y) [(b,.cells (cU arr (i*r.n) cs) e)]:=h.setAt (List.getElem?_eq_getElem a) c
theorem aZ.iy {T:Type}{r:cc T}{ro:Addr->Option Value}{e:TypeId}{ad:Option Addr}{n cap:Nat}{l:List T}{bh:List (Nat×Obj)}(h:aZ r ro e (.slice ad n cap) l bh)(a:l.isEmpty=false):
  ∃b arr,ad=some ⟨b,0,none⟩/\bh=[(b,.cells arr e)]/\(∀off sp,ro ⟨b,off,sp⟩=none):=by
 cases l with
 |nil=>cases a
 |cons x l=>
  obtain ⟨b,arr,cs,c,d,f,_⟩:=h.zI (i:=0) rfl
  exact ⟨b,arr,c,d,f⟩
theorem aZ.gL {T:Type}{r:cc T}{ro:Addr->Option Value}{e:TypeId}{b n cap:Nat}{l:List T}{bh:List (Nat×Obj)}(h:aZ r ro e (.slice (some ⟨b,0,none⟩) n cap) l bh):∃arr,bh=[(b,.cells arr e)]:=by
 obtain ⟨ls,hg,-⟩:=h;rcases hg with ⟨a,_,_⟩|⟨d,arr,f,a,c,_⟩
 .cases a
 .cases a;exact ⟨arr,c⟩
theorem aZ.count {T:Type}{r:cc T}{ro:Addr->Option Value}{e:TypeId}{ad:Option Addr}{n cap:Nat}{l:List T}{bh:List (Nat×Obj)}(h:aZ r ro e (.slice ad n cap) l bh):l.length=n:=by
 obtain ⟨b,c,a,_⟩:=h.len;cases a;rfl
def oS (ops:Array Oper)(cj:List Nat)(i:Nat):Bool:=cj.all fun j=>match ops[j]? with
 |some o=>o.after.any fun e=>Region.binds .any e&&e.on==i
 |none=>true
section
variable {P:Program}{main:Bool}{J:Goroutine->af->Prop}{ops:Array Oper}{Q:Act->af->Prop}{S:af->Prop}{cj:List Nat}
def eE (P:Program)(J:Goroutine->af->Prop)(ops:Array Oper)(Q:Act->af->Prop)(S:af->Prop)(cj:List Nat):Nat->Array Bool->Act->af->Prop
 |0,listed,a,F=>Region.ready .any ops listed=[]/\Q a F
 |fuel+1,listed,a,F=>(Region.ready .any ops listed=[]->Q a F)/\
  ∀i∈Region.ready .any ops listed,ef P J ops i (fun b F'=>(¬i∈cj->S F->S F')/\eE P J ops Q S cj fuel (listed.setIfInBounds i true) b F') a F
theorem DF:∀(fuel t:Nat) (listed:Array Bool) (a:Act) (F:af),eE P J ops Q S cj fuel listed a F->
  fY P J ops Q (Region.linearise.go .any ops fuel t listed []) a F:=by
 intro fuel
 induction fuel with
 |zero=>intro t listed a F h;simpa [Region.linearise.go,fY] using h.2
 |succ fuel ih=>
  intro t listed a F h
  obtain ⟨c,d⟩:=h
  simp only[Region.linearise.go]
  change fY P J ops Q (match (Region.ready .any ops listed)[t % (Region.ready .any ops listed).length]? with
   |some i=>Region.linearise.go .any ops fuel (t/(Region.ready .any ops listed).length) (listed.setIfInBounds i true) [i]
   |none=>[].reverse) a F
  cases b:(Region.ready .any ops listed)[t % (Region.ready .any ops listed).length]? with
  |none=>
   have e:Region.ready .any ops listed=[]:=by
    cases f:Region.ready .any ops listed with
    |nil=>rfl
    |cons x xs=>
     rw[f] at b
     have g:t % (x::xs).length<(x::xs).length:=Nat.mod_lt _ av
     simp at b
     simp at g
     omega
   simpa [fY] using c e
  |some i=>
   simp only[]
   rw[linearise_go_acc,List.reverse_singleton,List.singleton_append]
   exact ot (fun a F h=>ih _ _ a F h.2) (d i (List.mem_of_getElem? b))
theorem DG {i:Nat}{l:Oper}{v:Value}(t:ops[i]?=some l)(m:oS ops cj i=true)(y:∀(j:Nat) (o:Oper) cs b,ops[j]?=some o->o.op≠ .select cs b):
  ∀(fuel:Nat) (listed:Array Bool) (a:Act) (F:af),
   (∀j f,ops[j]?=some f->j≠i->listed.getD j true=false->(∀e∈f.after,Region.binds .any e=true->e.on≠i)->l.apart ops f=true)->
   i∈Region.ready .any ops listed->fP P J ops S l v a->S F->
   eE P J ops Q S cj fuel (listed.setIfInBounds i true) (a.put l.dst v) F->eE P J ops Q S cj (fuel+1) listed a F:=by
 intro fuel
 induction fuel with
 |zero=>
  intro listed a F _ g n p H
  refine ⟨fun h=>(by rw[h] at g;cases g),fun j q=>?_⟩
  by_cases d:j=i
  .subst d;exact n.mN t p ⟨fun _ h=>h,H⟩
  .have:=ready_mono q d
   rw[H.1] at this
   cases this
 |succ fuel ih=>
  intro listed a F z g n p H
  refine ⟨fun h=>(by rw[h] at g;cases g),fun j q=>?_⟩
  by_cases d:j=i
  .subst d;exact n.mN t p ⟨fun _ h=>h,H⟩
  .have c:=H.2 j (ready_mono q d)
   obtain ⟨A,f,r,G⟩:=mem_ready.1 q
   have B:∀e∈f.after,Region.binds .any e=true->e.on≠i:=fun e he hb heq=>by
    have c:=G e he hb
    have C:=(mem_ready.1 g).1
    rw[heq] at c
    rcases Nat.lt_or_ge i listed.size with u|u
    .simp[u] at C c;rw[C] at c;cases c
    .simp[Array.getElem?_eq_none u] at c
   have I:¬j∈cj:=fun e=>by
    have m:=List.all_eq_true.1 m j e
    simp only[r,Array.any_eq_true,Bool.and_eq_true,beq_iff_eq] at m
    obtain ⟨x,K,c,w⟩:=m
    exact B _ (Array.getElem_mem K) c w
   have w:=td r (z j f r d A B) (fun cs b=>y i l cs b t) (fun cs b=>y j f cs b r) n c
   have L:∀k ok,ops[k]?=some ok->k≠i->(listed.setIfInBounds j true).getD k true=false->
     (∀e∈ok.after,Region.binds .any e=true->e.on≠i)->l.apart ops ok=true:=fun k ok M N D O=>by
    refine z k ok M N ?_ O
    by_cases E:j=k
    .subst E;exact A
    .rw[getD_set_ne true E] at D;exact D
   refine ot (fun R F' s=>⟨s.2.1,ih (listed.setIfInBounds j true) R F' L (ready_mono g (Ne.symm d)) s.1 (s.2.1 I p) ?_⟩) w
   rw[Array.setIfInBounds_comm _ _ d]
   exact s.2.2
theorem DH {i:Nat}{l:Oper}{v:Value}(p:ops[i]?=some l)(t:∀(j:Nat) (o:Oper) cs b,ops[j]?=some o->o.op≠ .select cs b):
  ∀(fuel:Nat) (listed:Array Bool) (a:Act) (F:af),
   (∀j d,ops[j]?=some d->j≠i->listed.getD j true=false->(∀e∈d.after,Region.binds .any e=true->e.on≠i)->l.apart ops d=true)->
   i∈Region.ready .any ops listed->fP P J ops (fun _=>True) l v a->
   eE P J ops Q S cj fuel (listed.setIfInBounds i true) (a.put l.dst v) F->eE P J ops Q S cj (fuel+1) listed a F:=by
 intro fuel
 induction fuel with
 |zero=>
  intro listed a F _ f m H
  refine ⟨fun h=>(by rw[h] at f;cases f),fun j n=>?_⟩
  by_cases c:j=i
  .subst c;exact m.mN p trivial ⟨fun _ h=>h,H⟩
  .have:=ready_mono n c
   rw[H.1] at this
   cases this
 |succ fuel ih=>
  intro listed a F u f m H
  refine ⟨fun h=>(by rw[h] at f;cases f),fun j n=>?_⟩
  by_cases c:j=i
  .subst c;exact m.mN p trivial ⟨fun _ h=>h,H⟩
  .have g:=H.2 j (ready_mono n c)
   obtain ⟨w,d,q,A⟩:=mem_ready.1 n
   have B:∀e∈d.after,Region.binds .any e=true->e.on≠i:=fun e he hb heq=>by
    have g:=A e he hb
    have x:=(mem_ready.1 f).1
    rw[heq] at g
    rcases Nat.lt_or_ge i listed.size with r|r
    .simp[r] at x g;rw[x] at g;cases g
    .simp[Array.getElem?_eq_none r] at g
   have C:=td q (u j d q c w B) (fun cs b=>t i l cs b p) (fun cs b=>t j d cs b q) m g
   have D:∀k ok,ops[k]?=some ok->k≠i->(listed.setIfInBounds j true).getD k true=false->
     (∀e∈ok.after,Region.binds .any e=true->e.on≠i)->l.apart ops ok=true:=fun k ok E G y I=>by
    refine u k ok E G ?_ I
    by_cases z:j=k
    .subst z;exact w
    .rw[getD_set_ne true z] at y;exact y
   refine ot (fun K F' s=>⟨s.2.1,ih (listed.setIfInBounds j true) K F' D (ready_mono f (Ne.symm c)) s.1 ?_⟩) C
   rw[Array.setIfInBounds_comm _ _ c]
   exact s.2.2
theorem zJ (i:Nat){c:Oper}(v:Value){fuel:Nat}{listed:Array Bool}{a:Act}{F:af}(d:ops[i]?=some c)
  (b:(Region.noSelect ops&&Region.free .any ops listed i&&(Region.ready .any ops listed).contains i)=true)
  (e:oS ops cj i=true) (f:fP P J ops S c v a) (g:S F)
  (h:eE P J ops Q S cj fuel (listed.setIfInBounds i true) (a.put c.dst v) F):eE P J ops Q S cj (fuel+1) listed a F:=by
 simp only[Bool.and_eq_true] at b
 exact DG d e (Region.noSelect_spec b.1.1) fuel listed a F (Region.free_spec d b.1.2) (by simpa using b.2) f g h
theorem uw {rs:List Nat}{fuel:Nat}{listed:Array Bool}{a:Act}{F:af}(b:Region.ready .any ops listed=rs)(c:rs≠[])
  (h:∀i∈rs,ef P J ops i (fun d F'=>(¬i∈cj->S F->S F')/\eE P J ops Q S cj fuel (listed.setIfInBounds i true) d F') a F):eE P J ops Q S cj (fuel+1) listed a F:=
 ⟨fun e=>absurd (b▸e) c,b▸h⟩
theorem zK (i:Nat){fuel:Nat}{listed:Array Bool}{a:Act}{F:af}(b:Region.ready .any ops listed=[i])
  (h:ef P J ops i (fun c F'=>(¬i∈cj->S F->S F')/\eE P J ops Q S cj fuel (listed.setIfInBounds i true) c F') a F):eE P J ops Q S cj (fuel+1) listed a F:=
 uw b av (by simpa using h)
theorem zL {listed:Array Bool}{a:Act}{F:af}(b:Region.ready .any ops listed=[])(h:Q a F):∀fuel,eE P J ops Q S cj fuel listed a F
 |0=>⟨b,h⟩
 |_+1=>⟨fun _=>h,by rw[b];simp⟩
end
theorem uy {P:Program}{J:Goroutine->af->Prop}{ops:Array Oper}{Q:Act->af->Prop}{S:af->Prop}{cj:List Nat}(i:Nat){b:Oper}(v:Value){fuel:Nat}{listed:Array Bool}{a:Act}{F:af}(d:ops[i]?=some b)
  (e:(Region.noSelect ops&&Region.free .any ops listed i&&(Region.ready .any ops listed).contains i)=true)
  (f:oS ops cj i=true) (hg:cJ ops b a=some true) (g:∀F R,S F->R v F->cV P J b R a F) (c:S F)
  (h:eE P J ops Q S cj fuel (listed.setIfInBounds i true) (bq a b.dst v) F):eE P J ops Q S cj (fuel+1) listed a F:=
 zJ i v d e f (.inl ⟨cv hg,fun F R c j=>kI (g F R c j)⟩) c h
theorem DI {P:Program}{J:Goroutine->af->Prop}{ops:Array Oper}{Q:Act->af->Prop}{S:af->Prop}{cj:List Nat}(i:Nat){b:Oper}{fuel:Nat}{listed:Array Bool}{a:Act}{F:af}(c:ops[i]?=some b)
  (d:(Region.noSelect ops&&Region.free .any ops listed i&&(Region.ready .any ops listed).contains i)=true)
  (e:oS ops cj i=true) (hg:cJ ops b a=some false) (f:S F)
  (h:eE P J ops Q S cj fuel (listed.setIfInBounds i true) (bq a b.dst undef) F):eE P J ops Q S cj (fuel+1) listed a F:=
 zJ i undef c d e (.inr ⟨cv hg,rfl⟩) f h
theorem zM {P:Program}{J:Goroutine->af->Prop}{ops:Array Oper}{Q:Act->af->Prop}{S:af->Prop}{cj:List Nat}(i:Nat){c:Oper}(v:Value){fuel:Nat}{listed:Array Bool}{a:Act}{F:af}(d:ops[i]?=some c)
  (b:(Region.noSelect ops&&Region.free .any ops listed i&&(Region.ready .any ops listed).contains i)=true)
  (e:fP P J ops (fun _=>True) c v a)
  (h:eE P J ops Q S cj fuel (listed.setIfInBounds i true) (bq a c.dst v) F):eE P J ops Q S cj (fuel+1) listed a F:=by
 simp only[Bool.and_eq_true] at b
 exact DH d (Region.noSelect_spec b.1.1) fuel listed a F (Region.free_spec d b.1.2) (by simpa using b.2) e h
inductive cA where
 |done
 |rd (i:Nat) (p:cA)
 |one (i:Nat) (p:cA)
 |two (i:Nat) (p:cA) (j:Nat) (q:cA)
 |three (i:Nat) (p:cA) (j:Nat) (q:cA) (k:Nat) (r:cA)
 |last (i:Nat) (p:cA)
 |pure (i:Nat) (p:cA)
inductive fU where
 |done
 |rd (o:Oper) (p:fU)
 |one (o:Oper) (p:fU)
 |two (o:Oper) (p:fU) (o':Oper) (q:fU)
 |three (o:Oper) (p:fU) (o':Oper) (q:fU) (jz:Oper) (r:fU)
 |last (o:Oper) (p:fU)
 |pure (o:Oper) (p:fU)
 |bad
def cA.opers (ops:Array Oper):cA->fU
 | .done=>.done
 | .rd i p=>match ops[i]? with
  |some o=>.rd o (p.opers ops)
  |none=>.bad
 | .one i p=>match ops[i]? with
  |some o=>.one o (p.opers ops)
  |none=>.bad
 | .two i p j q=>match ops[i]?,ops[j]? with
  |some o,some o'=>.two o (p.opers ops) o' (q.opers ops)
  |_,_=>.bad
 | .three i p j q k r=>match ops[i]?,ops[j]?,ops[k]? with
  |some o,some o',some jz=>.three o (p.opers ops) o' (q.opers ops) jz (r.opers ops)
  |_,_,_=>.bad
 | .last i p=>match ops[i]? with
  |some o=>.last o (p.opers ops)
  |none=>.bad
 | .pure i p=>match ops[i]? with
  |some o=>.pure o (p.opers ops)
  |none=>.bad
def cA.tl:cA->Bool
 | .done=>true
 | .last _ p=>p.tl
 | .pure _ p=>p.tl
 |_=>false
def cA.ok (ops:Array Oper)(cj:List Nat):cA->Array Bool->Bool
 | .done,L=>decide (Region.ready .any ops L=[])
 | .rd i p,L=>Region.free .any ops L i&&(Region.ready .any ops L).contains i&&(ops[i]?).isSome&&oS ops cj i&&p.ok ops cj (L.setIfInBounds i true)
 | .one i p,L=>decide (Region.ready .any ops L=[i])&&(ops[i]?).isSome&&p.ok ops cj (L.setIfInBounds i true)
 | .two i p j q,L=>decide (Region.ready .any ops L=[i,j])&&(ops[i]?).isSome&&(ops[j]?).isSome&&p.ok ops cj (L.setIfInBounds i true)&&q.ok ops cj (L.setIfInBounds j true)
 | .three i p j q k r,L=>decide (Region.ready .any ops L=[i,j,k])&&(ops[i]?).isSome&&(ops[j]?).isSome&&(ops[k]?).isSome&&p.ok ops cj (L.setIfInBounds i true)&&q.ok ops cj (L.setIfInBounds j true)&&r.ok ops cj (L.setIfInBounds k true)
 | .pure i p,L=>Region.free .any ops L i&&(Region.ready .any ops L).contains i&&(ops[i]?).isSome&&p.ok ops cj (L.setIfInBounds i true)
 | .last i p,L=>cj.contains i&&decide (Region.ready .any ops L=[i])&&p.tl&&(ops[i]?).isSome&&p.ok ops cj (L.setIfInBounds i true)
def cA.len:cA->Nat
 | .done=>0
 | .rd _ p=>p.len+1
 | .one _ p=>p.len+1
 | .two _ p _ q=>max p.len q.len+1
 | .three _ p _ q _ r=>max p.len (max q.len r.len)+1
 | .last _ p=>p.len+1
 | .pure _ p=>p.len+1
def cq (P:Program)(J:Goroutine->af->Prop)(ops:Array Oper)(F0:af)(Q:Act->af->Prop):fU->Bool->Act->af->Prop
 | .done,_,a,F=>Q a F
 | .bad,_,_,_=>False
 | .rd o p,_,a,F=>match cJ ops o a with
  |some false=>cq P J ops F0 Q p true (bq a o.dst undef) F
  |some true=>match o.op with
   | .load t x=>match ev a x with
    | .pointer (some ad)=>match fC P F0 t ad with
     |some v=>cq P J ops F0 Q p true (bq a o.dst v) F
     |none=>False
    |_=>False
   | .call {callee:=.value x,args, ..}=>match ev a x with
    | .func (.func fn) first captured=>aN P fn=true/\∃v,Plain P J F0 fn (first++args.map (ev a)++captured) v/\cq P J ops F0 Q p false (bq a o.dst v) F
    |_=>False
   |_=>match iW P o a with
    |some v=>cq P J ops F0 Q p true (bq a o.dst v) F
    |none=>False
  |none=>False
 | .one o p,_,a,F=>match cJ ops o a with
  |some true=>cV P J o (fun v F'=>Knows F0 F'/\cq P J ops F0 Q p (!Oper.calls o) (bq a o.dst v) F') a F
  |some false=>cq P J ops F0 Q p true (bq a o.dst undef) F
  |none=>False
 | .two o p o' q,_,a,F=>(match cJ ops o a with
  |some true=>cV P J o (fun v F'=>Knows F0 F'/\cq P J ops F0 Q p (!Oper.calls o) (bq a o.dst v) F') a F
  |some false=>cq P J ops F0 Q p true (bq a o.dst undef) F
  |none=>False)/\(match cJ ops o' a with
  |some true=>cV P J o' (fun v F'=>Knows F0 F'/\cq P J ops F0 Q q (!Oper.calls o') (bq a o'.dst v) F') a F
  |some false=>cq P J ops F0 Q q true (bq a o'.dst undef) F
  |none=>False)
 | .three o p o' q jz r,_,a,F=>(match cJ ops o a with
  |some true=>cV P J o (fun v F'=>Knows F0 F'/\cq P J ops F0 Q p (!Oper.calls o) (bq a o.dst v) F') a F
  |some false=>cq P J ops F0 Q p true (bq a o.dst undef) F
  |none=>False)/\(match cJ ops o' a with
  |some true=>cV P J o' (fun v F'=>Knows F0 F'/\cq P J ops F0 Q q (!Oper.calls o') (bq a o'.dst v) F') a F
  |some false=>cq P J ops F0 Q q true (bq a o'.dst undef) F
  |none=>False)/\(match cJ ops jz a with
  |some true=>cV P J jz (fun v F'=>Knows F0 F'/\cq P J ops F0 Q r (!Oper.calls jz) (bq a jz.dst v) F') a F
  |some false=>cq P J ops F0 Q r true (bq a jz.dst undef) F
  |none=>False)
 | .pure o p,_,a,F=>match cJ ops o a with
  |some false=>cq P J ops F0 Q p true (bq a o.dst undef) F
  |some true=>match iW P o a with
   |some v=>cq P J ops F0 Q p true (bq a o.dst v) F
   |none=>False
  |none=>False
 | .last o p,_,a,F=>match cJ ops o a with
  |some true=>cV P J o (fun v F'=>cq P J ops F0 Q p (!Oper.calls o) (bq a o.dst v) F') a F
  |_=>False
section
variable {P:Program}{main:Bool}{J:Goroutine->af->Prop}{ops:Array Oper}{Q:Act->af->Prop}{F0:af}{cj:List Nat}
theorem mY {p:cA}{i:Nat}{o:Oper}{fuel:Nat}{L:Array Bool}{a:Act}{F:af}(b:ops[i]?=some o)(d:Knows F0 F)
  (ih:∀go a F,Knows F0 F->cq P J ops F0 Q (p.opers ops) go a F->eE P J ops Q (Knows F0) cj fuel (L.setIfInBounds i true) a F)
  (h:match cJ ops o a with
   |some true=>cV P J o (fun v F'=>Knows F0 F'/\cq P J ops F0 Q (p.opers ops) (!Oper.calls o) (bq a o.dst v) F') a F
   |some false=>cq P J ops F0 Q (p.opers ops) true (bq a o.dst undef) F
   |none=>False):ef P J ops i (fun e F'=>(¬i∈cj->Knows F0 F->Knows F0 F')/\eE P J ops Q (Knows F0) cj fuel (L.setIfInBounds i true) e F') a F:=by
 split at h
 .rename_i hg
  unfold ef
  simp only[b]
  rw[if_pos (cv hg)]
  refine kI (lW.qB ?_ h)
  rintro v F' ⟨c,f⟩
  exact ⟨fun _ _=>c,ih _ _ F' c f⟩
 .rename_i hg
  unfold ef
  simp only[b]
  rw[if_neg (by rw[cv hg];exact Bool.false_ne_true)]
  exact ⟨fun _ g=>g,ih _ _ F d h⟩
 .exact h.elim
theorem zN {p:cA}{i:Nat}{fuel:Nat}{L:Array Bool}{go:Bool}{a:Act}{F:af}(e:Region.noSelect ops=true)(c:(cA.pure i p).ok ops cj L=true)
  (ih:∀go v a,p.ok ops cj (L.setIfInBounds i true)=true->cq P J ops F0 Q (p.opers ops) go (bq a ((ops[i]?).bind (·.dst)) v) F->eE P J ops Q (Knows F0) cj fuel (L.setIfInBounds i true) (bq a ((ops[i]?).bind (·.dst)) v) F)
  (h:cq P J ops F0 Q ((cA.pure i p).opers ops) go a F):eE P J ops Q (Knows F0) cj (fuel+1) L a F:=by
 simp only[cA.ok,Bool.and_eq_true] at c
 obtain ⟨⟨⟨c1,c2⟩,c3⟩,c4⟩:=c
 obtain ⟨o,b⟩:=Option.isSome_iff_exists.1 c3
 have d:(Region.noSelect ops&&Region.free .any ops L i&&(Region.ready .any ops L).contains i)=true:=by rw[e,c1,c2];rfl
 have f:cA.opers ops (.pure i p)= .pure o (p.opers ops):=by simp only[cA.opers,b]
 rw[f] at h
 have hd:(ops[i]?).bind (·.dst)=o.dst:=by rw[b];rfl
 rw[hd] at ih
 unfold cq at h
 split at h
 .rename_i hg
  exact zM i undef b d (.inr ⟨cv hg,rfl⟩) (ih _ _ _ c4 h)
 .rename_i hg
  split at h
  .rename_i v g
   exact zM i v b d (.inl ⟨cv hg,fun F R _ j=>kI (qy g j)⟩) (ih _ _ _ c4 h)
  .exact h.elim
 .exact h.elim
theorem uz (d:Region.noSelect ops=true):∀(p:cA) (fuel:Nat) (L:Array Bool) (go:Bool) (a:Act) (F:af),p.tl=true->p.len<=fuel->p.ok ops cj L=true->cq P J ops F0 Q (p.opers ops) go a F->eE P J ops Q (Knows F0) cj fuel L a F
 | .done,fuel,L,go,a,F,_,c,b,h=>by
  simp only[cA.ok,decide_eq_true_eq] at b
  unfold cA.opers cq at h
  exact zL b h _
 | .last i p,fuel,L,go,a,F,ht,c,b,h=>by
  simp only[cA.ok,Bool.and_eq_true,decide_eq_true_eq] at b
  obtain ⟨⟨⟨⟨c1,c2⟩,c3⟩,c4⟩,g⟩:=b
  obtain ⟨o,e⟩:=Option.isSome_iff_exists.1 c4
  have j:cA.opers ops (.last i p)= .last o (p.opers ops):=by simp only[cA.opers,e]
  rw[j] at h
  simp only[cA.len] at c
  obtain ⟨fuel,rfl⟩:∃f,fuel=f+1:=⟨fuel - 1,aa⟩
  unfold cq at h
  refine zK i c2 ?_
  split at h
  .rename_i hg
   unfold ef
   simp only[e]
   rw[if_pos (cv hg)]
   refine kI (lW.qB ?_ h)
   exact fun v F' k=>⟨fun l _=>absurd (by simpa using c1) l,uz d p fuel _ _ _ F' c3 aa g k⟩
  .exact h.elim
 | .pure i p,fuel,L,go,a,F,ht,c,b,h=>by
  simp only[cA.len] at c
  obtain ⟨fuel,rfl⟩:∃f,fuel=f+1:=⟨fuel - 1,aa⟩
  exact zN d b (fun go v a c4 m=>uz d p fuel _ go _ F ht aa c4 m) h
 | .rd _ _,_,_,_,_,_,ht,_,_,_=>by cases ht
 | .one _ _,_,_,_,_,_,ht,_,_,_=>by cases ht
 | .two ..,_,_,_,_,_,ht,_,_,_=>by cases ht
 | .three ..,_,_,_,_,_,ht,_,_,_=>by cases ht
theorem j0 (g:Region.noSelect ops=true):∀(p:cA) (fuel:Nat) (L:Array Bool) (go:Bool) (a:Act) (F:af),Knows F0 F->p.len<=fuel->p.ok ops cj L=true->cq P J ops F0 Q (p.opers ops) go a F->eE P J ops Q (Knows F0) cj fuel L a F
 | .done,fuel,L,go,a,F,b,e,c,h=>by
  simp only[cA.ok,decide_eq_true_eq] at c
  unfold cA.opers cq at h
  exact zL c h _
 | .rd i p,fuel,L,go,a,F,b,e,c,h=>by
  simp only[cA.ok,Bool.and_eq_true] at c
  obtain ⟨⟨⟨⟨c1,c2⟩,c3⟩,l⟩,c4⟩:=c
  obtain ⟨o,d⟩:=Option.isSome_iff_exists.1 c3
  have y:(Region.noSelect ops&&Region.free .any ops L i&&(Region.ready .any ops L).contains i)=true:=by rw[g,c1,c2];rfl
  have m:cA.opers ops (.rd i p)= .rd o (p.opers ops):=by simp only[cA.opers,d]
  rw[m] at h
  simp only[cA.len] at e
  obtain ⟨fuel,rfl⟩:∃f,fuel=f+1:=⟨fuel - 1,aa⟩
  have next:∀go v,cq P J ops F0 Q (p.opers ops) go (bq a o.dst v) F->eE P J ops Q (Knows F0) cj fuel (L.setIfInBounds i true) (bq a o.dst v) F:=fun go v n=>
   j0 g p fuel _ go _ F b aa c4 n
  unfold cq at h
  split at h
  .rename_i hg
   exact DI i d y l hg b (next true undef h)
  .rename_i hg
   split at h
   .rename_i t x A
    split at h
    case h_2=>exact h.elim
    rename_i ad C
    split at h
    case h_2=>exact h.elim
    rename_i v n
    refine uy i v d y l hg (fun F R z u=>?_) b (next _ v h)
    unfold cV
    simp only[A,C,z.fC n]
    exact u
   .rename_i x args argTypes A
    split at h
    case h_2=>exact h.elim
    rename_i fn first captured s
    obtain ⟨D,v,E,h⟩:=h
    refine uy i v d y l hg (fun F R z u=>?_) b (next _ v h)
    unfold cV
    simp only[A,s]
    exact ⟨D,(E F z).mono fun K F' G=>by obtain ⟨rfl,rfl⟩:=G;exact u⟩
   .split at h
    case h_2=>exact h.elim
    rename_i v n
    exact uy i v d y l hg (fun F R z u=>qy n u) b (next _ v h)
  .exact h.elim
 | .one i p,fuel,L,go,a,F,b,e,c,h=>by
  simp only[cA.ok,Bool.and_eq_true,decide_eq_true_eq] at c
  obtain ⟨⟨c1,c3⟩,c4⟩:=c
  obtain ⟨o,d⟩:=Option.isSome_iff_exists.1 c3
  have m:cA.opers ops (.one i p)= .one o (p.opers ops):=by simp only[cA.opers,d]
  rw[m] at h
  simp only[cA.len] at e
  obtain ⟨fuel,rfl⟩:∃f,fuel=f+1:=⟨fuel - 1,aa⟩
  unfold cq at h
  exact zK i c1 (mY d b (fun go a F b h=>j0 g p fuel _ go a F b aa c4 h) h)
 | .two i p j q,fuel,L,go,a,F,b,e,c,h=>by
  simp only[cA.ok,Bool.and_eq_true,decide_eq_true_eq] at c
  obtain ⟨⟨⟨⟨c1,c2⟩,c3⟩,c4⟩,l⟩:=c
  obtain ⟨o,d⟩:=Option.isSome_iff_exists.1 c2
  obtain ⟨o',w⟩:=Option.isSome_iff_exists.1 c3
  have m:cA.opers ops (.two i p j q)= .two o (p.opers ops) o' (q.opers ops):=by simp only[cA.opers,d,w]
  rw[m] at h
  simp only[cA.len] at e
  obtain ⟨fuel,rfl⟩:∃f,fuel=f+1:=⟨fuel - 1,aa⟩
  unfold cq at h
  refine uw c1 av fun x s=>?_
  simp only[List.mem_cons,List.not_mem_nil,or_false] at s
  rcases s with rfl|rfl
  .exact mY d b (fun go a F b h=>j0 g p fuel _ go a F b aa c4 h) h.1
  .exact mY w b (fun go a F b h=>j0 g q fuel _ go a F b aa l h) h.2
 | .three i p j q k r,fuel,L,go,a,F,b,e,c,h=>by
  simp only[cA.ok,Bool.and_eq_true,decide_eq_true_eq] at c
  obtain ⟨⟨⟨⟨⟨⟨c1,c2⟩,c3⟩,c4⟩,l⟩,H⟩,I⟩:=c
  obtain ⟨o,d⟩:=Option.isSome_iff_exists.1 c2
  obtain ⟨o',w⟩:=Option.isSome_iff_exists.1 c3
  obtain ⟨jz,B⟩:=Option.isSome_iff_exists.1 c4
  have m:cA.opers ops (.three i p j q k r)= .three o (p.opers ops) o' (q.opers ops) jz (r.opers ops):=by simp only[cA.opers,d,w,B]
  rw[m] at h
  simp only[cA.len] at e
  obtain ⟨fuel,rfl⟩:∃f,fuel=f+1:=⟨fuel - 1,aa⟩
  unfold cq at h
  refine uw c1 av fun x s=>?_
  simp only[List.mem_cons,List.not_mem_nil,or_false] at s
  rcases s with rfl|rfl|rfl
  .exact mY d b (fun go a F b h=>j0 g p fuel _ go a F b aa l h) h.1
  .exact mY w b (fun go a F b h=>j0 g q fuel _ go a F b aa H h) h.2.1
  .exact mY B b (fun go a F b h=>j0 g r fuel _ go a F b aa I h) h.2.2
 | .last i p,fuel,L,go,a,F,b,e,c,h=>uz g (.last i p) fuel L go a F (by simp only[cA.ok,Bool.and_eq_true] at c;exact c.1.1.2) e c h
 | .pure i p,fuel,L,go,a,F,b,e,c,h=>by
  simp only[cA.len] at e
  obtain ⟨fuel,rfl⟩:∃f,fuel=f+1:=⟨fuel - 1,aa⟩
  exact zN g c (fun go v a c4 n=>j0 g p fuel _ go _ F b aa c4 n) h
theorem e5 {Q:Ex->Act->af->Prop}(hJ:Closed P main J)(d:P.follows .mixedOrders=true)(cj:List Nat)(p:cA){id:Nat}{a:Act}{F:af}(F0:af)(e:Knows F0 F)
  (c:(Region.noSelect ops&&decide (p.len<=ops.size)&&p.ok ops cj (Array.replicate ops.size false))=true)
  (h:cq P J ops F0 (Q .normal) (p.opers ops) true a F):Wp J (.region id ops true) Q a F:=by
 simp only[Bool.and_eq_true,decide_eq_true_eq] at c
 obtain ⟨⟨f,g⟩,i⟩:=c
 intro b k cs hb j
 refine hJ.step fun w hw=>?_
 refine ⟨_,_,_,F,yl,.drawn _ _ _,hw.drawn _,av,?_⟩
 refine qc (K:=Q .normal) hJ (th hb) (fun l F' m=>j .normal l F' m) _ _ _ ?_
 simp only[Region.schedule,d,Bool.true_or,if_true]
 exact DF ops.size _ _ a F (j0 (cj:=cj) f p ops.size _ true a F e g i h)
end
theorem DJ {P:Program}{J:Goroutine->af->Prop}{ops:Array Oper}{F0:af}{Q:Act->af->Prop}{go:Bool}{a:Act}{F:af}:cq P J ops F0 Q .done go a F=Q a F:=rfl
theorem DK {P:Program}{J:Goroutine->af->Prop}{ops:Array Oper}{F0:af}{Q:Act->af->Prop}{o:Oper}{p:fU}{a:Act}{F:af}:cq P J ops F0 Q (.rd o p) true a F=match cJ ops o a with
  |some false=>cq P J ops F0 Q p true (bq a o.dst undef) F
  |some true=>match o.op with
   | .load t x=>match ev a x with
    | .pointer (some ad)=>match fC P F0 t ad with
     |some v=>cq P J ops F0 Q p true (bq a o.dst v) F
     |none=>False
    |_=>False
   | .call {callee:=.value x,args, ..}=>match ev a x with
    | .func (.func fn) first captured=>aN P fn=true/\∃v,Plain P J F0 fn (first++args.map (ev a)++captured) v/\cq P J ops F0 Q p false (bq a o.dst v) F
    |_=>False
   |_=>match iW P o a with
    |some v=>cq P J ops F0 Q p true (bq a o.dst v) F
    |none=>False
  |none=>False:=(Eq.refl _).trans (Eq.refl _)
theorem zO {P:Program}{J:Goroutine->af->Prop}{ops:Array Oper}{F0:af}{Q:Act->af->Prop}{o:Oper}{p:fU}{a:Act}{F:af}:cq P J ops F0 Q (.one o p) true a F=match cJ ops o a with
  |some true=>cV P J o (fun v F'=>Knows F0 F'/\cq P J ops F0 Q p (!Oper.calls o) (bq a o.dst v) F') a F
  |some false=>cq P J ops F0 Q p true (bq a o.dst undef) F
  |none=>False:=(Eq.refl _).trans (Eq.refl _)
theorem j3 {P:Program}{J:Goroutine->af->Prop}{ops:Array Oper}{F0:af}{Q:Act->af->Prop}{o o':Oper}{p q:fU}{go:Bool}{a:Act}{F:af}(b:cq P J ops F0 Q (.one o p) true a F)(c:cq P J ops F0 Q (.one o' q) true a F):cq P J ops F0 Q (.two o p o' q) go a F:=by
 rw[zO] at b c;unfold cq;exact ⟨b,c⟩
theorem DL {P:Program}{J:Goroutine->af->Prop}{ops:Array Oper}{F0:af}{Q:Act->af->Prop}{o:Oper}{p:fU}{a:Act}{F:af}:cq P J ops F0 Q (.last o p) true a F=match cJ ops o a with
  |some true=>cV P J o (fun v F'=>cq P J ops F0 Q p (!Oper.calls o) (bq a o.dst v) F') a F
  |_=>False:=(Eq.refl _).trans (Eq.refl _)
theorem DN {P:Program}{J:Goroutine->af->Prop}{ops:Array Oper}{F0:af}{Q:Act->af->Prop}{o:Oper}{p:fU}{a:Act}{F:af}:cq P J ops F0 Q (.pure o p) true a F=match cJ ops o a with
  |some false=>cq P J ops F0 Q p true (bq a o.dst undef) F
  |some true=>match iW P o a with
   |some v=>cq P J ops F0 Q p true (bq a o.dst v) F
   |none=>False
  |none=>False:=(Eq.refl _).trans (Eq.refl _)
theorem cm {P:Program}{J:Goroutine->af->Prop}{ops:Array Oper}{F0:af}{Q:Act->af->Prop}:∀{p:fU} {go:Bool} {a:Act} {F:af},cq P J ops F0 Q p true a F->cq P J ops F0 Q p go a F
 | .done,_,_,_,h=>h
 | .bad,_,_,_,h=>h
 | .rd ..,_,_,_,h=>h
 | .one ..,_,_,_,h=>h
 | .two ..,_,_,_,h=>h
 | .three ..,_,_,_,h=>h
 | .last ..,_,_,_,h=>h
 | .pure ..,_,_,_,h=>h
attribute [irreducible] cq
attribute [go_sem] DJ DK zO DL DN cA.opers
theorem e6 {ro aT:Addr->Option Value}{l:List (Nat×Obj)}(a:Ext ro aT)(b:aF aT l)(own:List (Nat×Obj)):Knows ⟨ro,l⟩ ⟨aT,own⟩=iV l own:=
 propext ⟨fun h=>h.2.2,CJ a b⟩
section
variable {P:Program}{main:Bool}{J:Goroutine->af->Prop}{a:Act}{F:af}
def kT (l:Nat)(R:Value->af->Prop)(st:LoopState)(jump:Option Code)(F:af):Prop:=
 ∃a,F.fy l=some (.loop a)/\R (.bool jump.isNone) (F.put l (.loop {a with state:=st,pending:=jump}))
def oT (l:Nat)(R:Value->af->Prop):Ex->Act->af->Prop
 | .normal,_,F=>kT l R .ready none F
 | .exit id,_,F=>kT l R .done (some (.exit id)) F
 | .ret,_,F=>kT l R .done (some .ret) F
def mZ (J:Goroutine->af->Prop)(l:Nat)(body:Code)(R:Value->af->Prop):Ex->Act->af->Prop
 | .normal,a,F=>∃b,F.fy l=some (.loop b)/\b.state= .ready/\Wp J body (oT l R) a (F.put l (.loop {b with state:=.busy}))
 |_,_,_=>False
theorem uA {l:Nat}{R:Value->af->Prop}{st:LoopState}{jump:Option Code}(c:st=if jump.isNone then .ready else .done)(h:kT l R st jump F):bp P (Instr.endRound l jump) R F:=by
 obtain ⟨d,a,b⟩:=h;simp only[Instr.endRound,Instr.getLoop,bF,mO];refine ⟨_,a,?_⟩;simp only[bP,bF,lJ,a,Option.isSome_some,Obj.isChan,true_and];rw[c] at b;exact b
theorem uB (hJ:Closed P main J){l:Nat}{b:Frame}{a:Act}{todo:List Item}{jump:Option Code}{c:Frame}{cs:List Frame}(f:b.kind= .normal)
  (hs:∀w,stepG P main (G (on b a todo) (c::cs)) w=GStep.after (seen P b.fn ((Instr.endRound l jump).runT P w #[]).2) (match ((Instr.endRound l jump).runT P w #[]).1 with
    | .ok v w=>doReturn P main (on b a todo) (c::cs) none v w
    | .halt _ w=>.ended (.stuck "range over a function: no such loop" ((on b a todo).pos P)) w))
  (h:bp P (Instr.endRound l jump) (fun v F'=>J (G (c.finish v) cs) F') F):J (G (on b a todo) (c::cs)) F:=by
 refine hJ.step fun w hw=>?_
 obtain ⟨v,w',F',es,H⟩:=kG _ F w #[] h hw
 have d:=H.run
 rw[Array.empty_append] at d
 refine ⟨G (c.finish v) cs,w',seen P b.fn es,F',?_,H.upd,H.has,fun e he=>H.ie e (mem_seen he),H.post⟩
 rw[hs w,d]
 have g:(on b a todo).kind= .normal:=f
 simp only[doReturn,g,GStep.after,G]
 simp
theorem jq.of_wp (hJ:Closed P main J){l:Nat}{f:FuncId}{tmps:Array Value}{assign body:Code}{R:Value->af->Prop}(hd:fQ assign=true)(r:fQ body=true)
  (h:Wp J assign (mZ J l body R) {tmps:=tmps,defers:=[]} F):jq J l f tmps assign body F R:=by
 intro c cs k
 let b:Frame:={(default:Frame) with fn:=f,kind:=.normal,roundOf:=some l}
 have he:Frame.round l f tmps assign body .normal=on b {tmps:=tmps,defers:=[]} (.code assign::[.beginRound,.code body]):=rfl
 rw[he]
 refine h b [.beginRound,.code body] (c::cs) ⟨by simp[b],.inr hd⟩ fun e o F' d=>?_
 cases e with
 |exit i=>exact d.elim
 |ret=>exact d.elim
 |normal=>
  obtain ⟨g,a,j,s⟩:=d
  show J (G (on b o [.beginRound,.code body]) (c::cs)) F'
  have t:bp P (do Instr.beginRound l;pure Next.skip:Sem Next) (fun n m=>n= .skip/\m=F'.put l (.loop {g with state:=.busy})) F':=by
   simp only[Instr.beginRound,Instr.getLoop,bF,mO]
   refine ⟨_,a,?_⟩
   simp only[bP,bF,lJ,a,Option.isSome_some,Obj.isChan,true_and,j]
   all_goals first|trivial|exact ⟨rfl,rfl⟩
  refine hJ.step fun w hw=>?_
  obtain ⟨n,w',m,es,H⟩:=kG _ F' w #[] t hw
  have p:=H.run
  rw[Array.empty_append] at p
  obtain ⟨rfl,rfl⟩:=H.post
  refine ⟨G (on b o [.code body]) (c::cs),w',seen P b.fn es,_,?_,H.upd,H.has,fun e he=>H.ie e (mem_seen he),?_⟩
  .have u:b.roundOf=some l:=rfl
   simp only[G,stepG,stepG.exec,on,u,Option.elim,stepG.apply,if_true]
   have x:(b.kind==CallKind.early)=false:=rfl
   simp only[p,x,Bool.false_eq_true,if_false,GStep.after]
   simp[Frame.finish,undef]
  .refine s b [] (c::cs) ⟨by simp[b],.inr r⟩ fun e a2 m d=>?_
   cases e with
   |normal=>
    refine uB hJ (l:=l) (jump:=none) rfl (fun w=>?_) (uA rfl (R:=fun v F'=>J (G (c.finish v) cs) F') ?_)
    .simp only[G,stepG,stepG.exec,on]
     rfl
    .obtain ⟨g,a,j⟩:=d
     exact ⟨g,a,k _ _ j⟩
   |exit i=>
    intro q y
    refine uB hJ (l:=l) (jump:=some (.exit i)) rfl (fun w=>?_) (uA rfl (R:=fun v F'=>J (G (c.finish v) cs) F') ?_)
    .have z:exitTo i q=none:=y
     simp only[G,stepG,stepG.exec,on,z,Option.elim]
     rfl
    .obtain ⟨g,a,j⟩:=d
     exact ⟨g,a,k _ _ j⟩
   |ret=>
    intro q
    refine uB hJ (l:=l) (jump:=some .ret) rfl (fun w=>?_) (uA rfl (R:=fun v F'=>J (G (c.finish v) cs) F') ?_)
    .simp only[G,stepG,stepG.exec,on]
     rfl
    .obtain ⟨g,a,j⟩:=d
     exact ⟨g,a,k _ _ j⟩
def qM (Q:Ex->Act->af->Prop)(a:Act)(F:af):Option Code->Prop
 |none=>Q .normal a F
 |some (.exit id)=>Q (.exit id) a F
 |some .ret=>Q .ret a F
 |_=>False
def m0 (b:FuncId)(a:Act)(params:Array Tmp)(assign body:Code)(d:Nat):Loop:={state:=.ready,pending:=none,fn:=b,tmps:=a.tmps,params:=params,assign:=assign,body:=body,defers:=d}
theorem DO (hJ:Closed P main J){x:Operand}{params:Array Tmp}{assign body:Code}{Q:Ex->Act->af->Prop}{fn:FuncId}{first captured:Array Value}
  (I:ev a x= .func (.func fn) first captured) (L:aN P fn=true)
  (M:∀N d l,ez F d->ez (F.push d (.deferred (some []))) l->
   c8 P J fn (first++#[.func (.yield l) #[] #[]]++captured) ((F.push d (.deferred (some []))).push l (.loop (m0 N a params assign body d)))
    (fun _ F'=>∃f,F'.fy l=some (.loop f)/\f.state≠ .busy/\qM Q {a with defers:=⟨.collected d,#[]⟩::a.defers} (F'.put l (.loop {f with state:=.exhausted})) f.pending)):
  Wp J (.rangeFunc x params assign body) Q a F:=by
 intro b k cs hb q
 have u:b.roundOf=none:=hb.round.elim id fun h=>by simp[fQ] at h
 obtain ⟨z,O,R,S,T,s,a5⟩:=b
 simp only at u
 subst u
 let b:Frame:=⟨z,O,R,S,T,s,none⟩
 have U:a.eval x= .func (.func fn) first captured:=I
 have m:=L
 unfold aN at m
 split at m
 case h_2=>cases m
 rename_i a6 V
 simp only[Bool.not_eq_true',Bool.or_eq_false_iff] at m
 let K:Nat×List Deferred->af->Prop:=fun r F'=>∃d l,r=(l,[⟨.collected d,#[]⟩])/\ez F d/\ez (F.push d (.deferred (some []))) l/\F'=(F.push d (.deferred (some []))).push l (.loop (m0 b.fn a params assign body d))
 have W:bp P (Instr.enterLoop b.fn a.tmps params assign body none) K F:=by
  simp only[Instr.enterLoop,bF,ov,bP]
  exact ⟨rfl,fun d hd=>⟨rfl,fun l t=>⟨d,l,rfl,hd,t,rfl⟩⟩⟩
 refine hJ.step fun w hw=>?_
 obtain ⟨r,w1,a7,A,H1⟩:=kG _ F w #[] W hw
 have B:=H1.run
 rw[Array.empty_append] at B
 obtain ⟨d,l,rfl,hd,t,rfl⟩:=H1.post
 let fr':Frame:={on b a (.inRangeFunc l::k) with defers:=[⟨.collected d,#[]⟩]++a.defers}
 have X:fr'=on b {a with defers:=⟨.collected d,#[]⟩::a.defers} (.inRangeFunc l::k):=rfl
 have Y:fr'.eval x= .func (.func fn) first captured:=by rw[X,s7];exact U
 have Z:bp P (do let o<-resolve fr'.eval {callee:=.value x,args:=#[.const (.func (.yield l) #[] #[])],argTypes:=#[]} 0;invoke o.target o.args:Sem Next)
   (fun n p=>n= .enter fn (first++#[.func (.yield l) #[] #[]]++captured)/\p=(F.push d (.deferred (some []))).push l (.loop (m0 b.fn a params assign body d))) ((F.push d (.deferred (some []))).push l (.loop (m0 b.fn a params assign body d))):=by
  have ab:fr'.eval (.const (.func (.yield l) #[] #[]))= .func (.yield l) #[] #[]:=rfl
  simp only[resolve,Y,Deferred.ofValue,bF,bP,invoke,callFunc,jT,V,m.1,m.2,Bool.false_eq_true,if_false,List.map_toArray,List.map_cons,List.map_nil,ab]
  simp
 obtain ⟨n,w2,p,ad,i⟩:=kG _ _ w1 #[] Z H1.has
 have C:=i.run
 rw[Array.empty_append] at C
 obtain ⟨rfl,rfl⟩:=i.post
 refine ⟨G (Frame.enter P fn (first++#[.func (.yield l) #[] #[]]++captured) .normal) (fr'::cs),w2,seen P b.fn A++seen P b.fn ad,_,?_,H1.upd.trans i.upd,i.has,fun e he=>?_,?_⟩
 .have ae:(s==CallKind.early)=false:=by have:=hb.kind;cases s<;>simp_all
  have hs:∀e:Array Event,stepG P main (G (on b a (.code (.rangeFunc x params assign body)::k)) cs) w=GStep.after (seen P z A) (stepG.apply P true fr' cs none (do let o<-resolve fr'.eval {callee:=.value x,args:=#[.const (.func (.yield l) #[] #[])],argTypes:=#[]} 0;invoke o.target o.args) w1):=fun _=>by
   simp only[G,stepG,stepG.exec,on,b]
   rw[B]
   rfl
  show stepG P main (G (on b a (.code (.rangeFunc x params assign body)::k)) cs) w=_
  rw[hs #[]]
  unfold stepG.apply
  simp only[if_true,C]
  have al:(fr'.kind==CallKind.early)=false:=ae
  simp only[al,Bool.false_eq_true,if_false,GStep.after]
  rfl
 .rcases Array.mem_append.1 he with h|h
  .refine (H1.ie e (mem_seen h)).mono (fun _ x=>x) fun b hb=>hb.imp id fun y=>⟨y.1,Nat.lt_of_lt_of_le y.2 i.upd.size⟩
  .refine (i.ie e (mem_seen h)).mono (fun a ao=>ao) fun b hb=>?_
   rcases hb with hb|hb
   .rcases H1.upd.own b hb with x|x
    .exact .inl x
    .exact .inr ⟨x,Nat.lt_of_lt_of_le (H1.has.lt hb) i.upd.size⟩
   .exact .inr ⟨Nat.le_trans H1.upd.size hb.1,hb.2⟩
 .refine M b.fn d l hd t fr' cs fun v F' ar=>?_
  obtain ⟨f,D,a0,g⟩:=ar
  have a2:fr'.finish v=on b {a with defers:=⟨.collected d,#[]⟩::a.defers} (.endRangeFunc l::k):=rfl
  rw[a2]
  have a3:bp P (Instr.endLoop l) (fun j p=>j=f.pending/\p=F'.put l (.loop {f with state:=.exhausted})) F':=by
   simp only[Instr.endLoop,Instr.getLoop,bF,mO]
   refine ⟨_,D,?_⟩
   have a4:¬(f.state== .busy)=true:=by simpa using a0
   simp only[bP,bF,lJ,D,Option.isSome_some,Obj.isChan,true_and,dH,a4]
   all_goals first|trivial|exact ⟨rfl,rfl⟩
  refine hJ.step fun w hw=>?_
  obtain ⟨j,w',a8,es,H⟩:=kG _ F' w #[] a3 hw
  have E:=H.run
  rw[Array.empty_append] at E
  obtain ⟨rfl,rfl⟩:=H.post
  refine ⟨G (on b {a with defers:=⟨.collected d,#[]⟩::a.defers} ((f.pending.map Item.code).toList++k)) cs,w',seen P b.fn es,_,?_,H.upd,H.has,fun e he=>H.ie e (mem_seen he),?_⟩
  .simp only[G,stepG,stepG.exec,on,E,GStep.after]
   simp
  .revert g
   cases f.pending with
   |none=>exact fun g=>q .normal _ _ g
   |some c=>
    intro g
    cases c<;>simp only[qM] at g<;>first
     |exact g.elim
     |exact q (.exit _) _ _ g k rfl
     |exact q .ret _ _ g k
end
def dA {H σ:Type}(step:σ->H->Option (Bool×σ)):List (Option H)->σ->Option (Bool×σ)
 |[],s=>some (true,s)
 |none::_,_=>none
 |some x::l,s=>match step s x with
  |some (true,s')=>dA step l s'
  |some (false,s')=>some (false,s')
  |none=>none
theorem zP {H σ:Type}(step:σ->H->Option (Bool×σ)):∀(l l':List (Option H)) (s:σ),dA step (l++l') s=match dA step l s with
  |some (true,s')=>dA step l' s'
  |some (false,s')=>some (false,s')
  |none=>none
 |[],l',s=>rfl
 |none::l,l',s=>rfl
 |some x::l,l',s=>by
  simp only[List.cons_append,dA]
  split<;>first|rfl|exact zP step l l' _
def kU {H σ ρ:Type}(f:H->σ->Option (Fl σ ρ)):List (Option H)->σ->Option (Fl σ ρ)
 |[],s=>some (.nx s)
 |none::_,_=>none
 |some x::l,s=>aj (f x s) fun o=>match o with
  | .nx s'=>kU f l s'
  | .bk s'=>some (.nx s')
  | .br k s'=>some (.br k s')
  | .rt _=>none
def uC {H σ:Type}(P:Program)(y:Value)(enc:H->Value)(step:σ->H->Option (Bool×σ))(ro:Addr->Option Value)(I:σ->List (Nat×Obj)->Prop):Prop:=
 ∀s x b s',step s x=some (b,s')->∀(main:Bool) (J:Goroutine->af->Prop),Closed P main J->∀own,I s own->
  gI P J y #[enc x] ⟨ro,own⟩ (fun v F'=>∃a,Le ⟨ro,a⟩ F'/\v= .bool b/\I s' a)
def jA {H:Type}(P:Program)(f:FuncId)(first cap:Array Value)(enc:H->Value)(L:List (Option H))(ro:Addr->Option Value):Prop:=
 aN P f=true/\∀(aT:Addr->Option Value),Ext ro aT->∀(σ:Type) (step:σ->H->Option (Bool×σ)) (I:σ->List (Nat×Obj)->Prop) (a:Fn) (c d:Array Value),uC P (.func a c d) enc step aT I->
  ∀s b s',dA step L s=some (b,s')->∀(main:Bool) (J:Goroutine->af->Prop),Closed P main J->∀own,I s own->
   c8 P J f (first++#[.func a c d]++cap) ⟨aT,own⟩ (fun _ F'=>∃e,Le ⟨aT,e⟩ F'/\I s' e)
theorem jA.mono {H:Type}{P:Program}{f:FuncId}{first cap:Array Value}{enc:H->Value}{L:List (Option H)}{ro a:Addr->Option Value}(h:jA P f first cap enc L ro)(b:Ext ro a):jA P f first cap enc L a:=
 ⟨h.1,fun aT c=>h.2 aT (b.trans c)⟩
def qN:Nat:=1000000000
def l7 (k:Nat):Code:=if k=qN then .ret else .exit k
def uD (Q:Ex->Act->af->Prop)(k:Nat):Act->af->Prop:=if k=qN then Q .ret else Q (.exit k)
def zQ {σ ρ:Type}(c:Nat)(ro:Addr->Option Value)(l d:Nat)(S:σ->List (Nat×Obj)->Prop)(e:Loop)(b:Fl σ ρ)(v:Value)(F:af):Prop:=
 ∃a,Le ⟨ro,(l,.loop {e with state:=(match b with| .nx _=>.ready|_=>.done),pending:=(match b with| .nx _=>none| .bk _=>some (l7 c)| .br k _=>some (l7 k)| .rt _=>none)})::(d,.deferred (some []))::a⟩ F/\
  match b with
  | .nx s'=>v= .bool true/\S s' a
  | .bk s'=>v= .bool false/\S s' a
  | .br _ s'=>v= .bool false/\S s' a
  | .rt _=>False
section
variable {P:Program}{main:Bool}{J:Goroutine->af->Prop}{a:Act}
theorem zR {H σ ρ:Type}{f:H->σ->Option (Fl σ ρ)}(a:Nat):∀(L:List (Option H)) (s:σ) (o:Fl σ ρ),kU f L s=some o->
  ∃b s' pend,dA (σ:=σ×Option Nat) (fun st x=>match st with
   |(s,none)=>match f x s with
    |some (.nx s')=>some (true,(s',none))
    |some (.bk s')=>some (false,(s',some a))
    |some (.br k s')=>some (false,(s',some k))
    |_=>none
   |_=>none) L (s,none)=some (b,(s',pend))/\((o= .nx s'/\(pend=none\/pend=some a))\/∃k,o= .br k s'/\pend=some k)
 |[],s,o,h=>by
  cases h
  exact ⟨true,s,none,rfl,.inl ⟨rfl,.inl rfl⟩⟩
 |none::L,s,o,h=>by cases h
 |some x::L,s,o,h=>by
  unfold kU at h
  obtain ⟨e,d,c⟩:=dJ h
  cases e with
  |nx s'=>
   obtain ⟨b,s2,pend,g,i⟩:=zR a L s' o c
   refine ⟨b,s2,pend,?_,i⟩
   unfold dA
   simp only[d]
   exact g
  |bk s'=>
   cases c
   refine ⟨false,s',some a,?_,.inl ⟨rfl,.inr rfl⟩⟩
   unfold dA
   simp only[d]
  |br k s'=>
   cases c
   refine ⟨false,s',some k,?_,.inr ⟨k,rfl,rfl⟩⟩
   unfold dA
   simp only[d]
  |rt r=>cases c
theorem zS {ro:Addr->Option Value}{l:Nat}{o:Obj}{own:List (Nat×Obj)}(a:Obj.oo o=false)(b:o.isChan=false):af.fy ⟨ro,(l,o)::own⟩ l=some o:=by
 simp[af.fy,lk,a,b]
def oU (a:Act)(d:Nat):Act:={a with defers:=⟨.collected d,#[]⟩::a.defers}
theorem DQ (a:Act)(d i:Nat):slot (oU a d) i=slot a i:=rfl
theorem DR (a:Act)(d:Nat):sz (oU a d)=sz a:=rfl
theorem DS (a:Act)(d:Nat):(oU a d).defers=⟨.collected d,#[]⟩::a.defers:=rfl
def kV (a:Act)(p:Tmp)(v:Value):Act:={tmps:=a.tmps.setIfInBounds p v,defers:=[]}
theorem kW (a:Act)(p:Tmp)(v:Value)(i:Nat):slot (kV a p v) i=slot (bq a (some p) v) i:=rfl
theorem qO (a:Act)(p:Tmp)(v:Value):sz (kV a p v)=sz a:=by simp[sz,kV]
theorem qP {H σ ρ:Type}(hJ:Closed P main J){x:Operand}{p:Tmp}{assign body:Code}{Q:Ex->Act->af->Prop}{fn:FuncId}{first captured:Array Value}{ro:Addr->Option Value}{own:List (Nat×Obj)}{j:Nat}
  (enc:H->Value) {L:List (Option H)} (V:ev a x= .func (.func fn) first captured) (M:jA P fn first captured enc L ro)
  (W:fQ assign=true) (X:fQ body=true)
  (S:σ->List (Nat×Obj)->Prop) {f:H->σ->Option (Fl σ ρ)} {A:σ} {o:Fl σ ρ} (Y:kU f L A=some o) (Z:S A own)
  (ab:∀(d l:Nat) (g:Loop),g.state= .ready->∀(s:σ) (y:H) (u:Fl σ ρ),f y s=some u->∀(main:Bool) (J:Goroutine->af->Prop),Closed P main J->∀own,S s own->
   Wp J assign (mZ J l body (zQ j ro l d S g u)) (kV a p (enc y)) ⟨ro,(l,.loop g)::(d,.deferred (some []))::own⟩)
  (ad:¬j=qN)
  (ae:∀d l g m s',S s' m->aY (keys ((l,.loop g)::(d,.deferred (some []))::m))->aF ro ((l,.loop g)::(d,.deferred (some []))::m)->(o= .nx s'->Q .normal (oU a d) ⟨ro,(l,.loop g)::(d,.deferred (some []))::m⟩)/\
   (∀k,o= .br k s'->uD Q k (oU a d) ⟨ro,(l,.loop g)::(d,.deferred (some []))::m⟩))
  (al:∀k s',o= .br k s'->¬k=j):Wp J (.block j (.rangeFunc x #[p] assign body)) Q a ⟨ro,own⟩:=by
 refine aW hJ (Wp.mono (Q:=fun e B F'=>match e with| .exit i=>if i=j then Q .normal B F' else Q (.exit i) B F'|e=>Q e B F') ?_ fun e a F h=>by cases e<;>exact h)
 obtain ⟨b,s',pend,ao,ar⟩:=zR j L A o Y
 refine DO hJ V M.1 fun C d l hd bc=>?_
 let g:Loop:=m0 C a #[p] assign body d
 let q:Option Nat->Loop:=fun pend=>{g with state:=(match pend with|none=>.ready|some _=>.done),pending:=pend.map l7}
 let I:σ×Option Nat->List (Nat×Obj)->Prop:=fun st a0=>∃bh,a0=(l,.loop (q st.2))::(d,.deferred (some []))::bh/\S st.1 bh
 have a2:uC P (.func (.yield l) #[] #[]) enc (fun (st:σ×Option Nat) x=>match st with
   |(s,none)=>match f x s with
    |some (.nx s')=>some (true,(s',none))
    |some (.bk s')=>some (false,(s',some j))
    |some (.br k s')=>some (false,(s',some k))
    |_=>none
   |_=>none) ro I:=by
  rintro ⟨s,pend⟩ y bd ⟨s1,bj⟩ n a3 N O a4 ⟨bh,rfl,a5⟩
  cases pend with
  |some k=>cases n
  |none=>
   simp only at n
   refine ⟨rfl,rfl,g,zS rfl rfl,rfl,?_⟩
   cases D:f y s with
   |none=>rw[D] at n;cases n
   |some u=>
    have E:=jq.of_wp O (R:=zQ j ro l d S g u) (f:=C) W X (ab d l g rfl s y u D a3 N O bh a5)
    rw[D] at n
    have a6:(g.params.zip #[enc y]).foldl (fun tmps (t,a)=>tmps.setIfInBounds t a) g.tmps=a.tmps.setIfInBounds p (enc y):=by simp[g,m0]
    show jq N l C ((g.params.zip #[enc y]).foldl (fun tmps (t,a)=>tmps.setIfInBounds t a) g.tmps) assign body _ _
    rw[a6]
    refine E.mono fun v F' G=>?_
    obtain ⟨m,hle,hm⟩:=G
    cases u with
    |nx s2=>
     simp only[Option.some.injEq,Prod.mk.injEq] at n
     obtain ⟨rfl,rfl,rfl⟩:=n
     exact ⟨_,hle,hm.1,m,rfl,hm.2⟩
    |bk s2=>
     simp only[Option.some.injEq,Prod.mk.injEq] at n
     obtain ⟨rfl,rfl,rfl⟩:=n
     exact ⟨_,hle,hm.1,m,rfl,hm.2⟩
    |br k s2=>
     simp only[Option.some.injEq,Prod.mk.injEq] at n
     obtain ⟨rfl,rfl,rfl⟩:=n
     exact ⟨_,hle,hm.1,m,rfl,hm.2⟩
    |rt r=>exact hm.elim
 have a7:=M.2 ro (Ext.refl ro) _ _ I _ _ _ a2 (A,none) b (s',pend) ao main J hJ ((l,.loop g)::(d,.deferred (some []))::own) ⟨own,rfl,Z⟩
 intro c cs hK
 refine a7 c cs fun v F' G=>?_
 obtain ⟨a4,hle,m,rfl,a8⟩:=G
 by_cases hw:∃w,Has F' w
 case neg=>exact hJ.step fun w a9=>absurd ⟨w,a9⟩ hw
 obtain ⟨w,hw⟩:=hw
 have T:=hle.has w hw
 refine hJ.mono hle (hK v _ ⟨q pend,zS rfl rfl,?_,?_⟩)
 .cases pend<;>simp[q]
 .obtain ⟨U,ba⟩:=ae d l {q pend with state:=.exhausted} m s' a8 ⟨T.nodup⟩ (fun b hb off sp=>by
   cases E:ro ⟨b,off,sp⟩ with
   |none=>rfl
   |some v=>exact absurd hb (T.apart _ v E))
  have bb:af.put ⟨ro,(l,.loop (q pend))::(d,.deferred (some []))::m⟩ l (.loop {q pend with state:=.exhausted})=⟨ro,(l,.loop {q pend with state:=.exhausted})::(d,.deferred (some []))::m⟩:=by simp[af.put,iQ]
  rw[bb]
  rcases ar with ⟨rfl,rfl|rfl⟩|⟨k,rfl,rfl⟩
  .exact U rfl
  .show qM _ _ _ (some (l7 j))
   have:l7 j= .exit j:=if_neg ad
   rw[this]
   show (if j=j then Q .normal _ _ else Q (.exit j) _ _)
   rw[if_pos rfl]
   exact U rfl
  .have z:=ba k rfl
   show qM _ _ _ (some (l7 k))
   unfold uD at z
   unfold l7
   split
   .rename_i K
    rw[if_pos K] at z
    exact z
   .rename_i K
    rw[if_neg K] at z
    show (if k=j then Q .normal _ _ else Q (.exit k) _ _)
    rw[if_neg (al k s' rfl)]
    exact z
theorem DT {R:List Deferred->af->Prop}{r:Nat}{F:af}:bp P (Instr.takeDeferred r) R F=match F.fy r with
  |some (.deferred (some a))=>R a (F.put r (.deferred none))
  |_=>False:=by
 unfold Instr.takeDeferred
 rw[bF,mO]
 refine propext ⟨fun ⟨o,d,b⟩=>?_,fun h=>?_⟩
 .rw[d]
  cases o<;>first|exact (show False from b).elim|skip
  rename_i a
  cases a with
  |none=>exact (show False from b).elim
  |some a=>
   simp only[bF,lJ,bP] at b
   exact b.2.2
 .split at h
  .rename_i a c
   refine ⟨_,c,?_⟩
   simp only[bF,lJ,bP]
   exact ⟨rfl,by rw[c];rfl,h⟩
  .exact h.elim
theorem j4 (hJ:Closed P main J){y:Value}{args:Array Value}{ro:Addr->Option Value}{own:List (Nat×Obj)}{R:Value->List (Nat×Obj)->Prop}(pre:List (Nat×Obj))
  (h:∀(main:Bool) (J:Goroutine->af->Prop),Closed P main J->gI P J y args ⟨ro,own⟩ (fun v F'=>∃a,Le ⟨ro,a⟩ F'/\R v a)) (p:aY (keys (pre++own))) {K:Value->af->Prop}
  (s:∀v a,R v a->aY (keys (pre++a))->K v ⟨ro,pre++a⟩):gI P J y args ⟨ro,pre++own⟩ K:=by
 have key:∀jy:Frame,(∀(main:Bool) (J:Goroutine->af->Prop),Closed P main J->qK J jy ⟨ro,own⟩ (fun v F'=>∃a,Le ⟨ro,a⟩ F'/\R v a))->qK J jy ⟨ro,pre++own⟩ K:=fun jy d=>
  zH hJ pre [] av R (fun m e f c cs hK=>d m e f c cs fun v F' t=>hK v F' (by obtain ⟨o,b,g⟩:=t;exact ⟨o,g,b⟩)) fun v u w a k i=>by
   rw[List.append_nil] at k
   subst k
   exact ⟨_,Le.refl _,s v u w i⟩
 have d:=h main J hJ
 unfold gI at d ⊢
 split at d
 .rename_i fn first captured
  refine ⟨d.1,key _ fun m e f=>?_⟩
  have:=h m e f
  unfold gI at this
  exact this.2
 .rename_i l first captured
  obtain ⟨e1,e2,r,b,g,_⟩:=d
  refine ⟨e1,e2,r,?_,g,key _ fun m e f=>?_⟩
  .have hm:l∈keys own:=by
    unfold af.fy at b
    split at b
    .rename_i o x;exact fe (gS x)
    .cases b
   have i:l∉keys pre:=fun z=>by
    have:=p.nd
    rw[cE] at this
    exact (List.nodup_append.1 this).2.2 l z l hm rfl
   have A:∀(pre:List (Nat×Obj)),l∉keys pre->lk (pre++own) l=lk own l:=fun pre=>by
    induction pre with
    |nil=>intro _;rfl
    |cons q pre ih=>
     intro j
     simp only[keys,List.map_cons,List.mem_cons,not_or] at j
     simp only[List.cons_append,lk,if_neg (Ne.symm j.1)]
     exact ih j.2
   unfold af.fy at b ⊢
   simp only at b ⊢
   rw[A pre i]
   exact b
  .have:=h m e f
   unfold gI at this
   obtain ⟨_,_,C,n,D,B⟩:=this
   rw[b] at n
   cases n
   exact B
 .exact d.elim
theorem c8.less (hJ:Closed P main J){f:FuncId}{args:Array Value}{F:af}{R:Value->af->Prop}(h:c8 P J f args F (fun v F'=>∃F0,Le F0 F'/\R v F0)):c8 P J f args F R:=
 fun c cs hK=>h c cs fun v F' ⟨F0,hle,a⟩=>hJ.mono hle (hK v F0 a)
def zT (P:Program)(rs:List ResultVar)(R:Value->af->Prop):Ex->Act->af->Prop
 | .exit _,_,_=>False
 |_,a,F=>ig P a.defers (fun F=>match lV P F a rs with|some v=>R v F|none=>False) F
theorem zU {K b:af->Prop}(h:∀F,K F->b F):∀(a:List Deferred) (F:af),ig P a K F->ig P a b F
 |[],F,x=>h F x
 |d::a,F,⟨r,e,f⟩=>⟨r,e,gW (fun calls F' c=>⟨c.1,zU h a F' c.2⟩) _ _ f⟩
theorem aA.qQ {f:FuncId}{fn:Func}{c:Code}{n:Nat}{rs:List ResultVar}{args:Array Value}{F:af}{R:Value->af->Prop}(g:P.funcs[f]?=some fn)(hb:fn.body=some c)(j:fn.ntmps=n)(k:fn.results=rs.toArray)(l:args.size<=n)
  (h:∀main J,Closed P main J->∀A:Act,sz A=n->A.defers=[]->(∀i,slot A i=args.getD i undef)->Wp J c (zT P rs R) A F):aA P f args F R:=
 aA.start g hb j l fun main J hJ A m o p=>(h main J hJ A m o p).mono fun e a F b=>by
  have key:ig P a.defers (fun F=>match lV P F a rs with|some v=>R v F|none=>False) F->ig P a.defers (fun F=>bp P (results fn a.tmps) R F) F:=zU (fun F d=>by
   split at d
   .rename_i v q;exact qx k q d
   .exact d.elim) _ _
  cases e with
  |exit i=>exact b
  |normal=>exact key b
  |ret=>exact key b
theorem c8.go (hJ:Closed P main J){f:FuncId}{fn:Func}{c:Code}{n:Nat}{rs:List ResultVar}{args:Array Value}{F:af}{R:Value->af->Prop}(k:P.funcs[f]?=some fn)(hb:fn.body=some c)(g:fn.ntmps=n)(l:fn.results=rs.toArray)(o:args.size<=n)
  (h:∀A:Act,sz A=n->A.defers=[]->(∀i,slot A i=args.getD i undef)->Wp J c (iU P rs R) A F):c8 P J f args F R:=by
 refine c8.of_wp hJ k hb ?_
 refine (h _ (by simp[sz,g];omega) rfl fun i=>?_).mono fun e a F j=>?_
 .simp only[slot,g,Array.getD_eq_getD_getElem?]
  rcases Nat.lt_or_ge i args.size with b|b
  .rw[Array.getElem?_append_left b]
  .rw[Array.getElem?_append_right b,Array.getElem?_replicate,Array.getElem?_eq_none b]
   split<;>rfl
 .cases e with
  |exit i=>exact j
  |_=>
   obtain ⟨hd,d⟩:=j
   split at d
   .rename_i v m
    show ig P a.defers _ F
    rw[hd]
    exact qx l m d
   .exact d.elim
theorem DU {d:Nat}{X:Nat->Prop}:(∃r,Target.collected d=Target.collected r/\X r)=X d:=propext ⟨fun ⟨r,a,b⟩=>by cases a;exact b,fun h=>⟨d,rfl,h⟩⟩
attribute [go_sem] DU DQ DR DS zT DT af.fy Obj.oo Obj.isChan
end
section
variable {P:Program}
theorem zV {argTypes:Array TypeId}{t e ty:TypeId}{R:Value->af->Prop}{F:af}{ad:Option Addr}{n c:Nat}(ht:argTypes[0]?=some t)(hu:P.underlying t=some (.slice e))(h:R (.int .i64 c) F):ff P (Builtin.cap_ argTypes ty #[.slice ad n c]) R F:=by
 unfold ff;simp only[Builtin.cap_,ht,List.getElem?_toArray,List.getElem?_cons_zero,bF,dO,hu,bP];exact h
theorem DV (z:Value)(n:Nat):(Builtin.zeroCells #[z] n).toList=List.replicate n z:=by
 simp only[Builtin.zeroCells,List.size_toArray,List.length_cons,List.length_nil,Nat.zero_add,Nat.mul_one,Nat.mod_one];rw[Array.toList_map,Array.toList_range];apply List.ext_getElem
 .simp
 .intro i a b;simp
theorem DW {ro:Addr->Option Value}{pre bw:List (Nat×Obj)}{argTypes:Array TypeId}{t e ty:TypeId}{R:Value->af->Prop}{b off n c:Nat}{arr:Array Value}{z zc:Value}(ht:argTypes[0]?=some t)(hu:P.underlying t=some (.slice e))(a:zeroOf P e=some z)(d:z.cells=#[zc])(f:bN zc=true)
  (l:0<n) (g:au pre b) (i:off+n<=arr.size)
  (h:R (.tuple #[]) ⟨ro,pre++((b,.cells (cU arr off (List.replicate n zc)) e)::bw)⟩):
  ff P (Builtin.clear_ argTypes ty #[.slice (some ⟨b,off,none⟩) n c]) R ⟨ro,pre++((b,.cells arr e)::bw)⟩:=by
 unfold ff
 have m:n≠0:=aa
 obtain ⟨k,rfl⟩:∃k,n=k+1:=⟨n - 1,aa⟩
 simp only[Builtin.clear_,ht,List.getElem?_toArray,List.getElem?_cons_zero,bF,dO,hu,lK,a,d]
 refine qj _ _ 0 _ ⟨ro,pre++((b,.cells (cU arr off (List.replicate (k+1) zc)) e)::bw)⟩ ?_ ?_
 .rw[DV]
  have:=uq (ro:=ro) (bw:=bw) (e:=e) g off (List.replicate (k+1) zc) arr 0 (fun v j=>by rw[List.eq_of_mem_replicate j];exact f) (by simpa using i)
  simpa using this
 .simp only[bP]
  exact h
end
theorem aZ.zW {T:Type}{r:cc T}{ro:Addr->Option Value}{e:TypeId}{v:Value}{l:List T}{bh:List (Nat×Obj)}(h:aZ r ro e v l bh){own:List (Nat×Obj)}(pre bw:List (Nat×Obj))(f:own=pre++(bh++bw))(g:aY (keys own)):aB r (af.cG ⟨ro,own⟩).ro v l:=by
 subst f;obtain ⟨ls,hg,c,hm,k⟩:=h;rcases hg with ⟨rfl,rfl,rfl⟩|⟨b,arr,cap,rfl,rfl,hs,hle,ht,d,m⟩
 .have:l=[]:=List.eq_nil_of_length_eq_zero (by simpa using c.symm);subst this;exact aB.nil r _
 .have o:au pre b:=Nd.fresh g.nd b (by simp[keys]);refine ⟨some ⟨b,0,none⟩,cap,by rw[c],aa,aa,fun i x p=>?_⟩;obtain ⟨cs,q,s⟩:=k i x p;refine ⟨_,cs,rfl,r.mono bg s,fun j v t=>?_⟩;have a:=oM ls i cs d q j v t;rw[kJ,kK,Nat.zero_add];have u:i*r.n+j<ls.length*r.n:=by
   have:=(List.getElem?_eq_some_iff.1 a).1;rw[ij d] at this;exact this
  rw[<-ht,List.getElem?_take_of_lt u] at a;show af.get ⟨ro,pre++([(b,Obj.cells arr e)]++bw)⟩ ⟨b,i*r.n+j,none⟩=some v;simp only[af.get,m,if_true,List.cons_append,List.nil_append,qJ o,Option.bind_some,cellOf];simpa using a
theorem aB.two {T:Type}{r:cc T}{ro:Addr->Option Value}{own:List (Nat×Obj)}{b:Nat}{x y:T}{v u:Value}{e:TypeId}(d:∀off sp,ro ⟨b,off,sp⟩=none)(g:lk own b=some (.cells #[v,u] e))(f:r.n=1)(h:r.rel ro x [v])(k:r.rel ro y [u]):
  aB r (bR ro b (.cells #[v,u] e)) (.slice (some ⟨b,0,none⟩) 2 2) [x,y]:=by
 refine ⟨some ⟨b,0,none⟩,2,rfl,Nat.le_refl _,av,fun i z a=>?_⟩
 have:(i=0/\z=x)\/(i=1/\z=y):=by
  cases i with
  |zero=>simp at a;exact .inl ⟨rfl,a.symm⟩
  |succ i=>cases i with
   |zero=>simp at a;exact .inr ⟨rfl,a.symm⟩
   |succ i=>simp at a
 rcases this with ⟨rfl,rfl⟩|⟨rfl,rfl⟩
 .refine ⟨_,_,rfl,r.mono (gr _ _ _) h,fun j w c=>?_⟩
  cases j with
  |zero=>
   rw[Nat.zero_mul,add_zero',kK,Nat.zero_add,fE d]
   simpa [cellOf] using c
  |succ j=>simp at c
 .refine ⟨_,_,rfl,r.mono (gr _ _ _) k,fun j w c=>?_⟩
  cases j with
  |zero=>
   rw[f,kJ,kK,fE d]
   simpa [cellOf] using c
  |succ j=>simp at c
theorem aZ.clear {ro:Addr->Option Value}{e:TypeId}{b n cap k:Nat}{x:List Int}{arr:Array Value}(h:aZ rI ro e (.slice (some ⟨b,0,none⟩) n cap) x [(b,.cells arr e)])(u:k<=x.length):
  aZ rI ro e (.slice (some ⟨b,0,none⟩) k cap) (x.take k) [(b,.cells (cU arr k (List.replicate (n - k) (.int .i64 0))) e)]:=by
 obtain ⟨ls,hg,w,hm,l⟩:=h
 rcases hg with ⟨a,_,_⟩|⟨y,A,m,a,o,hs,hle,ht,f,p⟩
 .cases a
 .cases o
  obtain ⟨rfl,rfl⟩:n=ls.length/\cap=m:=by cases a;exact ⟨rfl,rfl⟩
  have d:rI.n=1:=rfl
  rw[d] at hs ht f
  simp only[Nat.mul_one] at hs ht
  have c:(ls.take k).length=k:=by rw[List.length_take];omega
  refine ⟨ls.take k,.inr ⟨b,_,cap,by rw[c],rfl,by rw[qs];rw[d,Nat.mul_one];exact hs,by rw[c];omega,?_,?_,p⟩,by rw[c,List.length_take];omega,by rw[List.length_take];omega,?_⟩
  .rw[qt _ _ _ (by simp;omega),c,d,Nat.mul_one,List.append_assoc,List.take_append_of_le_length (by rw[List.length_take,Array.length_toList];omega),List.take_take,Nat.min_self]
   have e1:arr.toList.take k=(arr.toList.take ls.length).take k:=by rw[List.take_take,Nat.min_eq_left aa]
   rw[e1,ht]
   have e2:ls.flatten=(ls.take k).flatten++(ls.drop k).flatten:=by rw[<-List.flatten_append,List.take_append_drop]
   have j:(ls.take k).flatten.length=k:=by rw[ij (size:=1) (fun z g=>f z (List.mem_of_mem_take g)),c,Nat.mul_one]
   rw[e2,List.take_append_of_le_length (Nat.le_of_eq j.symm),List.take_of_length_le (Nat.le_of_eq j)]
  .intro z g
   rw[d];exact f z (List.mem_of_mem_take g)
  .intro i v a
   obtain ⟨q,r⟩:i<k/\x[i]?=some v:=by
    rw[List.getElem?_take] at a
    split at a
    .exact ⟨‹_›,a⟩
    .cases a
   obtain ⟨cs,s,t⟩:=l i v r
   exact ⟨cs,by rw[List.getElem?_take,if_pos q];exact s,t⟩
section
variable {P:Program}
theorem DX {t:TypeId}{R:Value->af->Prop}{F:af}(h:∀b,ez F b->R (.map (some b)) (F.push b (.map #[] 0))):ff P (Instr.makeMap t none) R F:=by
 unfold ff;simp only[Instr.makeMap,bF,ov,bP];exact ⟨rfl,h⟩
theorem DY {argTypes:Array TypeId}{t a b ty:TypeId}{r:Nat}{es:Array MapEntry}{clock:Nat}{R:Value->af->Prop}{F:af}(ht:argTypes[0]?=some t)(hu:P.underlying t=some (.map a b))(c:F.fy r=some (.map es clock))(h:R (.int .i64 (es.size:Int)) F):
  ff P (Builtin.len_ argTypes ty #[.map (some r)]) R F:=by
 unfold ff
 simp only[Builtin.len_,ht,List.getElem?_toArray,List.getElem?_cons_zero,bF,dO,hu,mO]
 exact ⟨_,c,h⟩
theorem zX {d:TypeId}{key:Value}{F:af}{Q:Option (Nat×Value)->af->Prop}:∀(l:List MapEntry) (i:Nat),
  (∀e∈l,∃b,(∀(Q:Bool->af->Prop),Q b F->bp P (Op.equal d key e.key) Q F)/\(b=true↔e.key=key))->
  (∀j e,l[j]?=some e->e.key=key->Q (some (i+j,e.val)) F)->((∀e∈l,¬e.key=key)->Q none F)->bp P (Instr.findAsking d key l i) Q F
 |[],i,_,_,a=>a av
 |e::l,i,f,g,a=>by
  obtain ⟨b,hb,h⟩:=f e av
  simp only[Instr.findAsking,bF]
  refine hb _ ?_
  cases b with
  |true=>exact g 0 e rfl (h.1 rfl)
  |false=>
   have k:¬e.key=key:=fun x=>by have:=h.2 x;cases this
   refine zX l (i+1) (fun x c=>f x (by simp[c])) (fun j x c he=>?_) (fun m=>a (by simpa [k] using m))
   have:=g (j+1) x (by simpa using c) he
   rwa [show i+1+j=i+(j+1) by omega]
theorem modify_keys {es:Array MapEntry}{i:Nat}{key val:Value}{e:MapEntry}(b:es[i]?=some e)(he:e.key=key):(es.modify i fun e=>{e with key:=key,val:=val}).toList.map (·.key)=es.toList.map (·.key):=by
 apply List.ext_getElem?;intro j;simp only[List.getElem?_map,Array.toList_modify,List.getElem?_modify];by_cases a:i=j
 .subst a;have:es.toList[i]?=some e:=by simpa using b
  simp[this,he]
 .simp[a]
theorem DZ {t c q f n:TypeId}{r:Nat}{es:Array MapEntry}{clock:Nat}{key val:Value}{R:Value->af->Prop}{F:af}(hu:P.underlying t=some (.map c q))(g:F.fy r=some (.map es clock))
  (s:∀Q:Unit->af->Prop,Q () F->bp P (Instr.checkKey false 10000 c key) Q F) (u:P.underlying c=some (.array n f))
  (v:∀e∈es.toList,∃b,(∀(Q:Bool->af->Prop),Q b F->bp P (Op.equal c key e.key) Q F)/\(b=true↔e.key=key))
  (h:∀d w,((key∈es.toList.map (·.key)/\d.toList.map (·.key)=es.toList.map (·.key))\/(key∉es.toList.map (·.key)/\d.toList.map (·.key)=es.toList.map (·.key)++[key]))->R undef (F.put r (.map d w))):
  ff P (Instr.mapUpdate t (.map (some r)) key val>>= fun _=>pure undef) R F:=by
 unfold ff
 simp only[Instr.mapUpdate,bF,dO,hu,mO]
 refine ⟨_,g,?_⟩
 simp only[bF]
 refine s _ ?_
 have k:(F.fy r).isSome=true:=by rw[g];rfl
 have step:bp P (Instr.findAsking c key es.toList) (fun a G=>bp P (match a with
   |some (i,_)=>do
    let key<-Instr.keyThatStays (((es[i]?).map (·.key)).getD key) key
    setObj r (.map (es.modify i fun e=>{e with key,val}) clock)
   |none=>setObj r (.map (es.push {key,val,born:=clock}) (clock+1))) (fun _ G=>bp P (pure undef) R G) G) F:=by
  refine zX _ 0 v (fun j e m he=>?_) (fun x=>?_)
  .simp only[Nat.zero_add,bF]
   have o:es[j]?=some e:=by simpa using m
   rw[o]
   simp only[Option.map_some,Option.getD_some,he]
   have fin:bp P (setObj r (.map (es.modify j fun e=>{e with key:=key,val:=val}) clock)) (fun _ G=>bp P (pure undef) R G) F:=by
    simp only[lJ,bP]
    refine ⟨rfl,k,h _ _ (.inl ⟨?_,modify_keys o he⟩)⟩
    rw[<-he]
    exact List.mem_map_of_mem (List.mem_of_getElem? m)
   unfold Instr.keyThatStays
   rw[dH]
   split
   .exact fin
   .simp only[bF,tu]
    split
    .simp only[bP,ite_self];exact fin
    .intro t;simp only[bP,ite_self];exact fin
  .simp only[lJ,bP]
   refine ⟨rfl,k,h _ _ (.inr ⟨?_,av⟩)⟩
   intro hm
   obtain ⟨e,he,y⟩:=List.mem_map.1 hm
   exact x e he y
 unfold Instr.findKey
 simp only[bF,dO,u]
 cases p:es.toList with
 |nil=>
  rw[p] at step
  exact step
 |cons e l=>
  have:Instr.findNow (.array n f) key (e::l) 0=none:=rfl
  rw[this]
  rw[p] at step
  exact step
end
theorem bS {α β:Type}{x:Option α}{f:α->Option β}{r:β}{G:Prop}(k:∀a,x=some a->f a=some r->G)(h:aj x f=some r):G:=by
 obtain ⟨a,b,c⟩:=dJ h;exact k a b c
def bO:Code->Code
 | .seq _ b=>b
 |c=>c
theorem sI {α:Type}{x r:α}(h:some x=some r):x=r:=Option.some.inj h
theorem az {ro:Addr->Option Value}{own:List (Nat×Obj)}{G:Nat->Prop}(h:∀b,(∀off sp,ro ⟨b,off,sp⟩=none)->au own b->G b):∀b,ez ⟨ro,own⟩ b->G b:=fun b f=>h b (dI f) (ew f)
theorem bC:(∀(ro:Addr->Option Value) (b:Nat) (o:Obj) (l:List (Nat×Obj)),aF ro ((b,o)::l)=((∀off sp,ro ⟨b,off,sp⟩=none)/\aF ro l))/\(∀l:List (Nat×Obj),[]++l=l)/\(∀l:List (Nat×Obj),l++[]=l)/\
  (∀(x:Nat×Obj) (l m:List (Nat×Obj)),x::l++m=x::(l++m))/\∀l m n:List (Nat×Obj),l++m++n=l++(m++n):=
 ⟨fun _ _ _ _=>propext ⟨fun h=>⟨h.hd,h.tl⟩,fun h=>aF.cons h.1 h.2⟩,fun _=>rfl,List.append_nil,fun _ _ _=>rfl,List.append_assoc⟩
theorem aB.el {T:Type}{r:cc T}{ro:Addr->Option Value}{ad:Option Addr}{n cap:Nat}{l:List T}(h:aB r ro (.slice ad n cap) l):
  ∀i x,l[i]?=some x->∃p cs,ad=some p/\r.rel ro x cs/\∀j v,cs[j]?=some v->ro ((p.add (i*r.n)).add j)=some v:=by
 obtain ⟨a,b,e,_,_,h⟩:=h
 cases e
 exact h
theorem aY.tl {b:Nat}{ks:List Nat}(h:aY (b::ks)):aY ks:=⟨(List.nodup_cons.1 h.nd).2⟩
theorem aY.cut {l:List (Nat×Obj)}(h:aY (keys l))(i n:Nat):aY (keys (l.take i++l.drop (i+n))):=
 ⟨(((List.Sublist.append_left (show (l.drop (i+n)).Sublist (l.drop i) by rw[<-List.drop_drop];exact List.drop_sublist _ _) (l.take i)).trans (by rw[List.take_append_drop];exact List.Sublist.refl _)).map _).nodup h.nd⟩
theorem aZ.fj {T:Type}{r:cc T}{ro:Addr->Option Value}{e:TypeId}{v:Value}{l:List T}{bh:List (Nat×Obj)}(h:aZ r ro e v l bh){own:List (Nat×Obj)}(pre bw:List (Nat×Obj))(a:aY (keys own))(b:aF ro (pre++bw))
  (c:own=pre++(bh++bw):=by first|rfl|simp only[bn]|(simp only[bn];rfl)):
  ∃aT,Ext ro aT/\aF aT (pre++bw)/\aB r aT v l/\Le ⟨aT,pre++bw⟩ ⟨ro,own⟩:=h.kS _ pre bw c rfl a b
theorem aB.oc {T:Type}{r:cc T}{ro:Addr->Option Value}{s:Value}{l:List T}(h:aB r ro s l):bN s=true:=by
 obtain ⟨_,_,e,_⟩:=h;rw[e];rfl
theorem D1 {p:Nat->Prop}{a:Nat}{l:List Nat}:(∀i,i∈a::l->p i)=(p a/\∀i,i∈l->p i):=propext List.forall_mem_cons
theorem D2 {p:Nat->Prop}:(∀i,i∈([]:List Nat)->p i)=True:=propext ⟨fun _=>trivial,fun _ _ h=>(by cases h)⟩
section
variable {P:Program}{main:Bool}{J:Goroutine->af->Prop}{Q:Ex->Act->af->Prop}{a:Act}{F:af}
theorem cr (hJ:Closed P main J){f:FuncId}{args:Array Value}{ro:Addr->Option Value}{own:List (Nat×Obj)}{K:Value->af->Prop}(R:Value->(Addr->Option Value)->Prop)(h:eT P f args ro R)
  (a:∀v aT,Ext ro aT->aF aT own->R v aT->K v ⟨aT,own⟩):c8 P J f args ⟨ro,own⟩ K:=tX hJ R h a
theorem qR {Φ:Goroutine->af->Prop}{f:FuncId}{args:Array Value}{ro:Addr->Option Value}{own:List (Nat×Obj)}{K:Value->af->Prop}(R:Value->(Addr->Option Value)->Prop)(h:oO P f args ro R)
  (a:∀v aT,Ext ro aT->aF aT own->R v aT->K v ⟨aT,own⟩):c8 P (eH P Φ) f args ⟨ro,own⟩ K:=C2 R h a
theorem cS {α:Type}{b:Bool}{e1 e2:Option α}{r:α}{G:Prop}(c:b=true->e1=some r->G)(d:b=false->e2=some r->G)(h:cond b e1 e2=some r):G:=by
 rcases gJ h with ⟨a,b⟩|⟨a,b⟩
 .exact c a b
 .exact d a b
theorem jC {α:Type}(hJ:Closed P main J){c:Operand}{x y:Code}{b:Bool}{e1 e2:Option α}{r:α}(d:ev a c= .bool b)(f:b=true->e1=some r->Wp J x Q a F)(g:b=false->e2=some r->Wp J y Q a F)(h:cond b e1 e2=some r):Wp J (.cond c x y) Q a F:=by
 refine CO hJ b d (fun e=>f e ?_) fun e=>g e ?_
 .rw[e] at h;exact h
 .rw[e] at h;exact h
theorem cz (hJ:Closed P main J){c:Operand}{x y:Code}(h:Wp J x Q a F)(b:ev a c= .bool true:=by simp (maxSteps:=9^9) only[*,go_sem]):Wp J (.cond c x y) Q a F:=c5 hJ b h
theorem cB (hJ:Closed P main J){c:Operand}{x y:Code}(h:Wp J y Q a F)(b:ev a c= .bool false:=by simp (maxSteps:=9^9) only[*,go_sem]):Wp J (.cond c x y) Q a F:=cW hJ b h
theorem aX {α:Type}(hJ:Closed P main J){c:Operand}{x y:Code}{b:Bool}{e1 e2:Option α}{r:α}(d:b=true->e1=some r->Wp J x Q a F)(e:b=false->e2=some r->Wp J y Q a F)(f:ev a c= .bool b:=by simp (maxSteps:=9^9) only[*,go_sem]):cond b e1 e2=some r->Wp J (.cond c x y) Q a F:=jC hJ f d e
structure uE (Q:Ex->Act->af->Prop)(K:Act->af->Prop):Prop where
 go:∀{a F},Q .normal a F->K a F
theorem cM (hJ:Closed P main J)(b:P.follows .mixedOrders=true)(m n:Nat){id:Nat}{ops:Array Oper}(c:Knows ⟨F.ro,F.own.take n⟩ F)(d:mT ops m=true)
  (h:eF P J ops ⟨F.ro,F.own.take n⟩ (fun e=>eZ P J ops ⟨F.ro,F.own.take n⟩ (Q .normal) (ops.toList.drop m) true e F) (ops.toList.take m) true a):Wp J (.region id ops true) Q a F:=eg hJ b m _ c d h
theorem oV (hJ:Closed P main J)(b:P.follows .mixedOrders=true)(m n:Nat){id:Nat}{ops:Array Oper}(c:Knows ⟨F.ro,F.own.take n⟩ F)(d:mT ops m=true)
  (h:∀K,uE Q K->eF P J ops ⟨F.ro,F.own.take n⟩ (fun e=>eZ P J ops ⟨F.ro,F.own.take n⟩ K (ops.toList.drop m) true e F) (ops.toList.take m) true a):Wp J (.region id ops true) Q a F:=eg hJ b m _ c d (h _ ⟨fun h=>h⟩)
theorem eN (hJ:Closed P main J){id:Nat}{ops:Array Oper}(h:∀K,uE Q K->fh P J ops K ops.toList true a F):Wp J (.region id ops false) Q a F:=aG hJ (h _ ⟨fun h=>h⟩)
theorem j5 (hJ:Closed P main J)(b:P.follows .mixedOrders=true)(cj:List Nat)(p:cA){id:Nat}{ops:Array Oper}(F0:af)(c:Knows F0 F)
  (d:(Region.noSelect ops&&decide (p.len<=ops.size)&&p.ok ops cj (Array.replicate ops.size false))=true)
  (h:∀K,uE Q K->cq P J ops F0 K (p.opers ops) true a F):Wp J (.region id ops true) Q a F:=e5 hJ b cj p F0 c d (h _ ⟨fun h=>h⟩)
theorem eU {c:Code}(L:List Nat){a:Act}(h:∀A,sz A=sz a->A.defers=a.defers->(∀i∈L,slot A i=slot a i)->Wp J c Q A F):Wp J c Q a F:=h a rfl rfl fun _ _=>rfl
theorem cR.pick {ws:List Nat}{A a:Act}(h:cR ws A a)(L:List Nat)(b:(L.all fun i=>!gY ws i)=true):sz A=sz a/\A.defers=a.defers/\∀i∈L,slot A i=slot a i:=
 ⟨h.size,h.defers,fun i c=>h.fD i fun x=>by
  have d:=List.all_eq_true.1 b i c
  have e:gY ws i=true:=by
   unfold In at x
   exact x
  simp[e] at d⟩
theorem eI {T:Type}{r:cc T}{ro:Addr->Option Value}{bh:List (Nat×Obj)}{R:Value->af->Prop}{argTypes:Array TypeId}{d f e h e2:TypeId}{a b:Nat}{s z:Value}{l:List T}{x:T}{cs:Array Value}{own:List (Nat×Obj)}(pre bw:List (Nat×Obj))
  (hg:aZ r ro e s l bh) (i:aY (keys own)) (j:l.length+[x].length<=1000000) (k:r.rel ro x cs.toList) (m:lk pre b=some (.cells cs e2)) (o:∀off sp,ro ⟨b,off,sp⟩=none)
  (p:argTypes[0]?=some d) (q:argTypes[1]?=some f) (he:c9 P d=some e) (t:c9 P f=some h) (hs:bZ P e=some r.n) (u:zeroOf P e=some z) (w:z.cells.size=r.n) (hb:bytesOf P e=some a)
  (y:0<a) (A:a<=10000)
  (B:∀v g,aZ r ro e v (l++[x]) g->∀c,c=pre++(g++bw)->aY (keys c)->∃F0,Le F0 ⟨ro,c⟩/\R v F0)
  (C:own=pre++(bh++bw):=by first|rfl|simp only[bn]|(simp only[bn];rfl)):lT P argTypes s (.slice (some ⟨b,0,none⟩) 1 1) R ⟨ro,own⟩:=
 uu pre bw C hg i j k m o p q he t hs u w hb y A B
theorem oW {T:Type}{r:cc T}{ro:Addr->Option Value}{bh:List (Nat×Obj)}{R:Value->af->Prop}{argTypes:Array TypeId}{d f e h:TypeId}{a c:Nat}{ad:Option Addr}{s z:Value}{l xs:List T}{own:List (Nat×Obj)}(pre bw:List (Nat×Obj))
  (hg:aZ r ro e s l bh) (i:aY (keys own)) (j:l.length+xs.length<=1000000) (k:aB r ro (.slice ad xs.length c) xs)
  (m:argTypes[0]?=some d) (o:argTypes[1]?=some f) (he:c9 P d=some e) (p:c9 P f=some h) (hs:bZ P e=some r.n) (q:zeroOf P e=some z) (t:z.cells.size=r.n) (hb:bytesOf P e=some a)
  (u:0<a) (w:a<=10000)
  (x:∀v g,aZ r ro e v (l++xs) g->∀b,b=pre++(g++bw)->aY (keys b)->∃F0,Le F0 ⟨ro,b⟩/\R v F0)
  (y:own=pre++(bh++bw):=by first|rfl|simp only[bn]|(simp only[bn];rfl)):lT P argTypes s (.slice ad xs.length c) R ⟨ro,own⟩:=
 DC pre bw y hg i j k m o he p hs q t hb u w x
theorem ei (hJ:Closed P main J){f:FuncId}{args:Array Value}{ro:Addr->Option Value}{bh:List (Nat×Obj)}{K:Value->af->Prop}{own:List (Nat×Obj)}(pre bw:List (Nat×Obj))(R:Value->List (Nat×Obj)->Prop)(h:aA P f args ⟨ro,bh⟩ (fun v G=>∃a,R v a/\Le ⟨ro,a⟩ G))
  (c:∀v a,R v a->∀b,b=pre++(a++bw)->aY (keys b)->∃F0,Le F0 ⟨ro,b⟩/\K v F0)
  (d:own=pre++(bh++bw):=by first|rfl|simp only[bn]|(simp only[bn];rfl)):c8 P J f args ⟨ro,own⟩ K:=DD hJ pre bw d R h c
end
end Go.Sep
end

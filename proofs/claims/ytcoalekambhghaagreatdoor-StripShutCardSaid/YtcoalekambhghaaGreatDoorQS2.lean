/- A part of the proof: QS2. -/
import Derived.Test.YtcoalekambhghaaGreatDoorQS1
import Derived.WalkKit
import Derived.Laws.Strings
import Derived.IntWalk
import Derived.NoCompilerSame
import Derived.Test.YtcoalekambhghaaGreatDoorProg
set_option linter.all false
section
namespace Go.Sep
open Go Go.Conc
section
variable {α β:Type}{P:Program}{Q:α->ag->Prop}{F:ag}
@[go_sem] theorem bF (a:α):bx P (Pure.pure a) Q F=Q a F:=rfl
@[go_sem] theorem Jv (a:α):bx P (Sem.pure a) Q F=Q a F:=rfl
@[go_sem] theorem bC {R:β->ag->Prop}(x:Sem α)(f:α->Sem β):bx P (x>>= f) R F=bx P x (fun a G=>bx P (f a) R G) F:=propext (xe x F)
@[go_sem] theorem Jw {R:β->ag->Prop}(x:Sem α)(f:α->β):bx P (Functor.map f x) R F=bx P x (fun a G=>R (f a) G) F:=propext (xe x F)
@[go_sem] theorem dm (c:Prop)[Decidable c](x y:Sem α):bx P (if c then x else y) Q F=if c then bx P x Q F else bx P y Q F:=by split<;>rfl
@[go_sem] theorem xK {Q:Value->ag->Prop}(a:Addr):bx P (load a) Q F=∃v,F.get a=some v/\Q v F:=by simp[load,bx]
@[go_sem] theorem BZ {Q:Unit->ag->Prop}(a:Addr)(v:Value):bx P (store a v) Q F=∃F',F.ku a v=some F'/\Q () F':=by simp[store,bx]
theorem nJ {Q:Nat->ag->Prop}(o:Obj):bx P (newObj o) Q F=(o.isChan=false/\∀b,dx F b->Q b (F.push b o)):=rfl
theorem jh {Q:Program->ag->Prop}:bx P program Q F=Q P F:=rfl
theorem xL {Q:Nat->ag->Prop}(q:Question):bx P (choose q) Q F=if q.forced then Q 0 F else ∀t,Q (q.cut t) F:=rfl
theorem gW {Q:Obj->ag->Prop}(r:Nat):bx P (getObj r) Q F=∃o,F.c7 r=some o/\Q o F:=rfl
theorem iK {Q:Unit->ag->Prop}(r:Nat)(o:Obj):bx P (Go.setObj r o) Q F=(o.isChan=false/\(F.c7 r).isSome=true/\Q () (F.put r o)):=rfl
theorem Jx (s:String):bx P (stuck s:Sem α) Q F=False:=rfl
theorem Jy {Q:Unit->ag->Prop}(m:Mark):bx P (mark m) Q F=(nD m=true/\Q () F):=rfl
attribute [go_sem] nJ jh xL gW iK Jx Jy
@[go_sem] theorem c5 {Q:TypeDesc->ag->Prop}(t:TypeId):bx P (underlying t) Q F=match P.underlying t with|some d=>Q d F|none=>False:=by
 simp only[underlying,bC,jh];cases P.underlying t<;>rfl
@[go_sem] theorem sA {Q:TypeInfo->ag->Prop}(t:TypeId):bx P (typeInfo t) Q F=match P.info? t with|some d=>Q d F|none=>False:=by
 simp only[typeInfo,bC,jh];cases P.info? t<;>rfl
def cp (P:Program)(t:TypeId):Option Nat:=(P.info? t).map (·.size)
def zeroOf (P:Program)(t:TypeId):Option Value:=(P.info? t).bind (·.zero)
def bytesOf (P:Program)(t:TypeId):Option Nat:=(P.info? t).map (·.bytes)
@[go_sem] theorem eC {Q:Nat->ag->Prop}(t:TypeId):bx P (sizeOf t) Q F=match cp P t with|some n=>Q n F|none=>False:=by
 simp only[sizeOf,bC,sA,cp];cases P.info? t<;>rfl
@[go_sem] theorem lz {Q:Value->ag->Prop}(t:TypeId):bx P (zeroValue t) Q F=match zeroOf P t with|some n=>Q n F|none=>False:=by
 simp only[zeroValue,bC,sA,zeroOf];cases P.info? t with
 |none=>rfl
 |some i=>simp only[Option.bind_some];cases i.zero<;>rfl
def cF (P:Program)(t:TypeId):Option Bool:=(P.underlying t).map fun| .struct _=>true| .array _ _=>true|_=>false
@[go_sem] theorem lA {Q:Bool->ag->Prop}(t:TypeId):bx P (isAgg t) Q F=match cF P t with|some n=>Q n F|none=>False:=by
 simp only[isAgg,bC,c5,cF];cases P.underlying t with
 |none=>rfl
 |some d=>cases d<;>rfl
def ag.kA (F:ag)(a:Addr):Nat->List Value->Prop
 |_,[]=>True
 |i,v::vs=>F.get (a.add i)=some v/\F.kA a (i+1) vs
theorem sB {Q:Array Value->ag->Prop}(a:Addr):∀(vs:List Value) (i:Nat) (acc:Array Value),F.kA a i vs->Q (acc++vs.toArray) F->bx P (loadCellsFrom a i vs.length acc) Q F
 |[],i,acc,_,h=>by simpa [loadCellsFrom,bF] using h
 |v::vs,i,acc,hg,h=>by
  simp only[List.length_cons,loadCellsFrom,bC,xK]
  refine ⟨v,hg.1,sB a vs (i+1) (acc.push v) hg.2 ?_⟩
  simpa using h
theorem B1 {Q:Value->ag->Prop}{t:TypeId}{a:Addr}(vs:List Value)(ht:cF P t=some true)(hs:cp P t=some vs.length)(hg:F.kA a 0 vs)(h:Q (.agg vs.toArray) F):bx P (loadVar t a) Q F:=by
 simp only[loadVar,bC,lA,ht,dm,if_true,eC,hs,loadCells];exact sB a vs 0 #[] hg (by simpa [bF] using h)
theorem B2 {Q:Value->ag->Prop}{t:TypeId}{a:Addr}(v:Value)(ht:cF P t=some false)(hg:F.get a=some v)(h:Q v F):bx P (loadVar t a) Q F:=by
 simp only[loadVar,bC,lA,ht,dm,xK];exact ⟨v,hg,h⟩
def ag.ig (F:ag)(a:Addr):Nat->List Value->Option ag
 |_,[]=>some F
 |i,v::vs=>match F.ku (a.add i) v with
  |some F'=>F'.ig a (i+1) vs
  |none=>none
theorem nL {Q:Unit->ag->Prop}(a:Addr):∀(vs:List Value) (i:Nat) (F F':ag),F.ig a i vs=some F'->Q () F'->bx P (storeCells a vs i) Q F
 |[],i,F,F',hg,h=>by simp only[ag.ig,Option.some.injEq] at hg;subst hg;simpa [storeCells,bF] using h
 |v::vs,i,F,F',hg,h=>by
  simp only[storeCells,bC,BZ]
  unfold ag.ig at hg
  split at hg
  .rename_i F1 b
   exact ⟨F1,b,nL a vs (i+1) F1 F' hg h⟩
  .cases hg
theorem B3 {Q:Unit->ag->Prop}{t:TypeId}{a:Addr}{v:Value}(F':ag)(hs:cp P t=some v.cells.size)(hg:F.ig a 0 v.cells.toList=some F')(h:Q () F'):bx P (storeVar t a v) Q F:=by
 simp only[storeVar,bC,eC,hs,ne_eq,not_true_eq_false,if_false];exact nL a _ 0 F F' hg h
@[go_sem] theorem xM {Q:Addr->ag->Prop}(t:TypeId)(v:Value):bx P (newVar t v) Q F=∀b,dx F b->Q ⟨b,0,none⟩ (F.push b (.cells v.cells t)):=by
 simp only[newVar,newRow,bC,nJ,bF];simp[Obj.isChan]
@[go_sem] theorem sC {Q:Addr->ag->Prop}(t:TypeId)(v:Array Value):bx P (newRow t v) Q F=∀b,dx F b->Q ⟨b,0,none⟩ (F.push b (.cells v t)):=by
 simp only[newRow,bC,nJ,bF];simp[Obj.isChan]
theorem nM {Q:Addr->ag->Prop}(a:Addr):bx P (Instr.sureAddr (.pointer (some a))) Q F=Q a F:=rfl
theorem jL {Q:IntKind×Int->ag->Prop}(k:IntKind)(n:Int):bx P (asIntOf (.int k n)) Q F=Q (k,n) F:=rfl
theorem Jz {Q:Int->ag->Prop}(k:IntKind)(n:Int):bx P (asInt (.int k n)) Q F=Q n F:=rfl
theorem B4 {Q:Bool->ag->Prop}(b:Bool):bx P (asBool (.bool b)) Q F=Q b F:=rfl
theorem B5 {Q:Array Value->ag->Prop}(b:Array Value):bx P (asAgg (.agg b)) Q F=Q b F:=rfl
attribute [go_sem] nM jL Jz B4 B5
end
def slot (a:Act)(i:Nat):Value:=a.tmps.getD i undef
def sz (a:Act):Nat:=a.tmps.size
def bt (a:Act)(d:Option Tmp)(v:Value):Act:=a.put d v
def ev (a:Act)(x:Operand):Value:=a.eval x
theorem JA (a:Act)(t:Nat):ev a (.tmp t)=slot a t:=rfl
theorem JB (a:Act)(v:Value):ev a (.const v)=v:=rfl
theorem JC (a:Act)(g:Nat):ev a (.global g)= .pointer (some ⟨g,0,none⟩):=rfl
theorem JD (a:Act)(f:Nat):ev a (.func f)= .func (.func f) #[] #[]:=rfl
theorem JE (a:Act)(v:Value):bt a none v=a:=rfl
attribute [go_sem] JA JB JC JD JE
@[go_sem] theorem xN (a:Act)(d:Option Tmp)(v:Value):sz (bt a d v)=sz a:=by cases d<;>simp[sz,bt,Act.put]
theorem B6 (a:Act)(d:Nat)(v:Value)(h:d<sz a):slot (bt a (some d) v) d=v:=by
 simp only[sz] at h;simp[slot,bt,Act.put,h]
theorem sD (a:Act)(d i:Nat)(v:Value)(h:¬d=i):slot (bt a (some d) v) i=slot a i:=by
 simp[slot,bt,Act.put,Array.getElem?_setIfInBounds_ne h]
@[go_sem] theorem JG (a:Act)(d i:Nat)(v:Value)(h:d<sz a):slot (bt a (some d) v) i=if d=i then v else slot a i:=by
 split
 .rename_i e;subst e;exact B6 a d v h
 .rename_i e;exact sD a d i v e
@[go_sem] theorem xO (a:Act)(d:Option Tmp)(v:Value):(bt a d v).defers=a.defers:=by cases d<;>rfl
theorem aF.start {P:Program}{f:FuncId}{fn:Func}{c:Code}{n:Nat}{args:Array Value}{F:ag}{R:Value->ag->Prop}(a:P.funcs[f]?=some fn)(hb:fn.body=some c)(hn:fn.ntmps=n)(b:args.size<=n)
  (h:∀main J,Closed P main J->∀A:Act,sz A=n->A.defers=[]->(∀i,slot A i=args.getD i undef)->Wp J c (pN P fn R) A F):aF P f args F R:=
 aF.of_wp a hb fun main J hJ=>h main J hJ _ (by simp[sz,hn];omega) rfl fun i=>by
  simp only[slot,hn,Array.getD_eq_getD_getElem?]
  rcases Nat.lt_or_ge i args.size with hi|hi
  .rw[Array.getElem?_append_left hi]
  .rw[Array.getElem?_append_right hi,Array.getElem?_replicate,Array.getElem?_eq_none hi]
   split<;>rfl
def ee (P:Program)(t:TypeId):Option TypeId:=match P.underlying t with|some (.slice e)=>some e|_=>none
def jM (P:Program)(t:TypeId):Option (Nat×TypeId):=match P.underlying t with|some (.array n e)=>some (n,e)|_=>none
def dn (P:Program)(t:TypeId)(n:Nat):Option Nat:=
 match P.underlying t with
 |some (.struct a)=>match a[n]? with
  |some f=>match cp P f.type with
   |some (_+1)=>some f.offset
   |_=>none
  |none=>none
 |_=>none
def xP (P:Program)(t:TypeId)(n:Nat):Option (Nat×Nat×Bool):=
 match P.underlying t with
 |some (.struct a)=>match a[n]? with
  |some f=>match cp P f.type,cF P f.type with
   |some s,some g=>some (f.offset,s,g)
   |_,_=>none
  |none=>none
 |_=>none
def placesOf (P:Program)(t:TypeId):Option (List (Nat×Nat)):=
 match P.underlying t with
 |some (.struct a)=>a.toList.mapM fun f=>(cp P f.type).map fun s=>(f.offset,s)
 |_=>none
def aP (P:Program)(f:FuncId):Bool:=match P.funcs[f]? with|some fn=>!(fn.body.isNone||fn.name== "runtime.NumGoroutine")|none=>false
def ag.c6 (F:ag)(a:Addr):Nat->Nat->Option (List Value)
 |_,0=>some []
 |i,n+1=>match F.get (a.add i) with
  |some v=>match F.c6 a (i+1) n with
   |some vs=>some (v::vs)
   |none=>none
  |none=>none
theorem sE (F:ag)(a:Addr):∀(n i:Nat) (vs:List Value),F.c6 a i n=some vs->F.kA a i vs/\vs.length=n
 |0,i,vs,h=>by simp only[ag.c6,Option.some.injEq] at h;subst h;exact ⟨trivial,rfl⟩
 |n+1,i,vs,h=>by
  unfold ag.c6 at h
  split at h
  .rename_i v hv
   split at h
   .rename_i ws b
    cases h
    obtain ⟨c,d⟩:=sE F a n (i+1) ws b
    exact ⟨⟨hv,c⟩,by simp[d]⟩
   .cases h
  .cases h
def fo (P:Program)(F:ag)(t:TypeId)(ad:Addr):Option Value:=
 match cF P t with
 |some false=>F.get ad
 |some true=>match cp P t with
  |some n=>match F.c6 ad 0 n with
   |some vs=>some (.agg vs.toArray)
   |none=>none
  |none=>none
 |none=>none
def pO (P:Program)(F:ag)(t:TypeId)(ad:Addr)(v:Value):Option ag:=
 match cp P t with
 |some n=>if n=v.cells.size then F.ig ad 0 v.cells.toList else none
 |none=>none
theorem xQ {P:Program}{F:ag}{t:TypeId}{ad:Addr}{v:Value}{Q:Value->ag->Prop}(h:fo P F t ad=some v)(a:Q v F):bx P (loadVar t ad) Q F:=by
 unfold fo at h;split at h
 .rename_i hg;exact B2 v hg h a
 .rename_i hg;split at h
  .rename_i n hn;split at h
   .rename_i vs b;cases h;obtain ⟨c,d⟩:=sE F ad n 0 vs b;exact B1 vs hg (by rw[hn,d]) c a
   .cases h
  .cases h
 .cases h
theorem B7 {P:Program}{F F':ag}{t:TypeId}{ad:Addr}{v:Value}{Q:Unit->ag->Prop}(h:pO P F t ad v=some F')(a:Q () F'):bx P (storeVar t ad v) Q F:=by
 unfold pO at h;split at h
 .rename_i n hn;split at h
  .rename_i e;exact B3 F' (by rw[hn,e]) h a
  .cases h
 .cases h
def lB (op:BinOp):Value->Value->Option Value
 | .int k a,.int c b=>if k=c then match op with
   | .add=>some (.int k (k.wrap (a+b)))
   | .sub=>some (.int k (k.wrap (a - b)))
   | .mul=>some (.int k (k.wrap (a*b)))
   | .quo=>if b=0 then none else some (.int k (k.wrap (a.tdiv b)))
   | .rem=>if b=0 then none else some (.int k (a.tmod b))
   | .eql=>some (.bool (a==b))
   | .neq=>some (.bool (a != b))
   | .lss=>some (.bool (decide (a<b)))
   | .leq=>some (.bool (decide (a<=b)))
   | .gtr=>some (.bool (decide (a>b)))
   | .geq=>some (.bool (decide (a≥b)))
   | .shl=>if b<0 then none else some (.int k (k.wrap (a*2 ^ min b.toNat k.bits)))
   | .shr=>if b<0 then none else some (.int k (a.fdiv (2 ^ min b.toNat k.bits)))
   | .and=>some (.int k (k.wrap (BitVec.ofInt k.bits a&&& BitVec.ofInt k.bits b).toNat))
   | .or=>some (.int k (k.wrap (BitVec.ofInt k.bits a|||BitVec.ofInt k.bits b).toNat))
   | .andNot=>some (.int k (k.wrap (BitVec.ofInt k.bits a&&& ~~~(BitVec.ofInt k.bits b)).toNat))
   | .xor=>some (.int k (k.wrap (BitVec.ofInt k.bits a ^^^ BitVec.ofInt k.bits b).toNat))
  else none
 | .string a,.string b=>match op with
  | .eql=>some (.bool (a.data.toList==b.data.toList))
  | .neq=>some (.bool !(a.data.toList==b.data.toList))
  |_=>none
 |_,_=>none
theorem fT {P:Program}{s:Sem Value}{Q:Next->ag->Prop}{F:ag}:bx P (do pure (Next.value (<-s)):Sem Next) Q F=bx P s (fun v G=>Q (.value v) G) F:=by
 simp only[bC,bF]
theorem sF {P:Program}(op:BinOp)(t:TypeId)(x y:Operand)(k c:IntKind)(a b:Int){Q:Unit->ag->Prop}{F:ag}(h:Q () F):bx P (eqGuard op t x y (.int k a) (.int c b)) Q F:=by
 unfold eqGuard;cases op<;>simp<;>exact h
theorem B8 {P:Program}{op:BinOp}{t:TypeId}{x y:Operand}{u v w:Value}{Q:Value->ag->Prop}{F:ag}(h:lB op u v=some w)(c:Q w F):bx P (do eqGuard op t x y u v;binOp op t u v) Q F:=by
 unfold lB at h;split at h
 case h_3=>cases h
 case h_2=>
  rename_i a b;cases op<;>simp only[reduceCtorEq] at h<;>(cases h;simp only[bC,eqGuard,binOp,Op.stringOp,ByteArray.toList_eq];exact c)
 rename_i k a e b;split at h
 case isFalse=>cases h
 rename_i d;subst d;rw[bC];refine sF op t x y k k a b ?_;cases op<;>simp only[binOp,ne_eq,not_true_eq_false,if_false,Op.intArith,Op.intDiv,Op.intCmp,Op.intBits,Op.shift,dm] at h ⊢<;>first
  |(cases h;done)
  |(cases h;exact c)
  |(split at h
    .cases h
    .rename_i hb;rw[if_neg hb];cases h;exact c)
def kB (op:UnOp):Value->Option Value
 | .int k a=>match op with
  | .neg=>some (.int k (k.wrap (0 - a)))
  |_=>none
 | .bool b=>match op with
  | .not=>some (.bool (!b))
  |_=>none
 |_=>none
theorem B9 {P:Program}{op:UnOp}{u w:Value}{Q:Value->ag->Prop}{F:ag}(h:kB op u=some w)(a:Q w F):bx P (Op.unary op u) Q F:=by
 cases u<;>cases op<;>simp only[kB] at h<;>first|(cases h;done)|(cases h;exact a)
def pP:Value->Value->Option Value
 | .int k x,.int _ y=>some (.int k (if y>x then y else x))
 |_,_=>none
def pQ:Value->Value->Option Value
 | .int k x,.int _ y=>some (.int k (if y<x then y else x))
 |_,_=>none
def nN (P:Program)(t:TypeId):Value->Value->Option Value
 | .slice (some ad) len _,.int _ i=>match ee P t with
  |some e=>match cp P e with
   |some n=>if 0<=i/\i<(len:Int) then some (.pointer (some (ad.add (i.toNat*n)))) else none
   |none=>none
  |none=>none
 | .pointer (some ad),.int _ i=>match jM P t with
  |some (len,e)=>match cp P e with
   |some n=>if 0<=i/\i<(len:Int) then some (.pointer (some (ad.add (i.toNat*n)))) else none
   |none=>none
  |none=>none
 |_,_=>none
theorem Ca {P:Program}{t:TypeId}{u v w:Value}{Q:Value->ag->Prop}{F:ag}(h:nN P t u v=some w)(b:Q w F):bx P (Instr.indexAt t u v) Q F:=by
 unfold nN at h;split at h
 .rename_i ad len cap k i;split at h
  case h_2=>cases h
  rename_i e he;split at h
  case h_2=>cases h
  rename_i n hn;split at h
  case isFalse=>cases h
  rename_i hi;cases h;have hu:P.underlying t=some (.slice e):=by
   unfold ee at he;split at he
   .rename_i c a;cases he;exact a
   .cases he
  simp only[Instr.indexAt,bC,jL,c5,hu,bF,dm,if_pos hi,eC,hn];exact b
 .rename_i ad k i;split at h
  case h_2=>cases h
  rename_i len e he;split at h
  case h_2=>cases h
  rename_i n hn;split at h
  case isFalse=>cases h
  rename_i hi;cases h;have hu:P.underlying t=some (.array len e):=by
   unfold jM at he;split at he
   .rename_i d c a;cases he;exact a
   .cases he
  simp only[Instr.indexAt,bC,jL,c5,hu,bF,nM,dm,if_pos hi,eC,hn];exact b
 .cases h
def kC (P:Program)(t:TypeId)(x:Value)(lo hi:Option Value):Option Value:=
 match x,ee P t with
 | .slice ad len cap,some e=>match cp P e with
  |some n=>
   match (match lo with|none=>some 0|some (.int _ i)=>if 0<=i then some i.toNat else none|_=>none),(match hi with|none=>some len|some (.int _ i)=>if 0<=i then some i.toNat else none|_=>none) with
   |some l,some h=>if l<=h/\h<=cap then some (.slice (if cap=l then ad else ad.map (·.add (l*n))) (h - l) (cap - l)) else none
   |_,_=>none
  |none=>none
 | .pointer (some ad),none=>match jM P t,lo,hi with
  |some (n,e),none,none=>match cp P e with
   |some _=>some (.slice (some ad) n n)
   |none=>none
  |_,_,_=>none
 |_,_=>none
theorem Cb {P:Program}{t:TypeId}{x w:Value}{lo hi:Option Value}{Q:Value->ag->Prop}{F:ag}(hlen:∀ad len cap,x= .slice ad len cap->len<=cap)(h:kC P t x lo hi=some w)(c:Q w F):bx P (Instr.sliceAt t x lo hi none) Q F:=by
 unfold kC at h;split at h
 case h_3=>cases h
 case h_2=>
  rename_i ad _;split at h
  case h_2=>cases h
  rename_i n e he;have hu:P.underlying t=some (.array n e):=by
   unfold jM at he;split at he
   .rename_i q g d;cases he;exact d
   .cases he
  split at h
  case h_2=>cases h
  rename_i sz hs;cases h;simp only[Instr.sliceAt,bC,c5,hu,nM,Instr.sliceBounds,bF,eC,hs,Nat.zero_mul,Nat.sub_zero];have:(if n=0 then ad else ad.add 0)=ad:=by split<;>rfl
  rw[this];exact c
 rename_i ad len cap e he;have r:=hlen ad len cap rfl;have hu:P.underlying t=some (.slice e):=by
  unfold ee at he;split at he
  .rename_i g d;cases he;exact d
  .cases he
 split at h
 case h_2=>cases h
 rename_i n hn;split at h
 case h_2=>cases h
 rename_i l h' a b;split at h
 case isFalse=>cases h
 rename_i hb;cases h;simp only[Instr.sliceAt,bC,c5,hu,Instr.slice,Instr.sliceBounds,bF];cases hi with
 |none=>
  simp only[Option.some.injEq] at b;subst b;simp only[bF];cases lo with
  |none=>
   simp only[Option.some.injEq] at a;subst a;simp only[bF,eC,hn];exact c
  |some v=>
   cases v<;>simp only[reduceCtorEq] at a;rename_i k i;split at a
   case isFalse=>cases a
   rename_i f;cases a;have:0<=i/\i<=(len:Int):=⟨f,ai⟩
   simp only[Instr.sliceBound,bC,jL,dm,if_pos this,bF,eC,hn];exact c
 |some v=>
  cases v<;>simp only[reduceCtorEq] at b;rename_i k i;split at b
  case isFalse=>cases b
  rename_i f;cases b;have m:0<=i/\i<=(cap:Int):=⟨f,ai⟩
  simp only[Instr.sliceBound,bC,jL,dm,if_pos m,bF];cases lo with
  |none=>
   simp only[Option.some.injEq] at a;subst a;simp only[bF,eC,hn];exact c
  |some v=>
   cases v<;>simp only[reduceCtorEq] at a;rename_i s j;split at a
   case isFalse=>cases a
   rename_i o;cases a;have p:0<=j/\j<=((i.toNat:Nat):Int):=⟨o,ai⟩
   simp only[bC,jL,dm,if_pos p,bF,eC,hn];exact c
def fU:List Value->List Value->Option Bool
 |[],[]=>some true
 | .int k a::xs,.int c b::ys=>if k=c then match fU xs ys with
   |some r=>some (a==b&&r)
   |none=>none
  else none
 | .bool a::xs,.bool b::ys=>match fU xs ys with
   |some r=>some (a==b&&r)
   |none=>none
 | .string a::xs,.string b::ys=>match fU xs ys with
   |some r=>some (a.data.toList==b.data.toList&&r)
   |none=>none
 |_,_=>none
theorem Cc (a b:ByteArray):(a==b)=(a.data.toList==b.data.toList):=by
 obtain ⟨⟨a⟩⟩:=a;obtain ⟨⟨b⟩⟩:=b;show ((⟨a⟩:Array UInt8)==⟨b⟩)=(a==b);simp
theorem nO:∀{xs ys:List Value} {us vs:List Value} {r:Bool},xs.length=ys.length->fU (xs++us) (ys++vs)=some r->∃r1 r2,fU xs ys=some r1/\fU us vs=some r2/\r=(r1&&r2)
 |[],[],us,vs,r,_,h=>⟨true,r,rfl,h,aB⟩
 |[],y::ys,_,_,_,a,_=>by simp at a
 |x::xs,[],_,_,_,a,_=>by simp at a
 |x::xs,y::ys,us,vs,r,a,h=>by
  have e:xs.length=ys.length:=by simpa using a
  cases x<;>cases y<;>simp only[List.cons_append,fU,reduceCtorEq] at h ⊢
  .split at h
   .rename_i f b
    obtain ⟨r1,r2,c,d,rfl⟩:=nO e b
    cases h
    exact ⟨_,r2,by rw[c],d,by rw[Bool.and_assoc]⟩
   .cases h
  .split at h
   .rename_i g
    split at h
    .rename_i f b
     obtain ⟨r1,r2,c,d,rfl⟩:=nO e b
     cases h
     exact ⟨_,r2,by rw[if_pos g,c],d,by rw[Bool.and_assoc]⟩
    .cases h
   .cases h
  .split at h
   .rename_i f b
    obtain ⟨r1,r2,c,d,rfl⟩:=nO e b
    cases h
    exact ⟨_,r2,by rw[c],d,by rw[Bool.and_assoc]⟩
   .cases h
def Kd:List (Option Bool)->List Value->Prop
 |[],[]=>True
 |some true::ks,.int _ _::xs=>Kd ks xs
 |some false::ks,.bool _::xs=>Kd ks xs
 |none::ks,.string _::xs=>Kd ks xs
 |_,_=>False
theorem Kd.length:∀{ks:List (Option Bool)} {xs:List Value},Kd ks xs->xs.length=ks.length
 |[],[],_=>rfl
 |[],x::xs,h=>by simp[Kd] at h
 |k::ks,[],h=>by rcases k with _|_|_<;>simp[Kd] at h
 |k::ks,x::xs,h=>by
  have:Kd ks xs:=by rcases k with _|_|_<;>cases x<;>simp only[Kd] at h<;>exact h
  simp[Kd.length this]
theorem Kd.split:∀{ks:List (Option Bool)} {ls:List (Option Bool)} {xs:List Value},Kd (ks++ls) xs->Kd ks (xs.take ks.length)/\Kd ls (xs.drop ks.length)
 |[],_,_,h=>⟨by simp[Kd],by simpa using h⟩
 |k::ks,ls,[],h=>by rcases k with _|_|_<;>simp[Kd] at h
 |k::ks,ls,x::xs,h=>by
  rcases k with _|_|_<;>cases x<;>simp only[List.cons_append,Kd] at h
  all_goals
   obtain ⟨a,b⟩:=Kd.split h
   exact ⟨by simpa [Kd] using a,by simpa using b⟩
def nP (P:Program)(g:TypeId->Option (List (Option Bool))):List Field->Nat->Option (List (Option Bool))
 |[],_=>some []
 |f::a,off=>if f.name≠ "_"/\f.offset=off then match g f.type with
   |some ks=>if cp P f.type=some ks.length then match nP P g a (off+ks.length) with
     |some ls=>some (ks++ls)
     |none=>none
    else none
   |none=>none
  else none
def ji (P:Program):Nat->TypeId->Option (List (Option Bool))
 |0,_=>none
 |d+1,t=>match P.underlying t with
  |some .bool=>if cF P t=some false then some [some false] else none
  |some (.int _)=>if cF P t=some false then some [some true] else none
  |some .string=>if cF P t=some false then some [none] else none
  |some (.struct a)=>if cF P t=some true/\P.stoodInHeld t=false then nP P (ji P d) a.toList 0 else none
  |some (.array n e)=>if cF P t=some true then match ji P d e with
    |some ks=>if cp P e=some ks.length then some (List.replicate n ks).flatten else none
    |none=>none
   else none
  |_=>none
def Sc (v:Value):Prop:=(∃k a,v= .int k a)\/(∃b,v= .bool b)\/∃s,v= .string s
theorem Kd.sc:∀{ks:List (Option Bool)} {xs:List Value},Kd ks xs->∀x∈xs,Sc x
 |[],[],_=>by simp
 |[],x::xs,h=>by simp[Kd] at h
 |k::ks,[],h=>by simp
 |k::ks,x::xs,h=>by
  have:Sc x/\Kd ks xs:=by rcases k with _|_|_<;>cases x<;>simp only[Kd] at h<;>first|exact ⟨.inl ⟨_,_,rfl⟩,h⟩|exact ⟨.inr (.inl ⟨_,rfl⟩),h⟩|exact ⟨.inr (.inr ⟨_,rfl⟩),h⟩
  simpa using ⟨this.1,Kd.sc this.2⟩
theorem Sc.cells {v:Value}(h:Sc v):v.cells=#[v]:=by
 rcases h with ⟨k,a,rfl⟩|⟨b,rfl⟩|⟨b,rfl⟩<;>rfl
def Shape (P:Program)(t:TypeId)(v:Value):Prop:=(cF P t=some true->∃xs,v= .agg xs)/\(cF P t=some false->Sc v)
section
variable {P:Program}
theorem pR {t:TypeId}{xs:Array Value}{off m:Nat}{g:Bool}{Q:Value->ag->Prop}{F:ag}(hg:cF P t=some g)(hs:cp P t=some m)(hm:g=false->m=1)(e:off+m<=xs.size)
  (d:∀x∈xs.toList,Sc x) (h:∀v,v.cells.toList=(xs.toList.drop off).take m->Shape P t v->Q v F):bx P (part t xs off) Q F:=by
 simp only[part,bC,lA,hg,dm]
 cases g with
 |true=>
  simp only[if_true,bC,eC,hs,bF]
  refine h _ ?_ ⟨fun _=>⟨_,rfl⟩,fun a=>by rw[hg] at a;cases a⟩
  simp only[Value.cells,Array.toList_extract,List.extract_eq_take_drop]
  congr 1;omega
 |false=>
  have:=hm rfl
  subst this
  have b:off<xs.size:=ai
  simp only[Bool.false_eq_true,if_false,Array.getElem?_eq_getElem b,bF]
  have c:=d xs[off] aB
  refine h _ ?_ ⟨fun a=>(by rw[hg] at a;cases a),fun _=>c⟩
  rw[c.cells]
  have:off<xs.toList.length:=by simpa using b
  rw[List.drop_eq_getElem_cons this]
  simp
def sG (P:Program)(d:Nat)(t:TypeId)(ks:List (Option Bool)):Prop:=
 ∀(u v:Value) (r:Bool) (Q:Bool->ag->Prop) (F:ag),Shape P t u->Shape P t v->Kd ks u.cells.toList->Kd ks v.cells.toList->fU u.cells.toList v.cells.toList=some r->Q r F->bx P (Op.equalIn d t u v) Q F
theorem xR {d t:Nat}{ks:List (Option Bool)}(h:ji P d t=some ks):∃g,cF P t=some g/\(g=false->ks.length=1):=by
 cases d with
 |zero=>cases h
 |succ d=>
  unfold ji at h;split at h
  .split at h
   .rename_i hg;cases h;exact ⟨_,hg,fun _=>rfl⟩
   .cases h
  .split at h
   .rename_i hg;cases h;exact ⟨_,hg,fun _=>rfl⟩
   .cases h
  .split at h
   .rename_i hg;cases h;exact ⟨_,hg,fun _=>rfl⟩
   .cases h
  .split at h
   .rename_i hg;exact ⟨true,hg.1,fun x=>by cases x⟩
   .cases h
  .split at h
   .rename_i hg;exact ⟨true,hg,fun x=>by cases x⟩
   .cases h
  .cases h
theorem xS {d:Nat}(ih:∀t ks,ji P d t=some ks->sG P d t ks){xs ys:Array Value}{Q:Bool->ag->Prop}{F:ag}(m:∀x∈xs.toList,Sc x)(n:∀x∈ys.toList,Sc x):
  ∀(c:List Field) (off:Nat) (ks:List (Option Bool)) (r:Bool),nP P (ji P d) c off=some ks->Kd ks (xs.toList.drop off)->Kd ks (ys.toList.drop off)->fU (xs.toList.drop off) (ys.toList.drop off)=some r->off<=xs.size->off<=ys.size->Q r F->
  bx P (do
   let x<-forIn c ((none,()):Option Bool×Unit) fun f _=>do
    if f.name≠ "_" then
     if (!(<-Op.equalIn d f.type (<-part f.type xs f.offset) (<-part f.type ys f.offset)))=true then pure (ForInStep.done (some false,())) else pure (ForInStep.yield (none,()))
    else pure (ForInStep.yield (none,()))
   match x.fst with
    |some a=>pure a
    |none=>pure true:Sem Bool) Q F
 |[],off,ks,r,b,e,h,he,_,_,i=>by
  simp only[nP,Option.some.injEq] at b
  subst b
  have j:=e.length
  have l:=h.length
  rw[List.eq_nil_of_length_eq_zero j,List.eq_nil_of_length_eq_zero l] at he
  cases he
  simp only[List.forIn_nil,bC,bF]
  exact i
 |f::c,off,ks,r,b,e,h,he,D,E,i=>by
  unfold nP at b
  split at b
  case isFalse=>cases b
  rename_i hn
  obtain ⟨hn,rfl⟩:=hn
  split at b
  case h_2=>cases b
  rename_i k o
  split at b
  case isFalse=>cases b
  rename_i hs
  split at b
  case h_2=>cases b
  rename_i ls w
  cases b
  obtain ⟨g,hg,p⟩:=xR o
  have y:=e.length
  have z:=h.length
  simp only[List.length_drop,Array.length_toList,List.length_append] at y z
  obtain ⟨A,q⟩:=e.split
  obtain ⟨B,s⟩:=h.split
  rw[List.drop_drop] at q s
  have e1:xs.toList.drop f.offset=(xs.toList.drop f.offset).take k.length++xs.toList.drop (f.offset+k.length):=by
   rw[<-List.drop_drop,List.take_append_drop]
  have e2:ys.toList.drop f.offset=(ys.toList.drop f.offset).take k.length++ys.toList.drop (f.offset+k.length):=by
   rw[<-List.drop_drop,List.take_append_drop]
  rw[e1,e2] at he
  obtain ⟨r1,r2,j,l,rfl⟩:=nO (by simp;omega) he
  simp only[List.forIn_cons,bC,if_pos hn]
  refine pR hg hs p ai m fun u hu C=>?_
  refine pR hg hs p ai n fun v hv sv=>?_
  refine ih _ _ o u v r1 _ F C sv (by rw[hu];exact A) (by rw[hv];exact B) (by rw[hu,hv];exact j) ?_
  cases r1 with
  |false=>simpa [bF,dm] using i
  |true=>
   have:=xS ih m n c (f.offset+k.length) ls r2 w q s l ai ai (Q:=Q) (F:=F) (by simpa using i)
   simpa [bF,dm,bC] using this
theorem xT {d e k:Nat}{ks:List (Option Bool)}{g:Bool}(s:sG P d e ks)(h:ks.length=k)(hg:cF P e=some g)(j:g=false->ks.length=1)(hs:cp P e=some ks.length){xs ys:Array Value}{Q:Bool->ag->Prop}{F:ag}(t:∀x∈xs.toList,Sc x)(w:∀x∈ys.toList,Sc x):
  ∀(n i:Nat) (r:Bool),Kd (List.replicate n ks).flatten (xs.toList.drop (i*k))->Kd (List.replicate n ks).flatten (ys.toList.drop (i*k))->fU (xs.toList.drop (i*k)) (ys.toList.drop (i*k))=some r->i*k<=xs.size->i*k<=ys.size->Q r F->
  bx P (do
   let x<-forIn (List.range' i n) ((none,()):Option Bool×Unit) fun i _=>do
    if (!(<-Op.equalIn d e (<-part e xs (i*k)) (<-part e ys (i*k))))=true then pure (ForInStep.done (some false,())) else pure (ForInStep.yield (none,()))
   match x.fst with
    |some a=>pure a
    |none=>pure true:Sem Bool) Q F
 |0,i,r,b,c,he,_,_,f=>by
  have l:=b.length
  have m:=c.length
  rw[List.eq_nil_of_length_eq_zero l,List.eq_nil_of_length_eq_zero m] at he
  cases he
  simp only[List.range'_zero,List.forIn_nil,bC,bF]
  exact f
 |n+1,i,r,b,c,he,D,E,f=>by
  have o:(i+1)*k=i*k+k:=by simp only[Nat.add_mul,Nat.one_mul]
  have A:=b.length
  have B:=c.length
  simp only[List.replicate_succ,List.flatten_cons,List.length_drop,Array.length_toList,List.length_append] at A B
  simp only[List.replicate_succ,List.flatten_cons] at b c
  obtain ⟨y,p⟩:=b.split
  obtain ⟨z,q⟩:=c.split
  rw[h] at y p z q
  rw[List.drop_drop,<-o] at p q
  have e1:xs.toList.drop (i*k)=(xs.toList.drop (i*k)).take k++xs.toList.drop ((i+1)*k):=by
   rw[o,<-List.drop_drop,List.take_append_drop]
  have e2:ys.toList.drop (i*k)=(ys.toList.drop (i*k)).take k++ys.toList.drop ((i+1)*k):=by
   rw[o,<-List.drop_drop,List.take_append_drop]
  rw[e1,e2] at he
  obtain ⟨r1,r2,l,m,rfl⟩:=nO (by simp;omega) he
  simp only[List.range'_succ,List.forIn_cons,bC]
  refine pR hg hs j ai t fun u hu C=>?_
  refine pR hg hs j ai w fun v hv sv=>?_
  rw[h] at hu hv
  refine s u v r1 _ F C sv (by rw[hu];exact y) (by rw[hv];exact z) (by rw[hu,hv];exact l) ?_
  cases r1 with
  |false=>simpa [bF,dm] using f
  |true=>
   have:=xT s h hg j hs t w n (i+1) r2 p q m ai ai (Q:=Q) (F:=F) (by simpa using f)
   simpa [bF,dm,bC] using this
theorem sH:∀(d t:Nat) (ks:List (Option Bool)),ji P d t=some ks->sG P d t ks
 |0,_,_,h=>by cases h
 |d+1,t,ks,h=>by
  intro u v r Q F i sv hu hv he j
  unfold ji at h
  split at h
  .rename_i c
   split at h
   case isFalse=>cases h
   rename_i hg
   cases h
   have a1:=i.2 hg
   have f:=sv.2 hg
   rw[a1.cells] at he hu
   rw[f.cells] at he hv
   simp only[Op.equalIn,bC,c5,c]
   rcases a1 with ⟨k,a,rfl⟩|⟨a,rfl⟩|⟨a,rfl⟩<;>rcases f with ⟨m,b,rfl⟩|⟨b,rfl⟩|⟨b,rfl⟩<;>simp[Kd] at hu hv
   simp[fU] at he
   subst he
   simpa [bF] using j
  .rename_i c
   split at h
   case isFalse=>cases h
   rename_i hg
   cases h
   have a1:=i.2 hg
   have f:=sv.2 hg
   rw[a1.cells] at he hu
   rw[f.cells] at he hv
   simp only[Op.equalIn,bC,c5,c]
   rcases a1 with ⟨k,a,rfl⟩|⟨a,rfl⟩|⟨a,rfl⟩<;>rcases f with ⟨m,b,rfl⟩|⟨b,rfl⟩|⟨b,rfl⟩<;>simp[Kd] at hu hv
   simp[fU] at he
   obtain ⟨l,rfl⟩:=he
   simpa [bF,dm,l] using j
  .rename_i c
   split at h
   case isFalse=>cases h
   rename_i hg
   cases h
   have a1:=i.2 hg
   have f:=sv.2 hg
   rw[a1.cells] at he hu
   rw[f.cells] at he hv
   simp only[Op.equalIn,bC,c5,c]
   rcases a1 with ⟨k,a,rfl⟩|⟨a,rfl⟩|⟨a,rfl⟩<;>rcases f with ⟨m,b,rfl⟩|⟨b,rfl⟩|⟨b,rfl⟩<;>simp[Kd] at hu hv
   simp[fU] at he
   subst he
   simp only[bF,Cc]
   simpa using j
  .rename_i o c
   split at h
   case isFalse=>cases h
   rename_i hg
   obtain ⟨hg,p⟩:=hg
   obtain ⟨xs,rfl⟩:=i.1 hg
   obtain ⟨ys,rfl⟩:=sv.1 hg
   simp only[Op.equalIn,bC,c5,c,jh,p,Bool.false_eq_true,if_false,dm,bF]
   have:=xS (P:=P) (d:=d) (fun t ks q=>sH d t ks q) (xs:=xs) (ys:=ys) (Q:=Q) (F:=F) hu.sc hv.sc o.toList 0 ks r h (by simpa [Value.cells] using hu) (by simpa [Value.cells] using hv) (by simpa [Value.cells] using he) ai ai j
   rw[<-Array.forIn_toList]
   simp[bC] at this ⊢
   exact gk (fun a G h=>by rcases a with ⟨_|_,_⟩<;>exact h) _ _ this
  .rename_i n e c
   split at h
   case isFalse=>cases h
   rename_i hg
   split at h
   case h_2=>cases h
   rename_i k l
   split at h
   case isFalse=>cases h
   rename_i hs
   cases h
   obtain ⟨xs,rfl⟩:=i.1 hg
   obtain ⟨ys,rfl⟩:=sv.1 hg
   obtain ⟨g,s,w⟩:=xR l
   simp only[Op.equalIn,bC,c5,c,eC,hs]
   have:=xT (P:=P) (d:=d) (sH d e k l) rfl s w hs (xs:=xs) (ys:=ys) (Q:=Q) (F:=F) hu.sc hv.sc n 0 r (by simpa [Value.cells] using hu) (by simpa [Value.cells] using hv) (by simpa [Value.cells] using he) aB aB j
   simp only[Std.Legacy.Range.forIn_eq_forIn_range',Std.Legacy.Range.size,Nat.sub_zero,Nat.add_one_sub_one,Nat.div_one]
   simp[bC] at this ⊢
   exact gk (fun a G h=>by rcases a with ⟨_|_,_⟩<;>exact h) _ _ this
  .cases h
def ij:List (Option Bool)->List Value->Bool
 |[],[]=>true
 |some true::ks,.int _ _::xs=>ij ks xs
 |some false::ks,.bool _::xs=>ij ks xs
 |none::ks,.string _::xs=>ij ks xs
 |_,_=>false
theorem sI:∀{ks:List (Option Bool)} {xs:List Value},ij ks xs=true->Kd ks xs
 |[],[],_=>trivial
 |[],x::xs,h=>by simp[ij] at h
 |k::ks,[],h=>by rcases k with _|_|_<;>simp[ij] at h
 |k::ks,x::xs,h=>by
  rcases k with _|_|_<;>cases x<;>first
   |(simp only[ij,reduceCtorEq,Bool.false_eq_true] at h;done)
   |exact sI (ks:=ks) (xs:=xs) (by simpa only[ij] using h)
def nS (P:Program)(t:TypeId):Option (List (Option Bool)):=if P.eqGuardType P.depth t=false/\cF P t=some true then ji P Op.maxDepth t else none
def lC (P:Program)(t:TypeId):Value->Value->Option Bool
 | .agg xs,.agg ys=>match nS P t with
  |some ks=>if ij ks xs.toList&&ij ks ys.toList then fU xs.toList ys.toList else none
  |none=>none
 |_,_=>none
theorem sJ {t:TypeId}{u v:Value}{r:Bool}{Q:Bool->ag->Prop}{F:ag}(h:lC P t u v=some r)(c:Q r F):bx P (Op.equal t u v) Q F/\P.eqGuardType P.depth t=false/\(∃xs,u= .agg xs)/\∃ys,v= .agg ys:=by
 unfold lC at h;split at h
 case h_2=>cases h
 rename_i xs ys;split at h
 case h_2=>cases h
 rename_i ks a;split at h
 case isFalse=>cases h
 rename_i b;simp only[Bool.and_eq_true] at b;unfold nS at a;split at a
 case isFalse=>cases a
 rename_i hg;refine ⟨?_,hg.1,⟨_,rfl⟩,_,rfl⟩;exact sH _ _ _ a _ _ r Q F ⟨fun _=>⟨_,rfl⟩,fun x=>by rw[hg.2] at x;cases x⟩ ⟨fun _=>⟨_,rfl⟩,fun x=>by rw[hg.2] at x;cases x⟩ (sI b.1) (sI b.2) h c
def sK (P:Program)(t:TypeId):Bool:=match P.underlying t with|some .bool=>true|_=>false
def lD (P:Program)(t:TypeId):Bool:=match P.underlying t with|some (.slice _)=>true|_=>false
def nU (P:Program)(t:TypeId):Value->Value->Option Bool
 | .bool a,.bool b=>if sK P t=true then some (a==b) else none
 | .slice none _ _,.slice b _ _=>if lD P t=true then some b.isNone else none
 | .slice (some _) _ _,.slice none _ _=>if lD P t=true then some false else none
 |_,_=>none
theorem xU {t:TypeId}{u v:Value}{r:Bool}{Q:Bool->ag->Prop}{F:ag}(h:nU P t u v=some r)(e:Q r F):bx P (Op.equal t u v) Q F/\((∃a b,u= .bool a/\v= .bool b)\/∃a n c b m d,u= .slice a n c/\v= .slice b m d):=by
 obtain ⟨d,hd⟩:∃d,Op.maxDepth=d+1:=⟨_,rfl⟩
 unfold nU at h;split at h
 .split at h
  .rename_i hb;cases h;unfold sK at hb;split at hb
   .rename_i hu;refine ⟨?_,.inl ⟨_,_,rfl,rfl⟩⟩;unfold Op.equal;rw[hd];simp only[Op.equalIn,bC,c5,hu,bF];exact e
   .cases hb
  .cases h
 .split at h
  .rename_i hb;cases h;unfold lD at hb;split at hb
   .rename_i hu;refine ⟨?_,.inr ⟨_,_,_,_,_,_,rfl,rfl⟩⟩;unfold Op.equal;rw[hd];simp only[Op.equalIn,bC,c5,hu,bF];exact e
   .cases hb
  .cases h
 .split at h
  .rename_i hb;cases h;unfold lD at hb;split at hb
   .rename_i hu;refine ⟨?_,.inr ⟨_,_,_,_,_,_,rfl,rfl⟩⟩;unfold Op.equal;rw[hd];simp only[Op.equalIn,bC,c5,hu,bF];exact e
   .cases hb
  .cases h
 .cases h
def nW (P:Program)(op:BinOp)(t:TypeId)(u v:Value):Option Value:=
 match lB op u v with
 |some w=>some w
 |none=>match op with
  | .eql=>match lC P t u v with
   |some r=>some (.bool r)
   |none=>match nU P t u v with
    |some r=>some (.bool r)
    |none=>none
  | .neq=>match lC P t u v with
   |some r=>some (.bool (!r))
   |none=>match nU P t u v with
    |some r=>some (.bool (!r))
    |none=>none
  | .shr=>match u,v with
   | .int k a,.int _ b=>if b<0 then none else some (.int k (a.fdiv (2 ^ min b.toNat k.bits)))
   |_,_=>none
  | .shl=>match u,v with
   | .int k a,.int _ b=>if b<0 then none else some (.int k (k.wrap (a*2 ^ min b.toNat k.bits)))
   |_,_=>none
  |_=>none
theorem Cd {op:BinOp}{t:TypeId}{x y:Operand}{u v w:Value}{Q:Value->ag->Prop}{F:ag}(h:nW P op t u v=some w)(e:Q w F):bx P (do eqGuard op t x y u v;binOp op t u v) Q F:=by
 unfold nW at h;split at h
 .rename_i w' hw;cases h;exact B8 hw e
 .split at h
  .split at h
   .rename_i r f;cases h;obtain ⟨g,i,⟨xs,rfl⟩,ys,rfl⟩:=sJ (Q:=fun r G=>Q (.bool r) G) f e;simp only[bC,eqGuard,binOp,jh,i,dm,bF];simpa using g
   .split at h
    .rename_i r f;cases h;obtain ⟨g,i⟩:=xU (Q:=fun r G=>Q (.bool r) G) f e;rcases i with ⟨a,b,rfl,rfl⟩|⟨a,n,c,b,m,d,rfl,rfl⟩<;>
     .simp only[bC,eqGuard,binOp,jh,dm,bF];simpa using g
    .cases h
  .split at h
   .rename_i r f;cases h;obtain ⟨g,i,⟨xs,rfl⟩,ys,rfl⟩:=sJ (Q:=fun r G=>Q (.bool (!r)) G) f e;simp only[bC,eqGuard,binOp,jh,i,dm,bF];simpa using g
   .split at h
    .rename_i r f;cases h;obtain ⟨g,i⟩:=xU (Q:=fun r G=>Q (.bool (!r)) G) f e;rcases i with ⟨a,b,rfl,rfl⟩|⟨a,n,c,b,m,d,rfl,rfl⟩<;>
     .simp only[bC,eqGuard,binOp,jh,dm,bF];simpa using g
    .cases h
  .split at h
   .split at h
    .cases h
    .rename_i hb;cases h;rw[bC];refine sF .shr t x y _ _ _ _ ?_;simp only[binOp,Op.shift,dm];rw[if_neg hb];exact e
   .cases h
  .split at h
   .split at h
    .cases h
    .rename_i hb;cases h;rw[bC];refine sF .shl t x y _ _ _ _ ?_;simp only[binOp,Op.shift,dm];rw[if_neg hb];exact e
   .cases h
  .cases h
end
theorem sL {P:Program}{t e:TypeId}(h:ee P t=some e):P.underlying t=some (.slice e):=by
 unfold ee at h;split at h
 .rename_i a he;cases h;exact he
 .cases h
theorem xV (n:Nat):∀(r c:Nat),Builtin.growBy n r c<=2 ^ r*(c+768)
 |0,c=>by simp[Builtin.growBy]
 |r+1,c=>by
  unfold Builtin.growBy
  split
  .have:1<=2 ^ (r+1):=Nat.one_le_two_pow
   have:=Nat.mul_le_mul_right (c+768) this
   omega
  .have h:=xV n r (c+(c+768)/4)
   refine Nat.le_trans h ?_
   rw[Nat.pow_succ,Nat.mul_assoc]
   refine Nat.mul_le_mul_left _ ?_
   omega
theorem nextslicecap_le {n c:Nat}(h:c<n)(hn:n<=1000000):Builtin.nextslicecap n c<=20000000:=by
 unfold Builtin.nextslicecap;split
 .omega
 .split
  .omega
  .have a:=xV n 4 c;have e:(2:Nat) ^ 4=16:=ay;rw[e] at a;refine Nat.le_trans a ?_;omega
section
variable {P:Program}
theorem xW {Q:Array Value->ag->Prop}{F:ag}(a:Addr){n:Nat}{vs:List Value}(h:F.c6 a 0 n=some vs)(b:Q vs.toArray F):bx P (loadCells a n) Q F:=by
 obtain ⟨c,d⟩:=sE F a n 0 vs h;subst d;exact sB a vs 0 #[] c (by simpa using b)
def fV (F:ag)(size:Nat):Value->Option (List Value)
 | .slice (some a) n _=>F.c6 a 0 (n*size)
 | .slice none 0 _=>some []
 |_=>none
theorem sM {Q:Array Value->ag->Prop}{F:ag}{size n:Nat}{ad:Option Addr}{c:Nat}{vs:List Value}(h:fV F size (.slice ad n c)=some vs)(b:Q vs.toArray F):bx P (Builtin.firstCells size n (.slice ad n c)) Q F:=by
 cases ad with
 |none=>
  cases n with
  |zero=>simp only[fV,Option.some.injEq] at h;subst h;exact b
  |succ n=>simp[fV] at h
 |some a=>exact xW a h b
theorem Ce {Q:Unit->ag->Prop}{F:ag}(n:Nat)(h:Q () F):bx P (askRoom n) Q F:=by
 unfold askRoom;rw[dm];split
 .exact ⟨rfl,h⟩
 .exact h
theorem sN {F:ag}{Q:Value->ag->Prop}{argTypes:Array TypeId}{ty i j e p:TypeId}{size d len cap n c:Nat}{base l:Option Addr}{z:Value}{old new:List Value}
  (q:argTypes[0]?=some i) (r:argTypes[1]?=some j) (he:ee P i=some e) (s:ee P j=some p) (hs:cp P e=some size) (u:zeroOf P e=some z) (hb:bytesOf P e=some d)
  (C:0<d) (v:d<=10000) (w:len+n<=1000000) (hold:fV F size (.slice base len cap)=some old) (m:fV F size (.slice l n c)=some new)
  (f:len+n<=cap->(∃a F',base=some a/\F.ig (a.add (len*size)) 0 new=some F'/\Q (.slice base (len+n) cap) F')\/(base=none/\Q (.slice base (len+n) cap) F))
  (x:cap<len+n->∀k b,len+n<=k->dx F b->Q (.slice (some ⟨b,0,none⟩) (len+n) k) (F.push b (.cells (old.toArray++new.toArray++Builtin.zeroCells z.cells (k - (len+n))) e))):
  bx P (Builtin.append_ argTypes ty #[.slice base len cap,.slice l n c]) Q F:=by
 have hu:=sL he
 have y:=sL s
 unfold bytesOf at hb
 obtain ⟨info,hi,rfl⟩:=Option.map_eq_some_iff.1 hb
 simp only[Builtin.append_,q,r,List.getElem?_toArray,List.getElem?_cons_zero,List.getElem?_cons_succ,bC,c5,hu,y,eC,hs,bF,Builtin.lenOf,Bool.false_eq_true,if_false,dm,Bool.not_false,if_true,sA,hi]
 split
 .rename_i hle
  have f:=f hle
  refine sM m ?_
  rcases f with ⟨a,F',rfl,A,g⟩|⟨rfl,g⟩
  .simp only[bC]
   refine nL _ _ 0 F F' (by simpa using A) ?_
   exact g
  .exact g
 .rename_i D
  have B:=nextslicecap_le (n:=len+n) (c:=cap) ai w
  have e1:¬(((len+n:Nat):Int)>IntKind.i64.max/\(false=true\/info.bytes=0)):=by
   rintro ⟨_,h|h⟩
   .cases h
   .omega
  have e2:¬(Builtin.nextslicecap (len+n) cap*info.bytes>2 ^ 48):=by
   have:Builtin.nextslicecap (len+n) cap*info.bytes<=20000000*10000:=Nat.mul_le_mul B v
   omega
  rw[if_neg (by simpa using e1),if_neg e2]
  rw[xL]
  rw[if_neg (by simp[Question.forced])]
  intro t
  have o:len+n<=(Question.appendCap (len+n) cap e).cut t:=Nat.le_add_right _ _
  generalize (Question.appendCap (len+n) cap e).cut t=k at o ⊢
  refine Ce _ ?_
  refine sM hold ?_
  refine sM m ?_
  simp only[bC,lz,u,sC,bF]
  exact fun b hb=>x ai k b o hb
end
theorem sO:∀{pre:List (Nat×Obj)} {b:Nat} {o:Obj},aN pre b->lk (pre++[(b,o)]) b=some o
 |[],b,o,_=>by simp[lk]
 |(c,x)::pre,b,o,h=>by
  have a:¬c=b:=fun e=>h.1 e.symm
  simp[lk,a,sO h.2]
def bR (arr:Array Value)(k:Nat):List Value->Array Value
 |[]=>arr
 |v::vs=>bR (arr.setIfInBounds k v) (k+1) vs
theorem pS:∀(vs:List Value) (arr:Array Value) (k:Nat),(bR arr k vs).size=arr.size
 |[],_,_=>rfl
 |v::vs,arr,k=>by rw[bR,pS vs];simp
theorem pU:∀(vs:List Value) (arr:Array Value) (k:Nat),k+vs.length<=arr.size->(bR arr k vs).toList=arr.toList.take k++vs++arr.toList.drop (k+vs.length)
 |[],arr,k,_=>by simp[bR]
 |v::vs,arr,k,h=>by
  simp only[List.length_cons] at h
  rw[bR,pU vs _ _ (by simp;omega)]
  have a:k<arr.toList.length:=by simp;omega
  rw[Array.toList_setIfInBounds]
  have e1:(arr.toList.set k v).take (k+1)=arr.toList.take k++[v]:=by
   rw[List.take_succ_eq_append_getElem (by simpa using a),List.take_set_of_le (Nat.le_refl _)]
   simp
  have e2:(arr.toList.set k v).drop (k+1+vs.length)=arr.toList.drop (k+(v::vs).length):=by
   rw[List.drop_set_of_lt ai]
   congr 1
   simp;omega
  rw[e1,e2]
  simp
def Gr (ro:Addr->Option Value)(e:TypeId)(size:Nat)(v:Value)(l:List (List Value))(bz:List (Nat×Obj)):Prop:=
 (v= .slice none 0 0/\l=[]/\bz=[])\/
 ∃b arr cap,v= .slice (some ⟨b,0,none⟩) l.length cap/\bz=[(b,.cells arr e)]/\arr.size=cap*size/\l.length<=cap/\arr.toList.take (l.length*size)=l.flatten/\(∀x∈l,x.length=size)/\∀off sp,ro ⟨b,off,sp⟩=none
theorem gX {size:Nat}:∀{l:List (List Value)},(∀x∈l,x.length=size)->l.flatten.length=l.length*size
 |[],_=>by simp
 |x::l,h=>by
  have ih:l.flatten.length=l.length*size:=gX (fun y a=>h y (List.mem_cons_of_mem _ a))
  simp only[List.flatten_cons,List.length_append,List.length_cons,h x aB,ih,Nat.add_mul,Nat.one_mul]
  omega
theorem xX {ro:Addr->Option Value}{pre:List (Nat×Obj)}{b:Nat}{e:TypeId}{arr:Array Value}(a:aN pre b)(c:∀off sp,ro ⟨b,off,sp⟩=none):∀(n i:Nat),i+n<=arr.size->
  ag.c6 ⟨ro,pre++[(b,.cells arr e)]⟩ ⟨b,0,none⟩ i n=some ((arr.toList.drop i).take n)
 |0,i,_=>by simp[ag.c6]
 |n+1,i,h=>by
  have f:(⟨b,0,none⟩:Addr).add i=⟨b,i,none⟩:=by
   unfold Addr.add
   split
   .rename_i hi;subst hi;rfl
   .simp
  have d:i<arr.size:=ai
  unfold ag.c6
  have ih:=xX (e:=e) (arr:=arr) a c n (i+1) ai
  simp only[ag.get,f,c,if_true,sO a,Option.bind_some,cellOf,Array.getElem?_eq_getElem d,ih]
  have g:i<arr.toList.length:=by simpa using d
  rw[List.drop_eq_getElem_cons g,List.take_succ_cons]
  simp
theorem Gr.fV {ro:Addr->Option Value}{e:TypeId}{size:Nat}{v:Value}{l:List (List Value)}{bz pre:List (Nat×Obj)}(h:Gr ro e size v l bz)(a:∀k∈keys bz,aN pre k):
  Go.Sep.fV ⟨ro,pre++bz⟩ size v=some l.flatten:=by
 rcases h with ⟨rfl,rfl,rfl⟩|⟨b,arr,cap,rfl,rfl,hs,c,ht,f,d⟩
 .rfl
 .simp only[Go.Sep.fV]
  have hle:l.length*size<=arr.size:=by rw[hs];exact Nat.mul_le_mul_right _ c
  rw[xX (a b (by simp[keys])) d _ _ ai]
  simp[ht]
def nZ (P:Program)(t:TypeId)(parts:List (Nat×Value)):Option Value:=
 match zeroOf P t,placesOf P t with
 |some z,some pl=>match Instr.fill (fun i=>pl[i]?) z.cells parts with
  |some cs=>some (.agg cs)
  |none=>none
 |_,_=>none
theorem xY {P:Program}{Q:Array (Nat×Nat)->ag->Prop}{F:ag}:∀(a:List Field) (pl:List (Nat×Nat)) (acc:Array (Nat×Nat)),(a.mapM fun f=>(cp P f.type).map fun s=>(f.offset,s))=some pl->
  Q (acc++pl.toArray) F->bx P (a.foldlM (fun (b:Array (Nat×Nat)) f=>do let s<-sizeOf f.type;pure (b.push (f.offset,s))) acc) Q F
 |[],pl,acc,h,c=>by
  simp at h;subst h
  simpa [bF] using c
 |f::a,pl,acc,h,c=>by
  simp only[List.mapM_cons] at h
  cases hs:cp P f.type with
  |none=>simp[hs] at h
  |some s=>
   cases d:(a.mapM fun f=>(cp P f.type).map fun s=>(f.offset,s)) with
   |none=>simp[hs,d] at h
   |some e=>
    simp[hs,d] at h
    subst h
    simp only[List.foldlM_cons,bC,eC,hs,bF]
    exact xY a e _ d (by simpa using c)
theorem Cf {P:Program}{Q:Array (Nat×Nat)->ag->Prop}{F:ag}(a:Array Field)(pl:List (Nat×Nat))(h:(a.toList.mapM fun f=>(cp P f.type).map fun s=>(f.offset,s))=some pl)
  (b:Q pl.toArray F):bx P (a.mapM fun f=>do let s<-sizeOf f.type;pure (f.offset,s)) Q F:=by
 rw[Array.mapM_eq_foldlM,<-Array.foldlM_toList]
 have:=xY (Q:=Q) (F:=F) a.toList pl #[] h (by simpa using b)
 simpa using this
theorem Cg {P:Program}{t:TypeId}{parts:Array (Nat×Value)}{w:Value}{Q:Value->ag->Prop}{F:ag}(h:nZ P t parts.toList=some w)(b:Q w F):bx P (Instr.build t parts) Q F:=by
 unfold nZ at h;split at h
 case h_2=>cases h
 rename_i z pl c a;split at h
 case h_2=>cases h
 rename_i cs d;cases h;unfold placesOf at a;split at a
 case h_2=>cases a
 rename_i e f;simp only[Instr.build,bC,lz,c,c5,f];refine Cf e pl a ?_;simp only[List.getElem?_toArray,d,bF];exact b
def pV (P:Program)(t:TypeId)(len:Nat)(parts:List (Nat×Value)):Option (TypeId×Array Value):=
 match ee P t with
 |some e=>match cp P e,zeroOf P e with
  |some size,some z=>if len*size<=2 ^ 24/\0<len*size then
    match Instr.fill (fun i=>some (i*size,size)) ((Array.range (len*size)).map (z.cells[· % z.cells.size]!)) parts with
    |some cs=>some (e,cs)
    |none=>none
   else if len*size=0/\parts.isEmpty=true then some (e,#[]) else none
  |_,_=>none
 |none=>none
theorem Ch {P:Program}{t:TypeId}{len:Nat}{parts:Array (Nat×Value)}{e:TypeId}{cs:Array Value}{Q:Value->ag->Prop}{F:ag}(h:pV P t len parts.toList=some (e,cs))
  (d:∀b,dx F b->Q (.slice (some ⟨b,0,none⟩) len len) (F.push b (.cells cs e))):bx P (Instr.buildSlice t len parts) Q F:=by
 unfold pV at h
 split at h
 case h_2=>cases h
 rename_i f he
 split at h
 case h_2=>cases h
 rename_i size z hs g
 split at h
 case isFalse=>
  split at h
  case isFalse=>cases h
  rename_i hb
  cases h
  have hu:P.underlying t=some (.slice e):=by
   unfold ee at he
   split at he
   .rename_i f a;cases he;exact a
   .cases he
  have c:¬(len*size>2 ^ 24):=by rw[hb.1];decide
  have i:parts.toList=[]:=List.isEmpty_iff.1 hb.2
  simp only[Instr.buildSlice,bC,c5,hu,eC,hs,dm,if_neg c,if_pos hb.1,bF,i]
  rw[hb.1]
  have e0:Array.range 0=#[]:=rfl
  simp only[e0,Array.map_empty,Instr.fill,bC,sC,bF]
  exact d
 rename_i hb
 split at h
 case h_2=>cases h
 rename_i cs' j
 cases h
 have hu:P.underlying t=some (.slice e):=by
  unfold ee at he
  split at he
  .rename_i f a;cases he;exact a
  .cases he
 have c:¬(len*size>2 ^ 24):=ai
 have k:¬(len*size=0):=ai
 simp only[Instr.buildSlice,bC,c5,hu,eC,hs,dm,if_neg c,if_neg k,lz,g,bF,j,sC]
 exact d
def n4 (P:Program)(t:TypeId)(n:Nat):Value->Option Value
 | .agg cs=>match xP P t n with
  |some (off,s,true)=>some (.agg (cs.extract off (off+s)))
  |some (off,_,false)=>cs[off]?
  |none=>none
 |_=>none
theorem Ci {P:Program}{t:TypeId}{n:Nat}{u w:Value}{Q:Value->ag->Prop}{F:ag}(h:n4 P t n u=some w)(b:Q w F):bx P (Instr.field t u n) Q F:=by
 cases u<;>simp only[n4,reduceCtorEq] at h;rename_i cs;unfold xP at h;cases hu:P.underlying t with
 |none=>simp[hu] at h
 |some d=>
  cases d<;>simp only[hu,reduceCtorEq] at h;rename_i c;cases a:c[n]? with
  |none=>simp[a] at h
  |some f=>
   simp only[a] at h;cases hs:cp P f.type with
   |none=>simp[hs] at h
   |some s=>
    cases hg:cF P f.type with
    |none=>simp[hs,hg] at h
    |some g=>
     simp only[hs,hg] at h;simp only[Instr.field,bC,c5,hu,a,B5,part,lA,hg,dm];cases g with
     |true=>simp only[Option.some.injEq] at h;subst h;simpa [eC,hs,bF] using b
     |false=>
      simp only at h;simp only[Bool.false_eq_true,if_false,h];exact b
def pW (n:Nat):Value->Option Value
 | .tuple vs=>vs[n]?
 |_=>none
def kD (P:Program)(src dst:TypeId):Value->Option Value
 | .int _ n=>match P.underlying src,P.underlying dst with
  |some (.int _),some (.int k)=>some (.int k (k.wrap n))
  |_,_=>none
 |_=>none
theorem Cj {P:Program}{src dst:TypeId}{u w:Value}{Q:Value->ag->Prop}{F:ag}(h:kD P src dst u=some w)(a:Q w F):bx P (convert src dst u) Q F:=by
 cases u<;>simp only[kD,reduceCtorEq] at h;rename_i k n;split at h
 .rename_i k1 d b c;cases h;simp only[convert,bC,c5,b,c,Conv.intToInt,bF];exact a
 .cases h
def pX (P:Program)(t:TypeId):Value->Option Value
 | .slice _ n _=>match ee P t with
  |some _=>some (.int .i64 n)
  |none=>none
 | .string s=>match P.underlying t with
  |some .string=>some (.int .i64 s.size)
  |_=>none
 |_=>none
theorem Ck (l:List UInt8):((⟨⟨l⟩⟩:ByteArray).size)=l.length:=rfl
theorem Cm (l:List UInt8)(i:Nat):(⟨⟨l⟩⟩:ByteArray)[i]?=l[i]?:=by
 rcases Nat.lt_or_ge i l.length with h|h
 .rw[ByteArray.getElem?_lt' _ _ h,List.getElem?_eq_getElem h];rfl
 .rw[ByteArray.getElem?_ge' _ _ (Nat.not_lt.2 h),List.getElem?_eq_none h]
attribute [go_sem] Ck Cm
def n5 (P:Program)(t:TypeId):Value->Value->Option Value
 | .agg cs,.int _ i=>match jM P t with
  |some (len,e)=>match cp P e,cF P e with
   |some s,some true=>if 0<=i/\i<(len:Int) then some (.agg (cs.extract (i.toNat*s) (i.toNat*s+s))) else none
   |some s,some false=>if 0<=i/\i<(len:Int) then cs[i.toNat*s]? else none
   |_,_=>none
  |none=>none
 | .string s,.int _ i=>match P.underlying t with
  |some .string=>if 0<=i then (s[i.toNat]?).map fun b=>.int .u8 b.toNat else none
  |_=>none
 |_,_=>none
theorem Cn {P:Program}{t:TypeId}{u v w:Value}{Q:Value->ag->Prop}{F:ag}(h:n5 P t u v=some w)(a:Q w F):bx P (Instr.index t u v) Q F:=by
 unfold n5 at h;split at h
 case h_3=>cases h
 case h_2=>
  rename_i s k i;split at h
  case h_2=>cases h
  rename_i hu;split at h
  case isFalse=>cases h
  rename_i hi;obtain ⟨b,hb,rfl⟩:=Option.map_eq_some_iff.1 h;simp only[Instr.index,bC,jL,c5,hu,if_pos hi,hb,bF];exact a
 rename_i cs k i;split at h
 case h_2=>cases h
 rename_i len e he;have hu:P.underlying t=some (.array len e):=by
  unfold jM at he;split at he
  .rename_i d f c;cases he;exact c
  .cases he
 split at h
 .rename_i s hs hg;split at h
  case isFalse=>cases h
  rename_i hi;cases h;simp only[Instr.index,bC,jL,c5,hu,dm,if_pos hi,eC,hs,part,lA,hg,if_true,bF];exact a
 .rename_i s hs hg;split at h
  case isFalse=>cases h
  rename_i hi;simp only[Instr.index,bC,jL,c5,hu,dm,if_pos hi,eC,hs,part,lA,hg,Bool.false_eq_true,if_false,h,bF];exact a
 .cases h
def sP (P:Program)(argTypes:Array TypeId)(s x:Value)(R:Value->ag->Prop)(F:ag):Prop:=
 ∀ty,bx P (Builtin.append_ argTypes ty #[s,x]) (fun v F=>∃F0,Le F0 F/\R v F0) F
def Oper.lE (o:Oper):Bool:=match o.op with| .call {callee:=.builtin .append, ..}=>true|_=>false
def gm (P:Program)(J:Goroutine->ag->Prop)(y:Value)(args:Array Value)(F:ag)(R:Value->ag->Prop):Prop:=
 match y with
 | .func (.func fn) first captured=>aP P fn=true/\de P J fn (first++args++captured) F R
 | .func (.yield l) first captured=>first=#[]/\captured=#[]/\∃r,F.c7 l=some (.loop r)/\args.size=r.params.size/\iH J l r.fn ((r.params.zip args).foldl (fun tmps (t,a)=>tmps.setIfInBounds t a) r.tmps) r.assign r.body F R
 |_=>False
theorem gm.mono {P:Program}{J:Goroutine->ag->Prop}{y:Value}{args:Array Value}{F:ag}{R a:Value->ag->Prop}(h:gm P J y args F R)(b:∀v F',R v F'->a v F'):gm P J y args F a:=by
 unfold gm at h ⊢;split at h
 .exact ⟨h.1,h.2.mono b⟩
 .obtain ⟨e1,e2,r,c,d,e⟩:=h;exact ⟨e1,e2,r,c,d,e.mono b⟩
 .exact h.elim
theorem Co {P:Program}{J:Goroutine->ag->Prop}{fn:FuncId}{first captured args:Array Value}{F:ag}{R:Value->ag->Prop}:gm P J (.func (.func fn) first captured) args F R=(aP P fn=true/\de P J fn (first++args++captured) F R):=rfl
def cJ (P:Program)(m:Sem Value)(R:Value->ag->Prop)(F:ag):Prop:=bx P m R F
def cL (P:Program)(J:Goroutine->ag->Prop)(o:Oper)(R:Value->ag->Prop)(a:Act)(F:ag):Prop:=
 match o.op with
 | .move x| .assign x=>R (ev a x) F
 | .nilCheck x=>match ev a x with
  | .pointer (some _)=>R (ev a x) F
  |_=>False
 | .pick c x y=>match ev a c with
  | .bool b=>R (if b then ev a x else ev a y) F
  |_=>False
 | .alloc t=>match zeroOf P t with
  |some z=>∀b,dx F b->R (.pointer (some ⟨b,0,none⟩)) (F.push b (.cells z.cells t))
  |none=>False
 | .box t x=>∀b,dx F b->R (.pointer (some ⟨b,0,none⟩)) (F.push b (.cells (ev a x).cells t))
 | .build t parts=>match nZ P t (parts.map fun (i,x)=>(i,ev a x)).toList with
  |some v=>R v F
  |none=>False
 | .buildSlice t len parts=>match pV P t len (parts.map fun (i,x)=>(i,ev a x)).toList with
  |some (e,cs)=>∀b,dx F b->R (.slice (some ⟨b,0,none⟩) len len) (F.push b (.cells cs e))
  |none=>False
 | .load t x=>match ev a x with
  | .pointer (some ad)=>match fo P F t ad with
   |some v=>R v F
   |none=>False
  |_=>False
 | .store t x y=>match ev a x with
  | .pointer (some ad)=>match pO P F t ad (ev a y) with
   |some F'=>R undef F'
   |none=>False
  |_=>False
 | .binOp op t x y _=>match nW P op t (ev a x) (ev a y) with
  |some v=>R v F
  |none=>False
 | .unOp op _ x=>match kB op (ev a x) with
  |some v=>R v F
  |none=>False
 | .convert src dst x=>match kD P src dst (ev a x) with
  |some v=>R v F
  |none=>False
 | .makeFunc fn first captured=>R (.func fn (first.map (ev a)) (captured.map (ev a))) F
 | .slice t x lo hi none=>(match ev a x with| .slice _ len cap=>len<=cap| .pointer (some _)=>True|_=>False)/\match kC P t (ev a x) (lo.map (ev a)) (hi.map (ev a)) with
  |some v=>R v F
  |none=>False
 | .fieldAddr s x n=>match ev a x with
  | .pointer (some ad)=>match dn P s n with
   |some k=>R (.pointer (some (ad.add k))) F
   |none=>False
  |_=>False
 | .field s x n=>match n4 P s n (ev a x) with
  |some v=>R v F
  |none=>False
 | .indexAddr t x i=>match nN P t (ev a x) (ev a i) with
  |some v=>R v F
  |none=>False
 | .index t x i=>match n5 P t (ev a x) (ev a i) with
  |some v=>R v F
  |none=>False
 | .extract x n=>match pW n (ev a x) with
  |some v=>R v F
  |none=>False
 | .call {callee:=.value x,args, ..}=>gm P J (ev a x) (args.map (ev a)) F R
 | .call {callee:=.builtin .len,args,argTypes}=>match argTypes[0]?,args[0]? with
  |some t,some x=>match pX P t (ev a x) with
   |some v=>R v F
   |none=>cJ P (Builtin.len_ argTypes o.type (args.map (ev a))) R F
  |_,_=>False
 | .makeMap t r=>cJ P (Instr.makeMap t (r.map (ev a))) R F
 | .makeSlice t l c=>cJ P (Instr.makeSlice t (ev a l) (ev a c)) R F
 | .lookup t m k ok=>cJ P (Instr.lookup t (ev a m) (ev a k) ok) R F
 | .range t x=>cJ P (Instr.range t (ev a x)) R F
 | .next x st=>cJ P (Instr.next (ev a x) st o.type) R F
 | .entry x=>cJ P (Instr.entry (ev a x)) R F
 | .mapUpdate t m k x=>cJ P (Instr.mapUpdate t (ev a m) (ev a k) (ev a x)>>= fun _=>pure undef) R F
 | .call {callee:=.builtin .clear,args,argTypes}=>cJ P (Builtin.clear_ argTypes o.type (args.map (ev a))) R F
 | .call {callee:=.builtin .cap,args,argTypes}=>cJ P (Builtin.cap_ argTypes o.type (args.map (ev a))) R F
 | .call {callee:=.builtin .copy,args,argTypes}=>cJ P (Builtin.copy_ argTypes o.type (args.map (ev a))) R F
 | .call {callee:=.builtin .append,args,argTypes}=>match args.toList with
  |[x,y]=>sP P argTypes (ev a x) (ev a y) R F
  |_=>False
 | .call {callee:=.builtin .max,args, ..}=>match args.toList with
  |[x,y]=>match pP (ev a x) (ev a y) with
   |some v=>R v F
   |none=>False
  |_=>False
 | .call {callee:=.builtin .min,args, ..}=>match args.toList with
  |[x,y]=>match pQ (ev a x) (ev a y) with
   |some v=>R v F
   |none=>False
  |_=>False
 |_=>False
theorem eJ (a:Act):a.eval=ev a:=rfl
theorem xZ {P:Program}{J:Goroutine->ag->Prop}{o:Oper}{R:Value->ag->Prop}{D:Deferred->ag->Prop}{a:Act}{F:ag}(E:Oper.lE o=false)(h:cL P J o R a F):bx P (execOp a.eval o) (e9 P J R D) F:=by
 obtain ⟨dst,op,type,pos,after,guard⟩:=o;unfold execOp;simp only[eJ];unfold cL at h;simp only at h;cases op<;>simp only at h ⊢
 case move x=>exact h
 case assign x=>exact h
 case nilCheck x=>
  split at h
  .rename_i ad d;simp only[d,bF,e9];rw[d] at h;exact h
  .exact h.elim
 case pick c x y=>
  split at h
  .rename_i b hb;simp only[bC,hb,B4,bF,e9];exact h
  .exact h.elim
 case alloc t=>
  split at h
  .rename_i z G;simp only[Instr.alloc,bC,lz,G,xM,bF,e9];exact h
  .exact h.elim
 case box t x=>
  simp only[Instr.box,bC,xM,bF,e9];exact h
 case build t parts=>
  split at h
  .rename_i v hv;simp only[bC,bF];exact Cg hv h
  .exact h.elim
 case buildSlice t len parts=>
  split at h
  .rename_i e cs hv;simp only[bC,bF];exact Ch hv h
  .exact h.elim
 case load t x=>
  split at h
  case h_2=>exact h.elim
  rename_i ad p;split at h
  case h_2=>exact h.elim
  rename_i v hv;simp only[Instr.loadAt,bC,p,nM,bF];exact xQ hv h
 case store t x y=>
  split at h
  case h_2=>exact h.elim
  rename_i ad p;split at h
  case h_2=>exact h.elim
  rename_i F' H;simp only[Instr.storeAt,bC,p,nM,bF];exact B7 H h
 case binOp op t x y W=>
  split at h
  case h_2=>exact h.elim
  rename_i v hv;rw[fT];exact Cd hv h
 case unOp op t x=>
  split at h
  case h_2=>exact h.elim
  rename_i v hv;rw[fT];exact B9 hv h
 case convert src dst x=>
  split at h
  case h_2=>exact h.elim
  rename_i v hv;rw[fT];exact Cj hv h
 case makeFunc fn first captured=>
  simp only[Instr.makeFunc,bC,bF,e9];exact h
 case slice t x lo hi I=>
  cases I with
  |some m=>exact h.elim
  |none=>
   simp only at h;obtain ⟨q,h⟩:=h;split at h
   case h_2=>exact h.elim
   rename_i v hv;rw[fT];exact Cb (fun ad len cap e=>by rw[e] at q;exact q) hv h
 case fieldAddr s x n=>
  split at h
  case h_2=>exact h.elim
  rename_i ad p;split at h
  case h_2=>exact h.elim
  rename_i k g;unfold dn at g;split at g
  case h_2=>cases g
  rename_i X K;split at g
  case h_2=>cases g
  rename_i f u;split at g
  case h_2=>cases g
  rename_i m hm;cases g;rw[fT];simp only[Instr.fieldAt,bC,c5,K,u,p,nM,fieldPlace,eC,hm];simpa [bF,e9] using h
 case field s x n=>
  split at h
  case h_2=>exact h.elim
  rename_i v hv;rw[fT];exact Ci hv h
 case indexAddr t x i=>
  split at h
  case h_2=>exact h.elim
  rename_i v hv;rw[fT];exact Ca hv h
 case index t x i=>
  split at h
  case h_2=>exact h.elim
  rename_i v hv;rw[fT];exact Cn hv h
 case extract x n=>
  split at h
  case h_2=>exact h.elim
  rename_i v hv;rw[fT];unfold pW at hv;split at hv
  .rename_i vs L;simp only[L,Instr.extract,hv];exact h
  .cases hv
 case makeMap t r=>
  rw[fT];exact h
 case makeSlice t l c=>
  rw[fT];exact h
 case lookup t m k ok=>
  rw[fT];exact h
 case range t x=>
  rw[fT];exact h
 case next x st=>
  rw[fT];exact h
 case entry x=>
  rw[fT];exact h
 case mapUpdate t m k x=>
  unfold cJ at h;rw[bC] at h;rw[bC];exact h
 case call c=>
  obtain ⟨callee,args,argTypes⟩:=c;cases callee with
  |value x=>
   simp only at h;unfold gm at h;split at h
   case h_3=>exact h.elim
   .rename_i fn first captured d
    obtain ⟨j,M⟩:=h;unfold aP at j;split at j
    case h_2=>cases j
    rename_i f u;simp only[Bool.not_eq_true',Bool.or_eq_false_iff] at j;simp only[resolve,d,Deferred.ofValue,bC,bF,invoke,callFunc,jh,u,j.1,j.2,Bool.false_eq_true,if_false,e9];exact M
   .rename_i l first captured d
    obtain ⟨rfl,rfl,r,q,N,O⟩:=h;simp only[resolve,d,Deferred.ofValue,bC,bF,invoke,Instr.yield,Instr.getLoop,Array.append_empty,Array.empty_append,Array.map_map];refine ⟨_,q,?_⟩;have S:∀{α:Type} (x:α) (Q:α->ag->Prop) (F:ag),bx P (Sem.pure x) Q F=Q x F:=fun _ _ _=>rfl;simp only[bC,S,bF,dm,ne_eq,N,not_true_eq_false,if_false,e9];exact O
  |invoke r m=>exact h.elim
  |builtin b=>
   cases b<;>simp only at h
   case append=>simp[Oper.lE] at E
   case clear=>
    simp only[resolve,bC,bF,invoke,builtin];exact h
   case cap=>
    simp only[resolve,bC,bF,invoke,builtin];exact h
   case copy=>
    simp only[resolve,bC,bF,invoke,builtin];exact h
   case len=>
    split at h
    case h_2=>exact h.elim
    rename_i t x ht d;split at h
    case h_2=>
     simp only[resolve,bC,bF,invoke,builtin];exact h
    rename_i v hv;unfold pX at hv;split at hv
    case h_3=>cases hv
    case h_2=>
     rename_i s w;split at hv
     case h_2=>cases hv
     rename_i hu;cases hv;have A:(args.map (ev a))[0]?=some (.string s):=by simp[d,w]
     simp only[resolve,bC,bF,invoke,builtin,Builtin.len_,ht,A,c5,hu];exact h
    rename_i ad n cap w;split at hv
    case h_2=>cases hv
    rename_i e T;have he:=sL T;cases hv;have A:(args.map (ev a))[0]?=some (.slice ad n cap):=by simp[d,w]
    simp only[resolve,bC,bF,invoke,builtin,Builtin.len_,ht,A,c5,he];exact h
   case max=>
    split at h
    case h_2=>exact h.elim
    rename_i x y B;split at h
    case h_2=>exact h.elim
    rename_i v hv;unfold pP at hv;split at hv
    case h_2=>cases hv
    rename_i k x' U V d C;cases hv;simp only[resolve,bC,bF,invoke,builtin,Builtin.max_,Array.toList_map,B,List.map_cons,List.map_nil,List.foldlM_cons,List.foldlM_nil,d,C,Builtin.max2,e9];exact h
   case min=>
    split at h
    case h_2=>exact h.elim
    rename_i x y B;split at h
    case h_2=>exact h.elim
    rename_i v hv;unfold pQ at hv;split at hv
    case h_2=>cases hv
    rename_i k x' U V d C;cases hv;simp only[resolve,bC,bF,invoke,builtin,Builtin.min_,Array.toList_map,B,List.map_cons,List.map_nil,List.foldlM_cons,List.foldlM_nil,d,C,Builtin.min2,e9];exact h
theorem jj {P:Program}{J:Goroutine->ag->Prop}{o:Oper}{R:Value->ag->Prop}{D:Deferred->ag->Prop}{a:Act}{F:ag}(h:cL P J o R a F):bx P (execOp a.eval o) (jg P J R D) F:=
by
 cases b:Oper.lE o with
 |false=>exact gk BO _ _ (xZ b h)
 |true=>
  obtain ⟨dst,op,type,pos,after,guard⟩:=o
  unfold Oper.lE at b
  split at b
  .rename_i callee args argTypes c
   simp only at c
   subst c
   unfold cL at h
   simp only at h
   split at h
   case h_2=>exact h.elim
   rename_i x y d
   have e:args=#[x,y]:=by rw[<-Array.toList_inj];simpa using d
   subst e
   unfold execOp
   simp only[eJ,resolve,bC,bF,invoke,builtin]
   have:=h type
   simpa [jg,e9,bC,bF] using this
  .cases b
def cA (ops:Array Oper)(o:Oper)(a:Act):Option Bool:=
 match o.guard with
 |none=>some true
 |some (j,want)=>match (ops[j]?).bind (·.dst) with
  |some d=>match slot a d with
   | .bool b=>some (b==want)
   | .tuple _=>some false
   |_=>none
  |none=>none
theorem cx {ops:Array Oper}{o:Oper}{a:Act}{t:Bool}(h:cA ops o a=some t):Region.wanted o (yielded ops a.tmps)=t:=by
 unfold cA at h;unfold Region.wanted;split at h
 .rename_i hg;rw[hg];cases h;rfl
 .rename_i j want hg;rw[hg];split at h
  .rename_i d hd;split at h
   .rename_i b hb;cases h;have ht:a.tmps[d]?=some (.bool b):=by
     unfold slot at hb;rw[Array.getD_eq_getD_getElem?] at hb;cases c:a.tmps[d]? with
     |none=>rw[c] at hb;simp[undef] at hb
     |some v=>rw[c] at hb;simpa using hb
    simp only[yielded,hd,Option.bind_some,ht];cases b<;>cases want<;>rfl
   .rename_i b hb;cases h;simp only[yielded,hd,Option.bind_some];unfold slot at hb;rw[Array.getD_eq_getD_getElem?] at hb;cases c:a.tmps[d]? with
    |none=>rfl
    |some v=>
     rw[c] at hb;simp at hb;subst hb;rfl
   .cases h
  .cases h
def Oper.calls (o:Oper):Bool:=match o.op with| .call {callee:=.value _, ..}=>true| .call {callee:=.builtin .append, ..}=>true| .call {callee:=.builtin .clear, ..}=>true| .call {callee:=.builtin .cap, ..}=>true| .call {callee:=.builtin .copy, ..}=>true| .makeMap ..=>true| .makeSlice ..=>true| .mapUpdate ..=>true|_=>false
def ej (P:Program)(J:Goroutine->ag->Prop)(ops:Array Oper)(K:Act->ag->Prop):List Oper->Bool->Act->ag->Prop
 |[],_,a,F=>K a F
 |o::rest,_,a,F=>match cA ops o a with
  |some true=>cL P J o (fun v F'=>ej P J ops K rest (!Oper.calls o) (bt a o.dst v) F') a F
  |some false=>ej P J ops K rest true (bt a o.dst undef) F
  |none=>False
theorem sQ {P:Program}{J:Goroutine->ag->Prop}{ops:Array Oper}{K:Act->ag->Prop}{go:Bool}{a:Act}{F:ag}:ej P J ops K [] go a F=K a F:=rfl
theorem sR {P:Program}{J:Goroutine->ag->Prop}{ops:Array Oper}{K:Act->ag->Prop}{o:Oper}{rest:List Oper}{a:Act}{F:ag}:ej P J ops K (o::rest) true a F=match cA ops o a with
  |some true=>cL P J o (fun v F'=>ej P J ops K rest (!Oper.calls o) (bt a o.dst v) F') a F
  |some false=>ej P J ops K rest true (bt a o.dst undef) F
  |none=>False:=(Eq.refl _).trans (Eq.refl _)
theorem aQ {P:Program}{J:Goroutine->ag->Prop}{ops:Array Oper}{K:Act->ag->Prop}:∀{l:List Oper} {go:Bool} {a:Act} {F:ag},ej P J ops K l true a F->ej P J ops K l go a F
 |[],_,_,_,h=>h
 |_::_,_,_,_,h=>h
theorem sS {P:Program}{J:Goroutine->ag->Prop}{ops:Array Oper}{K:Act->ag->Prop}:∀(l:List Oper) (k:Nat) (go:Bool) (a:Act) (F:ag),ops.toList.drop k=l->ej P J ops K l go a F->
  eI P J ops K (List.range' k l.length) a F
 |[],k,_,a,F,_,h=>h
 |o::rest,k,_,a,F,b,h=>by
  have ho:ops[k]?=some o:=by
   have:=congrArg List.head? b
   simpa [List.head?_drop] using this
  have c:ops.toList.drop (k+1)=rest:=by
   have:=congrArg List.tail b
   simpa [List.tail_drop] using this
  simp only[List.length_cons,List.range'_succ]
  show dy P J ops k (eI P J ops K (List.range' (k+1) rest.length)) a F
  unfold dy
  simp only[ho]
  unfold ej at h
  split at h
  .rename_i hg
   rw[if_pos (cx hg)]
   exact gk (lq (fun v F' hv=>sS rest (k+1) _ _ F' c hv) (fun _ _ x=>x)) _ _ (jj h)
  .rename_i hg
   rw[if_neg (by rw[cx hg];simp)]
   exact sS rest (k+1) _ _ F c h
  .exact h.elim
theorem ah {P:Program}{main:Bool}{J:Goroutine->ag->Prop}{Q:Ex->Act->ag->Prop}{a:Act}{F:ag}(hJ:Closed P main J){id:Nat}{ops:Array Oper}(h:ej P J ops (Q .normal) ops.toList true a F):Wp J (.region id ops false) Q a F:=by
 refine BW hJ ?_;have:=sS ops.toList 0 true a F aB h;simpa [List.range_eq_range'] using this
theorem bW {P:Program}{main:Bool}{J:Goroutine->ag->Prop}{Q:Ex->Act->ag->Prop}{a:Act}{F:ag}(hJ:Closed P main J){id:Nat}{ops:Array Oper}{y:Code}(h:ej P J ops (pL J y Q .normal) ops.toList true a F):Wp J (.seq (.region id ops false) y) Q a F:=af hJ (ah hJ h)
attribute [irreducible] ej
theorem sU {P:Program}{J:Goroutine->ag->Prop}{ops:Array Oper}{Q:Act->ag->Prop}{S:ag->Prop}(i:Nat){b:Oper}(v:Value){fuel:Nat}{listed:Array Bool}{a:Act}{F:ag}(hi:ops[i]?=some b)
  (d:(Region.noSelect ops&&Region.free .any ops listed i&&(Region.ready .any ops listed).contains i)=true)
  (hg:cA ops b a=some true) (e:∀F R,S F->R v F->cL P J b R a F) (c:S F)
  (h:dZ P J ops Q S fuel (listed.setIfInBounds i true) (bt a b.dst v) F):dZ P J ops Q S (fuel+1) listed a F:=
 xy i v hi d (.inl ⟨cx hg,fun F R c hR=>jj (e F R c hR)⟩) c h
theorem Cp {P:Program}{J:Goroutine->ag->Prop}{ops:Array Oper}{Q:Act->ag->Prop}{S:ag->Prop}(i:Nat){b:Oper}{fuel:Nat}{listed:Array Bool}{a:Act}{F:ag}(hi:ops[i]?=some b)
  (c:(Region.noSelect ops&&Region.free .any ops listed i&&(Region.ready .any ops listed).contains i)=true)
  (hg:cA ops b a=some false) (d:S F)
  (h:dZ P J ops Q S fuel (listed.setIfInBounds i true) (bt a b.dst undef) F):dZ P J ops Q S (fuel+1) listed a F:=
 xy i undef hi c (.inr ⟨cx hg,rfl⟩) d h
theorem Cq {P:Program}{J:Goroutine->ag->Prop}{ops:Array Oper}{Q:Act->ag->Prop}{S:ag->Prop}(i:Nat){b:Oper}{fuel:Nat}{listed:Array Bool}{a:Act}{F:ag}(hi:ops[i]?=some b)
  (c:Region.ready .any ops listed=[i]) (hg:cA ops b a=some true)
  (h:cL P J b (fun v F'=>S F'/\dZ P J ops Q S fuel (listed.setIfInBounds i true) (bt a b.dst v) F') a F):dZ P J ops Q S (fuel+1) listed a F:=by
 refine BS i c ?_
 unfold dy
 simp only[hi]
 rw[if_pos (cx hg)]
 exact jj h
theorem lF {P:Program}{main:Bool}{J:Goroutine->ag->Prop}{Q:Ex->Act->ag->Prop}{a:Act}{F:ag}{B:Prop}(hJ:Closed P main J){id:Nat}{ops:Array Oper}{y:Code}(h:B)(e:ej P J ops (pL J y Q .normal) ops.toList true a F=B:=by conv=>lhs;simp only[*,go_sem]):Wp J (.seq (.region id ops false) y) Q a F:=af hJ (ah hJ (e▸h))
theorem eu {J:Goroutine->ag->Prop}{Q:Ex->Act->ag->Prop}{a:Act}{F:ag}{B:Prop}(h:B)(e:Q .ret a F=B:=by conv=>lhs;simp only[*,go_sem]):Wp J .ret Q a F:=aI (e▸h)
attribute [go_sem] List.isEmpty_nil List.isEmpty_cons undef sQ sR Oper.calls Bool.not_true Bool.not_false cA cL ag.push ag.get ag.put lk eU cellOf fo pO ag.c6 ag.ig ag.ku e8 frozenAt nW lC nU Option.isNone_none Option.isNone_some fU ij lB kB pP pQ nN n5 kC n4 pW kD pX nZ pV
theorem add_zero' (a:Addr):a.add 0=a:=rfl
theorem jN (a:Addr)(m n:Nat):(a.add m).add n=a.add (m+n):=by
 unfold Addr.add;by_cases hm:m=0
 .subst hm;simp
 .by_cases hn:n=0
  .subst hn;simp[hm]
  .have:¬m+n=0:=ai;simp[hm,hn,this,Nat.add_assoc]
theorem iL (b o n:Nat):(⟨b,o,none⟩:Addr).add n=⟨b,o+n,none⟩:=by
 unfold Addr.add;by_cases hn:n=0
 .subst hn;simp
 .simp[hn]
attribute [go_sem] add_zero' jN iL Nat.add_assoc Int.reduceLE Int.reduceLT Int.reduceToNat Int.toNat_zero Int.le_refl
attribute [go_sem] Value.cells Instr.fill pN gV sj pL Co
attribute [go_sem] and_true true_and Array.getD_eq_getD_getElem? List.getElem?_toArray List.getElem?_cons_zero List.getElem?_cons_succ List.getElem?_nil Option.getD_some Option.getD_none Option.bind_some Option.bind_none Option.map_some Option.map_none
attribute [go_sem] Nat.reduceLT Nat.reduceEqDiff Nat.reduceAdd Nat.reduceMul Nat.reduceSub if_true if_false reduceIte reduceCtorEq List.setIfInBounds_toArray List.set_cons_zero List.set_cons_succ
attribute [go_sem] List.map_toArray List.map_cons List.map_nil List.append_toArray List.cons_append List.nil_append List.append_nil Array.append_empty Array.empty_append List.toList_toArray List.length_cons List.length_nil List.size_toArray ne_eq not_true_eq_false not_false_eq_true forall_const
theorem aT {ro:Addr->Option Value}{own:List (Nat×Obj)}{b:Nat}(h:dx ⟨ro,own⟩ b):∀off sp,ro ⟨b,off,sp⟩=none:=h.ro
theorem aU {ro:Addr->Option Value}{own:List (Nat×Obj)}{b:Nat}(h:dx ⟨ro,own⟩ b):aN own b:=h.own
def n6 (P:Program)(F:ag)(a:Act):ResultVar->Option Value
 | .tmp t=>some (slot a t)
 | .cell ad t=>match slot a ad with
  | .pointer (some p)=>fo P F t p
  |_=>none
def kE (P:Program)(F:ag)(a:Act):List ResultVar->Option (List Value)
 |[]=>some []
 |r::rs=>match n6 P F a r with
  |some v=>match kE P F a rs with
   |some vs=>some (v::vs)
   |none=>none
  |none=>none
def kF (P:Program)(F:ag)(a:Act)(rs:List ResultVar):Option Value:=
 match kE P F a rs with
 |some [v]=>some v
 |some vs=>some (.tuple vs.toArray)
 |none=>none
attribute [go_sem] n6 kE kF
theorem sV {P:Program}{F:ag}{a:Act}{Q:Array Value->ag->Prop}:∀(rs:List ResultVar) (vs:List Value) (acc:Array Value),kE P F a rs=some vs->Q (acc++vs.toArray) F->
  bx P (rs.foldlM (fun (b:Array Value) r=>do let x<-(match r with| .tmp t=>pure (a.tmps.getD t undef)| .cell ad t=>do loadVar t (<-asAddr (a.tmps.getD ad undef)):Sem Value);pure (b.push x)) acc) Q F
 |[],vs,acc,h,c=>by
  simp only[kE,Option.some.injEq] at h;subst h
  simpa [bF] using c
 |r::rs,vs,acc,h,c=>by
  unfold kE at h
  split at h
  case h_2=>cases h
  rename_i v hv
  split at h
  case h_2=>cases h
  rename_i ws f
  cases h
  have d:=sV rs ws (acc.push v) f (Q:=Q) (by simpa using c)
  simp only[List.foldlM_cons,bC]
  cases r with
  |tmp t=>
   simp only[n6,Option.some.injEq,slot] at hv
   subst hv
   simpa only[bF] using d
  |cell ad t=>
   simp only[n6] at hv
   split at hv
   .rename_i p e
    unfold slot at e
    simp only[bC,e,asAddr,bF]
    exact xQ hv d
   .cases hv
theorem pY {P:Program}{fn:Func}{rs:List ResultVar}{F:ag}{a:Act}{v:Value}{R:Value->ag->Prop}(c:fn.results=rs.toArray)(h:kF P F a rs=some v)(hR:R v F):bx P (results fn a.tmps) R F:=by
 unfold results;rw[c,bC,Array.mapM_eq_foldlM,<-Array.foldlM_toList];unfold kF at h;split at h
 case h_3=>cases h
 .rename_i x b;cases h;exact sV rs [v] #[] b (by simpa [bF] using hR)
 .rename_i vs d b;cases h;refine sV rs vs #[] b ?_;simp only[Array.empty_append,bF];split
  .rename_i hs;simp at hs;obtain ⟨v,rfl⟩:=List.length_eq_one_iff.1 hs;exact absurd rfl (d v)
  .exact hR
def iq (P:Program)(rs:List ResultVar)(R:Value->ag->Prop):Ex->Act->ag->Prop
 | .exit _,_,_=>False
 |_,a,F=>a.defers=[]/\match kF P F a rs with|some v=>R v F|none=>False
attribute [go_sem] iq
theorem aF.go {P:Program}{f:FuncId}{fn:Func}{c:Code}{n:Nat}{rs:List ResultVar}{args:Array Value}{F:ag}{R:Value->ag->Prop}(d:P.funcs[f]?=some fn)(hb:fn.body=some c)(hn:fn.ntmps=n)(g:fn.results=rs.toArray)(j:args.size<=n)
  (h:∀main J,Closed P main J->∀A:Act,sz A=n->A.defers=[]->(∀i,slot A i=args.getD i undef)->Wp J c (iq P rs R) A F):aF P f args F R:=
 aF.start d hb hn j fun main J hJ A k l m=>(h main J hJ A k l m).mono fun e a F b=>by
  cases e with
  |exit i=>exact b
  |_=>
   obtain ⟨hd,hv⟩:=b
   split at hv
   .rename_i v o
    show gV P a.defers _ F
    rw[hd]
    exact pY g o hv
   .exact hv.elim
def cU (n m:Nat):Array Bool:=(Array.range n).map fun i=>decide (i<m)
def n7 (ops:Array Oper)(m:Nat):Bool:=
 Region.noSelect ops&&decide (m<=ops.size)&&((List.range m).all fun i=>Region.free .any ops (cU ops.size i) i&&(Region.ready .any ops (cU ops.size i)).contains i)&&
 ((List.range (ops.size - m)).all fun j=>decide (Region.ready .any ops (cU ops.size (m+j))=[m+j]))&&decide (Region.ready .any ops (cU ops.size ops.size)=[])
def Cr (D:List Nat)(L:List (List Nat))(x y:Nat):Bool:=RegionTabs.apart ⟨#[],D.toArray,L.toArray⟩ x y
def sW (A:List (List Nat))(D:List Nat)(L:List (List Nat))(n m:Nat):Bool:=
 decide (m<=n)&&((List.range m).all fun k=>(A.getD k []).all (fun x=>decide (x<k))&&(List.range n).all fun j=>decide (j<=k)||(A.getD j []).contains k||Cr D L k j)&&
 ((List.range (n - m)).all fun t=>(A.getD (m+t) []).all (fun x=>decide (x<m+t))&&(List.range (n - (m+t+1))).all fun u=>!(A.getD (m+t+1+u) []).all (fun x=>decide (x<m+t)))
section
variable {ops:Array Oper}
theorem x4 {n k i:Nat}(h:i<n):(cU n k).getD i true=decide (i<k):=by
 simp[cU,Array.getD_eq_getD_getElem?,h]
theorem Cs {n k i:Nat}(a:k<=n):(cU n k).getD i false=decide (i<k):=by
 rcases Nat.lt_or_ge i n with h|h
 .simp[cU,Array.getD_eq_getD_getElem?,h]
 .have:¬i<k:=ai;simp[cU,Array.getD_eq_getD_getElem?,Array.getElem?_eq_none,h,this]
theorem sX {A:List (List Nat)}{k:Nat}(a:Region.tabAfter .any ops=A)(b:k<=ops.size):
  Region.ready .any ops (cU ops.size k)=(List.range ops.size).filter fun i=>!decide (i<k)&&(A.getD i []).all fun x=>decide (x<k):=by
 have hlen:A.length=ops.size:=by rw[<-a];simp[Region.tabAfter]
 rw[<-RegionTabs.ready_eq]
 unfold RegionTabs.ready RegionTabs.of
 simp only[a,List.size_toArray,hlen]
 apply List.filter_congr
 intro i hi
 have c:i<ops.size:=List.mem_range.1 hi
 rw[x4 c]
 congr 1
 rw[List.getElem?_toArray,List.getD_eq_getElem?_getD,List.getElem?_eq_getElem ai]
 simp only[Option.map_some,Option.getD_some]
 congr 1
 funext x
 exact Cs b
theorem filter_one {k:Nat}{p:Nat->Bool}(b:p k=true):∀(n:Nat),k<n->(∀i,i<n->i≠k->p i=false)->(List.range n).filter p=[k]
 |0,c,_=>by omega
 |n+1,c,a=>by
  rw[List.range_succ,List.filter_append]
  by_cases e:k=n
  .subst e
   have:(List.range k).filter p=[]:=by
    rw[List.filter_eq_nil_iff]
    intro i hi
    have d:=List.mem_range.1 hi
    rw[a i ai ai];simp
   rw[this];simp[b]
  .rw[filter_one b n ai fun i hi=>a i ai]
   simp[a n ai (fun x=>e x.symm)]
theorem Ct {m n:Nat}(A:List (List Nat))(D:List Nat)(L:List (List Nat))(hs:Region.noSelect ops=true)(hn:ops.size=n)(a:Region.tabAfter .any ops=A)(f:Region.tabDst ops=D)(g:Region.tabLooks ops=L)(h:sW A D L n m=true):n7 ops m=true:=by
 subst hn;have hlen:A.length=ops.size:=by rw[<-a];simp[Region.tabAfter]
 simp only[sW,Bool.and_eq_true,decide_eq_true_eq,List.all_eq_true,List.mem_range] at h;obtain ⟨⟨hm,c⟩,d⟩:=h;simp only[n7,Bool.and_eq_true,decide_eq_true_eq,List.all_eq_true,List.mem_range];refine ⟨⟨⟨⟨hs,hm⟩,fun i hi=>⟨?_,?_⟩⟩,fun j b=>?_⟩,?_⟩
 .rw[<-RegionTabs.free_eq];unfold RegionTabs.free;have e1:(RegionTabs.of .any ops).after=A.toArray:=by simp[RegionTabs.of,a]
  rw[e1,List.size_toArray,hlen];simp only[Bool.and_eq_true,decide_eq_true_eq,List.all_eq_true,List.mem_range];refine ⟨ai,fun j b=>?_⟩;have:=(c i hi).2 j b;simp only[Bool.or_eq_true,decide_eq_true_eq] at this;simp only[Bool.or_eq_true];rcases this with (hle|k)|l
  .rcases Nat.lt_or_eq_of_le hle with x|x
   .left;left;right;rw[x4 ai];simpa using x
   .left;left;left;simpa using x
  .left;right;simpa [Array.getD_eq_getD_getElem?,List.getD_eq_getElem?_getD] using k
  .right;have e:RegionTabs.of .any ops=⟨A.toArray,D.toArray,L.toArray⟩:=by simp[RegionTabs.of,a,f,g]
   rw[e];exact l
 .rw[sX a ai];rw[List.contains_iff_mem,List.mem_filter];refine ⟨List.mem_range.2 ai,?_⟩;have:=(c i hi).1;simpa [List.all_eq_true] using this
 .have o:m+j<ops.size:=ai;rw[sX a ai];refine filter_one ?_ _ o fun i hi p=>?_
  .have:=(d j b).1;simpa [List.all_eq_true] using this
  .rcases Nat.lt_or_ge i (m+j) with x|x
   .simp[x]
   .have:=(d j b).2 (i - (m+j+1)) ai;rw[show m+j+1+(i - (m+j+1))=i by omega] at this;simp only[Bool.not_eq_true'] at this;simp only[this,Bool.and_false]
 .rw[sX a (Nat.le_refl _)];rw[List.filter_eq_nil_iff];intro i hi;have:=List.mem_range.1 hi;simp[this]
def sY (n:Nat)(k:Nat->Bool):Bool:=Nat.casesOn n (k 0) fun m=>k (m+1)
def n8:List Nat->(List Nat->Bool)->Bool
 |[],k=>k []
 |x::xs,k=>sY x fun y=>n8 xs fun ys=>k (y::ys)
def n9:List (List Nat)->(List (List Nat)->Bool)->Bool
 |[],k=>k []
 |x::xs,k=>n8 x fun y=>n9 xs fun ys=>k (y::ys)
theorem x5 (n:Nat)(k:Nat->Bool):sY n k=k n:=by cases n<;>rfl
theorem sZ:∀(l:List Nat) (k:List Nat->Bool),n8 l k=k l
 |[],_=>rfl
 |x::xs,k=>by rw[n8,x5,sZ xs]
theorem x6:∀(l:List (List Nat)) (k:List (List Nat)->Bool),n9 l k=k l
 |[],_=>rfl
 |x::xs,k=>by rw[n9,sZ,x6 xs]
def pZ (ops:Array Oper)(m:Nat):Bool:=Region.noSelect ops&&n9 (Region.tabAfter .any ops) fun A=>n8 (Region.tabDst ops) fun D=>n9 (Region.tabLooks ops) fun L=>sY ops.size fun n=>sW A D L n m
theorem x7 {m:Nat}(h:pZ ops m=true):n7 ops m=true:=by
 simp only[pZ,Bool.and_eq_true,x6,sZ,x5] at h;exact Ct _ _ _ h.1 rfl rfl rfl rfl h.2
end
def ir:List (Nat×Obj)->List (Nat×Obj)->Prop
 |[],_=>True
 |(b,o)::l,own=>lk own b=some o/\ir l own
def Knows (F0 F:ag):Prop:=(∀a v,F0.ro a=some v->F.ro a=some v)/\(∀a,a.block∈keys F0.own->F0.ro a=none->F.ro a=none)/\ir F0.own F.own
theorem ir.lk:∀{l own:List (Nat×Obj)} {b:Nat} {o:Obj},ir l own->lk l b=some o->Go.Sep.lk own b=some o
 |[],_,_,_,_,h=>by cases h
 |(c,x)::l,own,b,o,a,h=>by
  unfold Go.Sep.lk at h
  split at h
  .rename_i e;cases h;exact e▸a.1
  .exact ir.lk a.2 h
theorem Knows.get {F0 F:ag}(h:Knows F0 F){a:Addr}{v:Value}(hg:F0.get a=some v):F.get a=some v:=by
 unfold ag.get at hg ⊢;cases b:F0.ro a with
 |some x=>rw[b] at hg;rw[h.1 a x b];exact hg
 |none=>
  rw[b] at hg;simp only at hg;split at hg
  .rename_i hs;obtain ⟨o,ho,c⟩:=Option.bind_eq_some_iff.1 hg;rw[h.2.1 a (eB (gG ho)) b];simp only;rw[if_pos hs,h.2.2.lk ho];exact c
  .cases hg
theorem Cu {ro:Addr->Option Value}{l own:List (Nat×Obj)}:Knows ⟨ro,l⟩ ⟨ro,own⟩=ir l own:=
 propext ⟨fun h=>h.2.2,fun h=>⟨fun _ _ x=>x,fun _ _ x=>x,h⟩⟩
theorem Cv {ro aK:Addr->Option Value}{l own:List (Nat×Obj)}(c:∀a v,ro a=some v->aK a=some v)(hn:∀b∈keys l,∀off sp,aK ⟨b,off,sp⟩=none)(h:ir l own):Knows ⟨ro,l⟩ ⟨aK,own⟩:=
 ⟨c,fun a d _=>hn a.block d a.off a.spot,h⟩
theorem Knows.kA {F0 F:ag}(h:Knows F0 F){a:Addr}:∀{n i:Nat} {vs:List Value},F0.c6 a i n=some vs->F.c6 a i n=some vs
 |0,_,_,hg=>hg
 |n+1,i,vs,hg=>by
  unfold ag.c6 at hg ⊢
  split at hg
  case h_2=>cases hg
  rename_i v hv
  split at hg
  case h_2=>cases hg
  rename_i ws b
  rw[h.get hv,h.kA b]
  exact hg
theorem Knows.fo {P:Program}{F0 F:ag}(h:Knows F0 F){t:TypeId}{ad:Addr}{v:Value}(hg:fo P F0 t ad=some v):Go.Sep.fo P F t ad=some v:=by
 unfold Go.Sep.fo at hg ⊢;split at hg
 .exact h.get hg
 .split at hg
  case h_2=>cases hg
  rename_i n hn;split at hg
  case h_2=>cases hg
  rename_i vs a;rw[h.kA a];exact hg
 .cases hg
def iu (P:Program)(o:Oper)(a:Act):Option Value:=
 match o.op with
 | .move x| .assign x=>some (ev a x)
 | .nilCheck x=>match ev a x with
  | .pointer (some ad)=>some (.pointer (some ad))
  |_=>none
 | .pick c x y=>match ev a c with
  | .bool b=>some (if b then ev a x else ev a y)
  |_=>none
 | .build t parts=>nZ P t (parts.map fun (i,x)=>(i,ev a x)).toList
 | .binOp op t x y _=>nW P op t (ev a x) (ev a y)
 | .unOp op _ x=>kB op (ev a x)
 | .convert src dst x=>kD P src dst (ev a x)
 | .makeFunc fn first captured=>some (.func fn (first.map (ev a)) (captured.map (ev a)))
 | .slice t x lo hi none=>match ev a x with
  | .slice ad len cap=>if len<=cap then kC P t (.slice ad len cap) (lo.map (ev a)) (hi.map (ev a)) else none
  | .pointer (some ad)=>kC P t (.pointer (some ad)) (lo.map (ev a)) (hi.map (ev a))
  |_=>none
 | .fieldAddr s x n=>match ev a x with
  | .pointer (some ad)=>match dn P s n with
   |some k=>some (.pointer (some (ad.add k)))
   |none=>none
  |_=>none
 | .field s x n=>n4 P s n (ev a x)
 | .indexAddr t x i=>nN P t (ev a x) (ev a i)
 | .index t x i=>n5 P t (ev a x) (ev a i)
 | .extract x n=>pW n (ev a x)
 | .call {callee:=.builtin .len,args,argTypes}=>match argTypes[0]?,args[0]? with
  |some t,some x=>pX P t (ev a x)
  |_,_=>none
 | .call {callee:=.builtin .max,args, ..}=>match args.toList with
  |[x,y]=>pP (ev a x) (ev a y)
  |_=>none
 | .call {callee:=.builtin .min,args, ..}=>match args.toList with
  |[x,y]=>pQ (ev a x) (ev a y)
  |_=>none
 |_=>none
theorem s0 {P:Program}{J:Goroutine->ag->Prop}{o:Oper}{a:Act}{v:Value}{R:Value->ag->Prop}{F:ag}(h:iu P o a=some v)(hR:R v F):cL P J o R a F:=by
 obtain ⟨dst,op,type,pos,after,guard⟩:=o;unfold iu at h;unfold cL;cases op<;>simp only[reduceCtorEq] at h ⊢
 case move x=>cases h;exact hR
 case assign x=>cases h;exact hR
 case nilCheck x=>
  split at h
  .rename_i ad d;cases h;rw[d];exact hR
  .cases h
 case pick c x y=>
  split at h
  .rename_i b hb;cases h;try rw[hb]
   exact hR
  .cases h
 case build t parts=>rw[h];exact hR
 case binOp=>rw[h];exact hR
 case unOp=>rw[h];exact hR
 case convert=>rw[h];exact hR
 case makeFunc=>cases h;exact hR
 case slice t x lo hi f=>
  cases f with
  |some m=>cases h
  |none=>
   simp only at h ⊢;split at h
   case h_3=>cases h
   case h_2=>
    rename_i ad d;rw[d];exact ⟨trivial,by rw[h];exact hR⟩
   rename_i ad len cap d;split at h
   case isFalse=>cases h
   rename_i g;rw[d];exact ⟨g,by rw[h];exact hR⟩
 case fieldAddr s x n=>
  split at h
  case h_2=>cases h
  rename_i ad d;split at h
  case h_2=>cases h
  rename_i k i;cases h;try rw[d]
  try simp only[i]
  exact hR
 case field=>rw[h];exact hR
 case indexAddr=>rw[h];exact hR
 case index=>rw[h];exact hR
 case extract=>rw[h];exact hR
 case call c=>
  obtain ⟨callee,args,argTypes⟩:=c;cases callee with
  |value x=>cases h
  |invoke r m=>cases h
  |builtin b=>
   cases b<;>simp only[reduceCtorEq] at h ⊢
   case len=>
    split at h
    case h_2=>cases h
    rename_i t x ht d;simp only[ht,d,h];exact hR
   case max=>
    split at h
    case h_2=>cases h
    rename_i x y e;simp only[e,h];exact hR
   case min=>
    split at h
    case h_2=>cases h
    rename_i x y e;simp only[e,h];exact hR
def Plain (P:Program)(J:Goroutine->ag->Prop)(F0:ag)(f:FuncId)(args:Array Value)(v:Value):Prop:=
 ∀F,Knows F0 F->de P J f args F (fun a F'=>a=v/\F'=F)
def eW (P:Program)(J:Goroutine->ag->Prop)(ops:Array Oper)(F0:ag)(K:Act->Prop):List Oper->Bool->Act->Prop
 |[],_,a=>K a
 |o::rest,_,a=>match cA ops o a with
  |some false=>eW P J ops F0 K rest true (bt a o.dst undef)
  |some true=>match o.op with
   | .load t x=>match ev a x with
    | .pointer (some ad)=>match fo P F0 t ad with
     |some v=>eW P J ops F0 K rest true (bt a o.dst v)
     |none=>False
    |_=>False
   | .call {callee:=.value x,args, ..}=>match ev a x with
    | .func (.func fn) first captured=>aP P fn=true/\∃v,Plain P J F0 fn (first++args.map (ev a)++captured) v/\eW P J ops F0 K rest false (bt a o.dst v)
    |_=>False
   |_=>match iu P o a with
    |some v=>eW P J ops F0 K rest true (bt a o.dst v)
    |none=>False
  |none=>False
theorem Cw {P:Program}{J:Goroutine->ag->Prop}{ops:Array Oper}{F0:ag}{K:Act->Prop}{go:Bool}{a:Act}:eW P J ops F0 K [] go a=K a:=rfl
theorem Cx {P:Program}{J:Goroutine->ag->Prop}{ops:Array Oper}{F0:ag}{K:Act->Prop}{o:Oper}{rest:List Oper}{a:Act}:eW P J ops F0 K (o::rest) true a=match cA ops o a with
  |some false=>eW P J ops F0 K rest true (bt a o.dst undef)
  |some true=>match o.op with
   | .load t x=>match ev a x with
    | .pointer (some ad)=>match fo P F0 t ad with
     |some v=>eW P J ops F0 K rest true (bt a o.dst v)
     |none=>False
    |_=>False
   | .call {callee:=.value x,args, ..}=>match ev a x with
    | .func (.func fn) first captured=>aP P fn=true/\∃v,Plain P J F0 fn (first++args.map (ev a)++captured) v/\eW P J ops F0 K rest false (bt a o.dst v)
    |_=>False
   |_=>match iu P o a with
    |some v=>eW P J ops F0 K rest true (bt a o.dst v)
    |none=>False
  |none=>False:=(Eq.refl _).trans (Eq.refl _)
theorem ef {P:Program}{J:Goroutine->ag->Prop}{ops:Array Oper}{F0:ag}{K:Act->Prop}:∀{l:List Oper} {go:Bool} {a:Act},eW P J ops F0 K l true a->eW P J ops F0 K l go a
 |[],_,_,h=>h
 |_::_,_,_,h=>h
theorem p5 {n m:Nat}(h:m<n):(cU n m).setIfInBounds m true=cU n (m+1):=by
 apply Array.ext
 .simp[cU]
 .intro i a b;simp[cU] at a b;rw[Array.getElem_setIfInBounds (by simp[cU];omega)];by_cases e:m=i
  .subst e;simp[cU]
  .simp only[if_neg e,cU,Array.getElem_map,Array.getElem_range];rw[decide_eq_decide];omega
theorem x8 (n:Nat):cU n 0=Array.replicate n false:=by
 apply Array.ext
 .simp[cU]
 .intro i a b;simp[cU]
section
variable {P:Program}{main:Bool}{J:Goroutine->ag->Prop}{ops:Array Oper}{Q:Act->ag->Prop}{F0:ag}
theorem p6 {K:Act->Prop}(m:Nat)(hm:m<=ops.size)(g:Region.noSelect ops=true)(j:∀i,i<m->(Region.free .any ops (cU ops.size i) i&&(Region.ready .any ops (cU ops.size i)).contains i)=true)
  {F:ag} (hF:Knows F0 F) (hK:∀a,K a->dZ P J ops Q (Knows F0) (ops.size - m) (cU ops.size m) a F):
  ∀(l:List Oper) (k:Nat) (go:Bool) (a:Act),(ops.toList.take m).drop k=l->k<=m->eW P J ops F0 K l go a->dZ P J ops Q (Knows F0) (ops.size - k) (cU ops.size k) a F
 |[],k,_,a,b,s,h=>by
  have:k=m:=by
   have:=congrArg List.length b
   simp at this
   omega
  subst this
  exact hK a h
 |o::rest,k,_,a,b,s,h=>by
  have c:k<m:=by
   rcases Nat.lt_or_ge k m with x|x
   .exact x
   .rw[List.drop_eq_nil_of_le (by simp;omega)] at b;cases b
  have ho:ops[k]?=some o:=by
   have:=congrArg List.head? b
   rw[List.head?_drop,List.getElem?_take_of_lt c] at this
   simpa using this
  have q:(ops.toList.take m).drop (k+1)=rest:=by
   have:=congrArg List.tail b
   simpa [List.tail_drop] using this
  have u:=j k c
  have e:ops.size - k=(ops.size - (k+1))+1:=ai
  have r:=p5 (n:=ops.size) (m:=k) ai
  have d:(Region.noSelect ops&&Region.free .any ops (cU ops.size k) k&&(Region.ready .any ops (cU ops.size k)).contains k)=true:=by
   rw[g,Bool.true_and];exact u
  rw[e]
  unfold eW at h
  split at h
  .rename_i hg
   exact Cp k ho d hg hF (by rw[r];exact p6 m hm g j hF hK rest (k+1) _ _ q c h)
  .rename_i hg
   have next:∀go v,eW P J ops F0 K rest go (bt a o.dst v)->dZ P J ops Q (Knows F0) (ops.size - (k+1)) ((cU ops.size k).setIfInBounds k true) (bt a o.dst v) F:=fun go v hv=>by
    rw[r];exact p6 m hm g j hF hK rest (k+1) _ _ q c hv
   split at h
   .rename_i t x p
    split at h
    case h_2=>exact h.elim
    rename_i ad w
    split at h
    case h_2=>exact h.elim
    rename_i v hv
    refine sU k v ho d hg (fun F R f hR=>?_) hF (next _ v h)
    unfold cL
    simp only[p,w,f.fo hv]
    exact hR
   .rename_i x args argTypes p
    split at h
    case h_2=>exact h.elim
    rename_i fn first captured y
    obtain ⟨z,v,A,h⟩:=h
    refine sU k v ho d hg (fun F R f hR=>?_) hF (next _ v h)
    unfold cL
    simp only[p,y]
    exact ⟨z,(A F f).mono fun C F' B=>by obtain ⟨rfl,rfl⟩:=B;exact hR⟩
   .split at h
    case h_2=>exact h.elim
    rename_i v hv
    exact sU k v ho d hg (fun F R f hR=>s0 hv hR) hF (next _ v h)
  .exact h.elim
def fL (P:Program)(J:Goroutine->ag->Prop)(ops:Array Oper)(F0:ag)(Q:Act->ag->Prop):List Oper->Bool->Act->ag->Prop
 |[],_,a,F=>Q a F
 |o::rest,_,a,F=>match cA ops o a with
  |some true=>cL P J o (fun v F'=>Knows F0 F'/\fL P J ops F0 Q rest (!Oper.calls o) (bt a o.dst v) F') a F
  |_=>False
theorem Cz {P:Program}{J:Goroutine->ag->Prop}{ops:Array Oper}{F0:ag}{Q:Act->ag->Prop}{go:Bool}{a:Act}{F:ag}:fL P J ops F0 Q [] go a F=Q a F:=rfl
theorem CA {P:Program}{J:Goroutine->ag->Prop}{ops:Array Oper}{F0:ag}{Q:Act->ag->Prop}{o:Oper}{rest:List Oper}{a:Act}{F:ag}:fL P J ops F0 Q (o::rest) true a F=match cA ops o a with
  |some true=>cL P J o (fun v F'=>Knows F0 F'/\fL P J ops F0 Q rest (!Oper.calls o) (bt a o.dst v) F') a F
  |_=>False:=(Eq.refl _).trans (Eq.refl _)
theorem s3 {P:Program}{J:Goroutine->ag->Prop}{ops:Array Oper}{F0:ag}{Q:Act->ag->Prop}:∀{l:List Oper} {go:Bool} {a:Act} {F:ag},fL P J ops F0 Q l true a F->fL P J ops F0 Q l go a F
 |[],_,_,_,h=>h
 |_::_,_,_,_,h=>h
theorem lG (m:Nat)(g:∀j,j<ops.size - m->Region.ready .any ops (cU ops.size (m+j))=[m+j])(i:Region.ready .any ops (cU ops.size ops.size)=[]):
  ∀(l:List Oper) (k:Nat) (go:Bool) (a:Act) (F:ag),m<=k->k<=ops.size->ops.toList.drop k=l->fL P J ops F0 Q l go a F->dZ P J ops Q (Knows F0) (ops.size - k) (cU ops.size k) a F
 |[],k,_,a,F,q,s,d,h=>by
  have:k=ops.size:=by
   have:=congrArg List.length d
   simp at this
   omega
  subst this
  exact BT i h _
 |o::rest,k,_,a,F,q,s,d,h=>by
  have u:k<ops.size:=by
   rcases Nat.lt_or_ge k ops.size with x|x
   .exact x
   .rw[List.drop_eq_nil_of_le (by simpa using x)] at d;cases d
  have ho:ops[k]?=some o:=by
   have:=congrArg List.head? d
   simpa [List.head?_drop] using this
  have w:ops.toList.drop (k+1)=rest:=by
   have:=congrArg List.tail d
   simpa [List.tail_drop] using this
  have e:ops.size - k=(ops.size - (k+1))+1:=ai
  have n:=g (k - m) ai
  rw[show m+(k - m)=k by omega] at n
  rw[e]
  unfold fL at h
  split at h
  .rename_i hg
   refine Cq k ho n hg ?_
   refine s4 ?_ h
   rintro v F' ⟨y,f⟩
   refine ⟨y,?_⟩
   rw[p5 u]
   exact lG m g i rest (k+1) _ _ F' ai ai w f
  .exact h.elim
where
 s4 {o:Oper} {a:Act} {F:ag} {R p:Value->ag->Prop} (hR:∀v F,R v F->p v F) (h:cL P J o R a F):cL P J o p a F:=by
  obtain ⟨dst,op,type,pos,after,guard⟩:=o
  unfold cL at h ⊢
  cases op<;>simp only at h ⊢<;>first
   |exact h.elim
   |exact hR _ _ h
   |exact fun b hb=>hR _ _ (h b hb)
   |exact gk (fun v F h=>hR v F h) _ _ h
   |(split at h<;>first
     |exact h.elim
     |exact hR _ _ h
     |exact fun b hb=>hR _ _ (h b hb)
     |(split at h<;>first|exact h.elim|exact hR _ _ h|exact fun b hb=>hR _ _ (h b hb)))
   |skip
  case slice t x lo hi z=>
   cases z with
   |some m=>exact h.elim
   |none=>
    refine ⟨h.1,?_⟩
    have f:=h.2
    revert f
    cases kC P t (ev a x) (lo.map (ev a)) (hi.map (ev a)) with
    |some v=>exact fun x=>hR _ _ x
    |none=>exact fun x=>x
  case call c=>
   obtain ⟨callee,args,argTypes⟩:=c
   cases callee with
   |value x=>
    exact gm.mono h hR
   |invoke r m=>exact h.elim
   |builtin b=>
    cases b<;>simp only at h ⊢<;>first
     |exact h.elim
     |(split at h<;>first|exact h.elim|exact fun ty=>gk (fun v F ⟨F0,hle,h⟩=>⟨F0,hle,hR _ _ h⟩) _ _ (h ty))
     |exact gk (fun v F h=>hR v F h) _ _ h
     |(split at h<;>first|exact h.elim|(split at h<;>first|exact h.elim|exact hR _ _ h|exact gk (fun v F h=>hR v F h) _ _ h))
theorem cB {Q:Ex->Act->ag->Prop}(hJ:Closed P main J)(e:P.follows .mixedOrders=true)(m:Nat){id:Nat}{a:Act}{F:ag}(F0:ag)(hF:Knows F0 F)(f:pZ ops m=true)
  (h:eW P J ops F0 (fun b=>fL P J ops F0 (Q .normal) (ops.toList.drop m) true b F) (ops.toList.take m) true a):Wp J (.region id ops true) Q a F:=by
 have c:=x7 f
 simp only[n7,Bool.and_eq_true,decide_eq_true_eq,List.all_eq_true,List.mem_range] at c
 obtain ⟨⟨⟨⟨g,d⟩,j⟩,k⟩,l⟩:=c
 refine xD hJ (Knows F0) e ?_
 rw[<-x8]
 have:=p6 (P:=P) (J:=J) (Q:=Q .normal) m d g (fun i hi=>by have:=j i hi;simpa using this) hF (fun b n=>lG m k l _ m _ b F (Nat.le_refl _) d rfl n) _ 0 true a aB (Nat.zero_le _) h
 simpa using this
theorem dI (hJ:Closed P main J){F0:ag}{f:FuncId}{args:Array Value}{v:Value}(h:∀F,Knows F0 F->aF P f args F.dz (fun a _=>a=v)):Plain P J F0 f args v:=
 fun F hF=>sw (h F hF) main J hJ
end
attribute [irreducible] eW fL
attribute [go_sem] ir Cu iu Cw Cx Cz CA pM List.take_succ_cons List.take_zero List.drop_succ_cons List.drop_zero Array.zipIdx_toArray List.zipIdx_cons List.zipIdx_nil List.foldl_toArray List.foldl_toArray' decide_eq_true_eq Bool.and_false Bool.false_and Bool.and_self Bool.true_and Bool.and_true List.foldl_cons List.foldl_nil decide_false decide_true Bool.or_false Bool.false_or Bool.or_self Bool.or_true Bool.true_or gt_iff_lt Nat.reduceGT Nat.lt_irrefl Bool.false_eq_true Nat.zero_add Nat.add_zero Nat.not_lt_zero
section
variable {P:Program}{main:Bool}{J:Goroutine->ag->Prop}{Q:Ex->Act->ag->Prop}{a:Act}{F:ag}
theorem bl (hJ:Closed P main J){f:FuncId}{args:Array Value}{F:ag}{K:Value->ag->Prop}(v:Value)(h:aF P f args F.dz (fun a _=>a=v))(b:K v F):de P J f args F K:=
 (sw h main J hJ).mono fun a F' hv=>by obtain ⟨rfl,rfl⟩:=hv;exact b
theorem aL (hJ:Closed P main J){c:Operand}{x y:Code}(b:ev a c= .bool true)(h:Wp J x Q a F):Wp J (.cond c x y) Q a F:=xB hJ true b h
theorem aM (hJ:Closed P main J){c:Operand}{x y:Code}(b:ev a c= .bool false)(h:Wp J y Q a F):Wp J (.cond c x y) Q a F:=xB hJ false b h
theorem cG (hJ:Closed P main J){c:Code}{F':ag}(hle:Le F F')(h:Wp J c Q a F):Wp J c Q a F':=h.le (hJ:=hJ) hle
theorem Le.sub {ro:Addr->Option Value}{l l':List (Nat×Obj)}(h:l.Sublist l'):Le ⟨ro,l⟩ ⟨ro,l'⟩:=by
 have c:(keys l).Sublist (keys l'):=h.map _;exact ⟨fun w hw=>⟨hw.ro,fun b o hb=>hw.own b o (h.subset hb),c.nodup hw.nodup,fun a v d hm=>hw.apart a v d (c.subset hm)⟩,fun b hb=>c.subset hb,fun a e=>.inl e⟩
theorem s5 (hJ:Closed P main J){c:Code}(I:Nat->Act->ag->Prop)(n:Nat)(b:I n a F)(hs:∀n a F,I n a F->Wp J c (pM (fun m a F=>∃F0,Le F0 F/\I m a F0) n Q) a F):Wp J (.loop c) Q a F:=
 xC hJ (fun m a F=>∃F0,Le F0 F/\I m a F0) n ⟨F,Le.refl F,b⟩ fun n a F ⟨F0,hle,d⟩=>cG hJ hle (hs n a F0 d)
end
def gJ:List Nat->Nat->Bool
 |[],_=>false
 |w::ws,i=>i==w||gJ ws i
abbrev In (ws:List Nat)(i:Nat):Prop:=gJ ws i=true
structure cq (ws:List Nat)(a a0:Act):Prop where
 size:sz a=sz a0
 defers:a.defers=a0.defers
 aA:∀i,¬In ws i->slot a i=slot a0 i
theorem cq.refl (ws:List Nat)(a:Act):cq ws a a:=⟨rfl,rfl,fun _ _=>rfl⟩
theorem cq.trans {ws:List Nat}{a b c:Act}(h:cq ws a b)(k:cq ws b c):cq ws a c:=⟨h.size.trans k.size,h.defers.trans k.defers,fun i hi=>(h.aA i hi).trans (k.aA i hi)⟩
theorem cq.sub {ws c:List Nat}{a b:Act}(hs:∀i,In ws i->In c i)(h:cq ws a b):cq c a b:=⟨h.size,h.defers,fun i hi=>h.aA i fun x=>hi (hs i x)⟩
theorem CB {ws:List Nat}{a:Act}:cq ws a a=True:=eq_true (cq.refl ws a)
theorem CC {ws:List Nat}{a a0:Act}{d:Nat}{v:Value}(h:gJ ws d=true):cq ws (bt a (some d) v) a0=cq ws a a0:=by
 apply propext;constructor
 .intro k;refine ⟨by rw[<-k.size,xN],by rw[<-k.defers,xO],fun i hi=>?_⟩;rw[<-k.aA i hi,sD _ _ _ _ (fun e=>hi (by subst e;exact h))]
 .intro k;refine ⟨by rw[<-k.size,xN],by rw[<-k.defers,xO],fun i hi=>?_⟩;rw[<-k.aA i hi,sD _ _ _ _ (fun e=>hi (by subst e;exact h))]
def eg (ws a:List Nat):Bool:=ws.all fun w=>gJ a w
theorem x9:∀{ws:List Nat} {i:Nat},gJ ws i=true->i∈ws
 |[],_,h=>by cases h
 |w::ws,i,h=>by
  simp only[gJ,Bool.or_eq_true,beq_iff_eq] at h
  rcases h with h|h
  .rw[h];exact List.mem_cons_self
  .exact List.mem_cons_of_mem _ (x9 h)
theorem cq.eg {ws c:List Nat}{a b:Act}(h:cq ws a b)(hs:Sep.eg ws c=true):cq c a b:=h.sub fun i hi=>by
 have:=x9 hi
 exact List.all_eq_true.1 hs i this
def rg:Nat->Nat->List Nat->List Nat
 |_,0,ws=>ws
 |a,n+1,ws=>a::rg (a+1) n ws
theorem ya:∀(n a i:Nat) (ws:List Nat),gJ (rg a n ws) i=(decide (a<=i)&&decide (i<a+n)||gJ ws i)
 |0,a,i,ws=>by
  show gJ ws i=_
  cases h:(decide (a<=i)&&decide (i<a+0)) with
  |false=>rfl
  |true=>rw[Bool.and_eq_true,decide_eq_true_eq,decide_eq_true_eq] at h;omega
 |n+1,a,i,ws=>by
  show (i==a||gJ (rg (a+1) n ws) i)=_
  rw[ya n (a+1) i ws,<-Bool.or_assoc]
  congr 1
  rw[Bool.eq_iff_iff]
  simp only[Bool.or_eq_true,Bool.and_eq_true,decide_eq_true_eq,beq_iff_eq]
  omega
attribute [go_sem] ya Nat.reduceLeDiff Nat.reduceLT Nat.reduceAdd
attribute [go_sem] gJ CB CC or_true true_or or_false false_or Nat.reduceBEq
section
variable {P:Program}{main:Bool}{J:Goroutine->ag->Prop}{Q:Ex->Act->ag->Prop}{a:Act}{F:ag}
theorem bO (hJ:Closed P main J){c:Code}(ws:List Nat)(I:Nat->Act->ag->Prop)(n:Nat)(h:I n a F)
  (hs:∀n b F',cq ws b a->I n b F'->Wp J c (pM (fun m d f=>cq ws d b/\∃F0,Le F0 f/\I m d F0) n Q) b F'):Wp J (.loop c) Q a F:=
 xC hJ (fun m d f=>cq ws d a/\∃F0,Le F0 f/\I m d F0) n ⟨.refl ws a,F,Le.refl F,h⟩ fun n b F' ⟨ho,F0,hle,j⟩=>
  cG hJ hle ((hs n b F0 ho j).mono fun e d f g=>by
   cases e with
   |normal=>obtain ⟨m,hm,k,l⟩:=g;exact ⟨m,hm,k.trans ho,l⟩
   |exit i=>exact g
   |ret=>exact g)
end
def Ext (ro aK:Addr->Option Value):Prop:=∀a v,ro a=some v->aK a=some v
theorem Ext.refl (ro:Addr->Option Value):Ext ro ro:=fun _ _ h=>h
theorem Ext.trans {r s t:Addr->Option Value}(h:Ext r s)(k:Ext s t):Ext r t:=fun a v x=>k a v (h a v x)
def bZ (ro:Addr->Option Value)(b:Nat)(o:Obj):Addr->Option Value:=fun a=>match ro a with
 |some v=>some v
 |none=>if a.block=b/\a.spot=none then cellOf o a.off else none
theorem gq (ro:Addr->Option Value)(b:Nat)(o:Obj):Ext ro (bZ ro b o):=fun a v h=>by simp[bZ,h]
theorem ew {ro:Addr->Option Value}{b off:Nat}{o:Obj}(h:∀off sp,ro ⟨b,off,sp⟩=none):bZ ro b o ⟨b,off,none⟩=cellOf o off:=by simp[bZ,h]
theorem kG {ro:Addr->Option Value}{own e:List (Nat×Obj)}{b:Nat}{o:Obj}(i:lk own b=some o)(hs:e.Sublist own)(hb:aN e b):Le ⟨bZ ro b o,e⟩ ⟨ro,own⟩:=by
 have g:(keys e).Sublist (keys own):=hs.map _;have hm:=gG i;have hn:b∉keys e:=by
  clear i hs g hm
  induction e with
  |nil=>simp[keys]
  |cons x l ih=>
   simp only[keys,List.map_cons,List.mem_cons,not_or];exact ⟨hb.1,ih hb.2⟩
 refine ⟨fun w hw=>⟨fun a v h=>?_,fun c x d=>hw.own c x (hs.subset d),g.nodup hw.nodup,fun a v h d=>?_⟩,fun c d=>g.subset d,fun a j=>?_⟩
 .replace h:bZ ro b o a=some v:=h;unfold bZ at h;split at h
  .rename_i x f;cases h;exact hw.ro _ _ f
  .split at h
   .rename_i d;have:=hw.own b o hm;rw[<-d.1] at this;cases o<;>simp only[cellOf,reduceCtorEq] at h;simp[World.cell?,this,d.2,h]
   .cases h
 .replace h:bZ ro b o a=some v:=h;unfold bZ at h;split at h
  .rename_i x f;exact hw.apart a x f (g.subset d)
  .split at h
   .rename_i k;rw[k.1] at d;exact hn d
   .cases h
 .obtain ⟨v,h⟩:=Option.isSome_iff_exists.1 j;replace h:bZ ro b o a=some v:=h;unfold bZ at h;split at h
  .rename_i x f;exact .inl (by simp[f])
  .split at h
   .rename_i d;exact .inr (by rw[d.1];exact eB hm)
   .cases h
def eK (P:Program)(f:FuncId)(args:Array Value)(ro:Addr->Option Value)(R:Value->(Addr->Option Value)->Prop):Prop:=
 aF P f args ⟨ro,[]⟩ (fun v G=>∃aK,Ext ro aK/\Le ⟨aK,[]⟩ G/\R v aK)
def jO (F G:ag):Prop:=∀a,(G.ro a).isSome=true->a.block∉keys F.own
def p7 (J:Goroutine->ag->Prop)(F:ag)(g:Goroutine)(G:ag):Prop:=Fits F G->jO F G->J g (G.star F)
theorem s6 {P:Program}{main:Bool}{J:Goroutine->ag->Prop}(hJ:Closed P main J)(F:ag):Closed P main (p7 J F) where
 mono {g G H} hle h c hn:=by
  have k:=c.le hle
  have t:jO F G:=fun a d=>(hle.ro a d).elim (hn a) (c.own _)
  refine hJ.mono ⟨fun w hw=>k.both (hle.has w (c.right hw)) (c.left hw),fun b hb=>?_,fun a d=>?_⟩ (h k t)
  .simp only[ag.star,cj,List.mem_append] at hb ⊢
   exact hb.imp (hle.own b) id
  .rcases iJ d with x|x
   .exact (fS (.inl x)).imp id (fun y=>by simp only[ag.star,cj,List.mem_append];exact .inr y)
   .rcases hle.ro a x with y|y
    .exact (fS (.inr y)).imp id (fun z=>by simp only[ag.star,cj,List.mem_append];exact .inr z)
    .exact .inr (by simp only[ag.star,cj,List.mem_append];exact .inl y)
 step {fr cs G} h c hn:=by
  refine hJ.step fun w hw=>?_
  have u:=c.right hw
  have hF:=c.left hw
  obtain ⟨g',w',es,i,hgo,hu,l,A,B⟩:=h w u
  have n:Has F w':=by
   refine ⟨fun a v j=>?_,fun b o hb=>?_,hF.nodup,hF.apart⟩
   .have p:=hF.ro a v j
    have C:=hF.gH (a:=a) (by simp[j])
    unfold World.cell? at p ⊢
    rw[hu.frame _ C (c.ro a (by simp[j]))]
    exact p
   .rw[hu.frame b (hF.lt (eB hb)) (fun hm=>c.own b hm (eB hb))]
    exact hF.own b o hb
  have q:Fits F i:=by
   refine ⟨⟨w',l,n⟩,fun b hb hm=>?_,fun a d hm=>?_⟩
   .rcases hu.own b hb with x|x
    .exact c.own b x hm
    .have:=hF.lt hm;omega
   .rcases hu.own _ hm with x|x
    .exact c.ro a d x
    .have:=hF.gH d;omega
  have D:jO F i:=fun a d hm=>by
   rcases hu.ro a d with x|x|x
   .exact hn a x hm
   .exact c.own _ x hm
   .have:=hF.lt hm;omega
  refine ⟨g',w',es,i.star F,hgo,⟨hu.os,hu.tape,hu.output,hu.size,fun b hb hn=>hu.frame b hb fun hm=>hn ?_,fun a d=>?_,fun b hb=>?_⟩,q.both l n,fun e he=>?_,B q D⟩
  .simp only[ag.star,cj,List.mem_append];exact .inl hm
  .rcases iJ d with x|x
   .exact (fS (.inl x)).imp id (fun y=>.inl (by simp only[ag.star,cj,List.mem_append];exact .inr y))
   .rcases hu.ro a x with y|y|y
    .exact (fS (.inr y)).imp id (fun z=>.inl (by simp only[ag.star,cj,List.mem_append];exact .inr z))
    .exact .inr (.inl (by simp only[ag.star,cj,List.mem_append];exact .inl y))
    .exact .inr (.inr y)
  .simp only[ag.star,cj,List.mem_append] at hb ⊢
   rcases hb with hb|hb
   .exact (hu.own b hb).imp .inl id
   .exact .inl (.inr hb)
  .have s:∀b,fK G w.heap.size w'.heap.size b->fK (G.star F) w.heap.size w'.heap.size b:=fun b hb=>hb.imp (fun x=>by simp only[ag.star,cj,List.mem_append];exact .inl x) id
   rcases A e he with ⟨a,wr,rfl,f|⟨E,f⟩⟩|⟨r,wr,rfl,f⟩|⟨m,rfl,hm⟩
   .exact .inl ⟨a,wr,rfl,.inl (s _ f)⟩
   .rcases fS (F:=F) (.inr f) with y|y
    .exact .inl ⟨a,wr,rfl,.inr ⟨E,y⟩⟩
    .exact .inl ⟨a,wr,rfl,.inl (.inl (by simp only[ag.star,cj,List.mem_append];exact .inr y))⟩
   .exact .inr (.inl ⟨r,wr,rfl,s _ f⟩)
   .exact .inr (.inr ⟨m,rfl,hm⟩)
section
variable {P:Program}{main:Bool}{J:Goroutine->ag->Prop}
theorem cV (hJ:Closed P main J){f:FuncId}{args:Array Value}{ro:Addr->Option Value}{own:List (Nat×Obj)}{K:Value->ag->Prop}(R:Value->(Addr->Option Value)->Prop)(h:eK P f args ro R)
  (p:∀v aK,Ext ro aK->(∀b∈keys own,∀off sp,aK ⟨b,off,sp⟩=none)->R v aK->K v ⟨aK,own⟩):de P J f args ⟨ro,own⟩ K:=by
 intro c cs hK
 by_cases hw:∃w,Has ⟨ro,own⟩ w
 .obtain ⟨g,i⟩:=hw
  let F:ag:=⟨fun _=>none,own⟩
  have k:∀w,Has ⟨ro,own⟩ w->Has F w:=fun w hw=>⟨fun a v h=>(by cases h),hw.own,hw.nodup,fun a v h=>(by cases h)⟩
  have l:∀w,Has ⟨ro,own⟩ w->Has ⟨ro,[]⟩ w:=fun w hw=>⟨hw.ro,fun b o hb=>(by cases hb),List.nodup_nil,fun a v e hm=>(by cases hm)⟩
  have m:Fits F ⟨ro,[]⟩:=⟨⟨g,l g i,k g i⟩,fun b hb=>(by cases hb),fun a d hm=>(by cases hm)⟩
  have q:jO F ⟨ro,[]⟩:=fun a d hm=>by
   obtain ⟨v,hv⟩:=Option.isSome_iff_exists.1 d
   exact i.apart a v hv hm
  have r:p7 J F (G (Frame.enter P f args .normal) (c::cs)) ⟨ro,[]⟩:=by
   refine h main _ (s6 hJ F) c cs fun v G hR j hn=>?_
   obtain ⟨aK,s,hle,hR⟩:=hR
   have n:∀a,(aK a).isSome=true->a.block∉keys own:=fun a d=>(hle.ro a d).elim (hn a) (j.own _)
   refine hJ.mono (F:=⟨aK,own⟩) ⟨fun w hw=>?_,fun b hb=>?_,fun a d=>?_⟩ (hK v ⟨aK,own⟩ (p v aK s (fun b hb off sp=>?_) hR))
   .have t:=hle.has w (j.right hw)
    have hF:=j.left hw
    exact ⟨t.ro,hF.own,hF.nodup,fun a v e=>n a (by simp only at e;simp[e])⟩
   .simp only[ag.star,cj,List.mem_append];exact .inr hb
   .rcases hle.ro a d with x|x
    .exact (fS (.inr x)).imp id (fun z=>by simp only[ag.star,cj,List.mem_append];exact .inr z)
    .exact .inr (by simp only[ag.star,cj,List.mem_append];exact .inl x)
   .cases e:aK ⟨b,off,sp⟩ with
    |none=>rfl
    |some v=>exact absurd hb (n ⟨b,off,sp⟩ (by simp[e]))
  refine hJ.mono ⟨fun w hw=>m.both (l w hw) (k w hw),fun b hb=>?_,fun a d=>?_⟩ (r m q)
  .simpa [ag.star,F] using hb
  .rcases iJ d with x|x
   .cases x
   .exact .inl x
 .exact hJ.step fun w hF=>absurd ⟨w,hF⟩ hw
end
attribute [go_sem] beq_self_eq_true beq_iff_eq beq_true beq_false Int.toNat_natCast Int.natCast_nonneg Int.ofNat_lt Nat.zero_mul Nat.mul_one List.length_map Bool.not_eq_true Bool.not_not decide_not
inductive Fl (σ ρ:Type) where
 |nx (s:σ)
 |bk (s:σ)
 |br (k:Nat) (s:σ)
 |rt (r:ρ)
def ak {α β:Type}(x:Option α)(f:α->Option β):Option β:=match x with
 |some a=>f a
 |none=>none
theorem av {α β:Type}{x:Option α}{f:α->Option β}{r:β}(h:ak x f=some r):∃a,x=some a/\f a=some r:=by
 cases x with
 |none=>cases h
 |some a=>exact ⟨a,rfl,h⟩
theorem aD {α:Type}{b:Bool}{x y:Option α}{r:α}(h:cond b x y=some r):(b=true/\x=some r)\/(b=false/\y=some r):=by
 cases b
 .exact .inr ⟨rfl,h⟩
 .exact .inl ⟨rfl,h⟩
def aJ {σ ρ τ:Type}(o:Fl σ ρ)(f:σ->Option τ)(g:Nat->σ->Option τ)(h:ρ->Option τ):Option τ:=match o with
 | .nx s=>f s
 | .bk s=>f s
 | .br k s=>g k s
 | .rt r=>h r
def aZ {σ ρ:Type}(f:σ->Option (Fl σ ρ)):Nat->σ->Option (Fl σ ρ)
 |0,_=>none
 |n+1,s=>ak (f s) fun o=>match o with
  | .nx s'=>aZ f n s'
  | .bk s'=>some (.nx s')
  | .br k s'=>some (.br k s')
  | .rt r=>some (.rt r)
def bX {α σ ρ:Type}(f:Nat->α->σ->Option (Fl σ ρ)):Nat->List α->σ->Option (Fl σ ρ)
 |_,[],s=>some (.nx s)
 |i,x::l,s=>ak (f i x s) fun o=>match o with
  | .nx s'=>bX f (i+1) l s'
  | .bk s'=>some (.nx s')
  | .br k s'=>some (.br k s')
  | .rt r=>some (.rt r)
def fu:Nat:=1000000000000000000
def bI {α:Type}(l:List α)(i:Int):Option α:=if 0<=i then l[i.toNat]? else none
theorem cI {α:Type}{l:List α}{i:Int}{x:α}(h:bI l i=some x):0<=i/\i<l.length/\l[i.toNat]?=some x:=by
 unfold bI at h;split at h
 .rename_i a;obtain ⟨hi,_⟩:=List.getElem?_eq_some_iff.1 h;exact ⟨a,ai,h⟩
 .cases h
def jk {α:Type}(l xs:List α):Option (List α):=if l.length+xs.length<=1000000 then some (l++xs) else none
theorem oa {α:Type}{l xs r:List α}(h:jk l xs=some r):l.length+xs.length<=1000000/\r=l++xs:=by
 unfold jk at h;split at h
 .rename_i a;cases h;exact ⟨a,rfl⟩
 .cases h
def kH {α:Type}(l:List α)(lo hi:Int):Option (List α):=if 0<=lo/\lo<=hi/\hi<=l.length then some ((l.take hi.toNat).drop lo.toNat) else none
theorem yb {α:Type}{l r:List α}{lo hi:Int}(h:kH l lo hi=some r):0<=lo/\lo<=hi/\hi<=l.length/\r=(l.take hi.toNat).drop lo.toNat:=by
 unfold kH at h;split at h
 .rename_i a;cases h;exact ⟨a.1,a.2.1,a.2.2,rfl⟩
 .cases h
def ob (a b:Int):Option Int:=if b=0 then none else some (IntKind.i64.wrap (a.tdiv b))
theorem s7 {a b r:Int}(h:ob a b=some r):¬b=0/\IntKind.i64.wrap (a.tdiv b)=r:=by
 unfold ob at h;split at h
 .cases h
 .rename_i c;cases h;exact ⟨c,rfl⟩
def jP (a b:Int):Option Int:=if b=0 then none else some (a.tmod b)
theorem s8 {a b r:Int}(h:jP a b=some r):¬b=0/\a.tmod b=r:=by
 unfold jP at h;split at h
 .cases h
 .rename_i c;cases h;exact ⟨c,rfl⟩
def CD (a b:Int):Int:=IntKind.i64.wrap (BitVec.ofInt 64 a&&& BitVec.ofInt 64 b).toNat
theorem CE (a b:Int):IntKind.i64.wrap (BitVec.ofInt IntKind.i64.bits a&&& BitVec.ofInt IntKind.i64.bits b).toNat=CD a b:=rfl
attribute [go_sem ↓] CE
def CF (a b:Int):Int:=IntKind.u8.wrap (BitVec.ofInt 8 a&&& BitVec.ofInt 8 b).toNat
theorem CG (a b:Int):IntKind.u8.wrap (BitVec.ofInt IntKind.u8.bits a&&& BitVec.ofInt IntKind.u8.bits b).toNat=CF a b:=rfl
attribute [go_sem ↓] CG
def jl (a b:Int):Option Int:=if b<0 then none else some (IntKind.u64.wrap (a*2 ^ min b.toNat IntKind.u64.bits))
theorem lH {a b r:Int}(h:jl a b=some r):¬b<0/\IntKind.u64.wrap (a*2 ^ min b.toNat IntKind.u64.bits)=r:=by
 unfold jl at h;split at h
 .cases h
 .rename_i c;cases h;exact ⟨c,rfl⟩
def lI (a b:Int):Option Int:=if b<0 then none else some (a.fdiv (2 ^ min b.toNat IntKind.u64.bits))
theorem s9 {a b r:Int}(h:lI a b=some r):¬b<0/\a.fdiv (2 ^ min b.toNat IntKind.u64.bits)=r:=by
 unfold lI at h;split at h
 .cases h
 .rename_i c;cases h;exact ⟨c,rfl⟩
def fq (a b:Int):Int:=IntKind.u64.wrap (BitVec.ofInt 64 a&&& BitVec.ofInt 64 b).toNat
theorem CH (a b:Int):IntKind.u64.wrap (BitVec.ofInt IntKind.u64.bits a&&& BitVec.ofInt IntKind.u64.bits b).toNat=fq a b:=rfl
def gK (a b:Int):Int:=IntKind.u64.wrap (BitVec.ofInt 64 a ^^^ BitVec.ofInt 64 b).toNat
theorem CI (a b:Int):IntKind.u64.wrap (BitVec.ofInt IntKind.u64.bits a ^^^ BitVec.ofInt IntKind.u64.bits b).toNat=gK a b:=rfl
def tc (a b:Int):Int:=IntKind.u64.wrap (BitVec.ofInt 64 a|||BitVec.ofInt 64 b).toNat
theorem CJ (a b:Int):IntKind.u64.wrap (BitVec.ofInt IntKind.u64.bits a|||BitVec.ofInt IntKind.u64.bits b).toNat=tc a b:=rfl
def td (a b:Int):Int:=IntKind.u64.wrap (BitVec.ofInt 64 a&&& ~~~(BitVec.ofInt 64 b)).toNat
theorem CL (a b:Int):IntKind.u64.wrap (BitVec.ofInt IntKind.u64.bits a&&& ~~~(BitVec.ofInt IntKind.u64.bits b)).toNat=td a b:=rfl
attribute [go_sem ↓] CH CI CJ CL
def lJ (l:List UInt8)(i:Int):Option Int:=if 0<=i then (l[i.toNat]?).map fun b=>(b.toNat:Int) else none
theorem yc {l:List UInt8}{i x:Int}(h:lJ l i=some x):0<=i/\∃y:UInt8,l[i.toNat]?=some y/\(y.toNat:Int)=x:=by
 unfold lJ at h;split at h
 .rename_i a;obtain ⟨y,b,e⟩:=Option.map_eq_some_iff.1 h;exact ⟨a,y,b,e⟩
 .cases h
theorem dH {n:Nat}(h:n<1000000000000000):IntKind.i64.wrap ((n:Int)+1)=((n+1:Nat):Int):=by
 simp only[IntKind.wrap,IntKind.bits,IntKind.signed];simp;omega
theorem ey {α:Type}{l:List α}{i:Nat}{x:α}(h:l[i]?=some x):l.drop i=x::l.drop (i+1):=by
 obtain ⟨hi,rfl⟩:=List.getElem?_eq_some_iff.1 h;exact List.drop_eq_getElem_cons hi
theorem cast_zero:((0:Nat):Int)=0:=rfl
attribute [go_sem] cast_zero
theorem CM (l:List Value)(i j:Nat):(l.toArray).extract i j=((l.drop i).take (j - i)).toArray:=by
 apply Array.ext';simp[List.extract_eq_drop_take]
attribute [go_sem] CM
structure cr (T:Type) where
 n:Nat
 rel:(Addr->Option Value)->T->List Value->Prop
 mono:∀{ro aK:Addr->Option Value} {x:T} {cs:List Value},Ext ro aK->rel ro x cs->rel aK x cs
 len:∀{ro:Addr->Option Value} {x:T} {cs:List Value},rel ro x cs->cs.length=n
 one:∀{ro:Addr->Option Value} {x:T} {cs:List Value},rel ro x cs->∀v∈cs,e8 v=true
def lK {T:Type}(n:Nat)(c:T->List Value)(h:∀x,(c x).length=n)(a:∀x,∀v∈c x,e8 v=true):cr T:=
 ⟨n,fun _ x cs=>cs=c x,fun _ h=>h,fun e=>by rw[e];exact h _,fun e=>by rw[e];exact a _⟩
def rI:cr Int:=lK 1 (fun n=>[.int .i64 n]) (fun _=>rfl) (fun _ v hv=>by simp at hv;subst hv;rfl)
def aG {T:Type}(r:cr T)(ro:Addr->Option Value)(s:Value)(l:List T):Prop:=
 ∃ad cap,s= .slice ad l.length cap/\l.length<=cap/\l.length<=1000000000000000/\∀i x,l[i]?=some x->∃p cs,ad=some p/\r.rel ro x cs/\∀j v,cs[j]?=some v->ro ((p.add (i*r.n)).add j)=some v
theorem aG.mono {T:Type}{r:cr T}{ro aK:Addr->Option Value}{s:Value}{l:List T}(h:aG r ro s l)(a:Ext ro aK):aG r aK s l:=by
 obtain ⟨ad,cap,b,c,d,e⟩:=h;refine ⟨ad,cap,b,c,d,fun i x hi=>?_⟩;obtain ⟨p,cs,f,g,hm⟩:=e i x hi;exact ⟨p,cs,f,r.mono a g,fun j v hv=>a _ _ (hm j v hv)⟩
theorem aG.nil {T:Type}(r:cr T)(ro:Addr->Option Value):aG r ro (.slice none 0 0) []:=⟨none,0,rfl,Nat.le_refl _,aB,fun i x h=>by simp at h⟩
def rL {T:Type}(r:cr T):cr (List T):=
 ⟨1,fun ro l cs=>∃s,cs=[s]/\aG r ro s l,fun c ⟨s,a,b⟩=>⟨s,a,b.mono c⟩,fun ⟨s,a,_⟩=>by rw[a];rfl,fun ⟨s,a,ad,cap,b,_⟩ v hv=>by rw[a] at hv;simp at hv;subst hv;rw[b];rfl⟩
theorem aG.part {T:Type}{r:cr T}{ro:Addr->Option Value}{ad:Option Addr}{cap:Nat}{l:List T}(h:aG r ro (.slice ad l.length cap) l)(lo hi:Nat)(g:lo<=hi)(k:hi<=l.length):
  aG r ro (.slice (if cap=lo then ad else ad.map (·.add (lo*r.n))) (hi - lo) (cap - lo)) ((l.take hi).drop lo):=by
 obtain ⟨m,o,e,q,s,b⟩:=h
 cases e
 have hlen:((l.take hi).drop lo).length=hi - lo:=by simp;omega
 refine ⟨_,cap - lo,by rw[hlen],by rw[hlen];omega,by rw[hlen];omega,fun i x a=>?_⟩
 rw[List.getElem?_drop,List.getElem?_take] at a
 split at a
 case isFalse=>cases a
 obtain ⟨p,cs,c,d,hm⟩:=b _ x a
 have t:lo+i<l.length:=(List.getElem?_eq_some_iff.1 a).1
 refine ⟨p.add (lo*r.n),cs,?_,d,fun j v hv=>?_⟩
 .have f:¬cap=lo:=ai
  rw[if_neg f,c];rfl
 .have:=hm j v hv
  rw[jN] at this
  rw[jN,jN]
  rw[show lo*r.n+(i*r.n+j)=(lo+i)*r.n+j by rw[Nat.add_mul];omega]
  exact this
def Apart (ks:List Nat)(bz:List (Nat×Obj)):Prop:=∀k∈keys bz,k∉ks
theorem Apart.nil (ks:List Nat):Apart ks []:=fun k h=>(by cases h)
theorem jQ:∀{l:List (Nat×Obj)} {b:Nat},aN l b->b∉keys l
 |[],_,_=>by simp[keys]
 |(c,o)::l,b,h=>by simp only[keys,List.map_cons,List.mem_cons,not_or];exact ⟨h.1,jQ h.2⟩
theorem kI:∀{l:List (Nat×Obj)} {b:Nat},b∉keys l->aN l b
 |[],_,_=>trivial
 |(c,o)::l,b,h=>by simp only[keys,List.map_cons,List.mem_cons,not_or] at h;exact ⟨h.1,kI h.2⟩
theorem Apart.push {ks:List Nat}{bz:List (Nat×Obj)}{b:Nat}(h:Apart ks bz)(hb:aN bz b):Apart (b::ks) bz:=fun k a=>by
 simp only[List.mem_cons,not_or]
 exact ⟨fun e=>jQ hb (e▸a),h k a⟩
theorem Apart.drop {ks:List Nat}{bz:List (Nat×Obj)}{b:Nat}(h:Apart (b::ks) bz):Apart ks bz:=fun k a=>(by have:=h k a;simp only[List.mem_cons,not_or] at this;exact this.2)
def bA {T:Type}(r:cr T)(ro:Addr->Option Value)(e:TypeId)(v:Value)(l:List T)(bz:List (Nat×Obj)):Prop:=
 ∃ls:List (List Value),Gr ro e r.n v ls bz/\ls.length=l.length/\l.length<=1000000/\∀(i:Nat) (x:T),l[i]?=some x->∃cs:List Value,ls[i]?=some cs/\r.rel ro x cs
theorem bA.nil {T:Type}(r:cr T)(ro:Addr->Option Value)(e:TypeId):bA r ro e (.slice none 0 0) [] []:=⟨[],.inl ⟨rfl,rfl,rfl⟩,rfl,aB,fun i x h=>by simp at h⟩
theorem bA.len {T:Type}{r:cr T}{ro:Addr->Option Value}{e:TypeId}{v:Value}{l:List T}{bz:List (Nat×Obj)}(h:bA r ro e v l bz):∃ad cap,v= .slice ad l.length cap/\l.length<=cap:=by
 obtain ⟨ls,hg,a,-⟩:=h;rcases hg with ⟨rfl,rfl,rfl⟩|⟨b,arr,cap,rfl,rfl,hs,hle,-⟩
 .exact ⟨none,0,by rw[<-a];rfl,by rw[<-a];exact Nat.le_refl _⟩
 .exact ⟨_,cap,by rw[a],ai⟩
def aW (ro:Addr->Option Value)(own:List (Nat×Obj)):Prop:=∀b∈keys own,∀off sp,ro ⟨b,off,sp⟩=none
theorem bA.mono {T:Type}{r:cr T}{ro aK:Addr->Option Value}{e:TypeId}{v:Value}{l:List T}{bz:List (Nat×Obj)}(h:bA r ro e v l bz)(d:Ext ro aK)(hn:aW aK bz):bA r aK e v l bz:=by
 obtain ⟨ls,hg,f,hm,g⟩:=h;refine ⟨ls,?_,f,hm,fun i x hi=>?_⟩
 .rcases hg with h|⟨b,arr,cap,c,a,j,k,m,n,o⟩
  .exact .inl h
  .exact .inr ⟨b,arr,cap,c,a,j,k,m,n,hn b (by rw[a];simp[keys])⟩
 .obtain ⟨cs,c,a⟩:=g i x hi;exact ⟨cs,c,r.mono d a⟩
theorem Apart.fresh {pre bz:List (Nat×Obj)}{ks:List Nat}(h:Apart ks bz)(a:keys pre=ks):∀k∈keys bz,aN pre k:=fun k b=>kI (by rw[a];exact h k b)
theorem lM {n:Nat}:∀(ls:List (List Value)) (i:Nat) (cs:List Value),(∀x∈ls,x.length=n)->ls[i]?=some cs->∀j v,cs[j]?=some v->ls.flatten[i*n+j]?=some v
 |[],i,cs,_,h,_,_,_=>by simp at h
 |y::ls,0,cs,hn,h,j,v,hv=>by
  simp at h;subst h
  have:j<y.length:=(List.getElem?_eq_some_iff.1 hv).1
  simp only[Nat.zero_mul,Nat.zero_add,List.flatten_cons]
  rw[List.getElem?_append_left this]
  exact hv
 |y::ls,i+1,cs,hn,h,j,v,hv=>by
  simp at h
  have ih:=lM ls i cs (fun x b=>hn x (by simp[b])) h j v hv
  have a:=hn y aB
  simp only[List.flatten_cons]
  rw[List.getElem?_append_right (by rw[a,Nat.add_mul];omega)]
  rw[show (i+1)*n+j - y.length=i*n+j by rw[a,Nat.add_mul];omega]
  exact ih
theorem bA.tf {T:Type}{r:cr T}{ro:Addr->Option Value}{e:TypeId}{v:Value}{l:List T}{bz:List (Nat×Obj)}{ks:List Nat}(h:bA r ro e v l bz)(pre:List (Nat×Obj))(k:Apart ks bz)(m:keys pre=ks)(hn:aW ro pre):
  ∃aK,Ext ro aK/\aW aK pre/\aG r aK v l/\Le ⟨aK,pre⟩ ⟨ro,pre++bz⟩:=by
 obtain ⟨ls,hg,d,hm,o⟩:=h
 rcases hg with ⟨rfl,rfl,rfl⟩|⟨b,arr,cap,rfl,rfl,hs,hle,ht,f,p⟩
 .have:l=[]:=List.eq_nil_of_length_eq_zero (by simpa using d.symm)
  subst this
  exact ⟨ro,Ext.refl ro,hn,aG.nil r ro,by rw[List.append_nil];exact Le.refl _⟩
 .have hb:b∉keys pre:=by rw[m];exact k b (by simp[keys])
  refine ⟨bZ ro b (.cells arr e),gq _ _ _,fun c g off sp=>?_,⟨some ⟨b,0,none⟩,cap,by rw[d],ai,ai,fun i x hi=>?_⟩,kG ?_ (List.sublist_append_left _ _) (kI hb)⟩
  .have q:¬c=b:=fun e=>hb (e▸g)
   simp[bZ,hn c g,q]
  .obtain ⟨cs,s,t⟩:=o i x hi
   refine ⟨_,cs,rfl,r.mono (gq _ _ _) t,fun j v hv=>?_⟩
   have a:=lM ls i cs f s j v hv
   rw[jN,iL,Nat.zero_add,ew p]
   have u:i*r.n+j<ls.length*r.n:=by
    have:=(List.getElem?_eq_some_iff.1 a).1
    rw[gX f] at this
    exact this
   rw[<-ht,List.getElem?_take_of_lt u] at a
   simpa [cellOf] using a
  .have:∀(pre:List (Nat×Obj)),b∉keys pre->lk (pre++[(b,Obj.cells arr e)]) b=some (.cells arr e):=fun pre h=>sO (kI h)
   exact this pre hb
theorem bA.elem {T:Type}{r:cr T}{ro:Addr->Option Value}{e:TypeId}{v:Value}{l:List T}{bz:List (Nat×Obj)}(h:bA r ro e v l bz){i:Nat}{x:T}(hi:l[i]?=some x):
  ∃b arr cap cs,v= .slice (some ⟨b,0,none⟩) l.length cap/\bz=[(b,.cells arr e)]/\(∀off sp,ro ⟨b,off,sp⟩=none)/\r.rel ro x cs/\∀j v,cs[j]?=some v->arr[i*r.n+j]?=some v:=by
 obtain ⟨ls,hg,f,hm,g⟩:=h
 obtain ⟨cs,c,k⟩:=g i x hi
 rcases hg with ⟨rfl,rfl,rfl⟩|⟨b,arr,cap,rfl,rfl,hs,hle,ht,d,m⟩
 .simp at c
 .refine ⟨b,arr,cap,cs,by rw[f],rfl,m,k,fun j v hv=>?_⟩
  have a:=lM ls i cs d c j v hv
  have o:i*r.n+j<ls.length*r.n:=by
   have:=(List.getElem?_eq_some_iff.1 a).1
   rw[gX d] at this
   exact this
  rw[<-ht,List.getElem?_take_of_lt o] at a
  simpa using a
theorem aX {ro:Addr->Option Value}{own:List (Nat×Obj)}:Ext ro (ag.dz ⟨ro,own⟩).ro:=fun a v h=>by simp[ag.dz,ag.get,h]
theorem fW {ro:Addr->Option Value}{own:List (Nat×Obj)}{F:ag}(h:Knows ⟨ro,own⟩ F):Ext ro F.dz.ro:=fun a v b=>by
 have:F.ro a=some v:=h.1 a v b
 simp[ag.dz,ag.get,this]
theorem aG.yd {T:Type}{r:cr T}{ro:Addr->Option Value}{ad:Option Addr}{cap:Nat}{l x:List T}(h:aG r ro (.slice ad l.length cap) l)(lo hi:Nat)(b:lo<=hi)(c:hi<=l.length)(d:x=(l.take hi).drop lo):
  ∃a,(if cap=lo then ad else ad.map (·.add (lo*r.n)))=a/\hi - lo=x.length/\aG r ro (.slice a x.length (cap - lo)) x:=by
 subst d
 have hlen:((l.take hi).drop lo).length=hi - lo:=by simp;omega
 refine ⟨_,rfl,hlen.symm,?_⟩
 rw[hlen]
 exact h.part lo hi b c
theorem aG.one {T:Type}{r:cr T}{ro:Addr->Option Value}{own:List (Nat×Obj)}{b:Nat}{x:T}{cs:Array Value}{e:TypeId}(a:∀off sp,ro ⟨b,off,sp⟩=none)(c:lk own b=some (.cells cs e))(h:r.rel ro x cs.toList):
  aG r (bZ ro b (.cells cs e)) (.slice (some ⟨b,0,none⟩) 1 1) [x]:=by
 refine ⟨some ⟨b,0,none⟩,1,rfl,Nat.le_refl _,aB,fun i y hi=>?_⟩
 have:i=0/\y=x:=by
  cases i with
  |zero=>simp at hi;exact ⟨rfl,hi.symm⟩
  |succ i=>simp at hi
 obtain ⟨rfl,rfl⟩:=this
 refine ⟨_,_,rfl,r.mono (gq _ _ _) h,fun j v hv=>?_⟩
 rw[Nat.zero_mul,add_zero',iL,Nat.zero_add,ew a]
 simpa [cellOf] using hv
theorem aG.flat {T:Type}{r:cr T}{ro:Addr->Option Value}{b:Nat}{cs:Array Value}{e:TypeId}(c:T->List Value)(l:List T)(a:∀x,r.rel ro x (c x))(d:∀off sp,ro ⟨b,off,sp⟩=none)(f:cs.toList=(l.map c).flatten)(hlen:l.length<=1000000000000000):
  aG r (bZ ro b (.cells cs e)) (.slice (some ⟨b,0,none⟩) l.length l.length) l:=by
 refine ⟨some ⟨b,0,none⟩,l.length,rfl,Nat.le_refl _,hlen,fun i x hi=>⟨_,c x,rfl,r.mono (gq _ _ _) (a x),fun j v hv=>?_⟩⟩
 have g:(l.map c)[i]?=some (c x):=by rw[List.getElem?_map,hi];rfl
 have hn:∀y∈l.map c,y.length=r.n:=fun y h=>by
  obtain ⟨z,_,rfl⟩:=List.mem_map.1 h
  exact r.len (a z)
 have:=lM (l.map c) i (c x) hn g j v hv
 rw[iL,iL,Nat.zero_add,ew d]
 rw[<-f] at this
 simpa [cellOf] using this
theorem fy {ro:Addr->Option Value}{own:List (Nat×Obj)}{b:Nat}{o:Obj}(e:lk own b=some o):Ext (bZ ro b o) (ag.dz ⟨ro,own⟩).ro:=fun a v h=>by
 unfold bZ at h
 simp only[ag.dz,ag.get]
 split at h
 .rename_i x c;rw[c];exact h
 .rename_i c
  split at h
  .rename_i d
   rw[c]
   simp only
   rw[if_pos d.2,d.1,e]
   exact h
  .cases h
theorem aF.tf {P:Program}{f:FuncId}{args:Array Value}{ro:Addr->Option Value}{R:Value->Prop}(h:aF P f args ⟨ro,[]⟩ (fun v _=>R v)):aF P f args ⟨ro,[]⟩ (fun v G=>R v/\G=⟨ro,[]⟩):=by
 intro main J hJ c cs hK
 exact sw (F:=⟨ro,[]⟩) (R:=R) (by
  have e:ag.dz ⟨ro,[]⟩=⟨ro,[]⟩:=by
   simp only[ag.dz,ag.mk.injEq,and_true];funext a;simp only[ag.get];cases ro a with
   |none=>simp[lk]
   |some v=>rfl
  rw[e];exact h) main J hJ c cs hK
end Go.Sep
end
section
namespace Go.Sep
open Go Go.Conc Go.ConcM
open Go.ConcN (sumTo upd sumTo_upd upd_ne upd_same)
def ek (P:Program)(Φ:Goroutine->ag->Prop)(g:Goroutine)(F:ag):Prop:=
 ∀(bn:Loc->Prop) (gs:Array Goroutine) (w:World) (sl:Option (Nat×Nat)) (t:Trace) (q:Nat->Nat),ie P bn g F gs w t q->
  ∃(N:Nat) (gs':Array Goroutine) (w':World) (c:Option (Nat×Nat)) (a:Trace) (d:Nat->Nat) (g':Goroutine) (F':ag) (b:Loc->Prop),
   runNT P N (crowd gs w sl) t=(.next (crowd gs' w' c),a)/\ie P b g' F' gs' w' a d/\eV F F' w w'/\(∀l,b l->bn l\/¬l.low w.heap.size)/\Φ g' F'
theorem ek.done {P:Program}{Φ:Goroutine->ag->Prop}{g:Goroutine}{F:ag}(h:Φ g F):ek P Φ g F:=
 fun bn gs w sl t q a=>⟨0,gs,w,sl,t,q,g,F,bn,rfl,a,.refl _ _,fun _ h=>.inl h,h⟩
theorem od (P:Program)(Φ:Goroutine->ag->Prop):Closed P true (ek P Φ) where
 mono hle h bn gs w sl t q b:=by
  obtain ⟨N,gs',w',v,z,A,g',F',B,g,C,hu,D,E⟩:=h bn gs w sl t q ⟨b.g0,b.lv,b.past,hle.has w b.has,fun l hs H=>b.apart l hs (hle.gI H),b.low⟩
  exact ⟨N,gs',w',v,z,A,g',F',B,g,C,hu.le hle,D,E⟩
 step {fr cs F} h bn gs w sl t q b:=by
  obtain ⟨N,k,d,d',a2,m,t1,I,g,a3,o,p,J,K⟩:=xE (P:=P) (a:=G fr cs) rfl _ gs w sl t q (Nat.le_refl _) b.g0 b.lv b.past
  obtain ⟨g',w',es,F',hgo,hu,L,M,hJ⟩:=h (w.at d') (b.has.at d')
  have c:dw F F' w w':=⟨hu.os,hu.tape,hu.output,hu.size,hu.frame,hu.ro,hu.own⟩
  have O:=runT_crowd_go (P:=P) (sl:=m) (i:=0) o (show stepG P (0==0) (G fr cs) (w.at d')=_ from hgo)
  have Q:0<k.size:=(Array.getElem?_eq_some_iff.1 o).1
  have r:=ie.next (P:=P) b.apart b.low c
  obtain ⟨R,S,w2,T,t2,U,V,W,X,Y,Z,ab,ad,ae⟩:=hJ bn ((k.map (woken P (G fr cs) g' w')).setIfInBounds 0 g') w' m (t1++MemOp.ofEvents 0 (G fr cs).frame.fn (G fr cs).frame.place es) I
   {g0:=by simp[Q]
    lv:=⟨fun j x f s=>by
     have al:0≠j:=ai
     rw[Array.getElem?_setIfInBounds_ne al,Array.getElem?_map] at s
     obtain ⟨y,ao,rfl⟩:=Option.map_eq_some_iff.1 s
     have u:=p.old j y f ao
     rw[woken_quitsD u,Deaf_other t1 ai _ (fun op n=>by obtain ⟨e,_,rfl⟩:=Go.Conc.mem_ofEvents n;rfl)]
     exact u,fun j f=>by
     rw[Deaf_other t1 (g':=0) (by simp at f;omega) _ (fun op n=>by obtain ⟨e,_,rfl⟩:=Go.Conc.mem_ofEvents n;rfl)]
     exact p.above j (by simpa using f)⟩
    past:=(J.mono c.size).own fun e he=>xF b.has c.size b.apart b.low (M e he)
    has:=L
    apart:=r.1
    low:=r.2}
  refine ⟨N+1+R,S,w2,T,t2,U,V,W,X,?_,Z,(eV.sr c).trans ab,fun l ar=>(ad l ar).imp id fun hn a0=>hn (Loc.low_mono c.size a0),ae⟩
  have:runNT P (N+1) (crowd gs w sl) t=(.next (crowd ((k.map (woken P (G fr cs) g' w')).setIfInBounds 0 g') w' m),t1++MemOp.ofEvents 0 (G fr cs).frame.fn (G fr cs).frame.place es):=by
   rw[runNT_add,g]
   simp only[runNT,K,O]
  rw[jK this]
  exact Y
def fA (P:Program)(f:FuncId)(args:Array Value)(F:ag)(R:Value->ag->Prop):Prop:=∀Φ,de P (ek P Φ) f args F R
theorem ye {P:Program}{f:FuncId}{args:Array Value}{ro:Addr->Option Value}{own:List (Nat×Obj)}{R:Value->ag->Prop}(h:fA P f args ⟨ro,[]⟩ R):
  fA P f args ⟨ro,own⟩ (fun v F'=>∃G,R v G/\F'=G.star ⟨ro,own⟩/\Fits ⟨ro,own⟩ G/\jO ⟨ro,own⟩ G):=by
 intro Φ c cs hK bn gs w sl t q d
 let Fr:ag:=⟨ro,own⟩
 have E:ie P bn (G (Frame.enter P f args .normal) (c::cs)) ⟨ro,[]⟩ gs w t q:=
  ⟨d.g0,d.lv,d.past,⟨d.has.ro,fun b o hb=>(by cases hb),List.nodup_nil,fun a v j hm=>(by cases hm)⟩,fun l hs i=>d.apart l hs (by
   cases l with
   |cell a=>exact i.elim (fun x=>by cases x) .inr
   |obj r=>cases i
   |_=>exact i),d.low⟩
 obtain ⟨N,gs',w',F,p,s,g',F',u,j,g,hu,n,v,rfl,hR⟩:=h (fun g' F'=>∃v,g'=G (c.finish v) cs/\R v F') c cs (fun v F' hR=>ek.done ⟨v,rfl,hR⟩) bn gs w sl t q E
 have A:Has Fr w':=⟨fun a v j=>by
  have B:=d.has.ro a v j
  have H:=d.has.gH (a:=a) (by rw[j];rfl)
  unfold World.cell? at B ⊢
  rw[hu.frame _ H (fun hm=>by cases hm)]
  exact B,fun b o hb=>by
  rw[hu.frame b (d.has.lt (eB hb)) (fun hm=>by cases hm)]
  exact d.has.own b o hb,d.has.nodup,d.has.apart⟩
 have C:Fits Fr F':=⟨⟨w',g.has,A⟩,fun b hb hm=>by
  rcases hu.own b hb with x|x
  .cases x
  .have:=d.has.lt (b:=b) hm;omega,fun a k hm=>by
  rcases hu.own _ hm with x|x
  .cases x
  .have:=d.has.gH (a:=a) k;omega⟩
 have I:jO Fr F':=fun a k hm=>by
  rcases hu.ro a k with x|x|x
  .obtain ⟨y,J⟩:=Option.isSome_iff_exists.1 x
   exact d.has.apart a y J hm
  .cases x
  .have:=d.has.lt (b:=a.block) hm;omega
 have K:ie P u (G (c.finish v) cs) (F'.star Fr) gs' w' p s:=by
  refine ⟨g.g0,g.lv,g.past,C.both g.has A,fun l hs i=>?_,g.low⟩
  have D:∀b,b∈keys own->(l= .obj b\/∃a,l= .cell a/\a.block=b)->False:=fun b hb m=>by
   rcases n l hs with x|x
   .refine d.apart l x ?_
    rcases m with rfl|⟨a,rfl,e⟩
    .exact hb
    .exact .inl (e▸hb)
   .refine x ?_
    have:=d.has.lt (b:=b) hb
    rcases m with rfl|⟨a,rfl,e⟩
    .exact this
    .show a.block<_;rw[e];exact this
  cases l with
  |cell a=>
   rcases i with x|x
   .simp only[ag.star,cj,List.mem_append] at x
    rcases x with x|x
    .exact g.apart _ hs (.inl x)
    .exact D _ x (.inr ⟨a,rfl,rfl⟩)
   .rcases iJ x with y|y
    .rcases n _ hs with z|z
     .exact d.apart _ z (.inr y)
     .exact z (d.has.gH (a:=a) y)
    .exact g.apart _ hs (.inr y)
  |obj r=>
   simp only[ag.gI,ag.star,cj,List.mem_append] at i
   rcases i with x|x
   .exact g.apart _ hs x
   .exact D _ x (.inl rfl)
  |_=>exact i
 obtain ⟨L,M,w2,O,t2,Q,S,T,U,V,W,X,Y,Z⟩:=hK v (F'.star Fr) ⟨F',hR,rfl,C,I⟩ u gs' w' F p s K
 have ab:eV ⟨ro,own⟩ (F'.star Fr) w w':=⟨hu.os,hu.tape,hu.output,hu.size,fun b hb hn=>hu.frame b hb (fun x=>by cases x),fun a k=>by
  rcases iJ k with y|y
  .exact .inl y
  .rcases hu.ro a y with z|z|z
   .exact .inl z
   .cases z
   .exact .inr (.inr z),fun b hb=>by
  simp only[ag.star,cj,List.mem_append] at hb
  rcases hb with x|x
  .rcases hu.own b x with y|y
   .cases y
   .exact .inr y
  .exact .inl x⟩
 exact ⟨N+L,M,w2,O,t2,Q,S,T,U,by rw[jK j];exact V,W,ab.trans X,fun l m=>(Y l m).elim (n l) fun hn=>.inr fun ad=>hn (Loc.low_mono hu.size ad),Z⟩
theorem fA.go {P:Program}{f:FuncId}{fn:Func}{c:Code}{n:Nat}{rs:List ResultVar}{args:Array Value}{F:ag}{R:Value->ag->Prop}(d:P.funcs[f]?=some fn)(hb:fn.body=some c)(hn:fn.ntmps=n)(g:fn.results=rs.toArray)(k:args.size<=n)
  (h:∀Φ,Closed P true (ek P Φ)->∀A:Act,sz A=n->A.defers=[]->(∀i,slot A i=args.getD i undef)->Wp (ek P Φ) c (iq P rs R) A F):fA P f args F R:=fun Φ=>by
 refine de.of_wp (od P Φ) d hb ?_
 refine (h Φ (od P Φ) _ (by simp[sz,hn];omega) rfl fun i=>?_).mono fun e a F b=>?_
 .simp only[slot,hn,Array.getD_eq_getD_getElem?]
  rcases Nat.lt_or_ge i args.size with hi|hi
  .rw[Array.getElem?_append_left hi]
  .rw[Array.getElem?_append_right hi,Array.getElem?_replicate,Array.getElem?_eq_none hi]
   split<;>rfl
 .cases e with
  |exit i=>exact b
  |_=>
   obtain ⟨hd,hv⟩:=b
   split at hv
   .rename_i v j
    show gV P a.defers _ F
    rw[hd]
    exact pY g j hv
   .exact hv.elim
def oe (P:Program)(f:FuncId)(args:Array Value)(ro:Addr->Option Value)(R:Value->(Addr->Option Value)->Prop):Prop:=
 fA P f args ⟨ro,[]⟩ (fun v G=>∃aK,Ext ro aK/\Le ⟨aK,[]⟩ G/\R v aK)
theorem og {P:Program}{Φ:Goroutine->ag->Prop}{f:FuncId}{args:Array Value}{ro:Addr->Option Value}{own:List (Nat×Obj)}{K:Value->ag->Prop}(R:Value->(Addr->Option Value)->Prop)
  (h:oe P f args ro R) (j:∀v aK,Ext ro aK->(∀b∈keys own,∀off sp,aK ⟨b,off,sp⟩=none)->R v aK->K v ⟨aK,own⟩):de P (ek P Φ) f args ⟨ro,own⟩ K:=by
 intro c cs hK
 refine ye (own:=own) h Φ c cs fun v F' k=>?_
 obtain ⟨G,⟨aK,l,hle,hR⟩,rfl,e,hn⟩:=k
 have i:∀a,(aK a).isSome=true->a.block∉keys own:=fun a g=>(hle.ro a g).elim (hn a) (e.own _)
 refine (od P Φ).mono (F:=⟨aK,own⟩) ⟨fun w hw=>?_,fun b hb=>?_,fun a g=>?_⟩ (hK v ⟨aK,own⟩ (j v aK l (fun b hb off sp=>?_) hR))
 .have m:=hle.has w (e.right hw)
  have hF:=e.left hw
  exact ⟨m.ro,hF.own,hF.nodup,fun a v d=>i a (by simp only at d;simp[d])⟩
 .simp only[ag.star,cj,List.mem_append];exact .inr hb
 .rcases hle.ro a g with x|x
  .exact (fS (.inr x)).imp id (fun z=>by simp only[ag.star,cj,List.mem_append];exact .inr z)
  .exact .inr (by simp only[ag.star,cj,List.mem_append];exact .inl x)
 .cases d:aK ⟨b,off,sp⟩ with
  |none=>rfl
  |some v=>exact absurd hb (i ⟨b,off,sp⟩ (by simp[d]))
theorem jm {P:Program}{Φ:Goroutine->ag->Prop}{f:FuncId}{args:Array Value}{ro:Addr->Option Value}{own:List (Nat×Obj)}{K:Value->ag->Prop}(v:Value)
  (h:fA P f args ⟨ro,[]⟩ (fun d _=>d=v)) (e:K v ⟨ro,own⟩):de P (ek P Φ) f args ⟨ro,own⟩ K:=by
 intro c cs hK
 refine ye (own:=own) h Φ c cs fun d F' g=>?_
 obtain ⟨G,rfl,rfl,i,hn⟩:=g
 refine (od P Φ).mono (F:=⟨ro,own⟩) ⟨fun w hw=>i.left hw,fun b hb=>?_,fun a j=>?_⟩ (hK d ⟨ro,own⟩ e)
 .simp only[ag.star,cj,List.mem_append];exact .inr hb
 .exact (fS (.inl j)).imp id (fun z=>by simp only[ag.star,cj,List.mem_append];exact .inr z)
end Go.Sep
end
section
namespace Go.Sep
open Go Go.Conc Go.ConcM
def yf (P:Program)(R:Value->ag->Prop)(g:Goroutine)(F:ag):Prop:=
 ∃(fr:Frame) (fn:Func) (t:Nat) (v:Value),g=G fr []/\fr.kind= .normal/\P.inits.idxOf? fr.fn=none/\fr.mode= .returning/\fr.defers=[]/\P.funcs[fr.fn]?=some fn/\fn.results=#[.tmp t]/\fr.tmps.getD t undef=v/\R v F
def iM (P:Program)(f:FuncId)(args:Array Value)(F:ag)(R:Value->ag->Prop):Prop:=
 ∀Φ:Goroutine->ag->Prop,(∀g F',yf P R g F'->Φ g F')->ek P Φ (G (Frame.enter P f args .normal) []) F
theorem iM.go {P:Program}{f:FuncId}{fn:Func}{c:Code}{n t:Nat}{args:Array Value}{F:ag}{R:Value->ag->Prop}(g:P.funcs[f]?=some fn)(hb:fn.body=some c)(hn:fn.ntmps=n)(m:fn.results=[.tmp t].toArray)(v:args.size<=n)(hi:P.inits.idxOf? f=none)
  (h:∀Φ,Closed P true (ek P Φ)->∀A:Act,sz A=n->A.defers=[]->(∀i,slot A i=args.getD i undef)->Wp (ek P Φ) c (iq P [.tmp t] R) A F):iM P f args F R:=by
 intro Φ o
 have hJ:=od P Φ
 let b:Frame:={(default:Frame) with fn:=f,kind:=.normal}
 have p:Frame.enter P f args .normal=on b {tmps:=args++Array.replicate (fn.ntmps - args.size) undef,defers:=[]} [.code c]:=by
  simp[Frame.enter,on,g,hb,b]
  rfl
 rw[p]
 have j:∀(a:Act) (F':ag) (fr:Frame),fr.kind= .normal->fr.mode= .returning->fr.defers=a.defers->fr.fn=f->fr.tmps=a.tmps->iq P [.tmp t] R .normal a F'->ek P Φ (G fr []) F':=by
  intro a F' fr q r s k u d
  obtain ⟨hd,hv⟩:=d
  refine ek.done (o _ _ ⟨fr,fn,t,_,rfl,q,by rw[k];exact hi,r,by rw[s,hd],by rw[k];exact g,m,rfl,?_⟩)
  rw[u]
  simpa [kF,kE,n6,slot] using hv
 refine h Φ hJ _ (by simp[sz,hn];omega) rfl (fun i=>?_) b [] [] ⟨by simp[b],.inl rfl⟩ fun e l F' d=>?_
 .simp only[slot,hn,Array.getD_eq_getD_getElem?]
  rcases Nat.lt_or_ge i args.size with hi|hi
  .rw[Array.getElem?_append_left hi]
  .rw[Array.getElem?_append_right hi,Array.getElem?_replicate,Array.getElem?_eq_none hi]
   split<;>rfl
 .cases e with
  |normal=>exact hJ.move (fun _=>jJ rfl) (j l F' _ rfl rfl rfl rfl rfl d)
  |exit i=>exact d.elim
  |ret=>exact fun w=>hJ.move (fun _=>stepG_ret' rfl) (j l F' _ rfl rfl rfl rfl rfl d)
theorem iM.ends {P:Program}{f:FuncId}{args:Array Value}{F:ag}{R:Value->ag->Prop}(h:iM P f args F R){W:World}(hF:Has F W){a:Value->World->Prop}
  (i:∀v F' w',R v F'->eV F F' W w'->a v w'):
  ∃M last o w' b,runNT P (M+1) (solo (G (Frame.enter P f args .normal) []) W) #[]=(.ended o w',b)/\runN P M (solo (G (Frame.enter P f args .normal) []) W)= .next last/\step P last= .ended o w'/\Go.Conc.Good P a last o w' b:=by
 obtain ⟨N,gs',w',j,b,z,g',F',k,g,c,hu,_,fr,fn,t,v,rfl,l,hi,m,n,p,q,r,s⟩:=h (yf P R) (fun _ _ x=>x) (fun _=>False) #[G (Frame.enter P f args .normal) []] W none #[] (fun _=>0)
  ⟨rfl,leavers_one P _,past_nil.mono (Nat.zero_le _),hF,fun _ x=>x.elim,fun _ x=>x.elim⟩
 have hg:Goes P true AtRel (fun _ _ _=>False) (AtEnd P k w'.heap.size a) 0 (G fr []) w':=by
  refine Goes.stop fun A ⟨d,hd⟩=>?_
  subst hd
  refine ⟨rfl,v,seen P fr.fn #[],?_,fun e he=>?_,i v F' _ s ⟨hu.os,hu.tape,hu.output,hu.size,hu.frame,hu.ro,hu.own⟩⟩
  .have u:fr.tmps[t]?.getD undef=v:=by rw[<-r,Array.getD_eq_getD_getElem?]
   simp[G,stepG,unwind,m,n,p,results,q,u,doReturn,GStep.after,Sem.runT,l,hi]
  .exact absurd (mem_seen he) aB
 obtain ⟨w,last,o,w2,t2,e1,e2,e3,y⟩:=beside_ends (sl:=j) (fun _ _ _ x=>x.elim) c.g0 c.lv c.past hg
 refine ⟨N+w,last,o,w2,t2,?_,?_,e3,y⟩
 .rw[solo_eq_crowd,Nat.add_assoc,jK g,e1]
 .rw[solo_eq_crowd,runN_add]
  have:=runNT_fst P N (crowd #[G (Frame.enter P f args .normal) []] W none) #[]
  rw[g] at this
  rw[<-this]
  exact e2
end Go.Sep
end
section
namespace Go.Proofs.YtcoalekambhghaaGreatDoor
open Go Go.Sep Go.Proofs
set_option maxRecDepth 100000
theorem mixed:Tryz.prog.follows .mixedOrders=true:=by kernel_rfl
@[go_sem] theorem JH:cF Tryz.prog 3=some false:=by kernel_rfl
@[go_sem] theorem tg:cp Tryz.prog 3=some 1:=by kernel_rfl
theorem th:bytesOf Tryz.prog 3=some 8:=by kernel_rfl
theorem p8:zeroOf Tryz.prog 3=some (.int .i64 0):=by kernel_rfl
theorem JI:cF Tryz.prog 4=some false:=by kernel_rfl
theorem JJ:cp Tryz.prog 4=some 1:=by kernel_rfl
theorem CN:zeroOf Tryz.prog 4=some (.bool false):=by kernel_rfl
theorem JK:sK Tryz.prog 4=true:=by kernel_rfl
theorem JL:cF Tryz.prog 9=some false:=by kernel_rfl
theorem JM:Tryz.prog.underlying 9=some .string:=by kernel_rfl
theorem JN:cF Tryz.prog 22=some false:=by kernel_rfl
theorem JO:cp Tryz.prog 22=some 1:=by kernel_rfl
theorem JP:lD Tryz.prog 22=true:=by kernel_rfl
theorem p9:ee Tryz.prog 22=some 56:=by kernel_rfl
theorem JQ:cF Tryz.prog 24=some true:=by kernel_rfl
theorem JR:cp Tryz.prog 24=some 3:=by kernel_rfl
theorem JS:zeroOf Tryz.prog 24=some (.agg #[.int .i64 0,.int .i64 0,.slice none 0 0]):=by kernel_rfl
theorem JU:dn Tryz.prog 24 0=some 0:=by kernel_rfl
theorem JV:dn Tryz.prog 24 1=some 1:=by kernel_rfl
theorem JW:dn Tryz.prog 24 2=some 2:=by kernel_rfl
theorem JX:placesOf Tryz.prog 24=some [(0,1),(1,1),(2,1)]:=by kernel_rfl
theorem JY:cF Tryz.prog 25=some false:=by kernel_rfl
theorem CO:cp Tryz.prog 25=some 1:=by kernel_rfl
attribute [go_sem] p8 JI JJ CN JK JL JM JN JO JP p9 JQ JR JS JU JV JW JX JY CO
theorem CP:bytesOf Tryz.prog 25=some 24:=by kernel_rfl
theorem yg:zeroOf Tryz.prog 25=some (.slice none 0 0):=by kernel_rfl
theorem lN:ee Tryz.prog 25=some 3:=by kernel_rfl
theorem JZ:cF Tryz.prog 27=some true:=by kernel_rfl
theorem J0:cp Tryz.prog 27=some 3:=by kernel_rfl
theorem J1:zeroOf Tryz.prog 27=some (.agg #[.slice none 0 0,.slice none 0 0,.slice none 0 0]):=by kernel_rfl
theorem J2:dn Tryz.prog 27 0=some 0:=by kernel_rfl
theorem J3:dn Tryz.prog 27 1=some 1:=by kernel_rfl
theorem J4:dn Tryz.prog 27 2=some 2:=by kernel_rfl
theorem J5:placesOf Tryz.prog 27=some [(0,1),(1,1),(2,1)]:=by kernel_rfl
theorem J6:cF Tryz.prog 31=some true:=by kernel_rfl
theorem CQ:cp Tryz.prog 31=some 2:=by kernel_rfl
attribute [go_sem] yg lN JZ J0 J1 J2 J3 J4 J5 J6 CQ
theorem CR:bytesOf Tryz.prog 31=some 16:=by kernel_rfl
theorem yh:zeroOf Tryz.prog 31=some (.agg #[.int .i64 0,.int .i64 0]):=by kernel_rfl
theorem J7:nS Tryz.prog 31=some [some true,some true]:=by kernel_rfl
theorem J8:dn Tryz.prog 31 0=some 0:=by kernel_rfl
theorem J9:dn Tryz.prog 31 1=some 1:=by kernel_rfl
theorem Ka:placesOf Tryz.prog 31=some [(0,1),(1,1)]:=by kernel_rfl
theorem Kb:cF Tryz.prog 53=some true:=by kernel_rfl
theorem Kc:cp Tryz.prog 53=some 2:=by kernel_rfl
theorem CS:zeroOf Tryz.prog 53=some (.agg #[.int .i64 0,.int .i64 0]):=by kernel_rfl
theorem Ke:dn Tryz.prog 53 0=some 0:=by kernel_rfl
theorem Kg:dn Tryz.prog 53 1=some 1:=by kernel_rfl
theorem Kh:placesOf Tryz.prog 53=some [(0,1),(1,1)]:=by kernel_rfl
theorem Ki:cF Tryz.prog 54=some false:=by kernel_rfl
theorem Kj:cp Tryz.prog 54=some 1:=by kernel_rfl
theorem Kk:lD Tryz.prog 54=true:=by kernel_rfl
theorem yj:ee Tryz.prog 54=some 92:=by kernel_rfl
theorem Kl:cF Tryz.prog 56=some true:=by kernel_rfl
theorem yl:cp Tryz.prog 56=some 7:=by kernel_rfl
attribute [go_sem] yh J7 J8 J9 Ka Kb Kc CS Ke Kg Kh Ki Kj Kk yj Kl yl
theorem ym:bytesOf Tryz.prog 56=some 80:=by kernel_rfl
theorem yo:zeroOf Tryz.prog 56=some (.agg #[.string ⟨⟨[]⟩⟩,.int .i64 0,.int .i64 0,.int .i64 0,.int .i64 0,.int .i64 0,.slice none 0 0]):=by kernel_rfl
theorem Km:dn Tryz.prog 56 0=some 0:=by kernel_rfl
theorem Kn:dn Tryz.prog 56 1=some 1:=by kernel_rfl
theorem Ko:dn Tryz.prog 56 2=some 3:=by kernel_rfl
theorem Kp:dn Tryz.prog 56 3=some 4:=by kernel_rfl
theorem Kq:dn Tryz.prog 56 4=some 6:=by kernel_rfl
theorem Kr:placesOf Tryz.prog 56=some [(0,1),(1,2),(3,1),(4,2),(6,1)]:=by kernel_rfl
theorem yp:ee Tryz.prog 71=some 31:=by kernel_rfl
theorem Ks:cF Tryz.prog 81=some true:=by kernel_rfl
theorem Kt:cp Tryz.prog 81=some 4:=by kernel_rfl
theorem Ku:nS Tryz.prog 81=some [some true,some true,some true,some true]:=by kernel_rfl
theorem Kv:jM Tryz.prog 81=some (4,3):=by kernel_rfl
theorem Kw:cF Tryz.prog 82=some false:=by kernel_rfl
theorem Kx:cp Tryz.prog 82=some 1:=by kernel_rfl
theorem Ky:zeroOf Tryz.prog 82=some (.int .u64 0):=by kernel_rfl
theorem Kz:cF Tryz.prog 84=some true:=by kernel_rfl
theorem CU:cp Tryz.prog 84=some 9:=by kernel_rfl
attribute [go_sem] yo Km Kn Ko Kp Kq Kr yp Ks Kt Ku Kv Kw Kx Ky Kz CU
theorem CV:bytesOf Tryz.prog 84=some 72:=by kernel_rfl
theorem CW:zeroOf Tryz.prog 84=some (.agg #[.int .i64 0,.int .i64 0,.int .i64 0,.int .i64 0,.int .i64 0,.int .i64 0,.int .i64 0,.int .i64 0,.int .u64 0]):=by kernel_rfl
theorem KA:nS Tryz.prog 84=some [some true,some true,some true,some true,some true,some true,some true,some true,some true]:=by kernel_rfl
theorem KB:dn Tryz.prog 84 0=some 0:=by kernel_rfl
theorem KC:dn Tryz.prog 84 1=some 4:=by kernel_rfl
theorem KD:dn Tryz.prog 84 2=some 8:=by kernel_rfl
theorem KE:placesOf Tryz.prog 84=some [(0,4),(4,4),(8,1)]:=by kernel_rfl
theorem KF:cF Tryz.prog 87=some true:=by kernel_rfl
theorem KG:cp Tryz.prog 87=some 3:=by kernel_rfl
theorem KH:zeroOf Tryz.prog 87=some (.agg #[.int .i64 0,.int .i64 0,.slice none 0 0]):=by kernel_rfl
theorem KI:dn Tryz.prog 87 0=some 0:=by kernel_rfl
theorem KJ:placesOf Tryz.prog 87=some [(0,3)]:=by kernel_rfl
theorem KL:cF Tryz.prog 92=some true:=by kernel_rfl
theorem CX:cp Tryz.prog 92=some 3:=by kernel_rfl
attribute [go_sem] CW KA KB KC KD KE KF KG KH KI KJ KL CX
theorem CY:bytesOf Tryz.prog 92=some 32:=by kernel_rfl
theorem CZ:zeroOf Tryz.prog 92=some (.agg #[.string ⟨⟨[]⟩⟩,.int .i64 0,.int .i64 0]):=by kernel_rfl
theorem KM:dn Tryz.prog 92 0=some 0:=by kernel_rfl
theorem KN:dn Tryz.prog 92 1=some 1:=by kernel_rfl
theorem KO:dn Tryz.prog 92 2=some 2:=by kernel_rfl
theorem KP:placesOf Tryz.prog 92=some [(0,1),(1,1),(2,1)]:=by kernel_rfl
theorem KQ:cF Tryz.prog 97=some false:=by kernel_rfl
theorem KR:cF Tryz.prog 99=some false:=by kernel_rfl
theorem KS:cp Tryz.prog 99=some 1:=by kernel_rfl
theorem KT:cF Tryz.prog 100=some true:=by kernel_rfl
theorem KU:cp Tryz.prog 100=some 3:=by kernel_rfl
theorem KV:jM Tryz.prog 100=some (3,99):=by kernel_rfl
theorem KW:cF Tryz.prog 105=some false:=by kernel_rfl
theorem KX:cp Tryz.prog 105=some 1:=by kernel_rfl
theorem yq:ee Tryz.prog 105=some 84:=by kernel_rfl
theorem KY:cF Tryz.prog 107=some true:=by kernel_rfl
theorem KZ:cp Tryz.prog 107=some 4:=by kernel_rfl
theorem K0:zeroOf Tryz.prog 107=some (.agg #[.int .i64 0,.int .i64 0,.slice none 0 0,.slice none 0 0]):=by kernel_rfl
theorem K1:dn Tryz.prog 107 0=some 0:=by kernel_rfl
theorem K2:dn Tryz.prog 107 1=some 3:=by kernel_rfl
theorem K3:placesOf Tryz.prog 107=some [(0,3),(3,1)]:=by kernel_rfl
theorem K4:cF Tryz.prog 112=some false:=by kernel_rfl
theorem K5:cp Tryz.prog 112=some 1:=by kernel_rfl
theorem K6:zeroOf Tryz.prog 112=some .nilFunc:=by kernel_rfl
theorem K7:cF Tryz.prog 116=some false:=by kernel_rfl
theorem K8:cF Tryz.prog 135=some false:=by kernel_rfl
theorem K9:cp Tryz.prog 135=some 1:=by kernel_rfl
theorem La:zeroOf Tryz.prog 135=some .nilFunc:=by kernel_rfl
theorem Lb:cF Tryz.prog 150=some false:=by kernel_rfl
theorem Lc:cp Tryz.prog 150=some 1:=by kernel_rfl
theorem Ld:zeroOf Tryz.prog 150=some (.chan none):=by kernel_rfl
theorem Lf:dn Tryz.prog 157 2=some 0:=by kernel_rfl
theorem Lg:zeroOf Tryz.prog 160=some (.agg #[.int .u64 0,.int .u32 0]):=by kernel_rfl
theorem Lh:dn Tryz.prog 160 1=some 0:=by kernel_rfl
theorem Li:dn Tryz.prog 160 2=some 1:=by kernel_rfl
theorem yt:ee Tryz.prog 163=some 25:=by kernel_rfl
theorem Lj:cF Tryz.prog 218=some false:=by kernel_rfl
theorem Ll:cp Tryz.prog 218=some 1:=by kernel_rfl
theorem Lm:zeroOf Tryz.prog 218=some (.int .u64 0):=by kernel_rfl
theorem Ln:aP Tryz.prog 2=true:=by kernel_rfl
theorem Lp:aP Tryz.prog 3=true:=by kernel_rfl
theorem Lq:aP Tryz.prog 4=true:=by kernel_rfl
theorem Lr:aP Tryz.prog 5=true:=by kernel_rfl
theorem Ls:aP Tryz.prog 6=true:=by kernel_rfl
theorem Lu:aP Tryz.prog 7=true:=by kernel_rfl
theorem Lv:aP Tryz.prog 8=true:=by kernel_rfl
theorem Lx:aP Tryz.prog 9=true:=by kernel_rfl
theorem Ly:aP Tryz.prog 10=true:=by kernel_rfl
theorem Lz:aP Tryz.prog 11=true:=by kernel_rfl
theorem LA:aP Tryz.prog 12=true:=by kernel_rfl
theorem LB:aP Tryz.prog 13=true:=by kernel_rfl
theorem LC:aP Tryz.prog 14=true:=by kernel_rfl
theorem LD:aP Tryz.prog 15=true:=by kernel_rfl
theorem LF:aP Tryz.prog 16=true:=by kernel_rfl
theorem LG:aP Tryz.prog 17=true:=by kernel_rfl
theorem LH:aP Tryz.prog 18=true:=by kernel_rfl
theorem LI:aP Tryz.prog 19=true:=by kernel_rfl
theorem LJ:aP Tryz.prog 20=true:=by kernel_rfl
theorem LK:aP Tryz.prog 21=true:=by kernel_rfl
theorem LL:aP Tryz.prog 22=true:=by kernel_rfl
theorem LM:aP Tryz.prog 23=true:=by kernel_rfl
theorem LN:aP Tryz.prog 24=true:=by kernel_rfl
theorem LO:aP Tryz.prog 25=true:=by kernel_rfl
theorem LP:aP Tryz.prog 26=true:=by kernel_rfl
theorem LQ:aP Tryz.prog 27=true:=by kernel_rfl
theorem LR:aP Tryz.prog 28=true:=by kernel_rfl
theorem LS:aP Tryz.prog 29=true:=by kernel_rfl
theorem LU:aP Tryz.prog 30=true:=by kernel_rfl
theorem LV:aP Tryz.prog 31=true:=by kernel_rfl
theorem LW:aP Tryz.prog 32=true:=by kernel_rfl
theorem LX:aP Tryz.prog 33=true:=by kernel_rfl
theorem LY:aP Tryz.prog 34=true:=by kernel_rfl
theorem LZ:aP Tryz.prog 35=true:=by kernel_rfl
theorem L0:aP Tryz.prog 36=true:=by kernel_rfl
theorem L1:aP Tryz.prog 37=true:=by kernel_rfl
theorem L2:aP Tryz.prog 38=true:=by kernel_rfl
theorem L3:aP Tryz.prog 39=true:=by kernel_rfl
theorem L4:aP Tryz.prog 40=true:=by kernel_rfl
theorem L5:aP Tryz.prog 41=true:=by kernel_rfl
theorem L6:aP Tryz.prog 42=true:=by kernel_rfl
theorem L7:aP Tryz.prog 43=true:=by kernel_rfl
theorem L8:aP Tryz.prog 44=true:=by kernel_rfl
theorem L9:aP Tryz.prog 45=true:=by kernel_rfl
theorem Ma:aP Tryz.prog 46=true:=by kernel_rfl
theorem Mb:aP Tryz.prog 47=true:=by kernel_rfl
theorem Mc:aP Tryz.prog 48=true:=by kernel_rfl
theorem Md:aP Tryz.prog 49=true:=by kernel_rfl
theorem Me:aP Tryz.prog 50=true:=by kernel_rfl
theorem Mf:aP Tryz.prog 51=true:=by kernel_rfl
theorem Mg:aP Tryz.prog 52=true:=by kernel_rfl
theorem Mh:aP Tryz.prog 53=true:=by kernel_rfl
theorem Mi:aP Tryz.prog 54=true:=by kernel_rfl
theorem Mj:aP Tryz.prog 55=true:=by kernel_rfl
theorem Mk:aP Tryz.prog 56=true:=by kernel_rfl
theorem Ml:aP Tryz.prog 57=true:=by kernel_rfl
theorem Mm:aP Tryz.prog 58=true:=by kernel_rfl
theorem Mn:aP Tryz.prog 59=true:=by kernel_rfl
theorem Mo:aP Tryz.prog 60=true:=by kernel_rfl
theorem Mq:aP Tryz.prog 61=true:=by kernel_rfl
theorem Mr:aP Tryz.prog 62=true:=by kernel_rfl
theorem Ms:aP Tryz.prog 63=true:=by kernel_rfl
theorem Mt:aP Tryz.prog 64=true:=by kernel_rfl
theorem Mv:aP Tryz.prog 65=true:=by kernel_rfl
theorem Mw:aP Tryz.prog 66=true:=by kernel_rfl
theorem Mx:aP Tryz.prog 67=true:=by kernel_rfl
theorem My:aP Tryz.prog 68=true:=by kernel_rfl
theorem Mz:aP Tryz.prog 69=true:=by kernel_rfl
theorem MA:aP Tryz.prog 70=true:=by kernel_rfl
theorem MB:aP Tryz.prog 71=true:=by kernel_rfl
theorem MC:aP Tryz.prog 72=true:=by kernel_rfl
theorem MD:aP Tryz.prog 73=true:=by kernel_rfl
theorem ME:aP Tryz.prog 74=true:=by kernel_rfl
theorem MF:aP Tryz.prog 75=true:=by kernel_rfl
theorem MG:aP Tryz.prog 76=true:=by kernel_rfl
theorem MH:aP Tryz.prog 77=true:=by kernel_rfl
theorem MI:aP Tryz.prog 78=true:=by kernel_rfl
theorem MJ:aP Tryz.prog 79=true:=by kernel_rfl
theorem MK:aP Tryz.prog 80=true:=by kernel_rfl
theorem ML:aP Tryz.prog 81=true:=by kernel_rfl
theorem MM:aP Tryz.prog 82=true:=by kernel_rfl
theorem MN:aP Tryz.prog 83=true:=by kernel_rfl
theorem MO:aP Tryz.prog 84=true:=by kernel_rfl
theorem MP:aP Tryz.prog 85=true:=by kernel_rfl
theorem MQ:aP Tryz.prog 86=true:=by kernel_rfl
theorem MR:aP Tryz.prog 87=true:=by kernel_rfl
theorem MS:aP Tryz.prog 88=true:=by kernel_rfl
theorem MT:aP Tryz.prog 89=true:=by kernel_rfl
theorem MU:aP Tryz.prog 90=true:=by kernel_rfl
theorem MV:aP Tryz.prog 91=true:=by kernel_rfl
theorem MW:aP Tryz.prog 92=true:=by kernel_rfl
theorem MX:aP Tryz.prog 93=true:=by kernel_rfl
theorem MY:aP Tryz.prog 94=true:=by kernel_rfl
theorem MZ:aP Tryz.prog 95=true:=by kernel_rfl
theorem M0:aP Tryz.prog 96=true:=by kernel_rfl
theorem M1:aP Tryz.prog 97=true:=by kernel_rfl
theorem M3:aP Tryz.prog 98=true:=by kernel_rfl
theorem M4:aP Tryz.prog 99=true:=by kernel_rfl
theorem M5:aP Tryz.prog 100=true:=by kernel_rfl
theorem M6:aP Tryz.prog 101=true:=by kernel_rfl
theorem M7:aP Tryz.prog 102=true:=by kernel_rfl
theorem M8:aP Tryz.prog 103=true:=by kernel_rfl
theorem M9:aP Tryz.prog 104=true:=by kernel_rfl
theorem Na:aP Tryz.prog 105=true:=by kernel_rfl
theorem Nb:aP Tryz.prog 106=true:=by kernel_rfl
theorem Nc:aP Tryz.prog 107=true:=by kernel_rfl
theorem Nf:aP Tryz.prog 108=true:=by kernel_rfl
theorem Ng:aP Tryz.prog 109=true:=by kernel_rfl
theorem Nh:aP Tryz.prog 110=true:=by kernel_rfl
theorem Ni:aP Tryz.prog 111=true:=by kernel_rfl
theorem Nj:aP Tryz.prog 112=true:=by kernel_rfl
theorem Nk:aP Tryz.prog 113=true:=by kernel_rfl
theorem Nl:aP Tryz.prog 114=true:=by kernel_rfl
theorem Nm:aP Tryz.prog 115=true:=by kernel_rfl
theorem Nn:aP Tryz.prog 116=true:=by kernel_rfl
theorem No:aP Tryz.prog 117=true:=by kernel_rfl
theorem Np:aP Tryz.prog 118=true:=by kernel_rfl
theorem Nq:aP Tryz.prog 119=true:=by kernel_rfl
theorem Nr:aP Tryz.prog 120=true:=by kernel_rfl
theorem yu:aP Tryz.prog 121=true:=by kernel_rfl
theorem Ns:aP Tryz.prog 122=true:=by kernel_rfl
theorem Nt:aP Tryz.prog 123=true:=by kernel_rfl
theorem Nu:aP Tryz.prog 124=true:=by kernel_rfl
theorem Nv:aP Tryz.prog 125=true:=by kernel_rfl
theorem C0:aP Tryz.prog 126=true:=by kernel_rfl
theorem Nw:aP Tryz.prog 127=true:=by kernel_rfl
theorem Ny:aP Tryz.prog 128=true:=by kernel_rfl
theorem Nz:aP Tryz.prog 129=true:=by kernel_rfl
theorem NA:aP Tryz.prog 130=true:=by kernel_rfl
theorem NB:aP Tryz.prog 131=true:=by kernel_rfl
theorem NC:aP Tryz.prog 132=true:=by kernel_rfl
theorem ND:aP Tryz.prog 133=true:=by kernel_rfl
theorem NF:aP Tryz.prog 134=true:=by kernel_rfl
theorem NG:aP Tryz.prog 135=true:=by kernel_rfl
theorem NH:aP Tryz.prog 136=true:=by kernel_rfl
theorem NI:aP Tryz.prog 137=true:=by kernel_rfl
theorem NJ:aP Tryz.prog 138=true:=by kernel_rfl
theorem NK:aP Tryz.prog 139=true:=by kernel_rfl
theorem NL:aP Tryz.prog 140=true:=by kernel_rfl
theorem NM:aP Tryz.prog 147=true:=by kernel_rfl
theorem yw:aP Tryz.prog 148=true:=by kernel_rfl
theorem tj:aP Tryz.prog 150=true:=by kernel_rfl
theorem C1:aP Tryz.prog 151=true:=by kernel_rfl
theorem C2:aP Tryz.prog 156=true:=by kernel_rfl
theorem NN:aP Tryz.prog 159=true:=by kernel_rfl
theorem NO:aP Tryz.prog 160=true:=by kernel_rfl
theorem NP:aP Tryz.prog 161=true:=by kernel_rfl
theorem NQ:aP Tryz.prog 162=true:=by kernel_rfl
theorem NR:aP Tryz.prog 163=true:=by kernel_rfl
theorem NS:aP Tryz.prog 164=true:=by kernel_rfl
theorem NT:aP Tryz.prog 165=true:=by kernel_rfl
theorem NU:aP Tryz.prog 166=true:=by kernel_rfl
theorem NV:aP Tryz.prog 167=true:=by kernel_rfl
theorem NW:aP Tryz.prog 168=true:=by kernel_rfl
theorem NX:aP Tryz.prog 169=true:=by kernel_rfl
theorem NY:aP Tryz.prog 170=true:=by kernel_rfl
theorem NZ:aP Tryz.prog 171=true:=by kernel_rfl
theorem N0:aP Tryz.prog 177=true:=by kernel_rfl
theorem N1:aP Tryz.prog 178=true:=by kernel_rfl
theorem N2:aP Tryz.prog 179=true:=by kernel_rfl
theorem N3:aP Tryz.prog 180=true:=by kernel_rfl
theorem N4:aP Tryz.prog 181=true:=by kernel_rfl
theorem N5:aP Tryz.prog 182=true:=by kernel_rfl
theorem N6:aP Tryz.prog 183=true:=by kernel_rfl
theorem N7:aP Tryz.prog 184=true:=by kernel_rfl
theorem N8:aP Tryz.prog 185=true:=by kernel_rfl
theorem N9:aP Tryz.prog 186=true:=by kernel_rfl
theorem Oa:aP Tryz.prog 187=true:=by kernel_rfl
theorem Ob:aP Tryz.prog 188=true:=by kernel_rfl
theorem Oc:aP Tryz.prog 189=true:=by kernel_rfl
theorem Od:aP Tryz.prog 190=true:=by kernel_rfl
theorem Oe:aP Tryz.prog 191=true:=by kernel_rfl
theorem Of:aP Tryz.prog 192=true:=by kernel_rfl
theorem Og:aP Tryz.prog 193=true:=by kernel_rfl
theorem Oh:aP Tryz.prog 194=true:=by kernel_rfl
theorem Oi:aP Tryz.prog 195=true:=by kernel_rfl
theorem Oj:aP Tryz.prog 196=true:=by kernel_rfl
theorem Ol:aP Tryz.prog 197=true:=by kernel_rfl
theorem Om:aP Tryz.prog 198=true:=by kernel_rfl
theorem On:aP Tryz.prog 199=true:=by kernel_rfl
theorem Oo:aP Tryz.prog 216=true:=by kernel_rfl
theorem Oq:aP Tryz.prog 217=true:=by kernel_rfl
theorem Ot:aP Tryz.prog 218=true:=by kernel_rfl
theorem Ou:aP Tryz.prog 219=true:=by kernel_rfl
theorem Ov:aP Tryz.prog 220=true:=by kernel_rfl
theorem Ow:aP Tryz.prog 221=true:=by kernel_rfl
theorem Ox:aP Tryz.prog 222=true:=by kernel_rfl
theorem Oy:aP Tryz.prog 223=true:=by kernel_rfl
theorem Oz:aP Tryz.prog 227=true:=by kernel_rfl
attribute [go_sem] CZ KM KN KO KP KQ KR KS KT KU KV KW KX yq KY KZ K0 K1 K2 K3 K4 K5 K6 K7 K8 K9 La Lb Lc Ld Lf Lg Lh Li yt Lj Ll Lm Ln Lp Lq Lr Ls Lu Lv Lx Ly Lz LA LB LC LD LF LG LH LI LJ LK LL LM LN LO LP LQ LR LS LU LV LW LX LY LZ L0 L1 L2 L3 L4 L5 L6 L7 L8 L9 Ma Mb Mc Md Me Mf Mg Mh Mi Mj Mk Ml Mm Mn Mo Mq Mr Ms Mt Mv Mw Mx My Mz MA MB MC MD ME MF MG MH MI MJ MK ML MM MN MO MP MQ MR MS MT MU MV MW MX MY MZ M0 M1 M3 M4 M5 M6 M7 M8 M9 Na Nb Nc Nf Ng Nh Ni Nj Nk Nl Nm Nn No Np Nq Nr yu Ns Nt Nu Nv C0 Nw Ny Nz NA NB NC ND NF NG NH NI NJ NK NL NM yw tj C1 C2 NN NO NP NQ NR NS NT NU NV NW NX NY NZ N0 N1 N2 N3 N4 N5 N6 N7 N8 N9 Oa Ob Oc Od Oe Of Og Oh Oi Oj Ol Om On Oo Oq Ot Ou Ov Ow Ox Oy Oz
end Go.Proofs.YtcoalekambhghaaGreatDoor
end
section
namespace Go.Sep
open Go Go.Conc
def jo (o:Oper):Option (TypeId×Nat):=match o.op,o.dst,o.guard with
 | .alloc t,some d,none=>some (t,d)
 |_,_,_=>none
def yx (ops:Array Oper)(m:Nat):Bool:=
 pZ ops (m+1)&&decide (m+2<=ops.size)&&
 (match (ops[m]?).bind jo,(ops[m+1]?).bind jo with|some (_,d),some (_,d')=>!(d==d')|_,_=>false)&&
 decide (Region.ready .any ops (cU ops.size m)=[m,m+1])&&decide (Region.ready .any ops ((cU ops.size m).setIfInBounds (m+1) true)=[m])
theorem C3 {ro:Addr->Option Value}{x y:Nat×Obj}{l:List (Nat×Obj)}:Le ⟨ro,x::y::l⟩ ⟨ro,y::x::l⟩:=by
 have c:∀b,b∈keys (x::y::l)↔b∈keys (y::x::l):=fun b=>by
  simp only[keys,List.map_cons,List.mem_cons];exact ⟨fun h=>by rcases h with h|h|h;exact .inr (.inl h);exact .inl h;exact .inr (.inr h),fun h=>by rcases h with h|h|h;exact .inr (.inl h);exact .inl h;exact .inr (.inr h)⟩
 refine ⟨fun w hw=>⟨hw.ro,fun b o hb=>hw.own b o ?_,?_,fun a v h hm=>hw.apart a v h ((c _).1 hm)⟩,fun b hb=>(c b).1 hb,fun a d=>.inl d⟩
 .rcases List.mem_cons.1 hb with h|h
  .exact List.mem_cons_of_mem _ (h▸List.mem_cons_self)
  .rcases List.mem_cons.1 h with h|h
   .exact h▸List.mem_cons_self
   .exact List.mem_cons_of_mem _ (List.mem_cons_of_mem _ h)
 .have:=hw.nodup;simp only[keys,List.map_cons,List.nodup_cons,List.mem_cons,not_or] at this ⊢;exact ⟨⟨fun e=>this.1.1 e.symm,this.2.1⟩,this.1.2,this.2.2⟩
section
variable {P:Program}{main:Bool}{J:Goroutine->ag->Prop}{ops:Array Oper}{Q:Act->ag->Prop}{F0:ag}
theorem yy {o:Oper}{t:TypeId}{d:Nat}(h:jo o=some (t,d)):o.op= .alloc t/\o.dst=some d/\o.guard=none:=by
 unfold jo at h;split at h
 .rename_i a b c;cases h;exact ⟨a,b,c⟩
 .cases h
theorem oh {o:Oper}{a:Act}(h:o.guard=none):cA ops o a=some true:=by unfold cA;rw[h]
theorem tn {o:Oper}{t:TypeId}{a:Act}{F:ag}{z:Value}{R:Value->ag->Prop}{D:Deferred->ag->Prop}(ho:o.op= .alloc t)(c:zeroOf P t=some z)
  (h:∀b,dx F b->∃F1,Le F1 (F.push b (.cells z.cells t))/\R (.pointer (some ⟨b,0,none⟩)) F1):bx P (execOp a.eval o) (jg P J R D) F:=by
 have:Oper.lE o=false:=by unfold Oper.lE;rw[ho]
 refine xZ (R:=fun v F=>∃F1,Le F1 F/\R v F1) this ?_
 unfold cL
 rw[ho]
 simp only[c]
 exact h
theorem C4 (m:Nat){k g:Oper}{rest:List Oper}{t1 t2 d1 d2:Nat}(hm:m+2<=ops.size)(A:ops[m]?=some k)(B:ops[m+1]?=some g)(N:jo k=some (t1,d1))(O:jo g=some (t2,d2)){s:Value}(C:zeroOf P t2=some s)(hd:¬d1=d2)
  (D:ops.toList.drop (m+2)=rest) (E:Region.ready .any ops (cU ops.size m)=[m,m+1]) (G:Region.ready .any ops ((cU ops.size m).setIfInBounds (m+1) true)=[m])
  (H:∀j,j<ops.size - (m+1)->Region.ready .any ops (cU ops.size (m+1+j))=[m+1+j]) (I:Region.ready .any ops (cU ops.size ops.size)=[])
  {a:Act} {F:ag} (hF:Knows F0 F) (h:fL P J ops F0 Q (k::g::rest) true a F):dZ P J ops Q (Knows F0) (ops.size - m) (cU ops.size m) a F:=by
 obtain ⟨e1,t,u⟩:=yy N
 obtain ⟨e2,K,L⟩:=yy O
 have R:ops.size - m=(ops.size - (m+1))+1:=ai
 have S:ops.size - (m+1)=(ops.size - (m+2))+1:=ai
 unfold fL at h
 rw[oh u] at h
 simp only at h
 have q:∃z,zeroOf P t1=some z:=by
  unfold cL at h
  rw[e1] at h
  simp only at h
  split at h
  .rename_i z T;exact ⟨z,T⟩
  .exact h.elim
 obtain ⟨p,q⟩:=q
 have v:∀b,dx F b->Knows F0 (F.push b (.cells p.cells t1))/\fL P J ops F0 Q (g::rest) (!Oper.calls k) (bt a (some d1) (.pointer (some ⟨b,0,none⟩))) (F.push b (.cells p.cells t1)):=by
  unfold cL at h
  rw[e1] at h
  simp only[q,t] at h
  exact h
 have U:∀b,dx F b->∀f,dx (F.push b (.cells p.cells t1)) f->Knows F0 ((F.push b (.cells p.cells t1)).push f (.cells s.cells t2))/\
   fL P J ops F0 Q rest (!Oper.calls g) (bt (bt a (some d1) (.pointer (some ⟨b,0,none⟩))) (some d2) (.pointer (some ⟨f,0,none⟩))) ((F.push b (.cells p.cells t1)).push f (.cells s.cells t2)):=by
  intro b hb
  have:=(v b hb).2
  unfold fL at this
  rw[oh L] at this
  simp only at this
  unfold cL at this
  rw[e2] at this
  simp only[C,K] at this
  exact this
 have M:=p5 (n:=ops.size) (m:=m) ai
 have V:=p5 (n:=ops.size) (m:=m+1) ai
 rw[R]
 refine ⟨fun r=>(by rw[E] at r;cases r),fun i hi=>?_⟩
 rw[E] at hi
 simp only[List.mem_cons,List.not_mem_nil,or_false] at hi
 rcases hi with hi|hi
 .subst hi
  unfold dy
  simp only[A]
  rw[if_pos (cx (oh u))]
  refine tn e1 q fun b hb=>⟨_,Le.refl _,(v b hb).1,?_⟩
  rw[M,t]
  exact lG (i+1) H I (g::rest) (i+1) _ _ _ (Nat.le_refl _) ai (by
   have:=List.drop_eq_getElem_cons (l:=ops.toList) (i:=i+1) (by simp;omega)
   rw[this,D]
   obtain ⟨_,he⟩:=Array.getElem?_eq_some_iff.1 B
   simp[he]) (v b hb).2
 .subst hi
  unfold dy
  simp only[B]
  rw[if_pos (cx (oh L))]
  refine tn e2 C fun f w=>⟨_,Le.refl _,?_,?_⟩
  .refine ⟨hF.1,hF.2.1,?_⟩
   have W:∀(l own:List (Nat×Obj)),aN own f->ir l own->ir l ((f,.cells s.cells t2)::own):=fun l own X y=>by
    induction l with
    |nil=>trivial
    |cons x l ih=>
     obtain ⟨c,o⟩:=x
     refine ⟨?_,ih y.2⟩
     have Y:¬f=c:=fun e=>jQ X (e▸eB (gG y.1))
     simp only[lk,if_neg Y]
     exact y.1
   exact W _ _ w.own hF.2.2
  .rw[S]
   refine ⟨fun r=>(by rw[G] at r;cases r),fun i hi=>?_⟩
   rw[G] at hi
   simp only[List.mem_cons,List.not_mem_nil,or_false] at hi
   subst hi
   unfold dy
   simp only[A]
   rw[if_pos (cx (oh u))]
   refine tn e1 q fun b hb=>?_
   have Z:dx F b:=⟨hb.ro,hb.own.2⟩
   have ab:¬f=b:=fun e=>hb.own.1 e.symm
   have ad:dx (F.push b (.cells p.cells t1)) f:=⟨w.ro,⟨ab,w.own⟩⟩
   obtain ⟨ae,al⟩:=U b Z f ad
   refine ⟨_,C3,ae,?_⟩
   have ao:bt (bt a g.dst (.pointer (some ⟨f,0,none⟩))) k.dst (.pointer (some ⟨b,0,none⟩))=bt (bt a (some d1) (.pointer (some ⟨b,0,none⟩))) (some d2) (.pointer (some ⟨f,0,none⟩)):=by
    rw[t,K]
    exact Act.put_comm a _ _ (fun d ar=>by cases ar;intro e;cases e;exact hd rfl)
   have hs:((cU ops.size i).setIfInBounds (i+1) true).setIfInBounds i true=cU ops.size (i+2):=by
    rw[Array.setIfInBounds_comm _ _ (by omega:i+1≠i),M,V]
   show dZ P J ops Q (Knows F0) (ops.size - (i+2)) _ (bt (bt a g.dst _) k.dst _) _
   rw[hs,ao]
   exact lG (i+1) H I rest (i+2) _ _ _ ai hm D al
theorem C5 {Q:Ex->Act->ag->Prop}(hJ:Closed P main J)(n:P.follows .mixedOrders=true)(m:Nat){id:Nat}{a:Act}{F:ag}(F0:ag)(hF:Knows F0 F)(e:yx ops m=true)(t2:TypeId){o:Value}(f:((ops[m+1]?).bind jo).map (·.1)=some t2)(p:zeroOf P t2=some o)
  (h:eW P J ops F0 (fun g=>fL P J ops F0 (Q .normal) (ops.toList.drop m) true g F) (ops.toList.take m) true a):Wp J (.region id ops true) Q a F:=by
 simp only[yx,Bool.and_eq_true,decide_eq_true_eq] at e
 obtain ⟨⟨⟨⟨q,hm⟩,b⟩,r⟩,s⟩:=e
 have j:=x7 q
 simp only[n7,Bool.and_eq_true,decide_eq_true_eq,List.all_eq_true,List.mem_range] at j
 obtain ⟨⟨⟨⟨t,D⟩,u⟩,v⟩,w⟩:=j
 cases c:(ops[m]?).bind jo with
 |none=>rw[c] at b;cases b
 |some x1=>
  cases d:(ops[m+1]?).bind jo with
  |none=>rw[c,d] at b;cases b
  |some x2=>
   obtain ⟨t1,d1⟩:=x1
   obtain ⟨x,d2⟩:=x2
   rw[d] at f
   obtain rfl:x=t2:=by simpa using f
   rw[c,d] at b
   obtain ⟨y,e1,a1⟩:=Option.bind_eq_some_iff.1 c
   obtain ⟨z,e2,A⟩:=Option.bind_eq_some_iff.1 d
   have hd:¬d1=d2:=by simpa using b
   have B:ops.toList.drop m=y::z::ops.toList.drop (m+2):=by
    obtain ⟨C,c1⟩:=Array.getElem?_eq_some_iff.1 e1
    obtain ⟨b2,c2⟩:=Array.getElem?_eq_some_iff.1 e2
    rw[List.drop_eq_getElem_cons (l:=ops.toList) (i:=m) (by simpa using C),List.drop_eq_getElem_cons (l:=ops.toList) (i:=m+1) (by simpa using b2)]
    simp[c1,c2]
   refine xD hJ (Knows F0) n ?_
   rw[<-x8]
   have:=p6 (P:=P) (J:=J) (Q:=Q .normal) m ai t (fun i hi=>by have:=u i ai;simpa using this) hF (fun g k=>by
    rw[B] at k
    exact C4 (F0:=F0) m hm e1 e2 a1 A p hd rfl r s v w hF k) _ 0 true a aB (Nat.zero_le _) h
   simpa using this
end
def pick (ops:Array Oper):List Nat->List Oper
 |[]=>[]
 |i::is=>match ops[i]? with
  |some o=>o::pick ops is
  |none=>pick ops is
attribute [go_sem] pick
inductive jq where
 |done
 |rd (i:Nat) (p:jq)
 |one (i:Nat) (p:jq)
 |two (i:Nat) (p:jq) (j:Nat) (q:jq)
inductive jR where
 |done
 |rd (o:Oper) (p:jR)
 |one (o:Oper) (p:jR)
 |two (o:Oper) (p:jR) (o':Oper) (q:jR)
 |bad
def jq.opers (ops:Array Oper):jq->jR
 | .done=>.done
 | .rd i p=>match ops[i]? with
  |some o=>.rd o (p.opers ops)
  |none=>.bad
 | .one i p=>match ops[i]? with
  |some o=>.one o (p.opers ops)
  |none=>.bad
 | .two i p j q=>match ops[i]?,ops[j]? with
  |some o,some o'=>.two o (p.opers ops) o' (q.opers ops)
  |_,_=>.bad
def jq.len:jq->Nat
 | .done=>0
 | .rd _ p=>p.len+1
 | .one _ p=>p.len+1
 | .two _ p _ q=>max p.len q.len+1
def fM (P:Program)(J:Goroutine->ag->Prop)(ops:Array Oper)(F0:ag)(Q:Act->ag->Prop):jR->Bool->Act->ag->Prop
 | .done,_,a,F=>Q a F
 | .bad,_,_,_=>False
 | .rd o p,_,a,F=>match cA ops o a with
  |some false=>fM P J ops F0 Q p true (bt a o.dst undef) F
  |some true=>match o.op with
   | .load t x=>match ev a x with
    | .pointer (some ad)=>match fo P F0 t ad with
     |some v=>fM P J ops F0 Q p true (bt a o.dst v) F
     |none=>False
    |_=>False
   | .call {callee:=.value x,args, ..}=>match ev a x with
    | .func (.func fn) first captured=>aP P fn=true/\∃v,Plain P J F0 fn (first++args.map (ev a)++captured) v/\fM P J ops F0 Q p false (bt a o.dst v) F
    |_=>False
   |_=>match iu P o a with
    |some v=>fM P J ops F0 Q p true (bt a o.dst v) F
    |none=>False
  |none=>False
 | .one o p,_,a,F=>match cA ops o a with
  |some true=>cL P J o (fun v F'=>Knows F0 F'/\fM P J ops F0 Q p (!Oper.calls o) (bt a o.dst v) F') a F
  |_=>False
 | .two o p o' q,_,a,F=>(match cA ops o a with
  |some true=>cL P J o (fun v F'=>Knows F0 F'/\fM P J ops F0 Q p (!Oper.calls o) (bt a o.dst v) F') a F
  |_=>False)/\(match cA ops o' a with
  |some true=>cL P J o' (fun v F'=>Knows F0 F'/\fM P J ops F0 Q q (!Oper.calls o') (bt a o'.dst v) F') a F
  |_=>False)
theorem C6 {P:Program}{J:Goroutine->ag->Prop}{ops:Array Oper}{F0:ag}{Q:Act->ag->Prop}{go:Bool}{a:Act}{F:ag}:fM P J ops F0 Q .done go a F=Q a F:=rfl
theorem C7 {P:Program}{J:Goroutine->ag->Prop}{ops:Array Oper}{F0:ag}{Q:Act->ag->Prop}{o:Oper}{p:jR}{a:Act}{F:ag}:fM P J ops F0 Q (.rd o p) true a F=match cA ops o a with
  |some false=>fM P J ops F0 Q p true (bt a o.dst undef) F
  |some true=>match o.op with
   | .load t x=>match ev a x with
    | .pointer (some ad)=>match fo P F0 t ad with
     |some v=>fM P J ops F0 Q p true (bt a o.dst v) F
     |none=>False
    |_=>False
   | .call {callee:=.value x,args, ..}=>match ev a x with
    | .func (.func fn) first captured=>aP P fn=true/\∃v,Plain P J F0 fn (first++args.map (ev a)++captured) v/\fM P J ops F0 Q p false (bt a o.dst v) F
    |_=>False
   |_=>match iu P o a with
    |some v=>fM P J ops F0 Q p true (bt a o.dst v) F
    |none=>False
  |none=>False:=(Eq.refl _).trans (Eq.refl _)
theorem C8 {P:Program}{J:Goroutine->ag->Prop}{ops:Array Oper}{F0:ag}{Q:Act->ag->Prop}{o:Oper}{p:jR}{a:Act}{F:ag}:fM P J ops F0 Q (.one o p) true a F=match cA ops o a with
  |some true=>cL P J o (fun v F'=>Knows F0 F'/\fM P J ops F0 Q p (!Oper.calls o) (bt a o.dst v) F') a F
  |_=>False:=(Eq.refl _).trans (Eq.refl _)
attribute [irreducible] fM
attribute [go_sem] C6 C7 C8 jq.opers
theorem yz {F:ag}{a:Addr}:∀(cs:List Value) (i:Nat),(∀j v,cs[j]?=some v->F.get (a.add (i+j))=some v)->F.c6 a i cs.length=some cs
 |[],i,_=>rfl
 |v::cs,i,h=>by
  have b:=h 0 v rfl
  rw[Nat.add_zero] at b
  have ih:=yz cs (i+1) (fun j w hw=>by
   have:=h (j+1) w (by simpa using hw)
   rwa [show i+(j+1)=i+1+j by omega] at this)
  simp only[List.length_cons,ag.c6,b,ih]
theorem yA {F:ag}{a:Addr}:∀(m i k:Nat) (d c:List Value),F.c6 a i m=some d->F.c6 a (i+m) k=some c->F.c6 a i (m+k)=some (d++c)
 |0,i,k,d,c,b,e=>by
  simp only[ag.c6,Option.some.injEq] at b
  subst b
  rw[Nat.zero_add]
  simpa using e
 |m+1,i,k,d,c,b,e=>by
  unfold ag.c6 at b
  split at b
  case h_2=>cases b
  rename_i v hv
  split at b
  case h_2=>cases b
  rename_i vs f
  cases b
  have ih:=yA m (i+1) k vs c f (by rwa [show i+1+m=i+(m+1) by omega])
  rw[show m+1+k=(m+k)+1 by omega]
  simp only[ag.c6,hv,ih,List.cons_append]
theorem aG.cells {T:Type}{r:cr T}{ro:Addr->Option Value}{ad:Option Addr}{c:Nat}{l:List T}(h:aG r ro (.slice ad l.length c) l)(F:ag)(hF:∀a v,ro a=some v->F.get a=some v):
  ∃b:List (List Value),b.length=l.length/\(∀x∈b,x.length=r.n/\∀v∈x,e8 v=true)/\(∀(i:Nat) (x:T),l[i]?=some x->∃cs,b[i]?=some cs/\r.rel ro x cs)/\fV F r.n (.slice ad l.length c)=some b.flatten:=by
 obtain ⟨C,D,e,_,_,he⟩:=h
 cases e
 cases m:l with
 |nil=>subst m;refine ⟨[],rfl,aB,aB,?_⟩;cases ad<;>simp[fV,ag.c6]
 |cons x0 l0=>
  obtain ⟨p,E,w,-,-⟩:=he 0 x0 (by rw[m];rfl)
  subst w
  rw[<-m]
  have key:∀k,k<=l.length->∃b:List (List Value),b.length=k/\(∀x∈b,x.length=r.n/\∀v∈x,e8 v=true)/\(∀(i:Nat) (x:T),i<k->l[i]?=some x->∃cs,b[i]?=some cs/\r.rel ro x cs)/\F.c6 p 0 (k*r.n)=some b.flatten:=by
   intro k
   induction k with
   |zero=>intro _;exact ⟨[],rfl,aB,aB,by simp[ag.c6]⟩
   |succ k ih=>
    intro G
    obtain ⟨b,f,o,q,s⟩:=ih ai
    have d:l[k]?=some l[k]:=List.getElem?_eq_getElem ai
    obtain ⟨p',cs,z,t,hm⟩:=he k _ d
    cases z
    have hn:=r.len t
    refine ⟨b++[cs],by simp[f],fun y A=>?_,fun i x hi u=>?_,?_⟩
    .rcases List.mem_append.1 A with h|h
     .exact o y h
     .simp only[List.mem_singleton] at h;subst h;exact ⟨hn,r.one t⟩
    .rcases Nat.lt_or_ge i k with h|h
     .obtain ⟨cs',a1,B⟩:=q i x h u
      exact ⟨cs',by rw[List.getElem?_append_left ai];exact a1,B⟩
     .have:i=k:=ai
      subst this
      rw[d] at u
      obtain rfl:=Option.some.inj u
      exact ⟨cs,by rw[List.getElem?_append_right ai];simp[f],t⟩
    .rw[Nat.succ_mul]
     have g:=yz (F:=F) (a:=p) cs (k*r.n) (fun j v hv=>hF _ _ (by have:=hm j v hv;rwa [jN] at this))
     rw[hn] at g
     have:=yA (k*r.n) 0 r.n b.flatten cs s (by rw[Nat.zero_add];exact g)
     rw[this]
     simp
  obtain ⟨b,f,o,q,s⟩:=key l.length (Nat.le_refl _)
  exact ⟨b,f,o,fun i x d=>q i x (List.getElem?_eq_some_iff.1 d).1 d,s⟩
theorem bA.empty {T:Type}{r:cr T}{ro:Addr->Option Value}{e:TypeId}{b:Nat}(a:∀off sp,ro ⟨b,off,sp⟩=none):bA r ro e (.slice (some ⟨b,0,none⟩) 0 0) [] [(b,.cells #[] e)]:=
 ⟨[],.inr ⟨b,#[],0,rfl,rfl,aB,Nat.le_refl _,aB,aB,a⟩,rfl,aB,fun i x h=>by simp at h⟩
theorem yB {ro:Addr->Option Value}{x:Nat×Obj}{l:List (Nat×Obj)}:Le ⟨ro,l++[x]⟩ ⟨ro,x::l⟩:=by
 have d:∀b,b∈keys (l++[x])↔b∈keys (x::l):=fun b=>by
  simp only[keys,List.map_append,List.map_cons,List.map_nil,List.mem_append,List.mem_cons,List.not_mem_nil,or_false];exact Or.comm
 refine ⟨fun w hw=>⟨hw.ro,fun b o hb=>hw.own b o ?_,?_,fun a v h hm=>hw.apart a v h ((d _).1 hm)⟩,fun b hb=>(d b).1 hb,fun a c=>.inl c⟩
 .rcases List.mem_append.1 hb with h|h
  .exact List.mem_cons_of_mem _ h
  .simp only[List.mem_singleton] at h;rw[h];exact List.mem_cons_self
 .have:=hw.nodup;simp only[keys,List.map_cons,List.nodup_cons] at this;simp only[keys,List.map_append,List.map_cons,List.map_nil];rw[List.nodup_append];refine ⟨this.2,aB,fun a c b hb e=>?_⟩;simp only[List.mem_singleton] at hb;subst hb;exact this.1 (e▸c)
theorem yC {P:Program}{T:Type}{r:cr T}{ro:Addr->Option Value}{rest:List (Nat×Obj)}{ks:List Nat}{R:Value->ag->Prop}{argTypes:Array TypeId}{m o e w:TypeId}{f b c:Nat}{ad:Option Addr}{z:Value}{xs:List T}
  (y:∀off sp,ro ⟨b,off,sp⟩=none) (A:aN rest b) (p:keys rest=ks) (hlen:xs.length<=1000000) (B:aG r ro (.slice ad xs.length c) xs)
  (C:argTypes[0]?=some m) (D:argTypes[1]?=some o) (he:ee P m=some e) (E:ee P o=some w) (hs:cp P e=some r.n) (F:zeroOf P e=some z) (G:z.cells.size=r.n) (hb:bytesOf P e=some f)
  (H:0<f) (I:f<=10000)
  (hR:∀v g,bA r ro e v xs g->Apart ks g->R v ⟨ro,rest++g⟩):sP P argTypes (.slice (some ⟨b,0,none⟩) 0 0) (.slice ad xs.length c) R ⟨ro,(b,.cells #[] e)::rest⟩:=by
 intro ty
 obtain ⟨d,k1,J,K,L⟩:=B.cells ⟨ro,(b,.cells #[] e)::rest⟩ (fun a v h=>by simp[ag.get,h])
 have q:∀x∈d,x.length=r.n:=fun x h=>(J x h).1
 have i:=gX q
 refine sN (old:=[]) C D he E hs F hb H I (by simpa using hlen) (by simp[fV,ag.c6]) L (fun M=>?_) (fun M k s l t=>?_)
 .have hn:xs.length=0:=ai
  have N:xs=[]:=List.eq_nil_of_length_eq_zero hn
  have O:d=[]:=List.eq_nil_of_length_eq_zero ai
  subst N O
  refine .inl ⟨_,_,rfl,rfl,⟨ro,rest++[(b,.cells #[] e)]⟩,yB,hR _ _ (bA.empty y) fun k l=>?_⟩
  simp only[keys,List.map_cons,List.map_nil,List.mem_singleton] at l
  subst l
  rw[<-p]
  exact jQ A
 .refine ⟨⟨ro,rest++[(s,.cells (([]:List Value).toArray++d.flatten.toArray++Builtin.zeroCells z.cells (k - (0+xs.length))) e)]⟩,yB.trans (Le.sub (.cons₂ _ (.cons _ (List.Sublist.refl _)))),hR _ _ ?_ fun j u=>?_⟩
  .refine ⟨d,.inr ⟨s,_,k,by rw[k1,Nat.zero_add],rfl,?_,ai,?_,q,t.ro⟩,k1,hlen,K⟩
   .simp only[List.nil_append,Array.size_append,List.size_toArray,List.length_nil,Builtin.zeroCells,Array.size_map,Array.size_range,i,G,k1]
    rw[Nat.zero_add,<-Nat.add_mul]
    congr 1;omega
   .simp only[Array.toList_append,List.nil_append]
    rw[List.take_append_of_le_length (by simp[i])]
    rw[List.take_of_length_le (by simp[i])]
  .simp only[keys,List.map_cons,List.map_nil,List.mem_singleton] at u
   subst u
   rw[<-p]
   exact jQ t.own.2
theorem qa:∀{pre bD:List (Nat×Obj)} {b:Nat} {o:Obj},aN pre b->lk (pre++((b,o)::bD)) b=some o
 |[],bD,b,o,_=>by simp[lk]
 |(c,x)::pre,bD,b,o,h=>by
  have a:¬c=b:=fun e=>h.1 e.symm
  simp[lk,a,qa h.2]
theorem yD:∀{pre bD:List (Nat×Obj)} {b:Nat} {o x:Obj},aN pre b->eU (pre++((b,o)::bD)) b x=pre++((b,x)::bD)
 |[],bD,b,o,x,_=>by simp[eU]
 |(c,y)::pre,bD,b,o,x,h=>by
  have a:¬c=b:=fun e=>h.1 e.symm
  simp[eU,a,yD h.2]
theorem qb {ro:Addr->Option Value}{pre bD:List (Nat×Obj)}{b:Nat}{e:TypeId}(a:aN pre b)(o:Nat):∀(vs:List Value) (arr:Array Value) (i:Nat),(∀v∈vs,e8 v=true)->o+i+vs.length<=arr.size->
  ag.ig ⟨ro,pre++((b,.cells arr e)::bD)⟩ ⟨b,o,none⟩ i vs=some ⟨ro,pre++((b,.cells (bR arr (o+i) vs) e)::bD)⟩
 |[],arr,i,_,_=>rfl
 |v::vs,arr,i,c,h=>by
  simp only[List.length_cons] at h
  have d:(⟨b,o,none⟩:Addr).add i=⟨b,o+i,none⟩:=by
   unfold Addr.add
   split
   .rename_i hi;subst hi;rfl
   .rfl
  unfold ag.ig
  have:ag.ku ⟨ro,pre++((b,.cells arr e)::bD)⟩ ((⟨b,o,none⟩:Addr).add i) v=some ⟨ro,pre++((b,.cells (arr.setIfInBounds (o+i) v) e)::bD)⟩:=by
   have f:o+i<arr.size:=ai
   simp[ag.ku,d,qa a,c v aB,f,frozenAt,ag.put,yD a]
  rw[this]
  simp only
  rw[qb a o vs _ (i+1) (fun x g=>c x (by simp[g])) (by simp;omega)]
  rw[bR]
  congr 1
theorem yE {ro:Addr->Option Value}{pre bD:List (Nat×Obj)}{b:Nat}{e:TypeId}{arr:Array Value}(a:aN pre b)(c:∀off sp,ro ⟨b,off,sp⟩=none):∀(n i:Nat),i+n<=arr.size->
  ag.c6 ⟨ro,pre++((b,.cells arr e)::bD)⟩ ⟨b,0,none⟩ i n=some ((arr.toList.drop i).take n)
 |0,i,_=>by simp[ag.c6]
 |n+1,i,h=>by
  have f:(⟨b,0,none⟩:Addr).add i=⟨b,i,none⟩:=by
   unfold Addr.add
   split
   .rename_i hi;subst hi;rfl
   .simp
  have d:i<arr.size:=ai
  unfold ag.c6
  have ih:=yE (e:=e) (arr:=arr) (bD:=bD) a c n (i+1) ai
  simp only[ag.get,f,c,if_true,qa a,Option.bind_some,cellOf,Array.getElem?_eq_getElem d,ih]
  have g:i<arr.toList.length:=by simpa using d
  rw[List.drop_eq_getElem_cons g,List.take_succ_cons]
  simp
theorem Gr.C9 {ro:Addr->Option Value}{e:TypeId}{size:Nat}{v:Value}{l:List (List Value)}{bz pre bD:List (Nat×Obj)}(h:Gr ro e size v l bz)(a:∀k∈keys bz,aN pre k):
  Go.Sep.fV ⟨ro,pre++(bz++bD)⟩ size v=some l.flatten:=by
 rcases h with ⟨rfl,rfl,rfl⟩|⟨b,arr,cap,rfl,rfl,hs,c,ht,f,d⟩
 .rfl
 .simp only[Go.Sep.fV,List.cons_append,List.nil_append]
  have hle:l.length*size<=arr.size:=by rw[hs];exact Nat.mul_le_mul_right _ c
  rw[yE (a b (by simp[keys])) d _ _ ai]
  simp[ht]
theorem Le.ps {ro:Addr->Option Value}{l m l':List (Nat×Obj)}(e:l.Perm m)(hs:m.Sublist l'):Le ⟨ro,l⟩ ⟨ro,l'⟩:=by
 have c:(keys m).Sublist (keys l'):=hs.map _;have d:(keys l).Perm (keys m):=e.map _;exact ⟨fun w hw=>⟨hw.ro,fun b o hb=>hw.own b o (hs.subset (e.subset hb)),d.nodup_iff.2 (c.nodup hw.nodup),fun a v f hm=>hw.apart a v f (c.subset (d.subset hm))⟩,fun b hb=>c.subset (d.subset hb),fun a g=>.inl g⟩
structure bT (ks:List Nat):Prop where
 nd:ks.Nodup
abbrev Nd (l:List (Nat×Obj)):Prop:=(keys l).Nodup
theorem Nd.fresh {pre bz bD:List (Nat×Obj)}(h:Nd (pre++(bz++bD))):∀k∈keys bz,aN pre k:=fun k a=>by
 refine kI fun hm=>?_
 simp only[Nd,cj] at h
 exact (List.nodup_append.1 h).2.2 k hm k (List.mem_append_left _ a) rfl
theorem Nd.push {l:List (Nat×Obj)}{b:Nat}{o:Obj}(h:Nd l)(hb:aN l b):Nd ((b,o)::l):=by
 simp only[Nd,keys,List.map_cons,List.nodup_cons];exact ⟨jQ hb,h⟩
theorem Nd.drop {pre bz bD:List (Nat×Obj)}(h:Nd (pre++(bz++bD))):Nd (pre++bD):=
 ((List.Sublist.append_left (List.sublist_append_right bz bD) pre).map _).nodup h
theorem Nd.ins {pre bz bD:List (Nat×Obj)}{b:Nat}{o:Obj}(h:Nd (pre++(bz++bD)))(hb:aN (pre++(bz++bD)) b):Nd (pre++([(b,o)]++bD)):=by
 have a:Nd ((b,o)::(pre++bD)):=h.drop.push (kI fun hm=>jQ hb (((List.Sublist.append_left (List.sublist_append_right bz bD) pre).map _).subset hm));have:(pre++([(b,o)]++bD)).Perm ((b,o)::(pre++bD)):=List.perm_middle;exact (this.map _).nodup_iff.2 a
section
variable {P:Program}
theorem Da {ro:Addr->Option Value}{pre bz bD:List (Nat×Obj)}{R:Value->ag->Prop}{argTypes:Array TypeId}{ty A B e O:TypeId}{size p n c:Nat}{C:Option Addr}{s z:Value}{l xs:List (List Value)}
  (D:argTypes[0]?=some A) (E:argTypes[1]?=some B) (he:ee P A=some e) (d:ee P B=some O) (hs:cp P e=some size) (G:zeroOf P e=some z) (Q:z.cells.size=size) (hb:bytesOf P e=some p)
  (H:0<p) (I:p<=10000) (hg:Gr ro e size s l bz) (j:Nd (pre++(bz++bD))) (hn:n=xs.length) (J:∀x∈xs,x.length=size/\∀v∈x,e8 v=true) (K:fV ⟨ro,pre++(bz++bD)⟩ size (.slice C n c)=some xs.flatten)
  (L:l.length+xs.length<=1000000)
  (hR:∀v q,Gr ro e size v (l++xs) q->Nd (pre++(q++bD))->∃F0,Le F0 ⟨ro,pre++(q++bD)⟩/\R v F0):
  bx P (Builtin.append_ argTypes ty #[s,.slice C n c]) (fun v F=>∃F0,Le F0 F/\R v F0) ⟨ro,pre++(bz++bD)⟩:=by
 subst hn
 have M:=j.fresh
 have hold:=hg.C9 (bD:=bD) M
 have r:∀x∈xs,x.length=size:=fun x h=>(J x h).1
 have a:=gX r
 have out:∀(k b:Nat) (old:List Value),old=l.flatten->(∀x∈l,x.length=size)->l.length+xs.length<=k->dx ⟨ro,pre++(bz++bD)⟩ b->
   ∃F0,Le F0 (ag.push ⟨ro,pre++(bz++bD)⟩ b (.cells (old.toArray++xs.flatten.toArray++Builtin.zeroCells z.cells (k - (l.length+xs.length))) e))/\R (.slice (some ⟨b,0,none⟩) (l.length+xs.length) k) F0:=by
  intro k b old S t i f
  subst S
  have u:=gX t
  have w:=hR (.slice (some ⟨b,0,none⟩) (l.length+xs.length) k) [(b,.cells (l.flatten.toArray++xs.flatten.toArray++Builtin.zeroCells z.cells (k - (l.length+xs.length))) e)] (.inr ⟨b,_,k,aB,rfl,?_,by simpa using i,?_,?_,f.ro⟩) (j.ins f.own)
  .obtain ⟨F0,hle,w⟩:=w
   refine ⟨F0,hle.trans ?_,w⟩
   exact Le.ps (m:=(b,.cells (l.flatten.toArray++xs.flatten.toArray++Builtin.zeroCells z.cells (k - (l.length+xs.length))) e)::(pre++bD)) List.perm_middle (.cons₂ _ (List.Sublist.append_left (List.sublist_append_right bz bD) pre))
  .simp only[Array.size_append,List.size_toArray,Builtin.zeroCells,Array.size_map,Array.size_range,u,a,Q]
   rw[<-Nat.add_mul,<-Nat.add_mul]
   congr 1;omega
  .simp only[Array.toList_append,List.length_append,List.flatten_append]
   rw[List.take_append_of_le_length (by simp[u,a,Nat.add_mul])]
   rw[List.take_of_length_le (by simp[u,a,Nat.add_mul])]
  .intro x d
   rcases List.mem_append.1 d with h|h
   .exact t x h
   .exact r x h
 rcases id hg with ⟨rfl,rfl,rfl⟩|⟨b,arr,cap,rfl,rfl,y,t,ht,o,T⟩
 .refine sN D E he d hs G hb H I (by simpa using L) hold K (fun g=>.inr ⟨rfl,?_⟩) (fun g k b i f=>?_)
  .have:xs=[]:=List.eq_nil_of_length_eq_zero ai
   subst this
   exact hR _ _ (.inl ⟨rfl,rfl,rfl⟩) j
  .have:=out k b [] rfl aB (by simpa using i) f
   simpa using this
 .refine sN D E he d hs G hb H I L hold K (fun g=>.inl ⟨_,⟨ro,pre++([(b,.cells (bR arr (l.length*size) xs.flatten) e)]++bD)⟩,rfl,?_,?_⟩) (fun g k U i f=>out k U _ rfl o i f)
  .have V:(⟨b,0,none⟩:Addr).add (l.length*size)=⟨b,l.length*size,none⟩:=by
    unfold Addr.add
    split
    .rename_i hi;rw[hi]
    .simp
   rw[V]
   have N:l.length*size+xs.length*size<=arr.size:=by rw[y,<-Nat.add_mul];exact Nat.mul_le_mul_right _ g
   have:=qb (ro:=ro) (e:=e) (bD:=bD) (M b (by simp[keys])) (l.length*size) xs.flatten arr 0 (fun v hv=>by
    obtain ⟨x,W,X⟩:=List.mem_flatten.1 hv
    exact (J x W).2 v X) (by rw[a];omega)
   simpa using this
  .refine hR _ _ (.inr ⟨b,_,cap,aB,rfl,by rw[pS];exact y,by simpa using g,?_,?_,T⟩) (by simpa [Nd,keys] using j)
   .have N:l.length*size+xs.length*size<=arr.size:=by rw[y,<-Nat.add_mul];exact Nat.mul_le_mul_right _ g
    rw[pU _ _ _ (by rw[a];exact N),ht,List.length_append,List.flatten_append,a]
    rw[List.take_append_of_le_length (by simp[gX o,a,Nat.add_mul])]
    rw[List.take_of_length_le (by simp[gX o,a,Nat.add_mul])]
   .intro x d
    rcases List.mem_append.1 d with h|h
    .exact o x h
    .exact r x h
theorem yF:∀{pre own:List (Nat×Obj)} {b:Nat} {o:Obj},lk pre b=some o->lk (pre++own) b=some o
 |(c,x)::pre,own,b,o,h=>by
  simp only[List.cons_append,lk] at h ⊢
  split
  .rename_i a;rw[if_pos a] at h;exact h
  .rename_i a;rw[if_neg a] at h;exact yF h
theorem yG {ro:Addr->Option Value}{own:List (Nat×Obj)}{b:Nat}{cs:Array Value}{e:TypeId}(a:lk own b=some (.cells cs e))(c:∀off sp,ro ⟨b,off,sp⟩=none):∀n i,i+n<=cs.toList.length->ag.c6 ⟨ro,own⟩ ⟨b,0,none⟩ i n=some ((cs.toList.drop i).take n)
 |0,i,_=>by simp[ag.c6]
 |n+1,i,hi=>by
  have d:i<cs.toList.length:=ai
  unfold ag.c6
  have f:(⟨b,0,none⟩:Addr).add i=⟨b,i,none⟩:=by
   unfold Addr.add
   split
   .rename_i hi;subst hi;rfl
   .simp
  have g:i<cs.size:=by simpa using d
  simp only[ag.get,f,c,if_true,a,Option.bind_some,cellOf,Array.getElem?_eq_getElem g,yG a c n (i+1) ai]
  rw[List.drop_eq_getElem_cons d,List.take_succ_cons]
  simp
theorem bA.more {T:Type}{r:cr T}{ro:Addr->Option Value}{e:TypeId}{l xs:List T}{ls ys:List (List Value)}{v:Value}{a:List (Nat×Obj)}(hg:Gr ro e r.n v (ls++ys) a)(b:ls.length=l.length)(c:ys.length=xs.length)
  (d:∀(i:Nat) (x:T),l[i]?=some x->∃cs:List Value,ls[i]?=some cs/\r.rel ro x cs) (f:∀(i:Nat) (x:T),xs[i]?=some x->∃cs:List Value,ys[i]?=some cs/\r.rel ro x cs) (hn:l.length+xs.length<=1000000):bA r ro e v (l++xs) a:=by
 refine ⟨_,hg,by simp[b,c],by simpa using hn,fun i y hi=>?_⟩
 rcases Nat.lt_or_ge i l.length with h|h
 .rw[List.getElem?_append_left h] at hi
  rw[List.getElem?_append_left ai]
  exact d i y hi
 .rw[List.getElem?_append_right h] at hi
  rw[List.getElem?_append_right ai,b]
  exact f _ y hi
theorem kJ {T:Type}{r:cr T}{ro:Addr->Option Value}{bz:List (Nat×Obj)}{R:Value->ag->Prop}{argTypes:Array TypeId}{g h e p e2:TypeId}{b c:Nat}{s z:Value}{l:List T}{x:T}{cs:Array Value}{own:List (Nat×Obj)}(pre bD:List (Nat×Obj))(q:own=pre++(bz++bD))
  (hg:bA r ro e s l bz) (t:bT (keys own)) (j:l.length+[x].length<=1000000) (d:r.rel ro x cs.toList) (u:lk pre c=some (.cells cs e2)) (w:∀off sp,ro ⟨c,off,sp⟩=none)
  (A:argTypes[0]?=some g) (B:argTypes[1]?=some h) (he:ee P g=some e) (C:ee P h=some p) (hs:cp P e=some r.n) (D:zeroOf P e=some z) (E:z.cells.size=r.n) (hb:bytesOf P e=some b)
  (F:0<b) (G:b<=10000)
  (hR:∀v a,bA r ro e v (l++[x]) a->∀f,f=pre++(a++bD)->bT (keys f)->∃F0,Le F0 ⟨ro,f⟩/\R v F0):sP P argTypes s (.slice (some ⟨c,0,none⟩) 1 1) R ⟨ro,own⟩:=by
 subst q
 obtain ⟨ls,H,k,hm,I⟩:=hg
 have J:=t.nd
 intro ty
 have hlen:cs.toList.length=r.n:=r.len d
 refine Da (xs:=[cs.toList]) (e:=e) (size:=r.n) (z:=z) (l:=ls) A B he C hs D E hb F G H J rfl (fun y o=>?_) ?_ (by simpa [k] using j) (fun v a K L=>hR v a (bA.more K k rfl I (fun i y hi=>?_) j) _ rfl ⟨L⟩)
 .simp only[List.mem_singleton] at o;subst o;exact ⟨hlen,r.one d⟩
 .simp only[fV,Nat.one_mul]
  rw[yG (yF u) w _ _ ai]
  rw[List.drop_zero,List.take_of_length_le ai]
  simp
 .cases i with
  |zero=>simp at hi;subst hi;exact ⟨cs.toList,rfl,d⟩
  |succ m=>simp at hi
theorem bA.iN {T:Type}{r:cr T}{ro:Addr->Option Value}{e:TypeId}{v:Value}{l:List T}{bz:List (Nat×Obj)}(h:bA r ro e v l bz){own:List (Nat×Obj)}(a pre bD:List (Nat×Obj))(f:own=pre++(bz++bD))(g:a=pre++bD)(i:bT (keys own))(hn:aW ro a):
  ∃aK,Ext ro aK/\aW aK a/\aG r aK v l/\Le ⟨aK,a⟩ ⟨ro,own⟩:=by
 subst f g
 have c:Nd (pre++(bz++bD)):=i.nd
 have j:Apart (keys (pre++bD)) bz:=fun k d hm=>by
  simp only[Nd,cj] at c
  have b:=List.nodup_append.1 c
  simp only[cj,List.mem_append] at hm
  rcases hm with hm|hm
  .exact b.2.2 k hm k (List.mem_append_left _ d) rfl
  .exact (List.nodup_append.1 b.2.1).2.2 k d k hm rfl
 obtain ⟨aK,m,b,n,o⟩:=h.tf (pre++bD) j rfl hn
 refine ⟨aK,m,b,n,o.trans ?_⟩
 have p:((pre++bD)++bz).Perm (pre++(bz++bD)):=by
  rw[List.append_assoc]
  exact List.Perm.append_left pre List.perm_append_comm
 exact Le.ps p (List.Sublist.refl _)
theorem bA.setAt {T:Type}{r:cr T}{ro:Addr->Option Value}{e:TypeId}{l:List T}{b n cap:Nat}{arr:Array Value}(h:bA r ro e (.slice (some ⟨b,0,none⟩) n cap) l [(b,.cells arr e)]){i:Nat}{x y:T}(hi:l[i]?=some x){cs:List Value}(k:r.rel ro y cs):
  bA r ro e (.slice (some ⟨b,0,none⟩) n cap) (l.set i y) [(b,.cells (bR arr (i*r.n) cs) e)]:=by
 obtain ⟨ls,hg,m,hm,o⟩:=h
 have C:i<l.length:=(List.getElem?_eq_some_iff.1 hi).1
 have a:=r.len k
 rcases hg with ⟨hv,_,_⟩|⟨D,E,p,hv,q,hs,hle,ht,c,s⟩
 .cases hv
 .cases q
  obtain ⟨rfl,rfl⟩:n=ls.length/\cap=p:=by cases hv;exact ⟨rfl,rfl⟩
  have t:i*r.n+cs.length<=arr.size:=by
   rw[hs,a,<-Nat.succ_mul]
   exact Nat.mul_le_mul_right _ ai
  refine ⟨ls.set i cs,.inr ⟨b,_,cap,aB,rfl,by rw[pS];exact hs,by simpa using hle,?_,?_,s⟩,by simp[m],by simpa using hm,fun j z d=>?_⟩
  .rw[pU _ _ _ t]
   have F:=gX c
   have f:i<ls.length:=ai
   have e1:(ls.set i cs).flatten=(ls.take i).flatten++cs++(ls.drop (i+1)).flatten:=by
    rw[List.set_eq_take_append_cons_drop,if_pos f]
    simp
   have e2:ls.flatten=(ls.take i).flatten++(ls.drop i).flatten:=by rw[<-List.flatten_append,List.take_append_drop]
   have t1:((ls.take i).flatten).length=i*r.n:=by rw[gX (fun x h=>c x (List.mem_of_mem_take h)),List.length_take,Nat.min_eq_left ai]
   have e3:(ls.drop i).flatten=ls[i]++(ls.drop (i+1)).flatten:=by rw[List.drop_eq_getElem_cons f,List.flatten_cons]
   have t2:ls[i].length=r.n:=c _ (List.getElem_mem f)
   have a1:arr.toList.take (i*r.n)=(ls.take i).flatten:=by
    have:=congrArg (List.take (i*r.n)) ht
    rw[List.take_take,Nat.min_eq_left (Nat.mul_le_mul_right _ ai),e2,List.take_append_of_le_length (Nat.le_of_eq t1.symm),List.take_of_length_le (Nat.le_of_eq t1)] at this
    exact this
   have u:(arr.toList.take (ls.length*r.n)).drop (i*r.n+cs.length)=(ls.drop (i+1)).flatten:=by
    have t3:((ls.take i).flatten++ls[i]).length=i*r.n+cs.length:=by rw[List.length_append,t1,t2,a]
    rw[ht,e2,e3,<-List.append_assoc,List.drop_append_of_le_length (Nat.le_of_eq t3.symm),List.drop_eq_nil_of_le (Nat.le_of_eq t3),List.nil_append]
   rw[a1,e1]
   simp only[List.length_set]
   have v:ls.length*r.n=(i*r.n+cs.length)+(ls.length*r.n - (i*r.n+cs.length)):=by
    have:i*r.n+cs.length<=ls.length*r.n:=by rw[a,<-Nat.succ_mul];exact Nat.mul_le_mul_right _ f
    omega
   rw[v,List.take_append]
   rw[List.take_of_length_le (by rw[List.length_append,t1];omega)]
   congr 1
   have:i*r.n+cs.length+(ls.length*r.n - (i*r.n+cs.length)) - ((ls.take i).flatten++cs).length=ls.length*r.n - (i*r.n+cs.length):=by simp only[List.length_append,t1];omega
   rw[this,<-u,List.drop_take]
  .intro z w
   rcases List.mem_or_eq_of_mem_set w with h|h
   .exact c z h
   .rw[h];exact a
  .rcases Nat.decEq i j with g|g
   .rw[List.getElem?_set_ne g] at d
    obtain ⟨cs',A,B⟩:=o j z d
    exact ⟨cs',by rw[List.getElem?_set_ne g];exact A,B⟩
   .subst g
    rw[List.getElem?_set_self ai] at d
    obtain rfl:=Option.some.inj d
    exact ⟨cs,List.getElem?_set_self ai,k⟩
end
section
variable {P:Program}{main:Bool}{J:Goroutine->ag->Prop}
theorem aO (hJ:Closed P main J){c:Code}{Q:Ex->Act->ag->Prop}{a:Act}{F:ag}(h:bT (keys F.own)->Wp J c Q a F):Wp J c Q a F:=by
 intro b k cs hb d;by_cases hw:∃w,Has F w
 .obtain ⟨w,hw⟩:=hw;exact h ⟨hw.nodup⟩ b k cs hb d
 .exact hJ.step fun w hF=>absurd ⟨w,hF⟩ hw
end
theorem bT.cons {l:List (Nat×Obj)}{b:Nat}(hb:aN l b)(h:bT (keys l)):bT (b::keys l):=⟨List.nodup_cons.2 ⟨jQ hb,h.nd⟩⟩
theorem aW.nil (ro:Addr->Option Value):aW ro []:=fun b h=>by cases h
theorem aW.cons {ro:Addr->Option Value}{b:Nat}{o:Obj}{l:List (Nat×Obj)}(hb:∀off sp,ro ⟨b,off,sp⟩=none)(h:aW ro l):aW ro ((b,o)::l):=fun c a=>by
 simp only[keys,List.map_cons,List.mem_cons] at a
 rcases a with rfl|a
 .exact hb
 .exact h c a
theorem aW.app {ro:Addr->Option Value}{l l':List (Nat×Obj)}(h:aW ro l)(h':aW ro l'):aW ro (l++l'):=fun c a=>by
 rw[cj] at a
 exact (List.mem_append.1 a).elim (h c) (h' c)
theorem aW.hd {ro:Addr->Option Value}{b:Nat}{o:Obj}{l:List (Nat×Obj)}(h:aW ro ((b,o)::l)):∀off sp,ro ⟨b,off,sp⟩=none:=h b (by simp[keys])
theorem aW.tl {ro:Addr->Option Value}{x:Nat×Obj}{l:List (Nat×Obj)}(h:aW ro (x::l)):aW ro l:=fun c a=>h c (by simp only[keys,List.map_cons,List.mem_cons];exact .inr a)
theorem bA.Db {T:Type}{r:cr T}{ro:Addr->Option Value}{e:TypeId}{v:Value}{l:List T}{bz:List (Nat×Obj)}(h:bA r ro e v l bz):aW ro bz:=by
 obtain ⟨ls,hg,-⟩:=h;rcases hg with ⟨_,_,rfl⟩|⟨b,arr,cap,_,rfl,_,_,_,_,a⟩
 .exact aW.nil _
 .exact aW.cons a (aW.nil _)
section
variable {P:Program}{main:Bool}{J:Goroutine->ag->Prop}
def qc (J:Goroutine->ag->Prop)(iO:Frame)(F:ag)(R:Value->ag->Prop):Prop:=
 ∀(c:Frame) (cs:List Frame),(∀v F',R v F'->J (G (c.finish v) cs) F')->J (G iO (c::cs)) F
theorem yH (hJ:Closed P main J){iO:Frame}{ro:Addr->Option Value}{bz:List (Nat×Obj)}{K:Value->ag->Prop}{own:List (Nat×Obj)}(pre bD:List (Nat×Obj))(n:own=pre++(bz++bD))(R:Value->List (Nat×Obj)->Prop)(h:∀(main:Bool) (J:Goroutine->ag->Prop),Closed P main J->qc J iO ⟨ro,bz⟩ (fun v G=>∃d,R v d/\Le ⟨ro,d⟩ G))
  (H:∀v d,R v d->∀p,p=pre++(d++bD)->bT (keys p)->∃F0,Le F0 ⟨ro,p⟩/\K v F0):qc J iO ⟨ro,own⟩ K:=by
 subst n
 intro c cs hK
 by_cases hw:∃w,Has ⟨ro,pre++(bz++bD)⟩ w
 .obtain ⟨q,j⟩:=hw
  let F:ag:=⟨fun _=>none,pre++bD⟩
  have r:(pre++bD).Sublist (pre++(bz++bD)):=List.Sublist.append_left (List.sublist_append_right bz bD) pre
  have s:bz.Sublist (pre++(bz++bD)):=(List.sublist_append_left bz bD).trans (List.sublist_append_right pre _)
  have t:∀w,Has ⟨ro,pre++(bz++bD)⟩ w->Has F w:=fun w hw=>⟨fun a v h=>(by cases h),fun b o hb=>hw.own b o (r.subset hb),(r.map _).nodup hw.nodup,fun a v h=>(by cases h)⟩
  have u:∀w,Has ⟨ro,pre++(bz++bD)⟩ w->Has ⟨ro,bz⟩ w:=fun w hw=>⟨hw.ro,fun b o hb=>hw.own b o (s.subset hb),(s.map _).nodup hw.nodup,fun a v g hm=>hw.apart a v g ((s.map _).subset hm)⟩
  have hd:∀b,b∈keys bz->b∉keys (pre++bD):=fun b hb hm=>by
   have hn:=j.nodup
   simp only[cj] at hn
   have A:=List.nodup_append.1 hn
   simp only[cj,List.mem_append] at hm
   rcases hm with hm|hm
   .exact A.2.2 b hm b (List.mem_append_left _ hb) rfl
   .exact (List.nodup_append.1 A.2.1).2.2 b hb b hm rfl
  have B:Fits F ⟨ro,bz⟩:=⟨⟨q,u q j,t q j⟩,hd,fun a f hm=>(by cases f)⟩
  have I:jO F ⟨ro,bz⟩:=fun a f hm=>by
   obtain ⟨v,hv⟩:=Option.isSome_iff_exists.1 f
   exact j.apart a v hv ((r.map _).subset hm)
  have n:p7 J F (G iO (c::cs)) ⟨ro,bz⟩:=by
   refine h main _ (s6 hJ F) c cs fun v C hR k hn=>?_
   obtain ⟨d,hR,hle⟩:=hR
   have D:Le ⟨ro,pre++(d++bD)⟩ (C.star F):=by
    refine ⟨fun w hw=>?_,fun b hb=>?_,fun a f=>?_⟩
    .have l:=hle.has w (k.right hw)
     have hF:=k.left hw
     have L:∀b,b∈keys d->b∉keys (pre++bD):=fun b hb=>k.own b (hle.own b hb)
     have i:(pre++(d++bD)).Perm (d++(pre++bD)):=by
      rw[<-List.append_assoc,<-List.append_assoc]
      exact List.Perm.append_right bD List.perm_append_comm
     refine ⟨l.ro,fun b o hb=>?_,?_,fun a v g hm=>?_⟩
     .rcases List.mem_append.1 (i.subset hb) with x|x
      .exact l.own b o x
      .exact hF.own b o x
     .refine (i.map _).nodup_iff.2 ?_
      rw[List.map_append]
      exact List.nodup_append.2 ⟨l.nodup,hF.nodup,fun a f b hb e=>L a f (e▸hb)⟩
     .have E:=(i.map (·.1)).subset hm
      rw[List.map_append] at E
      rcases List.mem_append.1 E with x|x
      .exact l.apart a v g x
      .rcases hle.ro a (by simp only at g;simp[g]) with y|y
       .exact hn a y x
       .exact k.own _ y x
    .simp only[ag.star,cj,List.mem_append] at hb ⊢
     rcases hb with x|x|x
     .exact .inr (show b∈keys (pre++bD) by rw[cj];exact List.mem_append_left _ x)
     .exact .inl (hle.own b x)
     .exact .inr (show b∈keys (pre++bD) by rw[cj];exact List.mem_append_right _ x)
    .rcases hle.ro a f with x|x
     .exact (fS (.inr x)).imp id (fun z=>by simp only[ag.star,cj,List.mem_append];exact .inr z)
     .exact .inr (by simp only[ag.star,cj,List.mem_append];exact .inl x)
   have M:∃fr cs',G (c.finish v) cs=G fr cs':=⟨_,_,rfl⟩
   obtain ⟨fr,cs',N⟩:=M
   by_cases m:∃w,Has (C.star F) w
   .obtain ⟨w1,m⟩:=m
    obtain ⟨F0,O,Q⟩:=H v d hR _ rfl ⟨(D.has w1 m).nodup⟩
    exact hJ.mono (O.trans D) (hK v F0 Q)
   .rw[N]
    exact hJ.step fun w hF=>absurd ⟨w,hF⟩ m
  refine hJ.mono ⟨fun w hw=>B.both (u w hw) (t w hw),fun b hb=>?_,fun a f=>?_⟩ (n B I)
  .have i:(bz++(pre++bD)).Perm (pre++(bz++bD)):=by
    rw[<-List.append_assoc,<-List.append_assoc]
    exact List.Perm.append_right bD List.perm_append_comm
   exact (i.map _).subset hb
  .rcases iJ f with x|x
   .cases x
   .exact .inl x
 .exact hJ.step fun w hF=>absurd ⟨w,hF⟩ hw
theorem dA (hJ:Closed P main J){f:FuncId}{args:Array Value}{ro:Addr->Option Value}{bz:List (Nat×Obj)}{K:Value->ag->Prop}{own:List (Nat×Obj)}(pre bD:List (Nat×Obj))(c:own=pre++(bz++bD))(R:Value->List (Nat×Obj)->Prop)(h:aF P f args ⟨ro,bz⟩ (fun v G=>∃a,R v a/\Le ⟨ro,a⟩ G))
  (d:∀v a,R v a->∀b,b=pre++(a++bD)->bT (keys b)->∃F0,Le F0 ⟨ro,b⟩/\K v F0):de P J f args ⟨ro,own⟩ K:=
 yH hJ (iO:=Frame.enter P f args .normal) pre bD c R h d
end
attribute [go_sem] Array.size_setIfInBounds
theorem aG.op {T:Type}{r:cr T}{ro:Addr->Option Value}{ad:Option Addr}{n cap:Nat}{l:List T}(h:aG r ro (.slice ad n cap) l):
  l.length<=cap/\l.length<=1000000000000000/\∀i x,l[i]?=some x->∃p cs,ad=some p/\r.rel ro x cs/\∀j v,cs[j]?=some v->ro ((p.add (i*r.n)).add j)=some v:=by
 obtain ⟨d,f,e,a,b,c⟩:=h
 cases e
 exact ⟨a,b,c⟩
theorem bT.sub {l l':List (Nat×Obj)}(A O S:List (Nat×Obj))(a:l=A++S)(b:l'=A++(O++S))(h:bT (keys l')):bT (keys l):=by
 subst a b;exact
 ⟨((List.Sublist.append_left (List.sublist_append_right O S) A).map _).nodup h.nd⟩
theorem gL {ro:Addr->Option Value}{b:Nat}{o:Obj}(pre bD:List (Nat×Obj))(f:bT (keys (pre++((b,o)::bD))))(_hr:∀off sp,ro ⟨b,off,sp⟩=none)(hn:aW ro (pre++bD)):
  Ext ro (bZ ro b o)/\aW (bZ ro b o) (pre++bD)/\Le ⟨bZ ro b o,pre++bD⟩ ⟨ro,pre++((b,o)::bD)⟩:=by
 have a:(pre++((b,o)::bD)).Perm ((b,o)::(pre++bD)):=List.perm_middle
 have g:Nd ((b,o)::(pre++bD)):=(a.map _).nodup_iff.1 f.nd
 have hb:b∉keys (pre++bD):=(List.nodup_cons.1 g).1
 refine ⟨gq _ _ _,fun c d off sp=>?_,?_⟩
 .have h:¬c=b:=fun e=>hb (e▸d)
  simp[bZ,hn c d,h]
 .have i:Le ⟨bZ ro b o,pre++bD⟩ ⟨ro,(b,o)::(pre++bD)⟩:=kG (by simp[lk]) (.cons _ (List.Sublist.refl _)) (kI hb)
  exact i.trans (Le.ps a.symm (List.Sublist.refl _))
section
variable {P:Program}{main:Bool}{J:Goroutine->ag->Prop}
theorem jS (hJ:Closed P main J){c:Code}{Q:Ex->Act->ag->Prop}{a:Act}{F:ag}(h:bT (keys F.own)->aW F.ro F.own->Wp J c Q a F):Wp J c Q a F:=by
 intro b k cs hb d;by_cases hw:∃w,Has F w
 .obtain ⟨w,hw⟩:=hw;refine h ⟨hw.nodup⟩ (fun b hb off sp=>?_) b k cs hb d;cases e:F.ro ⟨b,off,sp⟩ with
  |none=>rfl
  |some v=>exact absurd hb (hw.apart _ v e)
 .exact hJ.step fun w hF=>absurd ⟨w,hF⟩ hw
end
theorem tq:∀(vs:List Value) (arr:Array Value) (k:Nat),k+vs.length<=arr.size->∀q,(bR arr k vs)[q]?=if k<=q/\q<k+vs.length then vs[q - k]? else arr[q]?
 |[],arr,k,h,q=>by
  have:¬(k<=q/\q<k+([]:List Value).length):=aB
  rw[if_neg this];rfl
 |v::vs,arr,k,h,q=>by
  simp only[List.length_cons] at h
  rw[bR,tq vs _ (k+1) (by simp;omega)]
  simp only[List.length_cons]
  by_cases a:k=q
  .subst a
   rw[if_neg ai,if_pos ai,Array.getElem?_setIfInBounds_self_of_lt ai]
   simp
  .by_cases b:k+1<=q/\q<k+1+vs.length
   .rw[if_pos b,if_pos ai]
    rw[show q - k=(q - (k+1))+1 by omega]
    simp
   .rw[if_neg b,if_neg ai,Array.getElem?_setIfInBounds_ne a]
theorem bA.part {T:Type}{r:cr T}{ro:Addr->Option Value}{e:TypeId}{l:List T}{b n cap:Nat}{arr:Array Value}(h:bA r ro e (.slice (some ⟨b,0,none⟩) n cap) l [(b,.cells arr e)]){i:Nat}{x y:T}(hi:l[i]?=some x)(o:Nat)(vs cs cs':List Value)
  (hm:∀j v,cs[j]?=some v->arr[i*r.n+j]?=some v) (hlen:cs.length=r.n) (f:cs'=cs.take o++vs++cs.drop (o+vs.length)) (ho:o+vs.length<=cs.length) (g:r.rel ro y cs'):
  bA r ro e (.slice (some ⟨b,0,none⟩) n cap) (l.set i y) [(b,.cells (bR arr (i*r.n+o) vs) e)]:=by
 have k:=h.setAt hi g
 have c:=r.len g
 have s:i*r.n+r.n<=arr.size:=by
  rcases Nat.eq_zero_or_pos r.n with t|w
  .rw[t];omega
  .have a:r.n - 1<cs.length:=ai
   have:=hm (r.n - 1) cs[r.n - 1] (List.getElem?_eq_getElem a)
   have:=(Array.getElem?_eq_some_iff.1 this).1
   omega
 have e1:bR arr (i*r.n) cs'=bR arr (i*r.n+o) vs:=by
  apply Array.ext_getElem?
  intro q
  rw[tq cs' arr _ (by rw[c];exact s),tq vs arr _ ai]
  by_cases m:i*r.n+o<=q/\q<i*r.n+o+vs.length
  .rw[if_pos m,if_pos (by rw[c];omega),f]
   rw[List.append_assoc,List.getElem?_append_right (by simp;omega),List.getElem?_append_left (by simp;omega)]
   congr 1
   simp;omega
  .rw[if_neg m]
   by_cases d:i*r.n<=q/\q<i*r.n+cs'.length
   .rw[if_pos d]
    rw[c] at d
    have u:arr[q]?=cs[q - i*r.n]?:=by
     have a:q - i*r.n<cs.length:=ai
     have:=hm (q - i*r.n) _ (List.getElem?_eq_getElem a)
     rw[show i*r.n+(q - i*r.n)=q by omega] at this
     rw[this,List.getElem?_eq_getElem a]
    rw[u,f]
    rcases Nat.lt_or_ge (q - i*r.n) o with p|p
    .rw[List.append_assoc,List.getElem?_append_left (by simp;omega),List.getElem?_take_of_lt p]
    .have z:o+vs.length<=q - i*r.n:=ai
     rw[List.getElem?_append_right (by simp;omega),List.getElem?_drop]
     congr 1
     simp;omega
   .rw[if_neg d]
 rw[e1] at k
 exact k
theorem bA.elemAt {T:Type}{r:cr T}{ro:Addr->Option Value}{e:TypeId}{b n cap:Nat}{l:List T}{bz:List (Nat×Obj)}(h:bA r ro e (.slice (some ⟨b,0,none⟩) n cap) l bz){i:Nat}{x:T}(hi:l[i]?=some x):
  ∃arr cs,bz=[(b,.cells arr e)]/\(∀off sp,ro ⟨b,off,sp⟩=none)/\r.rel ro x cs/\∀j v,cs[j]?=some v->arr[i*r.n+j]?=some v:=by
 obtain ⟨d,arr,f,cs,hv,ho,a,c,hm⟩:=h.elem hi
 cases hv
 exact ⟨arr,cs,ho,a,c,hm⟩
theorem bA.tr {T:Type}{r:cr T}{ro:Addr->Option Value}{e:TypeId}{ad:Option Addr}{n cap:Nat}{l:List T}{bz:List (Nat×Obj)}(h:bA r ro e (.slice ad n cap) l bz){i:Nat}{x:T}(hi:l[i]?=some x):
  ∃b arr cs,ad=some ⟨b,0,none⟩/\bz=[(b,.cells arr e)]/\(∀off sp,ro ⟨b,off,sp⟩=none)/\r.rel ro x cs/\∀j v,cs[j]?=some v->arr[i*r.n+j]?=some v:=by
 obtain ⟨a,arr,g,cs,hv,ho,c,d,hm⟩:=h.elem hi
 injection hv with f k m
 exact ⟨a,arr,cs,f,ho,c,d,hm⟩
theorem bA.eL {T:Type}{r:cr T}{ro:Addr->Option Value}{e:TypeId}{b n cap:Nat}{l:List T}{arr:Array Value}(h:bA r ro e (.slice (some ⟨b,0,none⟩) n cap) l [(b,.cells arr e)]){i:Nat}{x:T}(hi:l[i]?=some x):
  ∃cs,r.rel ro x cs/\∀j v,cs[j]?=some v->arr[i*r.n+j]?=some v:=by
 obtain ⟨c,cs,ho,d,a,hm⟩:=h.elemAt hi
 simp only[List.cons.injEq,Prod.mk.injEq,Obj.cells.injEq,true_and,and_true] at ho
 subst ho
 exact ⟨cs,a,hm⟩
theorem bA.lO {T:Type}{r:cr T}{ro:Addr->Option Value}{e:TypeId}{l:List T}{b n cap:Nat}{arr:Array Value}(h:bA r ro e (.slice (some ⟨b,0,none⟩) n cap) l [(b,.cells arr e)]){i:Nat}{y:T}(hi:i<l.length){cs:List Value}(a:r.rel ro y cs):
  bA r ro e (.slice (some ⟨b,0,none⟩) n cap) (l.set i y) [(b,.cells (bR arr (i*r.n) cs) e)]:=h.setAt (List.getElem?_eq_getElem hi) a
theorem bA.fX {T:Type}{r:cr T}{ro:Addr->Option Value}{e:TypeId}{ad:Option Addr}{n cap:Nat}{l:List T}{bz:List (Nat×Obj)}(h:bA r ro e (.slice ad n cap) l bz)(hn:l.isEmpty=false):
  ∃b arr,ad=some ⟨b,0,none⟩/\bz=[(b,.cells arr e)]/\(∀off sp,ro ⟨b,off,sp⟩=none):=by
 cases l with
 |nil=>cases hn
 |cons x l=>
  obtain ⟨b,arr,cs,a,c,d,_⟩:=h.tr (i:=0) rfl
  exact ⟨b,arr,a,c,d⟩
theorem bA.fN {T:Type}{r:cr T}{ro:Addr->Option Value}{e:TypeId}{b n cap:Nat}{l:List T}{bz:List (Nat×Obj)}(h:bA r ro e (.slice (some ⟨b,0,none⟩) n cap) l bz):∃arr,bz=[(b,.cells arr e)]:=by
 obtain ⟨ls,hg,-⟩:=h;rcases hg with ⟨hv,_,_⟩|⟨a,arr,c,hv,ho,_⟩
 .cases hv
 .cases hv;exact ⟨arr,ho⟩
theorem bA.count {T:Type}{r:cr T}{ro:Addr->Option Value}{e:TypeId}{ad:Option Addr}{n cap:Nat}{l:List T}{bz:List (Nat×Obj)}(h:bA r ro e (.slice ad n cap) l bz):l.length=n:=by
 obtain ⟨a,b,hv,_⟩:=h.len;cases hv;rfl
end Go.Sep
end

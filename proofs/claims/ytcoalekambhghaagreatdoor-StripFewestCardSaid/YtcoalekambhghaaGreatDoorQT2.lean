/- A part of the proof: QT2. -/
import Derived.Test.YtcoalekambhghaaGreatDoorQT1
import Derived.WalkKit
import Derived.Laws.Strings
import Derived.IntWalk
import Derived.NoCompilerSame
import Derived.Test.YtcoalekambhghaaGreatDoorProg
set_option linter.all false
section
namespace Go.Sep
open Go Go.Conc
section
variable {α β:Type}{P:Program}{Q:α->ag->Prop}{F:ag}
@[go_sem] theorem bF (a:α):bA P (Pure.pure a) Q F=Q a F:=rfl
@[go_sem] theorem Ja (a:α):bA P (Sem.pure a) Q F=Q a F:=rfl
@[go_sem] theorem bE {R:β->ag->Prop}(x:Sem α)(f:α->Sem β):bA P (x>>= f) R F=bA P x (fun a G=>bA P (f a) R G) F:=propext (wV x F)
@[go_sem] theorem Jb {R:β->ag->Prop}(x:Sem α)(f:α->β):bA P (Functor.map f x) R F=bA P x (fun a G=>R (f a) G) F:=propext (wV x F)
@[go_sem] theorem dn (c:Prop)[Decidable c](x y:Sem α):bA P (if c then x else y) Q F=if c then bA P x Q F else bA P y Q F:=by split<;>rfl
@[go_sem] theorem xA {Q:Value->ag->Prop}(a:Addr):bA P (load a) Q F=∃v,F.get a=some v/\Q v F:=by simp[load,bA]
@[go_sem] theorem BI {Q:Unit->ag->Prop}(a:Addr)(v:Value):bA P (store a v) Q F=∃F',F.j7 a v=some F'/\Q () F':=by simp[store,bA]
theorem mY {Q:Nat->ag->Prop}(o:Obj):bA P (newObj o) Q F=(o.isChan=false/\∀b,dP F b->Q b (F.push b o)):=rfl
theorem jd {Q:Program->ag->Prop}:bA P program Q F=Q P F:=rfl
theorem xB {Q:Nat->ag->Prop}(q:Question):bA P (choose q) Q F=if q.forced then Q 0 F else ∀t,Q (q.cut t) F:=rfl
theorem gL {Q:Obj->ag->Prop}(r:Nat):bA P (getObj r) Q F=∃o,F.cY r=some o/\Q o F:=rfl
theorem iC {Q:Unit->ag->Prop}(r:Nat)(o:Obj):bA P (Go.setObj r o) Q F=(o.isChan=false/\(F.cY r).isSome=true/\Q () (F.put r o)):=rfl
theorem Jc (s:String):bA P (stuck s:Sem α) Q F=False:=rfl
theorem Jd {Q:Unit->ag->Prop}(m:Mark):bA P (mark m) Q F=(mU m=true/\Q () F):=rfl
attribute [go_sem] mY jd xB gL iC Jc Jd
@[go_sem] theorem cW {Q:TypeDesc->ag->Prop}(t:TypeId):bA P (underlying t) Q F=match P.underlying t with|some d=>Q d F|none=>False:=by
 simp only[underlying,bE,jd];cases P.underlying t<;>rfl
@[go_sem] theorem rV {Q:TypeInfo->ag->Prop}(t:TypeId):bA P (typeInfo t) Q F=match P.info? t with|some d=>Q d F|none=>False:=by
 simp only[typeInfo,bE,jd];cases P.info? t<;>rfl
def cm (P:Program)(t:TypeId):Option Nat:=(P.info? t).map (·.size)
def zeroOf (P:Program)(t:TypeId):Option Value:=(P.info? t).bind (·.zero)
def bytesOf (P:Program)(t:TypeId):Option Nat:=(P.info? t).map (·.bytes)
@[go_sem] theorem ez {Q:Nat->ag->Prop}(t:TypeId):bA P (sizeOf t) Q F=match cm P t with|some n=>Q n F|none=>False:=by
 simp only[sizeOf,bE,rV,cm];cases P.info? t<;>rfl
@[go_sem] theorem k7 {Q:Value->ag->Prop}(t:TypeId):bA P (zeroValue t) Q F=match zeroOf P t with|some n=>Q n F|none=>False:=by
 simp only[zeroValue,bE,rV,zeroOf];cases P.info? t with
 |none=>rfl
 |some i=>simp only[Option.bind_some];cases i.zero<;>rfl
def cC (P:Program)(t:TypeId):Option Bool:=(P.underlying t).map fun| .struct _=>true| .array _ _=>true|_=>false
@[go_sem] theorem k8 {Q:Bool->ag->Prop}(t:TypeId):bA P (isAgg t) Q F=match cC P t with|some n=>Q n F|none=>False:=by
 simp only[isAgg,bE,cW,cC];cases P.underlying t with
 |none=>rfl
 |some d=>cases d<;>rfl
def ag.j9 (F:ag)(a:Addr):Nat->List Value->Prop
 |_,[]=>True
 |i,v::vs=>F.get (a.add i)=some v/\F.j9 a (i+1) vs
theorem rW {Q:Array Value->ag->Prop}(a:Addr):∀(vs:List Value) (i:Nat) (acc:Array Value),F.j9 a i vs->Q (acc++vs.toArray) F->bA P (loadCellsFrom a i vs.length acc) Q F
 |[],i,acc,_,h=>by simpa [loadCellsFrom,bF] using h
 |v::vs,i,acc,hg,h=>by
  simp only[List.length_cons,loadCellsFrom,bE,xA]
  refine ⟨v,hg.1,rW a vs (i+1) (acc.push v) hg.2 ?_⟩
  simpa using h
theorem BJ {Q:Value->ag->Prop}{t:TypeId}{a:Addr}(vs:List Value)(ht:cC P t=some true)(hs:cm P t=some vs.length)(hg:F.j9 a 0 vs)(h:Q (.agg vs.toArray) F):bA P (loadVar t a) Q F:=by
 simp only[loadVar,bE,k8,ht,dn,if_true,ez,hs,loadCells];exact rW a vs 0 #[] hg (by simpa [bF] using h)
theorem BK {Q:Value->ag->Prop}{t:TypeId}{a:Addr}(v:Value)(ht:cC P t=some false)(hg:F.get a=some v)(h:Q v F):bA P (loadVar t a) Q F:=by
 simp only[loadVar,bE,k8,ht,dn,xA];exact ⟨v,hg,h⟩
def ag.gY (F:ag)(a:Addr):Nat->List Value->Option ag
 |_,[]=>some F
 |i,v::vs=>match F.j7 (a.add i) v with
  |some F'=>F'.gY a (i+1) vs
  |none=>none
theorem mZ {Q:Unit->ag->Prop}(a:Addr):∀(vs:List Value) (i:Nat) (F F':ag),F.gY a i vs=some F'->Q () F'->bA P (storeCells a vs i) Q F
 |[],i,F,F',hg,h=>by simp only[ag.gY,Option.some.injEq] at hg;subst hg;simpa [storeCells,bF] using h
 |v::vs,i,F,F',hg,h=>by
  simp only[storeCells,bE,BI]
  unfold ag.gY at hg
  split at hg
  .rename_i F1 b
   exact ⟨F1,b,mZ a vs (i+1) F1 F' hg h⟩
  .cases hg
theorem BL {Q:Unit->ag->Prop}{t:TypeId}{a:Addr}{v:Value}(F':ag)(hs:cm P t=some v.cells.size)(hg:F.gY a 0 v.cells.toList=some F')(h:Q () F'):bA P (storeVar t a v) Q F:=by
 simp only[storeVar,bE,ez,hs,ne_eq,not_true_eq_false,if_false];exact mZ a _ 0 F F' hg h
@[go_sem] theorem xC {Q:Addr->ag->Prop}(t:TypeId)(v:Value):bA P (newVar t v) Q F=∀b,dP F b->Q ⟨b,0,none⟩ (F.push b (.cells v.cells t)):=by
 simp only[newVar,newRow,bE,mY,bF];simp[Obj.isChan]
@[go_sem] theorem rX {Q:Addr->ag->Prop}(t:TypeId)(v:Array Value):bA P (newRow t v) Q F=∀b,dP F b->Q ⟨b,0,none⟩ (F.push b (.cells v t)):=by
 simp only[newRow,bE,mY,bF];simp[Obj.isChan]
theorem m0 {Q:Addr->ag->Prop}(a:Addr):bA P (Instr.sureAddr (.pointer (some a))) Q F=Q a F:=rfl
theorem jF {Q:IntKind×Int->ag->Prop}(k:IntKind)(n:Int):bA P (asIntOf (.int k n)) Q F=Q (k,n) F:=rfl
theorem Je {Q:Int->ag->Prop}(k:IntKind)(n:Int):bA P (asInt (.int k n)) Q F=Q n F:=rfl
theorem BM {Q:Bool->ag->Prop}(b:Bool):bA P (asBool (.bool b)) Q F=Q b F:=rfl
theorem BN {Q:Array Value->ag->Prop}(b:Array Value):bA P (asAgg (.agg b)) Q F=Q b F:=rfl
attribute [go_sem] m0 jF Je BM BN
end
def slot (a:Act)(i:Nat):Value:=a.tmps.getD i undef
def sz (a:Act):Nat:=a.tmps.size
def bB (a:Act)(d:Option Tmp)(v:Value):Act:=a.put d v
def ev (a:Act)(x:Operand):Value:=a.eval x
theorem Jf (a:Act)(t:Nat):ev a (.tmp t)=slot a t:=rfl
theorem Jg (a:Act)(v:Value):ev a (.const v)=v:=rfl
theorem Jh (a:Act)(g:Nat):ev a (.global g)= .pointer (some ⟨g,0,none⟩):=rfl
theorem Ji (a:Act)(f:Nat):ev a (.func f)= .func (.func f) #[] #[]:=rfl
theorem Jj (a:Act)(v:Value):bB a none v=a:=rfl
attribute [go_sem] Jf Jg Jh Ji Jj
@[go_sem] theorem xD (a:Act)(d:Option Tmp)(v:Value):sz (bB a d v)=sz a:=by cases d<;>simp[sz,bB,Act.put]
theorem BO (a:Act)(d:Nat)(v:Value)(h:d<sz a):slot (bB a (some d) v) d=v:=by
 simp only[sz] at h;simp[slot,bB,Act.put,h]
theorem rY (a:Act)(d i:Nat)(v:Value)(h:¬d=i):slot (bB a (some d) v) i=slot a i:=by
 simp[slot,bB,Act.put,Array.getElem?_setIfInBounds_ne h]
@[go_sem] theorem Jk (a:Act)(d i:Nat)(v:Value)(h:d<sz a):slot (bB a (some d) v) i=if d=i then v else slot a i:=by
 split
 .rename_i e;subst e;exact BO a d v h
 .rename_i e;exact rY a d i v e
@[go_sem] theorem xE (a:Act)(d:Option Tmp)(v:Value):(bB a d v).defers=a.defers:=by cases d<;>rfl
theorem aF.start {P:Program}{f:FuncId}{fn:Func}{c:Code}{n:Nat}{args:Array Value}{F:ag}{R:Value->ag->Prop}(a:P.funcs[f]?=some fn)(hb:fn.body=some c)(hn:fn.ntmps=n)(b:args.size<=n)
  (h:∀main J,Closed P main J->∀A:Act,sz A=n->A.defers=[]->(∀i,slot A i=args.getD i undef)->Wp J c (oV P fn R) A F):aF P f args F R:=
 aF.of_wp a hb fun main J hJ=>h main J hJ _ (by simp[sz,hn];omega) rfl fun i=>by
  simp only[slot,hn,Array.getD_eq_getD_getElem?]
  rcases Nat.lt_or_ge i args.size with hi|hi
  .rw[Array.getElem?_append_left hi]
  .rw[Array.getElem?_append_right hi,Array.getElem?_replicate,Array.getElem?_eq_none hi]
   split<;>rfl
def dL (P:Program)(t:TypeId):Option TypeId:=match P.underlying t with|some (.slice e)=>some e|_=>none
def jG (P:Program)(t:TypeId):Option (Nat×TypeId):=match P.underlying t with|some (.array n e)=>some (n,e)|_=>none
def dr (P:Program)(t:TypeId)(n:Nat):Option Nat:=
 match P.underlying t with
 |some (.struct a)=>match a[n]? with
  |some f=>match cm P f.type with
   |some (_+1)=>some f.offset
   |_=>none
  |none=>none
 |_=>none
def xF (P:Program)(t:TypeId)(n:Nat):Option (Nat×Nat×Bool):=
 match P.underlying t with
 |some (.struct a)=>match a[n]? with
  |some f=>match cm P f.type,cC P f.type with
   |some s,some g=>some (f.offset,s,g)
   |_,_=>none
  |none=>none
 |_=>none
def placesOf (P:Program)(t:TypeId):Option (List (Nat×Nat)):=
 match P.underlying t with
 |some (.struct a)=>a.toList.mapM fun f=>(cm P f.type).map fun s=>(f.offset,s)
 |_=>none
def aO (P:Program)(f:FuncId):Bool:=match P.funcs[f]? with|some fn=>!(fn.body.isNone||fn.name== "runtime.NumGoroutine")|none=>false
def ag.cX (F:ag)(a:Addr):Nat->Nat->Option (List Value)
 |_,0=>some []
 |i,n+1=>match F.get (a.add i) with
  |some v=>match F.cX a (i+1) n with
   |some vs=>some (v::vs)
   |none=>none
  |none=>none
theorem rZ (F:ag)(a:Addr):∀(n i:Nat) (vs:List Value),F.cX a i n=some vs->F.j9 a i vs/\vs.length=n
 |0,i,vs,h=>by simp only[ag.cX,Option.some.injEq] at h;subst h;exact ⟨trivial,rfl⟩
 |n+1,i,vs,h=>by
  unfold ag.cX at h
  split at h
  .rename_i v hv
   split at h
   .rename_i ws b
    cases h
    obtain ⟨c,d⟩:=rZ F a n (i+1) ws b
    exact ⟨⟨hv,c⟩,by simp[d]⟩
   .cases h
  .cases h
def e5 (P:Program)(F:ag)(t:TypeId)(ad:Addr):Option Value:=
 match cC P t with
 |some false=>F.get ad
 |some true=>match cm P t with
  |some n=>match F.cX ad 0 n with
   |some vs=>some (.agg vs.toArray)
   |none=>none
  |none=>none
 |none=>none
def oW (P:Program)(F:ag)(t:TypeId)(ad:Addr)(v:Value):Option ag:=
 match cm P t with
 |some n=>if n=v.cells.size then F.gY ad 0 v.cells.toList else none
 |none=>none
theorem xG {P:Program}{F:ag}{t:TypeId}{ad:Addr}{v:Value}{Q:Value->ag->Prop}(h:e5 P F t ad=some v)(a:Q v F):bA P (loadVar t ad) Q F:=by
 unfold e5 at h;split at h
 .rename_i hg;exact BK v hg h a
 .rename_i hg;split at h
  .rename_i n hn;split at h
   .rename_i vs b;cases h;obtain ⟨c,d⟩:=rZ F ad n 0 vs b;exact BJ vs hg (by rw[hn,d]) c a
   .cases h
  .cases h
 .cases h
theorem BP {P:Program}{F F':ag}{t:TypeId}{ad:Addr}{v:Value}{Q:Unit->ag->Prop}(h:oW P F t ad v=some F')(a:Q () F'):bA P (storeVar t ad v) Q F:=by
 unfold oW at h;split at h
 .rename_i n hn;split at h
  .rename_i e;exact BL F' (by rw[hn,e]) h a
  .cases h
 .cases h
def k9 (op:BinOp):Value->Value->Option Value
 | .int k a,.int c b=>if k=c then match op with
   | .add=>some (.int k (k.wrap (a+b)))
   | .sub=>some (.int k (k.wrap (a - b)))
   | .mul=>some (.int k (k.wrap (a*b)))
   | .quo=>if b=0 then none else some (.int k (k.wrap (a.tdiv b)))
   | .rem=>if b=0 then none else some (.int k (a.tmod b))
   | .eql=>some (.bool (a==b))
   | .neq=>some (.bool (a != b))
   | .lss=>some (.bool (decide (a<b)))
   | .leq=>some (.bool (decide (a<=b)))
   | .gtr=>some (.bool (decide (a>b)))
   | .geq=>some (.bool (decide (a≥b)))
   | .shl=>if b<0 then none else some (.int k (k.wrap (a*2 ^ min b.toNat k.bits)))
   | .shr=>if b<0 then none else some (.int k (a.fdiv (2 ^ min b.toNat k.bits)))
   | .and=>some (.int k (k.wrap (BitVec.ofInt k.bits a&&& BitVec.ofInt k.bits b).toNat))
   | .or=>some (.int k (k.wrap (BitVec.ofInt k.bits a|||BitVec.ofInt k.bits b).toNat))
   | .andNot=>some (.int k (k.wrap (BitVec.ofInt k.bits a&&& ~~~(BitVec.ofInt k.bits b)).toNat))
   | .xor=>some (.int k (k.wrap (BitVec.ofInt k.bits a ^^^ BitVec.ofInt k.bits b).toNat))
  else none
 | .string a,.string b=>match op with
  | .eql=>some (.bool (a.data.toList==b.data.toList))
  | .neq=>some (.bool !(a.data.toList==b.data.toList))
  |_=>none
 |_,_=>none
theorem fI {P:Program}{s:Sem Value}{Q:Next->ag->Prop}{F:ag}:bA P (do pure (Next.value (<-s)):Sem Next) Q F=bA P s (fun v G=>Q (.value v) G) F:=by
 simp only[bE,bF]
theorem r4 {P:Program}(op:BinOp)(t:TypeId)(x y:Operand)(k c:IntKind)(a b:Int){Q:Unit->ag->Prop}{F:ag}(h:Q () F):bA P (eqGuard op t x y (.int k a) (.int c b)) Q F:=by
 unfold eqGuard;cases op<;>simp<;>exact h
theorem BQ {P:Program}{op:BinOp}{t:TypeId}{x y:Operand}{u v w:Value}{Q:Value->ag->Prop}{F:ag}(h:k9 op u v=some w)(c:Q w F):bA P (do eqGuard op t x y u v;binOp op t u v) Q F:=by
 unfold k9 at h;split at h
 case h_3=>cases h
 case h_2=>
  rename_i a b;cases op<;>simp only[reduceCtorEq] at h<;>(cases h;simp only[bE,eqGuard,binOp,Op.stringOp,ByteArray.toList_eq];exact c)
 rename_i k a e b;split at h
 case isFalse=>cases h
 rename_i d;subst d;rw[bE];refine r4 op t x y k k a b ?_;cases op<;>simp only[binOp,ne_eq,not_true_eq_false,if_false,Op.intArith,Op.intDiv,Op.intCmp,Op.intBits,Op.shift,dn] at h ⊢<;>first
  |(cases h;done)
  |(cases h;exact c)
  |(split at h
    .cases h
    .rename_i hb;rw[if_neg hb];cases h;exact c)
def kg (op:UnOp):Value->Option Value
 | .int k a=>match op with
  | .neg=>some (.int k (k.wrap (0 - a)))
  |_=>none
 | .bool b=>match op with
  | .not=>some (.bool (!b))
  |_=>none
 |_=>none
theorem BR {P:Program}{op:UnOp}{u w:Value}{Q:Value->ag->Prop}{F:ag}(h:kg op u=some w)(a:Q w F):bA P (Op.unary op u) Q F:=by
 cases u<;>cases op<;>simp only[kg] at h<;>first|(cases h;done)|(cases h;exact a)
def oX:Value->Value->Option Value
 | .int k x,.int _ y=>some (.int k (if y>x then y else x))
 |_,_=>none
def oY:Value->Value->Option Value
 | .int k x,.int _ y=>some (.int k (if y<x then y else x))
 |_,_=>none
def m3 (P:Program)(t:TypeId):Value->Value->Option Value
 | .slice (some ad) len _,.int _ i=>match dL P t with
  |some e=>match cm P e with
   |some n=>if 0<=i/\i<(len:Int) then some (.pointer (some (ad.add (i.toNat*n)))) else none
   |none=>none
  |none=>none
 | .pointer (some ad),.int _ i=>match jG P t with
  |some (len,e)=>match cm P e with
   |some n=>if 0<=i/\i<(len:Int) then some (.pointer (some (ad.add (i.toNat*n)))) else none
   |none=>none
  |none=>none
 |_,_=>none
theorem BS {P:Program}{t:TypeId}{u v w:Value}{Q:Value->ag->Prop}{F:ag}(h:m3 P t u v=some w)(b:Q w F):bA P (Instr.indexAt t u v) Q F:=by
 unfold m3 at h;split at h
 .rename_i ad len cap k i;split at h
  case h_2=>cases h
  rename_i e he;split at h
  case h_2=>cases h
  rename_i n hn;split at h
  case isFalse=>cases h
  rename_i hi;cases h;have hu:P.underlying t=some (.slice e):=by
   unfold dL at he;split at he
   .rename_i c a;cases he;exact a
   .cases he
  simp only[Instr.indexAt,bE,jF,cW,hu,bF,dn,if_pos hi,ez,hn];exact b
 .rename_i ad k i;split at h
  case h_2=>cases h
  rename_i len e he;split at h
  case h_2=>cases h
  rename_i n hn;split at h
  case isFalse=>cases h
  rename_i hi;cases h;have hu:P.underlying t=some (.array len e):=by
   unfold jG at he;split at he
   .rename_i d c a;cases he;exact a
   .cases he
  simp only[Instr.indexAt,bE,jF,cW,hu,bF,m0,dn,if_pos hi,ez,hn];exact b
 .cases h
def ki (P:Program)(t:TypeId)(x:Value)(lo hi:Option Value):Option Value:=
 match x,dL P t with
 | .slice ad len cap,some e=>match cm P e with
  |some n=>
   match (match lo with|none=>some 0|some (.int _ i)=>if 0<=i then some i.toNat else none|_=>none),(match hi with|none=>some len|some (.int _ i)=>if 0<=i then some i.toNat else none|_=>none) with
   |some l,some h=>if l<=h/\h<=cap then some (.slice (if cap=l then ad else ad.map (·.add (l*n))) (h - l) (cap - l)) else none
   |_,_=>none
  |none=>none
 | .pointer (some ad),none=>match jG P t,lo,hi with
  |some (n,e),none,none=>match cm P e with
   |some _=>some (.slice (some ad) n n)
   |none=>none
  |_,_,_=>none
 |_,_=>none
theorem BT {P:Program}{t:TypeId}{x w:Value}{lo hi:Option Value}{Q:Value->ag->Prop}{F:ag}(hlen:∀ad len cap,x= .slice ad len cap->len<=cap)(h:ki P t x lo hi=some w)(c:Q w F):bA P (Instr.sliceAt t x lo hi none) Q F:=by
 unfold ki at h;split at h
 case h_3=>cases h
 case h_2=>
  rename_i ad _;split at h
  case h_2=>cases h
  rename_i n e he;have hu:P.underlying t=some (.array n e):=by
   unfold jG at he;split at he
   .rename_i q g d;cases he;exact d
   .cases he
  split at h
  case h_2=>cases h
  rename_i sz hs;cases h;simp only[Instr.sliceAt,bE,cW,hu,m0,Instr.sliceBounds,bF,ez,hs,Nat.zero_mul,Nat.sub_zero];have:(if n=0 then ad else ad.add 0)=ad:=by split<;>rfl
  rw[this];exact c
 rename_i ad len cap e he;have r:=hlen ad len cap rfl;have hu:P.underlying t=some (.slice e):=by
  unfold dL at he;split at he
  .rename_i g d;cases he;exact d
  .cases he
 split at h
 case h_2=>cases h
 rename_i n hn;split at h
 case h_2=>cases h
 rename_i l h' a b;split at h
 case isFalse=>cases h
 rename_i hb;cases h;simp only[Instr.sliceAt,bE,cW,hu,Instr.slice,Instr.sliceBounds,bF];cases hi with
 |none=>
  simp only[Option.some.injEq] at b;subst b;simp only[bF];cases lo with
  |none=>
   simp only[Option.some.injEq] at a;subst a;simp only[bF,ez,hn];exact c
  |some v=>
   cases v<;>simp only[reduceCtorEq] at a;rename_i k i;split at a
   case isFalse=>cases a
   rename_i f;cases a;have:0<=i/\i<=(len:Int):=⟨f,ai⟩
   simp only[Instr.sliceBound,bE,jF,dn,if_pos this,bF,ez,hn];exact c
 |some v=>
  cases v<;>simp only[reduceCtorEq] at b;rename_i k i;split at b
  case isFalse=>cases b
  rename_i f;cases b;have m:0<=i/\i<=(cap:Int):=⟨f,ai⟩
  simp only[Instr.sliceBound,bE,jF,dn,if_pos m,bF];cases lo with
  |none=>
   simp only[Option.some.injEq] at a;subst a;simp only[bF,ez,hn];exact c
  |some v=>
   cases v<;>simp only[reduceCtorEq] at a;rename_i s j;split at a
   case isFalse=>cases a
   rename_i o;cases a;have p:0<=j/\j<=((i.toNat:Nat):Int):=⟨o,ai⟩
   simp only[bE,jF,dn,if_pos p,bF,ez,hn];exact c
def fJ:List Value->List Value->Option Bool
 |[],[]=>some true
 | .int k a::xs,.int c b::ys=>if k=c then match fJ xs ys with
   |some r=>some (a==b&&r)
   |none=>none
  else none
 | .bool a::xs,.bool b::ys=>match fJ xs ys with
   |some r=>some (a==b&&r)
   |none=>none
 | .string a::xs,.string b::ys=>match fJ xs ys with
   |some r=>some (a.data.toList==b.data.toList&&r)
   |none=>none
 |_,_=>none
theorem BU (a b:ByteArray):(a==b)=(a.data.toList==b.data.toList):=by
 obtain ⟨⟨a⟩⟩:=a;obtain ⟨⟨b⟩⟩:=b;show ((⟨a⟩:Array UInt8)==⟨b⟩)=(a==b);simp
theorem m4:∀{xs ys:List Value} {us vs:List Value} {r:Bool},xs.length=ys.length->fJ (xs++us) (ys++vs)=some r->∃r1 r2,fJ xs ys=some r1/\fJ us vs=some r2/\r=(r1&&r2)
 |[],[],us,vs,r,_,h=>⟨true,r,rfl,h,aB⟩
 |[],y::ys,_,_,_,a,_=>by simp at a
 |x::xs,[],_,_,_,a,_=>by simp at a
 |x::xs,y::ys,us,vs,r,a,h=>by
  have e:xs.length=ys.length:=by simpa using a
  cases x<;>cases y<;>simp only[List.cons_append,fJ,reduceCtorEq] at h ⊢
  .split at h
   .rename_i f b
    obtain ⟨r1,r2,c,d,rfl⟩:=m4 e b
    cases h
    exact ⟨_,r2,by rw[c],d,by rw[Bool.and_assoc]⟩
   .cases h
  .split at h
   .rename_i g
    split at h
    .rename_i f b
     obtain ⟨r1,r2,c,d,rfl⟩:=m4 e b
     cases h
     exact ⟨_,r2,by rw[if_pos g,c],d,by rw[Bool.and_assoc]⟩
    .cases h
   .cases h
  .split at h
   .rename_i f b
    obtain ⟨r1,r2,c,d,rfl⟩:=m4 e b
    cases h
    exact ⟨_,r2,by rw[c],d,by rw[Bool.and_assoc]⟩
   .cases h
def Kd:List (Option Bool)->List Value->Prop
 |[],[]=>True
 |some true::ks,.int _ _::xs=>Kd ks xs
 |some false::ks,.bool _::xs=>Kd ks xs
 |none::ks,.string _::xs=>Kd ks xs
 |_,_=>False
theorem Kd.length:∀{ks:List (Option Bool)} {xs:List Value},Kd ks xs->xs.length=ks.length
 |[],[],_=>rfl
 |[],x::xs,h=>by simp[Kd] at h
 |k::ks,[],h=>by rcases k with _|_|_<;>simp[Kd] at h
 |k::ks,x::xs,h=>by
  have:Kd ks xs:=by rcases k with _|_|_<;>cases x<;>simp only[Kd] at h<;>exact h
  simp[Kd.length this]
theorem Kd.split:∀{ks:List (Option Bool)} {ls:List (Option Bool)} {xs:List Value},Kd (ks++ls) xs->Kd ks (xs.take ks.length)/\Kd ls (xs.drop ks.length)
 |[],_,_,h=>⟨by simp[Kd],by simpa using h⟩
 |k::ks,ls,[],h=>by rcases k with _|_|_<;>simp[Kd] at h
 |k::ks,ls,x::xs,h=>by
  rcases k with _|_|_<;>cases x<;>simp only[List.cons_append,Kd] at h
  all_goals
   obtain ⟨a,b⟩:=Kd.split h
   exact ⟨by simpa [Kd] using a,by simpa using b⟩
def m5 (P:Program)(g:TypeId->Option (List (Option Bool))):List Field->Nat->Option (List (Option Bool))
 |[],_=>some []
 |f::a,off=>if f.name≠ "_"/\f.offset=off then match g f.type with
   |some ks=>if cm P f.type=some ks.length then match m5 P g a (off+ks.length) with
     |some ls=>some (ks++ls)
     |none=>none
    else none
   |none=>none
  else none
def je (P:Program):Nat->TypeId->Option (List (Option Bool))
 |0,_=>none
 |d+1,t=>match P.underlying t with
  |some .bool=>if cC P t=some false then some [some false] else none
  |some (.int _)=>if cC P t=some false then some [some true] else none
  |some .string=>if cC P t=some false then some [none] else none
  |some (.struct a)=>if cC P t=some true/\P.stoodInHeld t=false then m5 P (je P d) a.toList 0 else none
  |some (.array n e)=>if cC P t=some true then match je P d e with
    |some ks=>if cm P e=some ks.length then some (List.replicate n ks).flatten else none
    |none=>none
   else none
  |_=>none
def Sc (v:Value):Prop:=(∃k a,v= .int k a)\/(∃b,v= .bool b)\/∃s,v= .string s
theorem Kd.sc:∀{ks:List (Option Bool)} {xs:List Value},Kd ks xs->∀x∈xs,Sc x
 |[],[],_=>by simp
 |[],x::xs,h=>by simp[Kd] at h
 |k::ks,[],h=>by simp
 |k::ks,x::xs,h=>by
  have:Sc x/\Kd ks xs:=by rcases k with _|_|_<;>cases x<;>simp only[Kd] at h<;>first|exact ⟨.inl ⟨_,_,rfl⟩,h⟩|exact ⟨.inr (.inl ⟨_,rfl⟩),h⟩|exact ⟨.inr (.inr ⟨_,rfl⟩),h⟩
  simpa using ⟨this.1,Kd.sc this.2⟩
theorem Sc.cells {v:Value}(h:Sc v):v.cells=#[v]:=by
 rcases h with ⟨k,a,rfl⟩|⟨b,rfl⟩|⟨b,rfl⟩<;>rfl
def Shape (P:Program)(t:TypeId)(v:Value):Prop:=(cC P t=some true->∃xs,v= .agg xs)/\(cC P t=some false->Sc v)
section
variable {P:Program}
theorem oZ {t:TypeId}{xs:Array Value}{off m:Nat}{g:Bool}{Q:Value->ag->Prop}{F:ag}(hg:cC P t=some g)(hs:cm P t=some m)(hm:g=false->m=1)(e:off+m<=xs.size)
  (d:∀x∈xs.toList,Sc x) (h:∀v,v.cells.toList=(xs.toList.drop off).take m->Shape P t v->Q v F):bA P (part t xs off) Q F:=by
 simp only[part,bE,k8,hg,dn]
 cases g with
 |true=>
  simp only[if_true,bE,ez,hs,bF]
  refine h _ ?_ ⟨fun _=>⟨_,rfl⟩,fun a=>by rw[hg] at a;cases a⟩
  simp only[Value.cells,Array.toList_extract,List.extract_eq_take_drop]
  congr 1;omega
 |false=>
  have:=hm rfl
  subst this
  have b:off<xs.size:=ai
  simp only[Bool.false_eq_true,if_false,Array.getElem?_eq_getElem b,bF]
  have c:=d xs[off] aB
  refine h _ ?_ ⟨fun a=>(by rw[hg] at a;cases a),fun _=>c⟩
  rw[c.cells]
  have:off<xs.toList.length:=by simpa using b
  rw[List.drop_eq_getElem_cons this]
  simp
def r5 (P:Program)(d:Nat)(t:TypeId)(ks:List (Option Bool)):Prop:=
 ∀(u v:Value) (r:Bool) (Q:Bool->ag->Prop) (F:ag),Shape P t u->Shape P t v->Kd ks u.cells.toList->Kd ks v.cells.toList->fJ u.cells.toList v.cells.toList=some r->Q r F->bA P (Op.equalIn d t u v) Q F
theorem xH {d t:Nat}{ks:List (Option Bool)}(h:je P d t=some ks):∃g,cC P t=some g/\(g=false->ks.length=1):=by
 cases d with
 |zero=>cases h
 |succ d=>
  unfold je at h;split at h
  .split at h
   .rename_i hg;cases h;exact ⟨_,hg,fun _=>rfl⟩
   .cases h
  .split at h
   .rename_i hg;cases h;exact ⟨_,hg,fun _=>rfl⟩
   .cases h
  .split at h
   .rename_i hg;cases h;exact ⟨_,hg,fun _=>rfl⟩
   .cases h
  .split at h
   .rename_i hg;exact ⟨true,hg.1,fun x=>by cases x⟩
   .cases h
  .split at h
   .rename_i hg;exact ⟨true,hg,fun x=>by cases x⟩
   .cases h
  .cases h
theorem xI {d:Nat}(ih:∀t ks,je P d t=some ks->r5 P d t ks){xs ys:Array Value}{Q:Bool->ag->Prop}{F:ag}(m:∀x∈xs.toList,Sc x)(n:∀x∈ys.toList,Sc x):
  ∀(c:List Field) (off:Nat) (ks:List (Option Bool)) (r:Bool),m5 P (je P d) c off=some ks->Kd ks (xs.toList.drop off)->Kd ks (ys.toList.drop off)->fJ (xs.toList.drop off) (ys.toList.drop off)=some r->off<=xs.size->off<=ys.size->Q r F->
  bA P (do
   let x<-forIn c ((none,()):Option Bool×Unit) fun f _=>do
    if f.name≠ "_" then
     if (!(<-Op.equalIn d f.type (<-part f.type xs f.offset) (<-part f.type ys f.offset)))=true then pure (ForInStep.done (some false,())) else pure (ForInStep.yield (none,()))
    else pure (ForInStep.yield (none,()))
   match x.fst with
    |some a=>pure a
    |none=>pure true:Sem Bool) Q F
 |[],off,ks,r,b,e,h,he,_,_,i=>by
  simp only[m5,Option.some.injEq] at b
  subst b
  have j:=e.length
  have l:=h.length
  rw[List.eq_nil_of_length_eq_zero j,List.eq_nil_of_length_eq_zero l] at he
  cases he
  simp only[List.forIn_nil,bE,bF]
  exact i
 |f::c,off,ks,r,b,e,h,he,D,E,i=>by
  unfold m5 at b
  split at b
  case isFalse=>cases b
  rename_i hn
  obtain ⟨hn,rfl⟩:=hn
  split at b
  case h_2=>cases b
  rename_i k o
  split at b
  case isFalse=>cases b
  rename_i hs
  split at b
  case h_2=>cases b
  rename_i ls w
  cases b
  obtain ⟨g,hg,p⟩:=xH o
  have y:=e.length
  have z:=h.length
  simp only[List.length_drop,Array.length_toList,List.length_append] at y z
  obtain ⟨A,q⟩:=e.split
  obtain ⟨B,s⟩:=h.split
  rw[List.drop_drop] at q s
  have e1:xs.toList.drop f.offset=(xs.toList.drop f.offset).take k.length++xs.toList.drop (f.offset+k.length):=by
   rw[<-List.drop_drop,List.take_append_drop]
  have e2:ys.toList.drop f.offset=(ys.toList.drop f.offset).take k.length++ys.toList.drop (f.offset+k.length):=by
   rw[<-List.drop_drop,List.take_append_drop]
  rw[e1,e2] at he
  obtain ⟨r1,r2,j,l,rfl⟩:=m4 (by simp;omega) he
  simp only[List.forIn_cons,bE,if_pos hn]
  refine oZ hg hs p ai m fun u hu C=>?_
  refine oZ hg hs p ai n fun v hv sv=>?_
  refine ih _ _ o u v r1 _ F C sv (by rw[hu];exact A) (by rw[hv];exact B) (by rw[hu,hv];exact j) ?_
  cases r1 with
  |false=>simpa [bF,dn] using i
  |true=>
   have:=xI ih m n c (f.offset+k.length) ls r2 w q s l ai ai (Q:=Q) (F:=F) (by simpa using i)
   simpa [bF,dn,bE] using this
theorem xJ {d e k:Nat}{ks:List (Option Bool)}{g:Bool}(s:r5 P d e ks)(h:ks.length=k)(hg:cC P e=some g)(j:g=false->ks.length=1)(hs:cm P e=some ks.length){xs ys:Array Value}{Q:Bool->ag->Prop}{F:ag}(t:∀x∈xs.toList,Sc x)(w:∀x∈ys.toList,Sc x):
  ∀(n i:Nat) (r:Bool),Kd (List.replicate n ks).flatten (xs.toList.drop (i*k))->Kd (List.replicate n ks).flatten (ys.toList.drop (i*k))->fJ (xs.toList.drop (i*k)) (ys.toList.drop (i*k))=some r->i*k<=xs.size->i*k<=ys.size->Q r F->
  bA P (do
   let x<-forIn (List.range' i n) ((none,()):Option Bool×Unit) fun i _=>do
    if (!(<-Op.equalIn d e (<-part e xs (i*k)) (<-part e ys (i*k))))=true then pure (ForInStep.done (some false,())) else pure (ForInStep.yield (none,()))
   match x.fst with
    |some a=>pure a
    |none=>pure true:Sem Bool) Q F
 |0,i,r,b,c,he,_,_,f=>by
  have l:=b.length
  have m:=c.length
  rw[List.eq_nil_of_length_eq_zero l,List.eq_nil_of_length_eq_zero m] at he
  cases he
  simp only[List.range'_zero,List.forIn_nil,bE,bF]
  exact f
 |n+1,i,r,b,c,he,D,E,f=>by
  have o:(i+1)*k=i*k+k:=by simp only[Nat.add_mul,Nat.one_mul]
  have A:=b.length
  have B:=c.length
  simp only[List.replicate_succ,List.flatten_cons,List.length_drop,Array.length_toList,List.length_append] at A B
  simp only[List.replicate_succ,List.flatten_cons] at b c
  obtain ⟨y,p⟩:=b.split
  obtain ⟨z,q⟩:=c.split
  rw[h] at y p z q
  rw[List.drop_drop,<-o] at p q
  have e1:xs.toList.drop (i*k)=(xs.toList.drop (i*k)).take k++xs.toList.drop ((i+1)*k):=by
   rw[o,<-List.drop_drop,List.take_append_drop]
  have e2:ys.toList.drop (i*k)=(ys.toList.drop (i*k)).take k++ys.toList.drop ((i+1)*k):=by
   rw[o,<-List.drop_drop,List.take_append_drop]
  rw[e1,e2] at he
  obtain ⟨r1,r2,l,m,rfl⟩:=m4 (by simp;omega) he
  simp only[List.range'_succ,List.forIn_cons,bE]
  refine oZ hg hs j ai t fun u hu C=>?_
  refine oZ hg hs j ai w fun v hv sv=>?_
  rw[h] at hu hv
  refine s u v r1 _ F C sv (by rw[hu];exact y) (by rw[hv];exact z) (by rw[hu,hv];exact l) ?_
  cases r1 with
  |false=>simpa [bF,dn] using f
  |true=>
   have:=xJ s h hg j hs t w n (i+1) r2 p q m ai ai (Q:=Q) (F:=F) (by simpa using f)
   simpa [bF,dn,bE] using this
theorem r6:∀(d t:Nat) (ks:List (Option Bool)),je P d t=some ks->r5 P d t ks
 |0,_,_,h=>by cases h
 |d+1,t,ks,h=>by
  intro u v r Q F i sv hu hv he j
  unfold je at h
  split at h
  .rename_i c
   split at h
   case isFalse=>cases h
   rename_i hg
   cases h
   have a1:=i.2 hg
   have f:=sv.2 hg
   rw[a1.cells] at he hu
   rw[f.cells] at he hv
   simp only[Op.equalIn,bE,cW,c]
   rcases a1 with ⟨k,a,rfl⟩|⟨a,rfl⟩|⟨a,rfl⟩<;>rcases f with ⟨m,b,rfl⟩|⟨b,rfl⟩|⟨b,rfl⟩<;>simp[Kd] at hu hv
   simp[fJ] at he
   subst he
   simpa [bF] using j
  .rename_i c
   split at h
   case isFalse=>cases h
   rename_i hg
   cases h
   have a1:=i.2 hg
   have f:=sv.2 hg
   rw[a1.cells] at he hu
   rw[f.cells] at he hv
   simp only[Op.equalIn,bE,cW,c]
   rcases a1 with ⟨k,a,rfl⟩|⟨a,rfl⟩|⟨a,rfl⟩<;>rcases f with ⟨m,b,rfl⟩|⟨b,rfl⟩|⟨b,rfl⟩<;>simp[Kd] at hu hv
   simp[fJ] at he
   obtain ⟨l,rfl⟩:=he
   simpa [bF,dn,l] using j
  .rename_i c
   split at h
   case isFalse=>cases h
   rename_i hg
   cases h
   have a1:=i.2 hg
   have f:=sv.2 hg
   rw[a1.cells] at he hu
   rw[f.cells] at he hv
   simp only[Op.equalIn,bE,cW,c]
   rcases a1 with ⟨k,a,rfl⟩|⟨a,rfl⟩|⟨a,rfl⟩<;>rcases f with ⟨m,b,rfl⟩|⟨b,rfl⟩|⟨b,rfl⟩<;>simp[Kd] at hu hv
   simp[fJ] at he
   subst he
   simp only[bF,BU]
   simpa using j
  .rename_i o c
   split at h
   case isFalse=>cases h
   rename_i hg
   obtain ⟨hg,p⟩:=hg
   obtain ⟨xs,rfl⟩:=i.1 hg
   obtain ⟨ys,rfl⟩:=sv.1 hg
   simp only[Op.equalIn,bE,cW,c,jd,p,Bool.false_eq_true,if_false,dn,bF]
   have:=xI (P:=P) (d:=d) (fun t ks q=>r6 d t ks q) (xs:=xs) (ys:=ys) (Q:=Q) (F:=F) hu.sc hv.sc o.toList 0 ks r h (by simpa [Value.cells] using hu) (by simpa [Value.cells] using hv) (by simpa [Value.cells] using he) ai ai j
   rw[<-Array.forIn_toList]
   simp[bE] at this ⊢
   exact fW (fun a G h=>by rcases a with ⟨_|_,_⟩<;>exact h) _ _ this
  .rename_i n e c
   split at h
   case isFalse=>cases h
   rename_i hg
   split at h
   case h_2=>cases h
   rename_i k l
   split at h
   case isFalse=>cases h
   rename_i hs
   cases h
   obtain ⟨xs,rfl⟩:=i.1 hg
   obtain ⟨ys,rfl⟩:=sv.1 hg
   obtain ⟨g,s,w⟩:=xH l
   simp only[Op.equalIn,bE,cW,c,ez,hs]
   have:=xJ (P:=P) (d:=d) (r6 d e k l) rfl s w hs (xs:=xs) (ys:=ys) (Q:=Q) (F:=F) hu.sc hv.sc n 0 r (by simpa [Value.cells] using hu) (by simpa [Value.cells] using hv) (by simpa [Value.cells] using he) aB aB j
   simp only[Std.Legacy.Range.forIn_eq_forIn_range',Std.Legacy.Range.size,Nat.sub_zero,Nat.add_one_sub_one,Nat.div_one]
   simp[bE] at this ⊢
   exact fW (fun a G h=>by rcases a with ⟨_|_,_⟩<;>exact h) _ _ this
  .cases h
def gZ:List (Option Bool)->List Value->Bool
 |[],[]=>true
 |some true::ks,.int _ _::xs=>gZ ks xs
 |some false::ks,.bool _::xs=>gZ ks xs
 |none::ks,.string _::xs=>gZ ks xs
 |_,_=>false
theorem r7:∀{ks:List (Option Bool)} {xs:List Value},gZ ks xs=true->Kd ks xs
 |[],[],_=>trivial
 |[],x::xs,h=>by simp[gZ] at h
 |k::ks,[],h=>by rcases k with _|_|_<;>simp[gZ] at h
 |k::ks,x::xs,h=>by
  rcases k with _|_|_<;>cases x<;>first
   |(simp only[gZ,reduceCtorEq,Bool.false_eq_true] at h;done)
   |exact r7 (ks:=ks) (xs:=xs) (by simpa only[gZ] using h)
def m6 (P:Program)(t:TypeId):Option (List (Option Bool)):=if P.eqGuardType P.depth t=false/\cC P t=some true then je P Op.maxDepth t else none
def lf (P:Program)(t:TypeId):Value->Value->Option Bool
 | .agg xs,.agg ys=>match m6 P t with
  |some ks=>if gZ ks xs.toList&&gZ ks ys.toList then fJ xs.toList ys.toList else none
  |none=>none
 |_,_=>none
theorem r8 {t:TypeId}{u v:Value}{r:Bool}{Q:Bool->ag->Prop}{F:ag}(h:lf P t u v=some r)(c:Q r F):bA P (Op.equal t u v) Q F/\P.eqGuardType P.depth t=false/\(∃xs,u= .agg xs)/\∃ys,v= .agg ys:=by
 unfold lf at h;split at h
 case h_2=>cases h
 rename_i xs ys;split at h
 case h_2=>cases h
 rename_i ks a;split at h
 case isFalse=>cases h
 rename_i b;simp only[Bool.and_eq_true] at b;unfold m6 at a;split at a
 case isFalse=>cases a
 rename_i hg;refine ⟨?_,hg.1,⟨_,rfl⟩,_,rfl⟩;exact r6 _ _ _ a _ _ r Q F ⟨fun _=>⟨_,rfl⟩,fun x=>by rw[hg.2] at x;cases x⟩ ⟨fun _=>⟨_,rfl⟩,fun x=>by rw[hg.2] at x;cases x⟩ (r7 b.1) (r7 b.2) h c
def r9 (P:Program)(t:TypeId):Bool:=match P.underlying t with|some .bool=>true|_=>false
def lg (P:Program)(t:TypeId):Bool:=match P.underlying t with|some (.slice _)=>true|_=>false
def m7 (P:Program)(t:TypeId):Value->Value->Option Bool
 | .bool a,.bool b=>if r9 P t=true then some (a==b) else none
 | .slice none _ _,.slice b _ _=>if lg P t=true then some b.isNone else none
 | .slice (some _) _ _,.slice none _ _=>if lg P t=true then some false else none
 |_,_=>none
theorem xK {t:TypeId}{u v:Value}{r:Bool}{Q:Bool->ag->Prop}{F:ag}(h:m7 P t u v=some r)(e:Q r F):bA P (Op.equal t u v) Q F/\((∃a b,u= .bool a/\v= .bool b)\/∃a n c b m d,u= .slice a n c/\v= .slice b m d):=by
 obtain ⟨d,hd⟩:∃d,Op.maxDepth=d+1:=⟨_,rfl⟩
 unfold m7 at h;split at h
 .split at h
  .rename_i hb;cases h;unfold r9 at hb;split at hb
   .rename_i hu;refine ⟨?_,.inl ⟨_,_,rfl,rfl⟩⟩;unfold Op.equal;rw[hd];simp only[Op.equalIn,bE,cW,hu,bF];exact e
   .cases hb
  .cases h
 .split at h
  .rename_i hb;cases h;unfold lg at hb;split at hb
   .rename_i hu;refine ⟨?_,.inr ⟨_,_,_,_,_,_,rfl,rfl⟩⟩;unfold Op.equal;rw[hd];simp only[Op.equalIn,bE,cW,hu,bF];exact e
   .cases hb
  .cases h
 .split at h
  .rename_i hb;cases h;unfold lg at hb;split at hb
   .rename_i hu;refine ⟨?_,.inr ⟨_,_,_,_,_,_,rfl,rfl⟩⟩;unfold Op.equal;rw[hd];simp only[Op.equalIn,bE,cW,hu,bF];exact e
   .cases hb
  .cases h
 .cases h
def m8 (P:Program)(op:BinOp)(t:TypeId)(u v:Value):Option Value:=
 match k9 op u v with
 |some w=>some w
 |none=>match op with
  | .eql=>match lf P t u v with
   |some r=>some (.bool r)
   |none=>match m7 P t u v with
    |some r=>some (.bool r)
    |none=>none
  | .neq=>match lf P t u v with
   |some r=>some (.bool (!r))
   |none=>match m7 P t u v with
    |some r=>some (.bool (!r))
    |none=>none
  | .shr=>match u,v with
   | .int k a,.int _ b=>if b<0 then none else some (.int k (a.fdiv (2 ^ min b.toNat k.bits)))
   |_,_=>none
  | .shl=>match u,v with
   | .int k a,.int _ b=>if b<0 then none else some (.int k (k.wrap (a*2 ^ min b.toNat k.bits)))
   |_,_=>none
  |_=>none
theorem BV {op:BinOp}{t:TypeId}{x y:Operand}{u v w:Value}{Q:Value->ag->Prop}{F:ag}(h:m8 P op t u v=some w)(e:Q w F):bA P (do eqGuard op t x y u v;binOp op t u v) Q F:=by
 unfold m8 at h;split at h
 .rename_i w' hw;cases h;exact BQ hw e
 .split at h
  .split at h
   .rename_i r f;cases h;obtain ⟨g,i,⟨xs,rfl⟩,ys,rfl⟩:=r8 (Q:=fun r G=>Q (.bool r) G) f e;simp only[bE,eqGuard,binOp,jd,i,dn,bF];simpa using g
   .split at h
    .rename_i r f;cases h;obtain ⟨g,i⟩:=xK (Q:=fun r G=>Q (.bool r) G) f e;rcases i with ⟨a,b,rfl,rfl⟩|⟨a,n,c,b,m,d,rfl,rfl⟩<;>
     .simp only[bE,eqGuard,binOp,jd,dn,bF];simpa using g
    .cases h
  .split at h
   .rename_i r f;cases h;obtain ⟨g,i,⟨xs,rfl⟩,ys,rfl⟩:=r8 (Q:=fun r G=>Q (.bool (!r)) G) f e;simp only[bE,eqGuard,binOp,jd,i,dn,bF];simpa using g
   .split at h
    .rename_i r f;cases h;obtain ⟨g,i⟩:=xK (Q:=fun r G=>Q (.bool (!r)) G) f e;rcases i with ⟨a,b,rfl,rfl⟩|⟨a,n,c,b,m,d,rfl,rfl⟩<;>
     .simp only[bE,eqGuard,binOp,jd,dn,bF];simpa using g
    .cases h
  .split at h
   .split at h
    .cases h
    .rename_i hb;cases h;rw[bE];refine r4 .shr t x y _ _ _ _ ?_;simp only[binOp,Op.shift,dn];rw[if_neg hb];exact e
   .cases h
  .split at h
   .split at h
    .cases h
    .rename_i hb;cases h;rw[bE];refine r4 .shl t x y _ _ _ _ ?_;simp only[binOp,Op.shift,dn];rw[if_neg hb];exact e
   .cases h
  .cases h
end
theorem sd {P:Program}{t e:TypeId}(h:dL P t=some e):P.underlying t=some (.slice e):=by
 unfold dL at h;split at h
 .rename_i a he;cases h;exact he
 .cases h
theorem xL (n:Nat):∀(r c:Nat),Builtin.growBy n r c<=2 ^ r*(c+768)
 |0,c=>by simp[Builtin.growBy]
 |r+1,c=>by
  unfold Builtin.growBy
  split
  .have:1<=2 ^ (r+1):=Nat.one_le_two_pow
   have:=Nat.mul_le_mul_right (c+768) this
   omega
  .have h:=xL n r (c+(c+768)/4)
   refine Nat.le_trans h ?_
   rw[Nat.pow_succ,Nat.mul_assoc]
   refine Nat.mul_le_mul_left _ ?_
   omega
theorem nextslicecap_le {n c:Nat}(h:c<n)(hn:n<=1000000):Builtin.nextslicecap n c<=20000000:=by
 unfold Builtin.nextslicecap;split
 .omega
 .split
  .omega
  .have a:=xL n 4 c;have e:(2:Nat) ^ 4=16:=av;rw[e] at a;refine Nat.le_trans a ?_;omega
section
variable {P:Program}
theorem xM {Q:Array Value->ag->Prop}{F:ag}(a:Addr){n:Nat}{vs:List Value}(h:F.cX a 0 n=some vs)(b:Q vs.toArray F):bA P (loadCells a n) Q F:=by
 obtain ⟨c,d⟩:=rZ F a n 0 vs h;subst d;exact rW a vs 0 #[] c (by simpa using b)
def fK (F:ag)(size:Nat):Value->Option (List Value)
 | .slice (some a) n _=>F.cX a 0 (n*size)
 | .slice none 0 _=>some []
 |_=>none
theorem se {Q:Array Value->ag->Prop}{F:ag}{size n:Nat}{ad:Option Addr}{c:Nat}{vs:List Value}(h:fK F size (.slice ad n c)=some vs)(b:Q vs.toArray F):bA P (Builtin.firstCells size n (.slice ad n c)) Q F:=by
 cases ad with
 |none=>
  cases n with
  |zero=>simp only[fK,Option.some.injEq] at h;subst h;exact b
  |succ n=>simp[fK] at h
 |some a=>exact xM a h b
theorem BW {Q:Unit->ag->Prop}{F:ag}(n:Nat)(h:Q () F):bA P (askRoom n) Q F:=by
 unfold askRoom;rw[dn];split
 .exact ⟨rfl,h⟩
 .exact h
theorem si {F:ag}{Q:Value->ag->Prop}{argTypes:Array TypeId}{ty i j e p:TypeId}{size d len cap n c:Nat}{base l:Option Addr}{z:Value}{old new:List Value}
  (q:argTypes[0]?=some i) (r:argTypes[1]?=some j) (he:dL P i=some e) (s:dL P j=some p) (hs:cm P e=some size) (u:zeroOf P e=some z) (hb:bytesOf P e=some d)
  (C:0<d) (v:d<=10000) (w:len+n<=1000000) (hold:fK F size (.slice base len cap)=some old) (m:fK F size (.slice l n c)=some new)
  (f:len+n<=cap->(∃a F',base=some a/\F.gY (a.add (len*size)) 0 new=some F'/\Q (.slice base (len+n) cap) F')\/(base=none/\Q (.slice base (len+n) cap) F))
  (x:cap<len+n->∀k b,len+n<=k->dP F b->Q (.slice (some ⟨b,0,none⟩) (len+n) k) (F.push b (.cells (old.toArray++new.toArray++Builtin.zeroCells z.cells (k - (len+n))) e))):
  bA P (Builtin.append_ argTypes ty #[.slice base len cap,.slice l n c]) Q F:=by
 have hu:=sd he
 have y:=sd s
 unfold bytesOf at hb
 obtain ⟨info,hi,rfl⟩:=Option.map_eq_some_iff.1 hb
 simp only[Builtin.append_,q,r,List.getElem?_toArray,List.getElem?_cons_zero,List.getElem?_cons_succ,bE,cW,hu,y,ez,hs,bF,Builtin.lenOf,Bool.false_eq_true,if_false,dn,Bool.not_false,if_true,rV,hi]
 split
 .rename_i hle
  have f:=f hle
  refine se m ?_
  rcases f with ⟨a,F',rfl,A,g⟩|⟨rfl,g⟩
  .simp only[bE]
   refine mZ _ _ 0 F F' (by simpa using A) ?_
   exact g
  .exact g
 .rename_i D
  have B:=nextslicecap_le (n:=len+n) (c:=cap) ai w
  have e1:¬(((len+n:Nat):Int)>IntKind.i64.max/\(false=true\/info.bytes=0)):=by
   rintro ⟨_,h|h⟩
   .cases h
   .omega
  have e2:¬(Builtin.nextslicecap (len+n) cap*info.bytes>2 ^ 48):=by
   have:Builtin.nextslicecap (len+n) cap*info.bytes<=20000000*10000:=Nat.mul_le_mul B v
   omega
  rw[if_neg (by simpa using e1),if_neg e2]
  rw[xB]
  rw[if_neg (by simp[Question.forced])]
  intro t
  have o:len+n<=(Question.appendCap (len+n) cap e).cut t:=Nat.le_add_right _ _
  generalize (Question.appendCap (len+n) cap e).cut t=k at o ⊢
  refine BW _ ?_
  refine se hold ?_
  refine se m ?_
  simp only[bE,k7,u,rX,bF]
  exact fun b hb=>x ai k b o hb
end
theorem sj:∀{pre:List (Nat×Obj)} {b:Nat} {o:Obj},aQ pre b->lk (pre++[(b,o)]) b=some o
 |[],b,o,_=>by simp[lk]
 |(c,x)::pre,b,o,h=>by
  have a:¬c=b:=fun e=>h.1 e.symm
  simp[lk,a,sj h.2]
def bS (arr:Array Value)(k:Nat):List Value->Array Value
 |[]=>arr
 |v::vs=>bS (arr.setIfInBounds k v) (k+1) vs
theorem o3:∀(vs:List Value) (arr:Array Value) (k:Nat),(bS arr k vs).size=arr.size
 |[],_,_=>rfl
 |v::vs,arr,k=>by rw[bS,o3 vs];simp
theorem o4:∀(vs:List Value) (arr:Array Value) (k:Nat),k+vs.length<=arr.size->(bS arr k vs).toList=arr.toList.take k++vs++arr.toList.drop (k+vs.length)
 |[],arr,k,_=>by simp[bS]
 |v::vs,arr,k,h=>by
  simp only[List.length_cons] at h
  rw[bS,o4 vs _ _ (by simp;omega)]
  have a:k<arr.toList.length:=by simp;omega
  rw[Array.toList_setIfInBounds]
  have e1:(arr.toList.set k v).take (k+1)=arr.toList.take k++[v]:=by
   rw[List.take_succ_eq_append_getElem (by simpa using a),List.take_set_of_le (Nat.le_refl _)]
   simp
  have e2:(arr.toList.set k v).drop (k+1+vs.length)=arr.toList.drop (k+(v::vs).length):=by
   rw[List.drop_set_of_lt ai]
   congr 1
   simp;omega
  rw[e1,e2]
  simp
def Gr (ro:Addr->Option Value)(e:TypeId)(size:Nat)(v:Value)(l:List (List Value))(bz:List (Nat×Obj)):Prop:=
 (v= .slice none 0 0/\l=[]/\bz=[])\/
 ∃b arr cap,v= .slice (some ⟨b,0,none⟩) l.length cap/\bz=[(b,.cells arr e)]/\arr.size=cap*size/\l.length<=cap/\arr.toList.take (l.length*size)=l.flatten/\(∀x∈l,x.length=size)/\∀off sp,ro ⟨b,off,sp⟩=none
theorem gM {size:Nat}:∀{l:List (List Value)},(∀x∈l,x.length=size)->l.flatten.length=l.length*size
 |[],_=>by simp
 |x::l,h=>by
  have ih:l.flatten.length=l.length*size:=gM (fun y a=>h y (List.mem_cons_of_mem _ a))
  simp only[List.flatten_cons,List.length_append,List.length_cons,h x aB,ih,Nat.add_mul,Nat.one_mul]
  omega
theorem xN {ro:Addr->Option Value}{pre:List (Nat×Obj)}{b:Nat}{e:TypeId}{arr:Array Value}(a:aQ pre b)(c:∀off sp,ro ⟨b,off,sp⟩=none):∀(n i:Nat),i+n<=arr.size->
  ag.cX ⟨ro,pre++[(b,.cells arr e)]⟩ ⟨b,0,none⟩ i n=some ((arr.toList.drop i).take n)
 |0,i,_=>by simp[ag.cX]
 |n+1,i,h=>by
  have f:(⟨b,0,none⟩:Addr).add i=⟨b,i,none⟩:=by
   unfold Addr.add
   split
   .rename_i hi;subst hi;rfl
   .simp
  have d:i<arr.size:=ai
  unfold ag.cX
  have ih:=xN (e:=e) (arr:=arr) a c n (i+1) ai
  simp only[ag.get,f,c,if_true,sj a,Option.bind_some,cellOf,Array.getElem?_eq_getElem d,ih]
  have g:i<arr.toList.length:=by simpa using d
  rw[List.drop_eq_getElem_cons g,List.take_succ_cons]
  simp
theorem Gr.fK {ro:Addr->Option Value}{e:TypeId}{size:Nat}{v:Value}{l:List (List Value)}{bz pre:List (Nat×Obj)}(h:Gr ro e size v l bz)(a:∀k∈keys bz,aQ pre k):
  Go.Sep.fK ⟨ro,pre++bz⟩ size v=some l.flatten:=by
 rcases h with ⟨rfl,rfl,rfl⟩|⟨b,arr,cap,rfl,rfl,hs,c,ht,f,d⟩
 .rfl
 .simp only[Go.Sep.fK]
  have hle:l.length*size<=arr.size:=by rw[hs];exact Nat.mul_le_mul_right _ c
  rw[xN (a b (by simp[keys])) d _ _ ai]
  simp[ht]
def m9 (P:Program)(t:TypeId)(parts:List (Nat×Value)):Option Value:=
 match zeroOf P t,placesOf P t with
 |some z,some pl=>match Instr.fill (fun i=>pl[i]?) z.cells parts with
  |some cs=>some (.agg cs)
  |none=>none
 |_,_=>none
theorem xO {P:Program}{Q:Array (Nat×Nat)->ag->Prop}{F:ag}:∀(a:List Field) (pl:List (Nat×Nat)) (acc:Array (Nat×Nat)),(a.mapM fun f=>(cm P f.type).map fun s=>(f.offset,s))=some pl->
  Q (acc++pl.toArray) F->bA P (a.foldlM (fun (b:Array (Nat×Nat)) f=>do let s<-sizeOf f.type;pure (b.push (f.offset,s))) acc) Q F
 |[],pl,acc,h,c=>by
  simp at h;subst h
  simpa [bF] using c
 |f::a,pl,acc,h,c=>by
  simp only[List.mapM_cons] at h
  cases hs:cm P f.type with
  |none=>simp[hs] at h
  |some s=>
   cases d:(a.mapM fun f=>(cm P f.type).map fun s=>(f.offset,s)) with
   |none=>simp[hs,d] at h
   |some e=>
    simp[hs,d] at h
    subst h
    simp only[List.foldlM_cons,bE,ez,hs,bF]
    exact xO a e _ d (by simpa using c)
theorem BX {P:Program}{Q:Array (Nat×Nat)->ag->Prop}{F:ag}(a:Array Field)(pl:List (Nat×Nat))(h:(a.toList.mapM fun f=>(cm P f.type).map fun s=>(f.offset,s))=some pl)
  (b:Q pl.toArray F):bA P (a.mapM fun f=>do let s<-sizeOf f.type;pure (f.offset,s)) Q F:=by
 rw[Array.mapM_eq_foldlM,<-Array.foldlM_toList]
 have:=xO (Q:=Q) (F:=F) a.toList pl #[] h (by simpa using b)
 simpa using this
theorem BY {P:Program}{t:TypeId}{parts:Array (Nat×Value)}{w:Value}{Q:Value->ag->Prop}{F:ag}(h:m9 P t parts.toList=some w)(b:Q w F):bA P (Instr.build t parts) Q F:=by
 unfold m9 at h;split at h
 case h_2=>cases h
 rename_i z pl c a;split at h
 case h_2=>cases h
 rename_i cs d;cases h;unfold placesOf at a;split at a
 case h_2=>cases a
 rename_i e f;simp only[Instr.build,bE,k7,c,cW,f];refine BX e pl a ?_;simp only[List.getElem?_toArray,d,bF];exact b
def o5 (P:Program)(t:TypeId)(len:Nat)(parts:List (Nat×Value)):Option (TypeId×Array Value):=
 match dL P t with
 |some e=>match cm P e,zeroOf P e with
  |some size,some z=>if len*size<=2 ^ 24/\0<len*size then
    match Instr.fill (fun i=>some (i*size,size)) ((Array.range (len*size)).map (z.cells[· % z.cells.size]!)) parts with
    |some cs=>some (e,cs)
    |none=>none
   else if len*size=0/\parts.isEmpty=true then some (e,#[]) else none
  |_,_=>none
 |none=>none
theorem BZ {P:Program}{t:TypeId}{len:Nat}{parts:Array (Nat×Value)}{e:TypeId}{cs:Array Value}{Q:Value->ag->Prop}{F:ag}(h:o5 P t len parts.toList=some (e,cs))
  (d:∀b,dP F b->Q (.slice (some ⟨b,0,none⟩) len len) (F.push b (.cells cs e))):bA P (Instr.buildSlice t len parts) Q F:=by
 unfold o5 at h
 split at h
 case h_2=>cases h
 rename_i f he
 split at h
 case h_2=>cases h
 rename_i size z hs g
 split at h
 case isFalse=>
  split at h
  case isFalse=>cases h
  rename_i hb
  cases h
  have hu:P.underlying t=some (.slice e):=by
   unfold dL at he
   split at he
   .rename_i f a;cases he;exact a
   .cases he
  have c:¬(len*size>2 ^ 24):=by rw[hb.1];decide
  have i:parts.toList=[]:=List.isEmpty_iff.1 hb.2
  simp only[Instr.buildSlice,bE,cW,hu,ez,hs,dn,if_neg c,if_pos hb.1,bF,i]
  rw[hb.1]
  have e0:Array.range 0=#[]:=rfl
  simp only[e0,Array.map_empty,Instr.fill,bE,rX,bF]
  exact d
 rename_i hb
 split at h
 case h_2=>cases h
 rename_i cs' j
 cases h
 have hu:P.underlying t=some (.slice e):=by
  unfold dL at he
  split at he
  .rename_i f a;cases he;exact a
  .cases he
 have c:¬(len*size>2 ^ 24):=ai
 have k:¬(len*size=0):=ai
 simp only[Instr.buildSlice,bE,cW,hu,ez,hs,dn,if_neg c,if_neg k,k7,g,bF,j,rX]
 exact d
def ng (P:Program)(t:TypeId)(n:Nat):Value->Option Value
 | .agg cs=>match xF P t n with
  |some (off,s,true)=>some (.agg (cs.extract off (off+s)))
  |some (off,_,false)=>cs[off]?
  |none=>none
 |_=>none
theorem B1 {P:Program}{t:TypeId}{n:Nat}{u w:Value}{Q:Value->ag->Prop}{F:ag}(h:ng P t n u=some w)(b:Q w F):bA P (Instr.field t u n) Q F:=by
 cases u<;>simp only[ng,reduceCtorEq] at h;rename_i cs;unfold xF at h;cases hu:P.underlying t with
 |none=>simp[hu] at h
 |some d=>
  cases d<;>simp only[hu,reduceCtorEq] at h;rename_i c;cases a:c[n]? with
  |none=>simp[a] at h
  |some f=>
   simp only[a] at h;cases hs:cm P f.type with
   |none=>simp[hs] at h
   |some s=>
    cases hg:cC P f.type with
    |none=>simp[hs,hg] at h
    |some g=>
     simp only[hs,hg] at h;simp only[Instr.field,bE,cW,hu,a,BN,part,k8,hg,dn];cases g with
     |true=>simp only[Option.some.injEq] at h;subst h;simpa [ez,hs,bF] using b
     |false=>
      simp only at h;simp only[Bool.false_eq_true,if_false,h];exact b
def o6 (n:Nat):Value->Option Value
 | .tuple vs=>vs[n]?
 |_=>none
def ko (P:Program)(src dst:TypeId):Value->Option Value
 | .int _ n=>match P.underlying src,P.underlying dst with
  |some (.int _),some (.int k)=>some (.int k (k.wrap n))
  |_,_=>none
 |_=>none
theorem B2 {P:Program}{src dst:TypeId}{u w:Value}{Q:Value->ag->Prop}{F:ag}(h:ko P src dst u=some w)(a:Q w F):bA P (convert src dst u) Q F:=by
 cases u<;>simp only[ko,reduceCtorEq] at h;rename_i k n;split at h
 .rename_i k1 d b c;cases h;simp only[convert,bE,cW,b,c,Conv.intToInt,bF];exact a
 .cases h
def o7 (P:Program)(t:TypeId):Value->Option Value
 | .slice _ n _=>match dL P t with
  |some _=>some (.int .i64 n)
  |none=>none
 | .string s=>match P.underlying t with
  |some .string=>some (.int .i64 s.size)
  |_=>none
 |_=>none
theorem B3 (l:List UInt8):((⟨⟨l⟩⟩:ByteArray).size)=l.length:=rfl
theorem B4 (l:List UInt8)(i:Nat):(⟨⟨l⟩⟩:ByteArray)[i]?=l[i]?:=by
 rcases Nat.lt_or_ge i l.length with h|h
 .rw[ByteArray.getElem?_lt' _ _ h,List.getElem?_eq_getElem h];rfl
 .rw[ByteArray.getElem?_ge' _ _ (Nat.not_lt.2 h),List.getElem?_eq_none h]
attribute [go_sem] B3 B4
def ni (P:Program)(t:TypeId):Value->Value->Option Value
 | .agg cs,.int _ i=>match jG P t with
  |some (len,e)=>match cm P e,cC P e with
   |some s,some true=>if 0<=i/\i<(len:Int) then some (.agg (cs.extract (i.toNat*s) (i.toNat*s+s))) else none
   |some s,some false=>if 0<=i/\i<(len:Int) then cs[i.toNat*s]? else none
   |_,_=>none
  |none=>none
 | .string s,.int _ i=>match P.underlying t with
  |some .string=>if 0<=i then (s[i.toNat]?).map fun b=>.int .u8 b.toNat else none
  |_=>none
 |_,_=>none
theorem B5 {P:Program}{t:TypeId}{u v w:Value}{Q:Value->ag->Prop}{F:ag}(h:ni P t u v=some w)(a:Q w F):bA P (Instr.index t u v) Q F:=by
 unfold ni at h;split at h
 case h_3=>cases h
 case h_2=>
  rename_i s k i;split at h
  case h_2=>cases h
  rename_i hu;split at h
  case isFalse=>cases h
  rename_i hi;obtain ⟨b,hb,rfl⟩:=Option.map_eq_some_iff.1 h;simp only[Instr.index,bE,jF,cW,hu,if_pos hi,hb,bF];exact a
 rename_i cs k i;split at h
 case h_2=>cases h
 rename_i len e he;have hu:P.underlying t=some (.array len e):=by
  unfold jG at he;split at he
  .rename_i d f c;cases he;exact c
  .cases he
 split at h
 .rename_i s hs hg;split at h
  case isFalse=>cases h
  rename_i hi;cases h;simp only[Instr.index,bE,jF,cW,hu,dn,if_pos hi,ez,hs,part,k8,hg,if_true,bF];exact a
 .rename_i s hs hg;split at h
  case isFalse=>cases h
  rename_i hi;simp only[Instr.index,bE,jF,cW,hu,dn,if_pos hi,ez,hs,part,k8,hg,Bool.false_eq_true,if_false,h,bF];exact a
 .cases h
def o8 (P:Program)(argTypes:Array TypeId)(s x:Value)(R:Value->ag->Prop)(F:ag):Prop:=
 ∀ty,bA P (Builtin.append_ argTypes ty #[s,x]) (fun v F=>∃F0,Le F0 F/\R v F0) F
def Oper.o9 (o:Oper):Bool:=match o.op with| .call {callee:=.builtin .append, ..}=>true|_=>false
def fX (P:Program)(J:Goroutine->ag->Prop)(y:Value)(args:Array Value)(F:ag)(R:Value->ag->Prop):Prop:=
 match y with
 | .func (.func fn) first captured=>aO P fn=true/\c8 P J fn (first++args++captured) F R
 | .func (.yield l) first captured=>first=#[]/\captured=#[]/\∃r,F.cY l=some (.loop r)/\args.size=r.params.size/\iz J l r.fn ((r.params.zip args).foldl (fun tmps (t,a)=>tmps.setIfInBounds t a) r.tmps) r.assign r.body F R
 |_=>False
theorem fX.mono {P:Program}{J:Goroutine->ag->Prop}{y:Value}{args:Array Value}{F:ag}{R a:Value->ag->Prop}(h:fX P J y args F R)(b:∀v F',R v F'->a v F'):fX P J y args F a:=by
 unfold fX at h ⊢;split at h
 .exact ⟨h.1,h.2.mono b⟩
 .obtain ⟨e1,e2,r,c,d,e⟩:=h;exact ⟨e1,e2,r,c,d,e.mono b⟩
 .exact h.elim
theorem B6 {P:Program}{J:Goroutine->ag->Prop}{fn:FuncId}{first captured args:Array Value}{F:ag}{R:Value->ag->Prop}:fX P J (.func (.func fn) first captured) args F R=(aO P fn=true/\c8 P J fn (first++args++captured) F R):=rfl
def cE (P:Program)(m:Sem Value)(R:Value->ag->Prop)(F:ag):Prop:=bA P m R F
def cT (P:Program)(J:Goroutine->ag->Prop)(o:Oper)(R:Value->ag->Prop)(a:Act)(F:ag):Prop:=
 match o.op with
 | .move x| .assign x=>R (ev a x) F
 | .nilCheck x=>match ev a x with
  | .pointer (some _)=>R (ev a x) F
  |_=>False
 | .pick c x y=>match ev a c with
  | .bool b=>R (if b then ev a x else ev a y) F
  |_=>False
 | .alloc t=>match zeroOf P t with
  |some z=>∀b,dP F b->R (.pointer (some ⟨b,0,none⟩)) (F.push b (.cells z.cells t))
  |none=>False
 | .box t x=>∀b,dP F b->R (.pointer (some ⟨b,0,none⟩)) (F.push b (.cells (ev a x).cells t))
 | .build t parts=>match m9 P t (parts.map fun (i,x)=>(i,ev a x)).toList with
  |some v=>R v F
  |none=>False
 | .buildSlice t len parts=>match o5 P t len (parts.map fun (i,x)=>(i,ev a x)).toList with
  |some (e,cs)=>∀b,dP F b->R (.slice (some ⟨b,0,none⟩) len len) (F.push b (.cells cs e))
  |none=>False
 | .load t x=>match ev a x with
  | .pointer (some ad)=>match e5 P F t ad with
   |some v=>R v F
   |none=>False
  |_=>False
 | .store t x y=>match ev a x with
  | .pointer (some ad)=>match oW P F t ad (ev a y) with
   |some F'=>R undef F'
   |none=>False
  |_=>False
 | .binOp op t x y _=>match m8 P op t (ev a x) (ev a y) with
  |some v=>R v F
  |none=>False
 | .unOp op _ x=>match kg op (ev a x) with
  |some v=>R v F
  |none=>False
 | .convert src dst x=>match ko P src dst (ev a x) with
  |some v=>R v F
  |none=>False
 | .makeFunc fn first captured=>R (.func fn (first.map (ev a)) (captured.map (ev a))) F
 | .slice t x lo hi none=>(match ev a x with| .slice _ len cap=>len<=cap| .pointer (some _)=>True|_=>False)/\match ki P t (ev a x) (lo.map (ev a)) (hi.map (ev a)) with
  |some v=>R v F
  |none=>False
 | .fieldAddr s x n=>match ev a x with
  | .pointer (some ad)=>match dr P s n with
   |some k=>R (.pointer (some (ad.add k))) F
   |none=>False
  |_=>False
 | .field s x n=>match ng P s n (ev a x) with
  |some v=>R v F
  |none=>False
 | .indexAddr t x i=>match m3 P t (ev a x) (ev a i) with
  |some v=>R v F
  |none=>False
 | .index t x i=>match ni P t (ev a x) (ev a i) with
  |some v=>R v F
  |none=>False
 | .extract x n=>match o6 n (ev a x) with
  |some v=>R v F
  |none=>False
 | .call {callee:=.value x,args, ..}=>fX P J (ev a x) (args.map (ev a)) F R
 | .call {callee:=.builtin .len,args,argTypes}=>match argTypes[0]?,args[0]? with
  |some t,some x=>match o7 P t (ev a x) with
   |some v=>R v F
   |none=>cE P (Builtin.len_ argTypes o.type (args.map (ev a))) R F
  |_,_=>False
 | .makeMap t r=>cE P (Instr.makeMap t (r.map (ev a))) R F
 | .makeSlice t l c=>cE P (Instr.makeSlice t (ev a l) (ev a c)) R F
 | .lookup t m k ok=>cE P (Instr.lookup t (ev a m) (ev a k) ok) R F
 | .range t x=>cE P (Instr.range t (ev a x)) R F
 | .next x st=>cE P (Instr.next (ev a x) st o.type) R F
 | .entry x=>cE P (Instr.entry (ev a x)) R F
 | .mapUpdate t m k x=>cE P (Instr.mapUpdate t (ev a m) (ev a k) (ev a x)>>= fun _=>pure undef) R F
 | .call {callee:=.builtin .clear,args,argTypes}=>cE P (Builtin.clear_ argTypes o.type (args.map (ev a))) R F
 | .call {callee:=.builtin .cap,args,argTypes}=>cE P (Builtin.cap_ argTypes o.type (args.map (ev a))) R F
 | .call {callee:=.builtin .copy,args,argTypes}=>cE P (Builtin.copy_ argTypes o.type (args.map (ev a))) R F
 | .call {callee:=.builtin .append,args,argTypes}=>match args.toList with
  |[x,y]=>o8 P argTypes (ev a x) (ev a y) R F
  |_=>False
 | .call {callee:=.builtin .max,args, ..}=>match args.toList with
  |[x,y]=>match oX (ev a x) (ev a y) with
   |some v=>R v F
   |none=>False
  |_=>False
 | .call {callee:=.builtin .min,args, ..}=>match args.toList with
  |[x,y]=>match oY (ev a x) (ev a y) with
   |some v=>R v F
   |none=>False
  |_=>False
 |_=>False
theorem eE (a:Act):a.eval=ev a:=rfl
theorem B7 {P:Program}{J:Goroutine->ag->Prop}{o:Oper}{R:Value->ag->Prop}{D:Deferred->ag->Prop}{a:Act}{F:ag}(E:Oper.o9 o=false)(h:cT P J o R a F):bA P (execOp a.eval o) (eY P J R D) F:=by
 obtain ⟨dst,op,type,pos,after,guard⟩:=o;unfold execOp;simp only[eE];unfold cT at h;simp only at h;cases op<;>simp only at h ⊢
 case move x=>exact h
 case assign x=>exact h
 case nilCheck x=>
  split at h
  .rename_i ad d;simp only[d,bF,eY];rw[d] at h;exact h
  .exact h.elim
 case pick c x y=>
  split at h
  .rename_i b hb;simp only[bE,hb,BM,bF,eY];exact h
  .exact h.elim
 case alloc t=>
  split at h
  .rename_i z G;simp only[Instr.alloc,bE,k7,G,xC,bF,eY];exact h
  .exact h.elim
 case box t x=>
  simp only[Instr.box,bE,xC,bF,eY];exact h
 case build t parts=>
  split at h
  .rename_i v hv;simp only[bE,bF];exact BY hv h
  .exact h.elim
 case buildSlice t len parts=>
  split at h
  .rename_i e cs hv;simp only[bE,bF];exact BZ hv h
  .exact h.elim
 case load t x=>
  split at h
  case h_2=>exact h.elim
  rename_i ad p;split at h
  case h_2=>exact h.elim
  rename_i v hv;simp only[Instr.loadAt,bE,p,m0,bF];exact xG hv h
 case store t x y=>
  split at h
  case h_2=>exact h.elim
  rename_i ad p;split at h
  case h_2=>exact h.elim
  rename_i F' H;simp only[Instr.storeAt,bE,p,m0,bF];exact BP H h
 case binOp op t x y W=>
  split at h
  case h_2=>exact h.elim
  rename_i v hv;rw[fI];exact BV hv h
 case unOp op t x=>
  split at h
  case h_2=>exact h.elim
  rename_i v hv;rw[fI];exact BR hv h
 case convert src dst x=>
  split at h
  case h_2=>exact h.elim
  rename_i v hv;rw[fI];exact B2 hv h
 case makeFunc fn first captured=>
  simp only[Instr.makeFunc,bE,bF,eY];exact h
 case slice t x lo hi I=>
  cases I with
  |some m=>exact h.elim
  |none=>
   simp only at h;obtain ⟨q,h⟩:=h;split at h
   case h_2=>exact h.elim
   rename_i v hv;rw[fI];exact BT (fun ad len cap e=>by rw[e] at q;exact q) hv h
 case fieldAddr s x n=>
  split at h
  case h_2=>exact h.elim
  rename_i ad p;split at h
  case h_2=>exact h.elim
  rename_i k g;unfold dr at g;split at g
  case h_2=>cases g
  rename_i X K;split at g
  case h_2=>cases g
  rename_i f u;split at g
  case h_2=>cases g
  rename_i m hm;cases g;rw[fI];simp only[Instr.fieldAt,bE,cW,K,u,p,m0,fieldPlace,ez,hm];simpa [bF,eY] using h
 case field s x n=>
  split at h
  case h_2=>exact h.elim
  rename_i v hv;rw[fI];exact B1 hv h
 case indexAddr t x i=>
  split at h
  case h_2=>exact h.elim
  rename_i v hv;rw[fI];exact BS hv h
 case index t x i=>
  split at h
  case h_2=>exact h.elim
  rename_i v hv;rw[fI];exact B5 hv h
 case extract x n=>
  split at h
  case h_2=>exact h.elim
  rename_i v hv;rw[fI];unfold o6 at hv;split at hv
  .rename_i vs L;simp only[L,Instr.extract,hv];exact h
  .cases hv
 case makeMap t r=>
  rw[fI];exact h
 case makeSlice t l c=>
  rw[fI];exact h
 case lookup t m k ok=>
  rw[fI];exact h
 case range t x=>
  rw[fI];exact h
 case next x st=>
  rw[fI];exact h
 case entry x=>
  rw[fI];exact h
 case mapUpdate t m k x=>
  unfold cE at h;rw[bE] at h;rw[bE];exact h
 case call c=>
  obtain ⟨callee,args,argTypes⟩:=c;cases callee with
  |value x=>
   simp only at h;unfold fX at h;split at h
   case h_3=>exact h.elim
   .rename_i fn first captured d
    obtain ⟨j,M⟩:=h;unfold aO at j;split at j
    case h_2=>cases j
    rename_i f u;simp only[Bool.not_eq_true',Bool.or_eq_false_iff] at j;simp only[resolve,d,Deferred.ofValue,bE,bF,invoke,callFunc,jd,u,j.1,j.2,Bool.false_eq_true,if_false,eY];exact M
   .rename_i l first captured d
    obtain ⟨rfl,rfl,r,q,N,O⟩:=h;simp only[resolve,d,Deferred.ofValue,bE,bF,invoke,Instr.yield,Instr.getLoop,Array.append_empty,Array.empty_append,Array.map_map];refine ⟨_,q,?_⟩;have S:∀{α:Type} (x:α) (Q:α->ag->Prop) (F:ag),bA P (Sem.pure x) Q F=Q x F:=fun _ _ _=>rfl;simp only[bE,S,bF,dn,ne_eq,N,not_true_eq_false,if_false,eY];exact O
  |invoke r m=>exact h.elim
  |builtin b=>
   cases b<;>simp only at h
   case append=>simp[Oper.o9] at E
   case clear=>
    simp only[resolve,bE,bF,invoke,builtin];exact h
   case cap=>
    simp only[resolve,bE,bF,invoke,builtin];exact h
   case copy=>
    simp only[resolve,bE,bF,invoke,builtin];exact h
   case len=>
    split at h
    case h_2=>exact h.elim
    rename_i t x ht d;split at h
    case h_2=>
     simp only[resolve,bE,bF,invoke,builtin];exact h
    rename_i v hv;unfold o7 at hv;split at hv
    case h_3=>cases hv
    case h_2=>
     rename_i s w;split at hv
     case h_2=>cases hv
     rename_i hu;cases hv;have A:(args.map (ev a))[0]?=some (.string s):=by simp[d,w]
     simp only[resolve,bE,bF,invoke,builtin,Builtin.len_,ht,A,cW,hu];exact h
    rename_i ad n cap w;split at hv
    case h_2=>cases hv
    rename_i e T;have he:=sd T;cases hv;have A:(args.map (ev a))[0]?=some (.slice ad n cap):=by simp[d,w]
    simp only[resolve,bE,bF,invoke,builtin,Builtin.len_,ht,A,cW,he];exact h
   case max=>
    split at h
    case h_2=>exact h.elim
    rename_i x y B;split at h
    case h_2=>exact h.elim
    rename_i v hv;unfold oX at hv;split at hv
    case h_2=>cases hv
    rename_i k x' U V d C;cases hv;simp only[resolve,bE,bF,invoke,builtin,Builtin.max_,Array.toList_map,B,List.map_cons,List.map_nil,List.foldlM_cons,List.foldlM_nil,d,C,Builtin.max2,eY];exact h
   case min=>
    split at h
    case h_2=>exact h.elim
    rename_i x y B;split at h
    case h_2=>exact h.elim
    rename_i v hv;unfold oY at hv;split at hv
    case h_2=>cases hv
    rename_i k x' U V d C;cases hv;simp only[resolve,bE,bF,invoke,builtin,Builtin.min_,Array.toList_map,B,List.map_cons,List.map_nil,List.foldlM_cons,List.foldlM_nil,d,C,Builtin.min2,eY];exact h
theorem jf {P:Program}{J:Goroutine->ag->Prop}{o:Oper}{R:Value->ag->Prop}{D:Deferred->ag->Prop}{a:Act}{F:ag}(h:cT P J o R a F):bA P (execOp a.eval o) (jD P J R D) F:=
by
 cases b:Oper.o9 o with
 |false=>exact fW By _ _ (B7 b h)
 |true=>
  obtain ⟨dst,op,type,pos,after,guard⟩:=o
  unfold Oper.o9 at b
  split at b
  .rename_i callee args argTypes c
   simp only at c
   subst c
   unfold cT at h
   simp only at h
   split at h
   case h_2=>exact h.elim
   rename_i x y d
   have e:args=#[x,y]:=by rw[<-Array.toList_inj];simpa using d
   subst e
   unfold execOp
   simp only[eE,resolve,bE,bF,invoke,builtin]
   have:=h type
   simpa [jD,eY,bE,bF] using this
  .cases b
def cx (ops:Array Oper)(o:Oper)(a:Act):Option Bool:=
 match o.guard with
 |none=>some true
 |some (j,want)=>match (ops[j]?).bind (·.dst) with
  |some d=>match slot a d with
   | .bool b=>some (b==want)
   | .tuple _=>some false
   |_=>none
  |none=>none
theorem cr {ops:Array Oper}{o:Oper}{a:Act}{t:Bool}(h:cx ops o a=some t):Region.wanted o (yielded ops a.tmps)=t:=by
 unfold cx at h;unfold Region.wanted;split at h
 .rename_i hg;rw[hg];cases h;rfl
 .rename_i j want hg;rw[hg];split at h
  .rename_i d hd;split at h
   .rename_i b hb;cases h;have ht:a.tmps[d]?=some (.bool b):=by
     unfold slot at hb;rw[Array.getD_eq_getD_getElem?] at hb;cases c:a.tmps[d]? with
     |none=>rw[c] at hb;simp[undef] at hb
     |some v=>rw[c] at hb;simpa using hb
    simp only[yielded,hd,Option.bind_some,ht];cases b<;>cases want<;>rfl
   .rename_i b hb;cases h;simp only[yielded,hd,Option.bind_some];unfold slot at hb;rw[Array.getD_eq_getD_getElem?] at hb;cases c:a.tmps[d]? with
    |none=>rfl
    |some v=>
     rw[c] at hb;simp at hb;subst hb;rfl
   .cases h
  .cases h
def Oper.calls (o:Oper):Bool:=match o.op with| .call {callee:=.value _, ..}=>true| .call {callee:=.builtin .append, ..}=>true| .call {callee:=.builtin .clear, ..}=>true| .call {callee:=.builtin .cap, ..}=>true| .call {callee:=.builtin .copy, ..}=>true| .makeMap ..=>true| .makeSlice ..=>true| .mapUpdate ..=>true|_=>false
def dZ (P:Program)(J:Goroutine->ag->Prop)(ops:Array Oper)(K:Act->ag->Prop):List Oper->Bool->Act->ag->Prop
 |[],_,a,F=>K a F
 |o::rest,_,a,F=>match cx ops o a with
  |some true=>cT P J o (fun v F'=>dZ P J ops K rest (!Oper.calls o) (bB a o.dst v) F') a F
  |some false=>dZ P J ops K rest true (bB a o.dst undef) F
  |none=>False
theorem sk {P:Program}{J:Goroutine->ag->Prop}{ops:Array Oper}{K:Act->ag->Prop}{go:Bool}{a:Act}{F:ag}:dZ P J ops K [] go a F=K a F:=rfl
theorem so {P:Program}{J:Goroutine->ag->Prop}{ops:Array Oper}{K:Act->ag->Prop}{o:Oper}{rest:List Oper}{a:Act}{F:ag}:dZ P J ops K (o::rest) true a F=match cx ops o a with
  |some true=>cT P J o (fun v F'=>dZ P J ops K rest (!Oper.calls o) (bB a o.dst v) F') a F
  |some false=>dZ P J ops K rest true (bB a o.dst undef) F
  |none=>False:=(Eq.refl _).trans (Eq.refl _)
theorem aS {P:Program}{J:Goroutine->ag->Prop}{ops:Array Oper}{K:Act->ag->Prop}:∀{l:List Oper} {go:Bool} {a:Act} {F:ag},dZ P J ops K l true a F->dZ P J ops K l go a F
 |[],_,_,_,h=>h
 |_::_,_,_,_,h=>h
theorem sr {P:Program}{J:Goroutine->ag->Prop}{ops:Array Oper}{K:Act->ag->Prop}:∀(l:List Oper) (k:Nat) (go:Bool) (a:Act) (F:ag),ops.toList.drop k=l->dZ P J ops K l go a F->
  eD P J ops K (List.range' k l.length) a F
 |[],k,_,a,F,_,h=>h
 |o::rest,k,_,a,F,b,h=>by
  have ho:ops[k]?=some o:=by
   have:=congrArg List.head? b
   simpa [List.head?_drop] using this
  have c:ops.toList.drop (k+1)=rest:=by
   have:=congrArg List.tail b
   simpa [List.tail_drop] using this
  simp only[List.length_cons,List.range'_succ]
  show dD P J ops k (eD P J ops K (List.range' (k+1) rest.length)) a F
  unfold dD
  simp only[ho]
  unfold dZ at h
  split at h
  .rename_i hg
   rw[if_pos (cr hg)]
   exact fW (k5 (fun v F' hv=>sr rest (k+1) _ _ F' c hv) (fun _ _ x=>x)) _ _ (jf h)
  .rename_i hg
   rw[if_neg (by rw[cr hg];simp)]
   exact sr rest (k+1) _ _ F c h
  .exact h.elim
theorem ah {P:Program}{main:Bool}{J:Goroutine->ag->Prop}{Q:Ex->Act->ag->Prop}{a:Act}{F:ag}(hJ:Closed P main J){id:Nat}{ops:Array Oper}(h:dZ P J ops (Q .normal) ops.toList true a F):Wp J (.region id ops false) Q a F:=by
 refine BE hJ ?_;have:=sr ops.toList 0 true a F aB h;simpa [List.range_eq_range'] using this
theorem bV {P:Program}{main:Bool}{J:Goroutine->ag->Prop}{Q:Ex->Act->ag->Prop}{a:Act}{F:ag}(hJ:Closed P main J){id:Nat}{ops:Array Oper}{y:Code}(h:dZ P J ops (oT J y Q .normal) ops.toList true a F):Wp J (.seq (.region id ops false) y) Q a F:=af hJ (ah hJ h)
attribute [irreducible] dZ
theorem su {P:Program}{J:Goroutine->ag->Prop}{ops:Array Oper}{Q:Act->ag->Prop}{S:ag->Prop}(i:Nat){b:Oper}(v:Value){fuel:Nat}{listed:Array Bool}{a:Act}{F:ag}(hi:ops[i]?=some b)
  (d:(Region.noSelect ops&&Region.free .any ops listed i&&(Region.ready .any ops listed).contains i)=true)
  (hg:cx ops b a=some true) (e:∀F R,S F->R v F->cT P J b R a F) (c:S F)
  (h:dX P J ops Q S fuel (listed.setIfInBounds i true) (bB a b.dst v) F):dX P J ops Q S (fuel+1) listed a F:=
 xg i v hi d (.inl ⟨cr hg,fun F R c hR=>jf (e F R c hR)⟩) c h
theorem B8 {P:Program}{J:Goroutine->ag->Prop}{ops:Array Oper}{Q:Act->ag->Prop}{S:ag->Prop}(i:Nat){b:Oper}{fuel:Nat}{listed:Array Bool}{a:Act}{F:ag}(hi:ops[i]?=some b)
  (c:(Region.noSelect ops&&Region.free .any ops listed i&&(Region.ready .any ops listed).contains i)=true)
  (hg:cx ops b a=some false) (d:S F)
  (h:dX P J ops Q S fuel (listed.setIfInBounds i true) (bB a b.dst undef) F):dX P J ops Q S (fuel+1) listed a F:=
 xg i undef hi c (.inr ⟨cr hg,rfl⟩) d h
theorem xP {P:Program}{J:Goroutine->ag->Prop}{ops:Array Oper}{Q:Act->ag->Prop}{S:ag->Prop}(i:Nat){b:Oper}{fuel:Nat}{listed:Array Bool}{a:Act}{F:ag}(hi:ops[i]?=some b)
  (c:Region.ready .any ops listed=[i]) (hg:cx ops b a=some true)
  (h:cT P J b (fun v F'=>S F'/\dX P J ops Q S fuel (listed.setIfInBounds i true) (bB a b.dst v) F') a F):dX P J ops Q S (fuel+1) listed a F:=by
 refine xh i c ?_
 unfold dD
 simp only[hi]
 rw[if_pos (cr hg)]
 exact jf h
theorem lp {P:Program}{main:Bool}{J:Goroutine->ag->Prop}{Q:Ex->Act->ag->Prop}{a:Act}{F:ag}{B:Prop}(hJ:Closed P main J){id:Nat}{ops:Array Oper}{y:Code}(h:B)(e:dZ P J ops (oT J y Q .normal) ops.toList true a F=B:=by conv=>lhs;simp only[*,go_sem]):Wp J (.seq (.region id ops false) y) Q a F:=af hJ (ah hJ (e▸h))
theorem en {J:Goroutine->ag->Prop}{Q:Ex->Act->ag->Prop}{a:Act}{F:ag}{B:Prop}(h:B)(e:Q .ret a F=B:=by conv=>lhs;simp only[*,go_sem]):Wp J .ret Q a F:=aG (e▸h)
attribute [go_sem] List.isEmpty_nil List.isEmpty_cons undef sk so Oper.calls Bool.not_true Bool.not_false cx cT ag.push ag.get ag.put lk eM cellOf e5 oW ag.cX ag.gY ag.j7 eX frozenAt m8 lf m7 Option.isNone_none Option.isNone_some fJ gZ k9 kg oX oY m3 ni ki ng o6 ko o7 m9 o5
theorem add_zero' (a:Addr):a.add 0=a:=rfl
theorem jH (a:Addr)(m n:Nat):(a.add m).add n=a.add (m+n):=by
 unfold Addr.add;by_cases hm:m=0
 .subst hm;simp
 .by_cases hn:n=0
  .subst hn;simp[hm]
  .have:¬m+n=0:=ai;simp[hm,hn,this,Nat.add_assoc]
theorem iD (b o n:Nat):(⟨b,o,none⟩:Addr).add n=⟨b,o+n,none⟩:=by
 unfold Addr.add;by_cases hn:n=0
 .subst hn;simp
 .simp[hn]
attribute [go_sem] add_zero' jH iD Nat.add_assoc Int.reduceLE Int.reduceLT Int.reduceToNat Int.toNat_zero Int.le_refl
attribute [go_sem] Value.cells Instr.fill oV gK rO oT B6
attribute [go_sem] and_true true_and Array.getD_eq_getD_getElem? List.getElem?_toArray List.getElem?_cons_zero List.getElem?_cons_succ List.getElem?_nil Option.getD_some Option.getD_none Option.bind_some Option.bind_none Option.map_some Option.map_none
attribute [go_sem] Nat.reduceLT Nat.reduceEqDiff Nat.reduceAdd Nat.reduceMul Nat.reduceSub if_true if_false reduceIte reduceCtorEq List.setIfInBounds_toArray List.set_cons_zero List.set_cons_succ
attribute [go_sem] List.map_toArray List.map_cons List.map_nil List.append_toArray List.cons_append List.nil_append List.append_nil Array.append_empty Array.empty_append List.toList_toArray List.length_cons List.length_nil List.size_toArray ne_eq not_true_eq_false not_false_eq_true forall_const
theorem aV {ro:Addr->Option Value}{own:List (Nat×Obj)}{b:Nat}(h:dP ⟨ro,own⟩ b):∀off sp,ro ⟨b,off,sp⟩=none:=h.ro
theorem aW {ro:Addr->Option Value}{own:List (Nat×Obj)}{b:Nat}(h:dP ⟨ro,own⟩ b):aQ own b:=h.own
def nj (P:Program)(F:ag)(a:Act):ResultVar->Option Value
 | .tmp t=>some (slot a t)
 | .cell ad t=>match slot a ad with
  | .pointer (some p)=>e5 P F t p
  |_=>none
def kr (P:Program)(F:ag)(a:Act):List ResultVar->Option (List Value)
 |[]=>some []
 |r::rs=>match nj P F a r with
  |some v=>match kr P F a rs with
   |some vs=>some (v::vs)
   |none=>none
  |none=>none
def ku (P:Program)(F:ag)(a:Act)(rs:List ResultVar):Option Value:=
 match kr P F a rs with
 |some [v]=>some v
 |some vs=>some (.tuple vs.toArray)
 |none=>none
attribute [go_sem] nj kr ku
theorem sw {P:Program}{F:ag}{a:Act}{Q:Array Value->ag->Prop}:∀(rs:List ResultVar) (vs:List Value) (acc:Array Value),kr P F a rs=some vs->Q (acc++vs.toArray) F->
  bA P (rs.foldlM (fun (b:Array Value) r=>do let x<-(match r with| .tmp t=>pure (a.tmps.getD t undef)| .cell ad t=>do loadVar t (<-asAddr (a.tmps.getD ad undef)):Sem Value);pure (b.push x)) acc) Q F
 |[],vs,acc,h,c=>by
  simp only[kr,Option.some.injEq] at h;subst h
  simpa [bF] using c
 |r::rs,vs,acc,h,c=>by
  unfold kr at h
  split at h
  case h_2=>cases h
  rename_i v hv
  split at h
  case h_2=>cases h
  rename_i ws f
  cases h
  have d:=sw rs ws (acc.push v) f (Q:=Q) (by simpa using c)
  simp only[List.foldlM_cons,bE]
  cases r with
  |tmp t=>
   simp only[nj,Option.some.injEq,slot] at hv
   subst hv
   simpa only[bF] using d
  |cell ad t=>
   simp only[nj] at hv
   split at hv
   .rename_i p e
    unfold slot at e
    simp only[bE,e,asAddr,bF]
    exact xG hv d
   .cases hv
theorem pe {P:Program}{fn:Func}{rs:List ResultVar}{F:ag}{a:Act}{v:Value}{R:Value->ag->Prop}(c:fn.results=rs.toArray)(h:ku P F a rs=some v)(hR:R v F):bA P (results fn a.tmps) R F:=by
 unfold results;rw[c,bE,Array.mapM_eq_foldlM,<-Array.foldlM_toList];unfold ku at h;split at h
 case h_3=>cases h
 .rename_i x b;cases h;exact sw rs [v] #[] b (by simpa [bF] using hR)
 .rename_i vs d b;cases h;refine sw rs vs #[] b ?_;simp only[Array.empty_append,bF];split
  .rename_i hs;simp at hs;obtain ⟨v,rfl⟩:=List.length_eq_one_iff.1 hs;exact absurd rfl (d v)
  .exact hR
def g5 (P:Program)(rs:List ResultVar)(R:Value->ag->Prop):Ex->Act->ag->Prop
 | .exit _,_,_=>False
 |_,a,F=>a.defers=[]/\match ku P F a rs with|some v=>R v F|none=>False
attribute [go_sem] g5
theorem aF.go {P:Program}{f:FuncId}{fn:Func}{c:Code}{n:Nat}{rs:List ResultVar}{args:Array Value}{F:ag}{R:Value->ag->Prop}(d:P.funcs[f]?=some fn)(hb:fn.body=some c)(hn:fn.ntmps=n)(g:fn.results=rs.toArray)(j:args.size<=n)
  (h:∀main J,Closed P main J->∀A:Act,sz A=n->A.defers=[]->(∀i,slot A i=args.getD i undef)->Wp J c (g5 P rs R) A F):aF P f args F R:=
 aF.start d hb hn j fun main J hJ A k l m=>(h main J hJ A k l m).mono fun e a F b=>by
  cases e with
  |exit i=>exact b
  |_=>
   obtain ⟨hd,hv⟩:=b
   split at hv
   .rename_i v o
    show gK P a.defers _ F
    rw[hd]
    exact pe g o hv
   .exact hv.elim
def c9 (n m:Nat):Array Bool:=(Array.range n).map fun i=>decide (i<m)
def nk (ops:Array Oper)(m:Nat):Bool:=
 Region.noSelect ops&&decide (m<=ops.size)&&((List.range m).all fun i=>Region.free .any ops (c9 ops.size i) i&&(Region.ready .any ops (c9 ops.size i)).contains i)&&
 ((List.range (ops.size - m)).all fun j=>decide (Region.ready .any ops (c9 ops.size (m+j))=[m+j]))&&decide (Region.ready .any ops (c9 ops.size ops.size)=[])
def B9 (D:List Nat)(L:List (List Nat))(x y:Nat):Bool:=RegionTabs.apart ⟨#[],D.toArray,L.toArray⟩ x y
def sx (A:List (List Nat))(D:List Nat)(L:List (List Nat))(n m:Nat):Bool:=
 decide (m<=n)&&((List.range m).all fun k=>(A.getD k []).all (fun x=>decide (x<k))&&(List.range n).all fun j=>decide (j<=k)||(A.getD j []).contains k||B9 D L k j)&&
 ((List.range (n - m)).all fun t=>(A.getD (m+t) []).all (fun x=>decide (x<m+t))&&(List.range (n - (m+t+1))).all fun u=>!(A.getD (m+t+1+u) []).all (fun x=>decide (x<m+t)))
section
variable {ops:Array Oper}
theorem xQ {n k i:Nat}(h:i<n):(c9 n k).getD i true=decide (i<k):=by
 simp[c9,Array.getD_eq_getD_getElem?,h]
theorem Ca {n k i:Nat}(a:k<=n):(c9 n k).getD i false=decide (i<k):=by
 rcases Nat.lt_or_ge i n with h|h
 .simp[c9,Array.getD_eq_getD_getElem?,h]
 .have:¬i<k:=ai;simp[c9,Array.getD_eq_getD_getElem?,Array.getElem?_eq_none,h,this]
theorem sA {A:List (List Nat)}{k:Nat}(a:Region.tabAfter .any ops=A)(b:k<=ops.size):
  Region.ready .any ops (c9 ops.size k)=(List.range ops.size).filter fun i=>!decide (i<k)&&(A.getD i []).all fun x=>decide (x<k):=by
 have hlen:A.length=ops.size:=by rw[<-a];simp[Region.tabAfter]
 rw[<-RegionTabs.ready_eq]
 unfold RegionTabs.ready RegionTabs.of
 simp only[a,List.size_toArray,hlen]
 apply List.filter_congr
 intro i hi
 have c:i<ops.size:=List.mem_range.1 hi
 rw[xQ c]
 congr 1
 rw[List.getElem?_toArray,List.getD_eq_getElem?_getD,List.getElem?_eq_getElem ai]
 simp only[Option.map_some,Option.getD_some]
 congr 1
 funext x
 exact Ca b
theorem filter_one {k:Nat}{p:Nat->Bool}(b:p k=true):∀(n:Nat),k<n->(∀i,i<n->i≠k->p i=false)->(List.range n).filter p=[k]
 |0,c,_=>by omega
 |n+1,c,a=>by
  rw[List.range_succ,List.filter_append]
  by_cases e:k=n
  .subst e
   have:(List.range k).filter p=[]:=by
    rw[List.filter_eq_nil_iff]
    intro i hi
    have d:=List.mem_range.1 hi
    rw[a i ai ai];simp
   rw[this];simp[b]
  .rw[filter_one b n ai fun i hi=>a i ai]
   simp[a n ai (fun x=>e x.symm)]
theorem Cb {m n:Nat}(A:List (List Nat))(D:List Nat)(L:List (List Nat))(hs:Region.noSelect ops=true)(hn:ops.size=n)(a:Region.tabAfter .any ops=A)(f:Region.tabDst ops=D)(g:Region.tabLooks ops=L)(h:sx A D L n m=true):nk ops m=true:=by
 subst hn;have hlen:A.length=ops.size:=by rw[<-a];simp[Region.tabAfter]
 simp only[sx,Bool.and_eq_true,decide_eq_true_eq,List.all_eq_true,List.mem_range] at h;obtain ⟨⟨hm,c⟩,d⟩:=h;simp only[nk,Bool.and_eq_true,decide_eq_true_eq,List.all_eq_true,List.mem_range];refine ⟨⟨⟨⟨hs,hm⟩,fun i hi=>⟨?_,?_⟩⟩,fun j b=>?_⟩,?_⟩
 .rw[<-RegionTabs.free_eq];unfold RegionTabs.free;have e1:(RegionTabs.of .any ops).after=A.toArray:=by simp[RegionTabs.of,a]
  rw[e1,List.size_toArray,hlen];simp only[Bool.and_eq_true,decide_eq_true_eq,List.all_eq_true,List.mem_range];refine ⟨ai,fun j b=>?_⟩;have:=(c i hi).2 j b;simp only[Bool.or_eq_true,decide_eq_true_eq] at this;simp only[Bool.or_eq_true];rcases this with (hle|k)|l
  .rcases Nat.lt_or_eq_of_le hle with x|x
   .left;left;right;rw[xQ ai];simpa using x
   .left;left;left;simpa using x
  .left;right;simpa [Array.getD_eq_getD_getElem?,List.getD_eq_getElem?_getD] using k
  .right;have e:RegionTabs.of .any ops=⟨A.toArray,D.toArray,L.toArray⟩:=by simp[RegionTabs.of,a,f,g]
   rw[e];exact l
 .rw[sA a ai];rw[List.contains_iff_mem,List.mem_filter];refine ⟨List.mem_range.2 ai,?_⟩;have:=(c i hi).1;simpa [List.all_eq_true] using this
 .have o:m+j<ops.size:=ai;rw[sA a ai];refine filter_one ?_ _ o fun i hi p=>?_
  .have:=(d j b).1;simpa [List.all_eq_true] using this
  .rcases Nat.lt_or_ge i (m+j) with x|x
   .simp[x]
   .have:=(d j b).2 (i - (m+j+1)) ai;rw[show m+j+1+(i - (m+j+1))=i by omega] at this;simp only[Bool.not_eq_true'] at this;simp only[this,Bool.and_false]
 .rw[sA a (Nat.le_refl _)];rw[List.filter_eq_nil_iff];intro i hi;have:=List.mem_range.1 hi;simp[this]
def sB (n:Nat)(k:Nat->Bool):Bool:=Nat.casesOn n (k 0) fun m=>k (m+1)
def nq:List Nat->(List Nat->Bool)->Bool
 |[],k=>k []
 |x::xs,k=>sB x fun y=>nq xs fun ys=>k (y::ys)
def nt:List (List Nat)->(List (List Nat)->Bool)->Bool
 |[],k=>k []
 |x::xs,k=>nq x fun y=>nt xs fun ys=>k (y::ys)
theorem xR (n:Nat)(k:Nat->Bool):sB n k=k n:=by cases n<;>rfl
theorem sC:∀(l:List Nat) (k:List Nat->Bool),nq l k=k l
 |[],_=>rfl
 |x::xs,k=>by rw[nq,xR,sC xs]
theorem xS:∀(l:List (List Nat)) (k:List (List Nat)->Bool),nt l k=k l
 |[],_=>rfl
 |x::xs,k=>by rw[nt,sC,xS xs]
def pg (ops:Array Oper)(m:Nat):Bool:=Region.noSelect ops&&nt (Region.tabAfter .any ops) fun A=>nq (Region.tabDst ops) fun D=>nt (Region.tabLooks ops) fun L=>sB ops.size fun n=>sx A D L n m
theorem xT {m:Nat}(h:pg ops m=true):nk ops m=true:=by
 simp only[pg,Bool.and_eq_true,xS,sC,xR] at h;exact Cb _ _ _ h.1 rfl rfl rfl rfl h.2
end
def jg:List (Nat×Obj)->List (Nat×Obj)->Prop
 |[],_=>True
 |(b,o)::l,own=>lk own b=some o/\jg l own
def Knows (F0 F:ag):Prop:=(∀a v,F0.ro a=some v->F.ro a=some v)/\(∀a,a.block∈keys F0.own->F0.ro a=none->F.ro a=none)/\jg F0.own F.own
theorem jg.lk:∀{l own:List (Nat×Obj)} {b:Nat} {o:Obj},jg l own->lk l b=some o->Go.Sep.lk own b=some o
 |[],_,_,_,_,h=>by cases h
 |(c,x)::l,own,b,o,a,h=>by
  unfold Go.Sep.lk at h
  split at h
  .rename_i e;cases h;exact e▸a.1
  .exact jg.lk a.2 h
theorem Knows.get {F0 F:ag}(h:Knows F0 F){a:Addr}{v:Value}(hg:F0.get a=some v):F.get a=some v:=by
 unfold ag.get at hg ⊢;cases b:F0.ro a with
 |some x=>rw[b] at hg;rw[h.1 a x b];exact hg
 |none=>
  rw[b] at hg;simp only at hg;split at hg
  .rename_i hs;obtain ⟨o,ho,c⟩:=Option.bind_eq_some_iff.1 hg;rw[h.2.1 a (eC (gI ho)) b];simp only;rw[if_pos hs,h.2.2.lk ho];exact c
  .cases hg
theorem Cc {ro:Addr->Option Value}{l own:List (Nat×Obj)}:Knows ⟨ro,l⟩ ⟨ro,own⟩=jg l own:=
 propext ⟨fun h=>h.2.2,fun h=>⟨fun _ _ x=>x,fun _ _ x=>x,h⟩⟩
theorem Cd {ro aK:Addr->Option Value}{l own:List (Nat×Obj)}(c:∀a v,ro a=some v->aK a=some v)(hn:∀b∈keys l,∀off sp,aK ⟨b,off,sp⟩=none)(h:jg l own):Knows ⟨ro,l⟩ ⟨aK,own⟩:=
 ⟨c,fun a d _=>hn a.block d a.off a.spot,h⟩
theorem Knows.j9 {F0 F:ag}(h:Knows F0 F){a:Addr}:∀{n i:Nat} {vs:List Value},F0.cX a i n=some vs->F.cX a i n=some vs
 |0,_,_,hg=>hg
 |n+1,i,vs,hg=>by
  unfold ag.cX at hg ⊢
  split at hg
  case h_2=>cases hg
  rename_i v hv
  split at hg
  case h_2=>cases hg
  rename_i ws b
  rw[h.get hv,h.j9 b]
  exact hg
theorem Knows.e5 {P:Program}{F0 F:ag}(h:Knows F0 F){t:TypeId}{ad:Addr}{v:Value}(hg:e5 P F0 t ad=some v):Go.Sep.e5 P F t ad=some v:=by
 unfold Go.Sep.e5 at hg ⊢;split at hg
 .exact h.get hg
 .split at hg
  case h_2=>cases hg
  rename_i n hn;split at hg
  case h_2=>cases hg
  rename_i vs a;rw[h.j9 a];exact hg
 .cases hg
def g6 (P:Program)(o:Oper)(a:Act):Option Value:=
 match o.op with
 | .move x| .assign x=>some (ev a x)
 | .nilCheck x=>match ev a x with
  | .pointer (some ad)=>some (.pointer (some ad))
  |_=>none
 | .pick c x y=>match ev a c with
  | .bool b=>some (if b then ev a x else ev a y)
  |_=>none
 | .build t parts=>m9 P t (parts.map fun (i,x)=>(i,ev a x)).toList
 | .binOp op t x y _=>m8 P op t (ev a x) (ev a y)
 | .unOp op _ x=>kg op (ev a x)
 | .convert src dst x=>ko P src dst (ev a x)
 | .makeFunc fn first captured=>some (.func fn (first.map (ev a)) (captured.map (ev a)))
 | .slice t x lo hi none=>match ev a x with
  | .slice ad len cap=>if len<=cap then ki P t (.slice ad len cap) (lo.map (ev a)) (hi.map (ev a)) else none
  | .pointer (some ad)=>ki P t (.pointer (some ad)) (lo.map (ev a)) (hi.map (ev a))
  |_=>none
 | .fieldAddr s x n=>match ev a x with
  | .pointer (some ad)=>match dr P s n with
   |some k=>some (.pointer (some (ad.add k)))
   |none=>none
  |_=>none
 | .field s x n=>ng P s n (ev a x)
 | .indexAddr t x i=>m3 P t (ev a x) (ev a i)
 | .index t x i=>ni P t (ev a x) (ev a i)
 | .extract x n=>o6 n (ev a x)
 | .call {callee:=.builtin .len,args,argTypes}=>match argTypes[0]?,args[0]? with
  |some t,some x=>o7 P t (ev a x)
  |_,_=>none
 | .call {callee:=.builtin .max,args, ..}=>match args.toList with
  |[x,y]=>oX (ev a x) (ev a y)
  |_=>none
 | .call {callee:=.builtin .min,args, ..}=>match args.toList with
  |[x,y]=>oY (ev a x) (ev a y)
  |_=>none
 |_=>none
theorem sD {P:Program}{J:Goroutine->ag->Prop}{o:Oper}{a:Act}{v:Value}{R:Value->ag->Prop}{F:ag}(h:g6 P o a=some v)(hR:R v F):cT P J o R a F:=by
 obtain ⟨dst,op,type,pos,after,guard⟩:=o;unfold g6 at h;unfold cT;cases op<;>simp only[reduceCtorEq] at h ⊢
 case move x=>cases h;exact hR
 case assign x=>cases h;exact hR
 case nilCheck x=>
  split at h
  .rename_i ad d;cases h;rw[d];exact hR
  .cases h
 case pick c x y=>
  split at h
  .rename_i b hb;cases h;try rw[hb]
   exact hR
  .cases h
 case build t parts=>rw[h];exact hR
 case binOp=>rw[h];exact hR
 case unOp=>rw[h];exact hR
 case convert=>rw[h];exact hR
 case makeFunc=>cases h;exact hR
 case slice t x lo hi f=>
  cases f with
  |some m=>cases h
  |none=>
   simp only at h ⊢;split at h
   case h_3=>cases h
   case h_2=>
    rename_i ad d;rw[d];exact ⟨trivial,by rw[h];exact hR⟩
   rename_i ad len cap d;split at h
   case isFalse=>cases h
   rename_i g;rw[d];exact ⟨g,by rw[h];exact hR⟩
 case fieldAddr s x n=>
  split at h
  case h_2=>cases h
  rename_i ad d;split at h
  case h_2=>cases h
  rename_i k i;cases h;try rw[d]
  try simp only[i]
  exact hR
 case field=>rw[h];exact hR
 case indexAddr=>rw[h];exact hR
 case index=>rw[h];exact hR
 case extract=>rw[h];exact hR
 case call c=>
  obtain ⟨callee,args,argTypes⟩:=c;cases callee with
  |value x=>cases h
  |invoke r m=>cases h
  |builtin b=>
   cases b<;>simp only[reduceCtorEq] at h ⊢
   case len=>
    split at h
    case h_2=>cases h
    rename_i t x ht d;simp only[ht,d,h];exact hR
   case max=>
    split at h
    case h_2=>cases h
    rename_i x y e;simp only[e,h];exact hR
   case min=>
    split at h
    case h_2=>cases h
    rename_i x y e;simp only[e,h];exact hR
def Plain (P:Program)(J:Goroutine->ag->Prop)(F0:ag)(f:FuncId)(args:Array Value)(v:Value):Prop:=
 ∀F,Knows F0 F->c8 P J f args F (fun a F'=>a=v/\F'=F)
def eO (P:Program)(J:Goroutine->ag->Prop)(ops:Array Oper)(F0:ag)(K:Act->Prop):List Oper->Bool->Act->Prop
 |[],_,a=>K a
 |o::rest,_,a=>match cx ops o a with
  |some false=>eO P J ops F0 K rest true (bB a o.dst undef)
  |some true=>match o.op with
   | .load t x=>match ev a x with
    | .pointer (some ad)=>match e5 P F0 t ad with
     |some v=>eO P J ops F0 K rest true (bB a o.dst v)
     |none=>False
    |_=>False
   | .call {callee:=.value x,args, ..}=>match ev a x with
    | .func (.func fn) first captured=>aO P fn=true/\∃v,Plain P J F0 fn (first++args.map (ev a)++captured) v/\eO P J ops F0 K rest false (bB a o.dst v)
    |_=>False
   |_=>match g6 P o a with
    |some v=>eO P J ops F0 K rest true (bB a o.dst v)
    |none=>False
  |none=>False
theorem Ce {P:Program}{J:Goroutine->ag->Prop}{ops:Array Oper}{F0:ag}{K:Act->Prop}{go:Bool}{a:Act}:eO P J ops F0 K [] go a=K a:=rfl
theorem Cf {P:Program}{J:Goroutine->ag->Prop}{ops:Array Oper}{F0:ag}{K:Act->Prop}{o:Oper}{rest:List Oper}{a:Act}:eO P J ops F0 K (o::rest) true a=match cx ops o a with
  |some false=>eO P J ops F0 K rest true (bB a o.dst undef)
  |some true=>match o.op with
   | .load t x=>match ev a x with
    | .pointer (some ad)=>match e5 P F0 t ad with
     |some v=>eO P J ops F0 K rest true (bB a o.dst v)
     |none=>False
    |_=>False
   | .call {callee:=.value x,args, ..}=>match ev a x with
    | .func (.func fn) first captured=>aO P fn=true/\∃v,Plain P J F0 fn (first++args.map (ev a)++captured) v/\eO P J ops F0 K rest false (bB a o.dst v)
    |_=>False
   |_=>match g6 P o a with
    |some v=>eO P J ops F0 K rest true (bB a o.dst v)
    |none=>False
  |none=>False:=(Eq.refl _).trans (Eq.refl _)
theorem e6 {P:Program}{J:Goroutine->ag->Prop}{ops:Array Oper}{F0:ag}{K:Act->Prop}:∀{l:List Oper} {go:Bool} {a:Act},eO P J ops F0 K l true a->eO P J ops F0 K l go a
 |[],_,_,h=>h
 |_::_,_,_,h=>h
theorem pn {n m:Nat}(h:m<n):(c9 n m).setIfInBounds m true=c9 n (m+1):=by
 apply Array.ext
 .simp[c9]
 .intro i a b;simp[c9] at a b;rw[Array.getElem_setIfInBounds (by simp[c9];omega)];by_cases e:m=i
  .subst e;simp[c9]
  .simp only[if_neg e,c9,Array.getElem_map,Array.getElem_range];rw[decide_eq_decide];omega
theorem xU (n:Nat):c9 n 0=Array.replicate n false:=by
 apply Array.ext
 .simp[c9]
 .intro i a b;simp[c9]
section
variable {P:Program}{main:Bool}{J:Goroutine->ag->Prop}{ops:Array Oper}{Q:Act->ag->Prop}{F0:ag}
theorem pq {K:Act->Prop}(m:Nat)(hm:m<=ops.size)(g:Region.noSelect ops=true)(j:∀i,i<m->(Region.free .any ops (c9 ops.size i) i&&(Region.ready .any ops (c9 ops.size i)).contains i)=true)
  {F:ag} (hF:Knows F0 F) (hK:∀a,K a->dX P J ops Q (Knows F0) (ops.size - m) (c9 ops.size m) a F):
  ∀(l:List Oper) (k:Nat) (go:Bool) (a:Act),(ops.toList.take m).drop k=l->k<=m->eO P J ops F0 K l go a->dX P J ops Q (Knows F0) (ops.size - k) (c9 ops.size k) a F
 |[],k,_,a,b,s,h=>by
  have:k=m:=by
   have:=congrArg List.length b
   simp at this
   omega
  subst this
  exact hK a h
 |o::rest,k,_,a,b,s,h=>by
  have c:k<m:=by
   rcases Nat.lt_or_ge k m with x|x
   .exact x
   .rw[List.drop_eq_nil_of_le (by simp;omega)] at b;cases b
  have ho:ops[k]?=some o:=by
   have:=congrArg List.head? b
   rw[List.head?_drop,List.getElem?_take_of_lt c] at this
   simpa using this
  have q:(ops.toList.take m).drop (k+1)=rest:=by
   have:=congrArg List.tail b
   simpa [List.tail_drop] using this
  have u:=j k c
  have e:ops.size - k=(ops.size - (k+1))+1:=ai
  have r:=pn (n:=ops.size) (m:=k) ai
  have d:(Region.noSelect ops&&Region.free .any ops (c9 ops.size k) k&&(Region.ready .any ops (c9 ops.size k)).contains k)=true:=by
   rw[g,Bool.true_and];exact u
  rw[e]
  unfold eO at h
  split at h
  .rename_i hg
   exact B8 k ho d hg hF (by rw[r];exact pq m hm g j hF hK rest (k+1) _ _ q c h)
  .rename_i hg
   have next:∀go v,eO P J ops F0 K rest go (bB a o.dst v)->dX P J ops Q (Knows F0) (ops.size - (k+1)) ((c9 ops.size k).setIfInBounds k true) (bB a o.dst v) F:=fun go v hv=>by
    rw[r];exact pq m hm g j hF hK rest (k+1) _ _ q c hv
   split at h
   .rename_i t x p
    split at h
    case h_2=>exact h.elim
    rename_i ad w
    split at h
    case h_2=>exact h.elim
    rename_i v hv
    refine su k v ho d hg (fun F R f hR=>?_) hF (next _ v h)
    unfold cT
    simp only[p,w,f.e5 hv]
    exact hR
   .rename_i x args argTypes p
    split at h
    case h_2=>exact h.elim
    rename_i fn first captured y
    obtain ⟨z,v,A,h⟩:=h
    refine su k v ho d hg (fun F R f hR=>?_) hF (next _ v h)
    unfold cT
    simp only[p,y]
    exact ⟨z,(A F f).mono fun C F' B=>by obtain ⟨rfl,rfl⟩:=B;exact hR⟩
   .split at h
    case h_2=>exact h.elim
    rename_i v hv
    exact su k v ho d hg (fun F R f hR=>sD hv hR) hF (next _ v h)
  .exact h.elim
def iE (P:Program)(J:Goroutine->ag->Prop)(ops:Array Oper)(F0:ag)(Q:Act->ag->Prop):List Oper->Bool->Act->ag->Prop
 |[],_,a,F=>Q a F
 |o::rest,_,a,F=>match cx ops o a with
  |some true=>cT P J o (fun v F'=>Knows F0 F'/\iE P J ops F0 Q rest (!Oper.calls o) (bB a o.dst v) F') a F
  |_=>False
theorem Cg {P:Program}{J:Goroutine->ag->Prop}{ops:Array Oper}{F0:ag}{Q:Act->ag->Prop}{go:Bool}{a:Act}{F:ag}:iE P J ops F0 Q [] go a F=Q a F:=rfl
theorem Ch {P:Program}{J:Goroutine->ag->Prop}{ops:Array Oper}{F0:ag}{Q:Act->ag->Prop}{o:Oper}{rest:List Oper}{a:Act}{F:ag}:iE P J ops F0 Q (o::rest) true a F=match cx ops o a with
  |some true=>cT P J o (fun v F'=>Knows F0 F'/\iE P J ops F0 Q rest (!Oper.calls o) (bB a o.dst v) F') a F
  |_=>False:=(Eq.refl _).trans (Eq.refl _)
theorem g8 {P:Program}{J:Goroutine->ag->Prop}{ops:Array Oper}{F0:ag}{Q:Act->ag->Prop}:∀{l:List Oper} {go:Bool} {a:Act} {F:ag},iE P J ops F0 Q l true a F->iE P J ops F0 Q l go a F
 |[],_,_,_,h=>h
 |_::_,_,_,_,h=>h
theorem nu (m:Nat)(g:∀j,j<ops.size - m->Region.ready .any ops (c9 ops.size (m+j))=[m+j])(i:Region.ready .any ops (c9 ops.size ops.size)=[]):
  ∀(l:List Oper) (k:Nat) (go:Bool) (a:Act) (F:ag),m<=k->k<=ops.size->ops.toList.drop k=l->iE P J ops F0 Q l go a F->dX P J ops Q (Knows F0) (ops.size - k) (c9 ops.size k) a F
 |[],k,_,a,F,q,s,d,h=>by
  have:k=ops.size:=by
   have:=congrArg List.length d
   simp at this
   omega
  subst this
  exact xj i h _
 |o::rest,k,_,a,F,q,s,d,h=>by
  have u:k<ops.size:=by
   rcases Nat.lt_or_ge k ops.size with x|x
   .exact x
   .rw[List.drop_eq_nil_of_le (by simpa using x)] at d;cases d
  have ho:ops[k]?=some o:=by
   have:=congrArg List.head? d
   simpa [List.head?_drop] using this
  have w:ops.toList.drop (k+1)=rest:=by
   have:=congrArg List.tail d
   simpa [List.tail_drop] using this
  have e:ops.size - k=(ops.size - (k+1))+1:=ai
  have n:=g (k - m) ai
  rw[show m+(k - m)=k by omega] at n
  rw[e]
  unfold iE at h
  split at h
  .rename_i hg
   refine xP k ho n hg ?_
   refine pz ?_ h
   rintro v F' ⟨y,f⟩
   refine ⟨y,?_⟩
   rw[pn u]
   exact nu m g i rest (k+1) _ _ F' ai ai w f
  .exact h.elim
where
 pz {o:Oper} {a:Act} {F:ag} {R p:Value->ag->Prop} (hR:∀v F,R v F->p v F) (h:cT P J o R a F):cT P J o p a F:=by
  obtain ⟨dst,op,type,pos,after,guard⟩:=o
  unfold cT at h ⊢
  cases op<;>simp only at h ⊢<;>first
   |exact h.elim
   |exact hR _ _ h
   |exact fun b hb=>hR _ _ (h b hb)
   |exact fW (fun v F h=>hR v F h) _ _ h
   |(split at h<;>first
     |exact h.elim
     |exact hR _ _ h
     |exact fun b hb=>hR _ _ (h b hb)
     |(split at h<;>first|exact h.elim|exact hR _ _ h|exact fun b hb=>hR _ _ (h b hb)))
   |skip
  case slice t x lo hi z=>
   cases z with
   |some m=>exact h.elim
   |none=>
    refine ⟨h.1,?_⟩
    have f:=h.2
    revert f
    cases ki P t (ev a x) (lo.map (ev a)) (hi.map (ev a)) with
    |some v=>exact fun x=>hR _ _ x
    |none=>exact fun x=>x
  case call c=>
   obtain ⟨callee,args,argTypes⟩:=c
   cases callee with
   |value x=>
    exact fX.mono h hR
   |invoke r m=>exact h.elim
   |builtin b=>
    cases b<;>simp only at h ⊢<;>first
     |exact h.elim
     |(split at h<;>first|exact h.elim|exact fun ty=>fW (fun v F ⟨F0,hle,h⟩=>⟨F0,hle,hR _ _ h⟩) _ _ (h ty))
     |exact fW (fun v F h=>hR v F h) _ _ h
     |(split at h<;>first|exact h.elim|(split at h<;>first|exact h.elim|exact hR _ _ h|exact fW (fun v F h=>hR v F h) _ _ h))
theorem cu {Q:Ex->Act->ag->Prop}(hJ:Closed P main J)(e:P.follows .mixedOrders=true)(m:Nat){id:Nat}{a:Act}{F:ag}(F0:ag)(hF:Knows F0 F)(f:pg ops m=true)
  (h:eO P J ops F0 (fun b=>iE P J ops F0 (Q .normal) (ops.toList.drop m) true b F) (ops.toList.take m) true a):Wp J (.region id ops true) Q a F:=by
 have c:=xT f
 simp only[nk,Bool.and_eq_true,decide_eq_true_eq,List.all_eq_true,List.mem_range] at c
 obtain ⟨⟨⟨⟨g,d⟩,j⟩,k⟩,l⟩:=c
 refine xp hJ (Knows F0) e ?_
 rw[<-xU]
 have:=pq (P:=P) (J:=J) (Q:=Q .normal) m d g (fun i hi=>by have:=j i hi;simpa using this) hF (fun b n=>nu m k l _ m _ b F (Nat.le_refl _) d rfl n) _ 0 true a aB (Nat.zero_le _) h
 simpa using this
theorem eo (hJ:Closed P main J){F0:ag}{f:FuncId}{args:Array Value}{v:Value}(h:∀F,Knows F0 F->aF P f args F.dz (fun a _=>a=v)):Plain P J F0 f args v:=
 fun F hF=>rT (h F hF) main J hJ
end
attribute [irreducible] eO iE
attribute [go_sem] jg Cc g6 Ce Cf Cg Ch oU List.take_succ_cons List.take_zero List.drop_succ_cons List.drop_zero Array.zipIdx_toArray List.zipIdx_cons List.zipIdx_nil List.foldl_toArray List.foldl_toArray' decide_eq_true_eq Bool.and_false Bool.false_and Bool.and_self Bool.true_and Bool.and_true List.foldl_cons List.foldl_nil decide_false decide_true Bool.or_false Bool.false_or Bool.or_self Bool.or_true Bool.true_or gt_iff_lt Nat.reduceGT Nat.lt_irrefl Bool.false_eq_true Nat.zero_add Nat.add_zero Nat.not_lt_zero
section
variable {P:Program}{main:Bool}{J:Goroutine->ag->Prop}{Q:Ex->Act->ag->Prop}{a:Act}{F:ag}
theorem bp (hJ:Closed P main J){f:FuncId}{args:Array Value}{F:ag}{K:Value->ag->Prop}(v:Value)(h:aF P f args F.dz (fun a _=>a=v))(b:K v F):c8 P J f args F K:=
 (rT h main J hJ).mono fun a F' hv=>by obtain ⟨rfl,rfl⟩:=hv;exact b
theorem aN (hJ:Closed P main J){c:Operand}{x y:Code}(b:ev a c= .bool true)(h:Wp J x Q a F):Wp J (.cond c x y) Q a F:=xm hJ true b h
theorem aM (hJ:Closed P main J){c:Operand}{x y:Code}(b:ev a c= .bool false)(h:Wp J y Q a F):Wp J (.cond c x y) Q a F:=xm hJ false b h
theorem cv (hJ:Closed P main J){c:Code}{F':ag}(hle:Le F F')(h:Wp J c Q a F):Wp J c Q a F':=h.le (hJ:=hJ) hle
theorem Le.sub {ro:Addr->Option Value}{l l':List (Nat×Obj)}(h:l.Sublist l'):Le ⟨ro,l⟩ ⟨ro,l'⟩:=by
 have c:(keys l).Sublist (keys l'):=h.map _;exact ⟨fun w hw=>⟨hw.ro,fun b o hb=>hw.own b o (h.subset hb),c.nodup hw.nodup,fun a v d hm=>hw.apart a v d (c.subset hm)⟩,fun b hb=>c.subset hb,fun a e=>.inl e⟩
theorem sE (hJ:Closed P main J){c:Code}(I:Nat->Act->ag->Prop)(n:Nat)(b:I n a F)(hs:∀n a F,I n a F->Wp J c (oU (fun m a F=>∃F0,Le F0 F/\I m a F0) n Q) a F):Wp J (.loop c) Q a F:=
 xo hJ (fun m a F=>∃F0,Le F0 F/\I m a F0) n ⟨F,Le.refl F,b⟩ fun n a F ⟨F0,hle,d⟩=>cv hJ hle (hs n a F0 d)
end
def gx:List Nat->Nat->Bool
 |[],_=>false
 |w::ws,i=>i==w||gx ws i
abbrev In (ws:List Nat)(i:Nat):Prop:=gx ws i=true
structure cq (ws:List Nat)(a a0:Act):Prop where
 size:sz a=sz a0
 defers:a.defers=a0.defers
 ay:∀i,¬In ws i->slot a i=slot a0 i
theorem cq.refl (ws:List Nat)(a:Act):cq ws a a:=⟨rfl,rfl,fun _ _=>rfl⟩
theorem cq.trans {ws:List Nat}{a b c:Act}(h:cq ws a b)(k:cq ws b c):cq ws a c:=⟨h.size.trans k.size,h.defers.trans k.defers,fun i hi=>(h.ay i hi).trans (k.ay i hi)⟩
theorem cq.sub {ws c:List Nat}{a b:Act}(hs:∀i,In ws i->In c i)(h:cq ws a b):cq c a b:=⟨h.size,h.defers,fun i hi=>h.ay i fun x=>hi (hs i x)⟩
theorem Ci {ws:List Nat}{a:Act}:cq ws a a=True:=eq_true (cq.refl ws a)
theorem Cj {ws:List Nat}{a a0:Act}{d:Nat}{v:Value}(h:gx ws d=true):cq ws (bB a (some d) v) a0=cq ws a a0:=by
 apply propext;constructor
 .intro k;refine ⟨by rw[<-k.size,xD],by rw[<-k.defers,xE],fun i hi=>?_⟩;rw[<-k.ay i hi,rY _ _ _ _ (fun e=>hi (by subst e;exact h))]
 .intro k;refine ⟨by rw[<-k.size,xD],by rw[<-k.defers,xE],fun i hi=>?_⟩;rw[<-k.ay i hi,rY _ _ _ _ (fun e=>hi (by subst e;exact h))]
def cR (ws a:List Nat):Bool:=ws.all fun w=>gx a w
theorem xV:∀{ws:List Nat} {i:Nat},gx ws i=true->i∈ws
 |[],_,h=>by cases h
 |w::ws,i,h=>by
  simp only[gx,Bool.or_eq_true,beq_iff_eq] at h
  rcases h with h|h
  .rw[h];exact List.mem_cons_self
  .exact List.mem_cons_of_mem _ (xV h)
theorem cq.cR {ws c:List Nat}{a b:Act}(h:cq ws a b)(hs:Sep.cR ws c=true):cq c a b:=h.sub fun i hi=>by
 have:=xV hi
 exact List.all_eq_true.1 hs i this
def rg:Nat->Nat->List Nat->List Nat
 |_,0,ws=>ws
 |a,n+1,ws=>a::rg (a+1) n ws
theorem xW:∀(n a i:Nat) (ws:List Nat),gx (rg a n ws) i=(decide (a<=i)&&decide (i<a+n)||gx ws i)
 |0,a,i,ws=>by
  show gx ws i=_
  cases h:(decide (a<=i)&&decide (i<a+0)) with
  |false=>rfl
  |true=>rw[Bool.and_eq_true,decide_eq_true_eq,decide_eq_true_eq] at h;omega
 |n+1,a,i,ws=>by
  show (i==a||gx (rg (a+1) n ws) i)=_
  rw[xW n (a+1) i ws,<-Bool.or_assoc]
  congr 1
  rw[Bool.eq_iff_iff]
  simp only[Bool.or_eq_true,Bool.and_eq_true,decide_eq_true_eq,beq_iff_eq]
  omega
attribute [go_sem] xW Nat.reduceLeDiff Nat.reduceLT Nat.reduceAdd
attribute [go_sem] gx Ci Cj or_true true_or or_false false_or Nat.reduceBEq
section
variable {P:Program}{main:Bool}{J:Goroutine->ag->Prop}{Q:Ex->Act->ag->Prop}{a:Act}{F:ag}
theorem bO (hJ:Closed P main J){c:Code}(ws:List Nat)(I:Nat->Act->ag->Prop)(n:Nat)(h:I n a F)
  (hs:∀n b F',cq ws b a->I n b F'->Wp J c (oU (fun m d f=>cq ws d b/\∃F0,Le F0 f/\I m d F0) n Q) b F'):Wp J (.loop c) Q a F:=
 xo hJ (fun m d f=>cq ws d a/\∃F0,Le F0 f/\I m d F0) n ⟨.refl ws a,F,Le.refl F,h⟩ fun n b F' ⟨ho,F0,hle,j⟩=>
  cv hJ hle ((hs n b F0 ho j).mono fun e d f g=>by
   cases e with
   |normal=>obtain ⟨m,hm,k,l⟩:=g;exact ⟨m,hm,k.trans ho,l⟩
   |exit i=>exact g
   |ret=>exact g)
end
def Ext (ro aK:Addr->Option Value):Prop:=∀a v,ro a=some v->aK a=some v
theorem Ext.refl (ro:Addr->Option Value):Ext ro ro:=fun _ _ h=>h
theorem Ext.trans {r s t:Addr->Option Value}(h:Ext r s)(k:Ext s t):Ext r t:=fun a v x=>k a v (h a v x)
def bY (ro:Addr->Option Value)(b:Nat)(o:Obj):Addr->Option Value:=fun a=>match ro a with
 |some v=>some v
 |none=>if a.block=b/\a.spot=none then cellOf o a.off else none
theorem fY (ro:Addr->Option Value)(b:Nat)(o:Obj):Ext ro (bY ro b o):=fun a v h=>by simp[bY,h]
theorem ep {ro:Addr->Option Value}{b off:Nat}{o:Obj}(h:∀off sp,ro ⟨b,off,sp⟩=none):bY ro b o ⟨b,off,none⟩=cellOf o off:=by simp[bY,h]
theorem kz {ro:Addr->Option Value}{own e:List (Nat×Obj)}{b:Nat}{o:Obj}(i:lk own b=some o)(hs:e.Sublist own)(hb:aQ e b):Le ⟨bY ro b o,e⟩ ⟨ro,own⟩:=by
 have g:(keys e).Sublist (keys own):=hs.map _;have hm:=gI i;have hn:b∉keys e:=by
  clear i hs g hm
  induction e with
  |nil=>simp[keys]
  |cons x l ih=>
   simp only[keys,List.map_cons,List.mem_cons,not_or];exact ⟨hb.1,ih hb.2⟩
 refine ⟨fun w hw=>⟨fun a v h=>?_,fun c x d=>hw.own c x (hs.subset d),g.nodup hw.nodup,fun a v h d=>?_⟩,fun c d=>g.subset d,fun a j=>?_⟩
 .replace h:bY ro b o a=some v:=h;unfold bY at h;split at h
  .rename_i x f;cases h;exact hw.ro _ _ f
  .split at h
   .rename_i d;have:=hw.own b o hm;rw[<-d.1] at this;cases o<;>simp only[cellOf,reduceCtorEq] at h;simp[World.cell?,this,d.2,h]
   .cases h
 .replace h:bY ro b o a=some v:=h;unfold bY at h;split at h
  .rename_i x f;exact hw.apart a x f (g.subset d)
  .split at h
   .rename_i k;rw[k.1] at d;exact hn d
   .cases h
 .obtain ⟨v,h⟩:=Option.isSome_iff_exists.1 j;replace h:bY ro b o a=some v:=h;unfold bY at h;split at h
  .rename_i x f;exact .inl (by simp[f])
  .split at h
   .rename_i d;exact .inr (by rw[d.1];exact eC hm)
   .cases h
def ee (P:Program)(f:FuncId)(args:Array Value)(ro:Addr->Option Value)(R:Value->(Addr->Option Value)->Prop):Prop:=
 aF P f args ⟨ro,[]⟩ (fun v G=>∃aK,Ext ro aK/\Le ⟨aK,[]⟩ G/\R v aK)
def jI (F G:ag):Prop:=∀a,(G.ro a).isSome=true->a.block∉keys F.own
def pE (J:Goroutine->ag->Prop)(F:ag)(g:Goroutine)(G:ag):Prop:=Fits F G->jI F G->J g (G.star F)
theorem sF {P:Program}{main:Bool}{J:Goroutine->ag->Prop}(hJ:Closed P main J)(F:ag):Closed P main (pE J F) where
 mono {g G H} hle h c hn:=by
  have k:=c.le hle
  have t:jI F G:=fun a d=>(hle.ro a d).elim (hn a) (c.own _)
  refine hJ.mono ⟨fun w hw=>k.both (hle.has w (c.right hw)) (c.left hw),fun b hb=>?_,fun a d=>?_⟩ (h k t)
  .simp only[ag.star,b8,List.mem_append] at hb ⊢
   exact hb.imp (hle.own b) id
  .rcases iB d with x|x
   .exact (fH (.inl x)).imp id (fun y=>by simp only[ag.star,b8,List.mem_append];exact .inr y)
   .rcases hle.ro a x with y|y
    .exact (fH (.inr y)).imp id (fun z=>by simp only[ag.star,b8,List.mem_append];exact .inr z)
    .exact .inr (by simp only[ag.star,b8,List.mem_append];exact .inl y)
 step {fr cs G} h c hn:=by
  refine hJ.step fun w hw=>?_
  have u:=c.right hw
  have hF:=c.left hw
  obtain ⟨g',w',es,i,hgo,hu,l,A,B⟩:=h w u
  have n:Has F w':=by
   refine ⟨fun a v j=>?_,fun b o hb=>?_,hF.nodup,hF.apart⟩
   .have p:=hF.ro a v j
    have C:=hF.gv (a:=a) (by simp[j])
    unfold World.cell? at p ⊢
    rw[hu.frame _ C (c.ro a (by simp[j]))]
    exact p
   .rw[hu.frame b (hF.lt (eC hb)) (fun hm=>c.own b hm (eC hb))]
    exact hF.own b o hb
  have q:Fits F i:=by
   refine ⟨⟨w',l,n⟩,fun b hb hm=>?_,fun a d hm=>?_⟩
   .rcases hu.own b hb with x|x
    .exact c.own b x hm
    .have:=hF.lt hm;omega
   .rcases hu.own _ hm with x|x
    .exact c.ro a d x
    .have:=hF.gv d;omega
  have D:jI F i:=fun a d hm=>by
   rcases hu.ro a d with x|x|x
   .exact hn a x hm
   .exact c.own _ x hm
   .have:=hF.lt hm;omega
  refine ⟨g',w',es,i.star F,hgo,⟨hu.os,hu.tape,hu.output,hu.size,fun b hb hn=>hu.frame b hb fun hm=>hn ?_,fun a d=>?_,fun b hb=>?_⟩,q.both l n,fun e he=>?_,B q D⟩
  .simp only[ag.star,b8,List.mem_append];exact .inl hm
  .rcases iB d with x|x
   .exact (fH (.inl x)).imp id (fun y=>.inl (by simp only[ag.star,b8,List.mem_append];exact .inr y))
   .rcases hu.ro a x with y|y|y
    .exact (fH (.inr y)).imp id (fun z=>.inl (by simp only[ag.star,b8,List.mem_append];exact .inr z))
    .exact .inr (.inl (by simp only[ag.star,b8,List.mem_append];exact .inl y))
    .exact .inr (.inr y)
  .simp only[ag.star,b8,List.mem_append] at hb ⊢
   rcases hb with hb|hb
   .exact (hu.own b hb).imp .inl id
   .exact .inl (.inr hb)
  .have s:∀b,fA G w.heap.size w'.heap.size b->fA (G.star F) w.heap.size w'.heap.size b:=fun b hb=>hb.imp (fun x=>by simp only[ag.star,b8,List.mem_append];exact .inl x) id
   rcases A e he with ⟨a,wr,rfl,f|⟨E,f⟩⟩|⟨r,wr,rfl,f⟩|⟨m,rfl,hm⟩
   .exact .inl ⟨a,wr,rfl,.inl (s _ f)⟩
   .rcases fH (F:=F) (.inr f) with y|y
    .exact .inl ⟨a,wr,rfl,.inr ⟨E,y⟩⟩
    .exact .inl ⟨a,wr,rfl,.inl (.inl (by simp only[ag.star,b8,List.mem_append];exact .inr y))⟩
   .exact .inr (.inl ⟨r,wr,rfl,s _ f⟩)
   .exact .inr (.inr ⟨m,rfl,hm⟩)
section
variable {P:Program}{main:Bool}{J:Goroutine->ag->Prop}
theorem cz (hJ:Closed P main J){f:FuncId}{args:Array Value}{ro:Addr->Option Value}{own:List (Nat×Obj)}{K:Value->ag->Prop}(R:Value->(Addr->Option Value)->Prop)(h:ee P f args ro R)
  (p:∀v aK,Ext ro aK->(∀b∈keys own,∀off sp,aK ⟨b,off,sp⟩=none)->R v aK->K v ⟨aK,own⟩):c8 P J f args ⟨ro,own⟩ K:=by
 intro c cs hK
 by_cases hw:∃w,Has ⟨ro,own⟩ w
 .obtain ⟨g,i⟩:=hw
  let F:ag:=⟨fun _=>none,own⟩
  have k:∀w,Has ⟨ro,own⟩ w->Has F w:=fun w hw=>⟨fun a v h=>(by cases h),hw.own,hw.nodup,fun a v h=>(by cases h)⟩
  have l:∀w,Has ⟨ro,own⟩ w->Has ⟨ro,[]⟩ w:=fun w hw=>⟨hw.ro,fun b o hb=>(by cases hb),List.nodup_nil,fun a v e hm=>(by cases hm)⟩
  have m:Fits F ⟨ro,[]⟩:=⟨⟨g,l g i,k g i⟩,fun b hb=>(by cases hb),fun a d hm=>(by cases hm)⟩
  have q:jI F ⟨ro,[]⟩:=fun a d hm=>by
   obtain ⟨v,hv⟩:=Option.isSome_iff_exists.1 d
   exact i.apart a v hv hm
  have r:pE J F (G (Frame.enter P f args .normal) (c::cs)) ⟨ro,[]⟩:=by
   refine h main _ (sF hJ F) c cs fun v G hR j hn=>?_
   obtain ⟨aK,s,hle,hR⟩:=hR
   have n:∀a,(aK a).isSome=true->a.block∉keys own:=fun a d=>(hle.ro a d).elim (hn a) (j.own _)
   refine hJ.mono (F:=⟨aK,own⟩) ⟨fun w hw=>?_,fun b hb=>?_,fun a d=>?_⟩ (hK v ⟨aK,own⟩ (p v aK s (fun b hb off sp=>?_) hR))
   .have t:=hle.has w (j.right hw)
    have hF:=j.left hw
    exact ⟨t.ro,hF.own,hF.nodup,fun a v e=>n a (by simp only at e;simp[e])⟩
   .simp only[ag.star,b8,List.mem_append];exact .inr hb
   .rcases hle.ro a d with x|x
    .exact (fH (.inr x)).imp id (fun z=>by simp only[ag.star,b8,List.mem_append];exact .inr z)
    .exact .inr (by simp only[ag.star,b8,List.mem_append];exact .inl x)
   .cases e:aK ⟨b,off,sp⟩ with
    |none=>rfl
    |some v=>exact absurd hb (n ⟨b,off,sp⟩ (by simp[e]))
  refine hJ.mono ⟨fun w hw=>m.both (l w hw) (k w hw),fun b hb=>?_,fun a d=>?_⟩ (r m q)
  .simpa [ag.star,F] using hb
  .rcases iB d with x|x
   .cases x
   .exact .inl x
 .exact hJ.step fun w hF=>absurd ⟨w,hF⟩ hw
end
attribute [go_sem] beq_self_eq_true beq_iff_eq beq_true beq_false Int.toNat_natCast Int.natCast_nonneg Int.ofNat_lt Nat.zero_mul Nat.mul_one List.length_map Bool.not_eq_true Bool.not_not decide_not
inductive Fl (σ ρ:Type) where
 |nx (s:σ)
 |bk (s:σ)
 |br (k:Nat) (s:σ)
 |rt (r:ρ)
def ax {α β:Type}(x:Option α)(f:α->Option β):Option β:=match x with
 |some a=>f a
 |none=>none
theorem an {α β:Type}{x:Option α}{f:α->Option β}{r:β}(h:ax x f=some r):∃a,x=some a/\f a=some r:=by
 cases x with
 |none=>cases h
 |some a=>exact ⟨a,rfl,h⟩
theorem aD {α:Type}{b:Bool}{x y:Option α}{r:α}(h:cond b x y=some r):(b=true/\x=some r)\/(b=false/\y=some r):=by
 cases b
 .exact .inr ⟨rfl,h⟩
 .exact .inl ⟨rfl,h⟩
def aH {σ ρ τ:Type}(o:Fl σ ρ)(f:σ->Option τ)(g:Nat->σ->Option τ)(h:ρ->Option τ):Option τ:=match o with
 | .nx s=>f s
 | .bk s=>f s
 | .br k s=>g k s
 | .rt r=>h r
def bg {σ ρ:Type}(f:σ->Option (Fl σ ρ)):Nat->σ->Option (Fl σ ρ)
 |0,_=>none
 |n+1,s=>ax (f s) fun o=>match o with
  | .nx s'=>bg f n s'
  | .bk s'=>some (.nx s')
  | .br k s'=>some (.br k s')
  | .rt r=>some (.rt r)
def b7 {α σ ρ:Type}(f:Nat->α->σ->Option (Fl σ ρ)):Nat->List α->σ->Option (Fl σ ρ)
 |_,[],s=>some (.nx s)
 |i,x::l,s=>ax (f i x s) fun o=>match o with
  | .nx s'=>b7 f (i+1) l s'
  | .bk s'=>some (.nx s')
  | .br k s'=>some (.br k s')
  | .rt r=>some (.rt r)
def fu:Nat:=1000000000000000000
def bM {α:Type}(l:List α)(i:Int):Option α:=if 0<=i then l[i.toNat]? else none
theorem dc {α:Type}{l:List α}{i:Int}{x:α}(h:bM l i=some x):0<=i/\i<l.length/\l[i.toNat]?=some x:=by
 unfold bM at h;split at h
 .rename_i a;obtain ⟨hi,_⟩:=List.getElem?_eq_some_iff.1 h;exact ⟨a,ai,h⟩
 .cases h
def fZ {α:Type}(l xs:List α):Option (List α):=if l.length+xs.length<=1000000 then some (l++xs) else none
theorem iF {α:Type}{l xs r:List α}(h:fZ l xs=some r):l.length+xs.length<=1000000/\r=l++xs:=by
 unfold fZ at h;split at h
 .rename_i a;cases h;exact ⟨a,rfl⟩
 .cases h
def jh {α:Type}(l:List α)(lo hi:Int):Option (List α):=if 0<=lo/\lo<=hi/\hi<=l.length then some ((l.take hi.toNat).drop lo.toNat) else none
theorem pF {α:Type}{l r:List α}{lo hi:Int}(h:jh l lo hi=some r):0<=lo/\lo<=hi/\hi<=l.length/\r=(l.take hi.toNat).drop lo.toNat:=by
 unfold jh at h;split at h
 .rename_i a;cases h;exact ⟨a.1,a.2.1,a.2.2,rfl⟩
 .cases h
def nv (a b:Int):Option Int:=if b=0 then none else some (IntKind.i64.wrap (a.tdiv b))
theorem sG {a b r:Int}(h:nv a b=some r):¬b=0/\IntKind.i64.wrap (a.tdiv b)=r:=by
 unfold nv at h;split at h
 .cases h
 .rename_i c;cases h;exact ⟨c,rfl⟩
def ny (a b:Int):Option Int:=if b=0 then none else some (a.tmod b)
theorem xX {a b r:Int}(h:ny a b=some r):¬b=0/\a.tmod b=r:=by
 unfold ny at h;split at h
 .cases h
 .rename_i c;cases h;exact ⟨c,rfl⟩
def Ck (a b:Int):Int:=IntKind.i64.wrap (BitVec.ofInt 64 a&&& BitVec.ofInt 64 b).toNat
theorem Cm (a b:Int):IntKind.i64.wrap (BitVec.ofInt IntKind.i64.bits a&&& BitVec.ofInt IntKind.i64.bits b).toNat=Ck a b:=rfl
attribute [go_sem ↓] Cm
def sH (a b:Int):Option Int:=if b<0 then none else some (a.fdiv (2 ^ min b.toNat IntKind.u8.bits))
theorem Cn {a b r:Int}(h:sH a b=some r):¬b<0/\a.fdiv (2 ^ min b.toNat IntKind.u8.bits)=r:=by
 unfold sH at h;split at h
 .cases h
 .rename_i c;cases h;exact ⟨c,rfl⟩
def xY (a b:Int):Int:=IntKind.u8.wrap (BitVec.ofInt 8 a&&& BitVec.ofInt 8 b).toNat
theorem Co (a b:Int):IntKind.u8.wrap (BitVec.ofInt IntKind.u8.bits a&&& BitVec.ofInt IntKind.u8.bits b).toNat=xY a b:=rfl
attribute [go_sem ↓] Co
def ji (a b:Int):Option Int:=if b<0 then none else some (IntKind.u64.wrap (a*2 ^ min b.toNat IntKind.u64.bits))
theorem lq {a b r:Int}(h:ji a b=some r):¬b<0/\IntKind.u64.wrap (a*2 ^ min b.toNat IntKind.u64.bits)=r:=by
 unfold ji at h;split at h
 .cases h
 .rename_i c;cases h;exact ⟨c,rfl⟩
def lu (a b:Int):Option Int:=if b<0 then none else some (a.fdiv (2 ^ min b.toNat IntKind.u64.bits))
theorem sI {a b r:Int}(h:lu a b=some r):¬b<0/\a.fdiv (2 ^ min b.toNat IntKind.u64.bits)=r:=by
 unfold lu at h;split at h
 .cases h
 .rename_i c;cases h;exact ⟨c,rfl⟩
def e7 (a b:Int):Int:=IntKind.u64.wrap (BitVec.ofInt 64 a&&& BitVec.ofInt 64 b).toNat
theorem Cp (a b:Int):IntKind.u64.wrap (BitVec.ofInt IntKind.u64.bits a&&& BitVec.ofInt IntKind.u64.bits b).toNat=e7 a b:=rfl
def gz (a b:Int):Int:=IntKind.u64.wrap (BitVec.ofInt 64 a ^^^ BitVec.ofInt 64 b).toNat
theorem Cq (a b:Int):IntKind.u64.wrap (BitVec.ofInt IntKind.u64.bits a ^^^ BitVec.ofInt IntKind.u64.bits b).toNat=gz a b:=rfl
def sJ (a b:Int):Int:=IntKind.u64.wrap (BitVec.ofInt 64 a|||BitVec.ofInt 64 b).toNat
theorem Cr (a b:Int):IntKind.u64.wrap (BitVec.ofInt IntKind.u64.bits a|||BitVec.ofInt IntKind.u64.bits b).toNat=sJ a b:=rfl
def pG (a b:Int):Int:=IntKind.u64.wrap (BitVec.ofInt 64 a&&& ~~~(BitVec.ofInt 64 b)).toNat
theorem Cs (a b:Int):IntKind.u64.wrap (BitVec.ofInt IntKind.u64.bits a&&& ~~~(BitVec.ofInt IntKind.u64.bits b)).toNat=pG a b:=rfl
attribute [go_sem ↓] Cp Cq Cr Cs
def lz (l:List UInt8)(i:Int):Option Int:=if 0<=i then (l[i.toNat]?).map fun b=>(b.toNat:Int) else none
theorem xZ {l:List UInt8}{i x:Int}(h:lz l i=some x):0<=i/\∃y:UInt8,l[i.toNat]?=some y/\(y.toNat:Int)=x:=by
 unfold lz at h;split at h
 .rename_i a;obtain ⟨y,b,e⟩:=Option.map_eq_some_iff.1 h;exact ⟨a,y,b,e⟩
 .cases h
theorem dF {n:Nat}(h:n<1000000000000000):IntKind.i64.wrap ((n:Int)+1)=((n+1:Nat):Int):=by
 simp only[IntKind.wrap,IntKind.bits,IntKind.signed];simp;omega
theorem er {α:Type}{l:List α}{i:Nat}{x:α}(h:l[i]?=some x):l.drop i=x::l.drop (i+1):=by
 obtain ⟨hi,rfl⟩:=List.getElem?_eq_some_iff.1 h;exact List.drop_eq_getElem_cons hi
theorem cast_zero:((0:Nat):Int)=0:=rfl
attribute [go_sem] cast_zero
theorem Ct (l:List Value)(i j:Nat):(l.toArray).extract i j=((l.drop i).take (j - i)).toArray:=by
 apply Array.ext';simp[List.extract_eq_drop_take]
attribute [go_sem] Ct
structure cg (T:Type) where
 n:Nat
 rel:(Addr->Option Value)->T->List Value->Prop
 mono:∀{ro aK:Addr->Option Value} {x:T} {cs:List Value},Ext ro aK->rel ro x cs->rel aK x cs
 len:∀{ro:Addr->Option Value} {x:T} {cs:List Value},rel ro x cs->cs.length=n
 one:∀{ro:Addr->Option Value} {x:T} {cs:List Value},rel ro x cs->∀v∈cs,eX v=true
def kA {T:Type}(n:Nat)(c:T->List Value)(h:∀x,(c x).length=n)(a:∀x,∀v∈c x,eX v=true):cg T:=
 ⟨n,fun _ x cs=>cs=c x,fun _ h=>h,fun e=>by rw[e];exact h _,fun e=>by rw[e];exact a _⟩
def rI:cg Int:=kA 1 (fun n=>[.int .i64 n]) (fun _=>rfl) (fun _ v hv=>by simp at hv;subst hv;rfl)
def rB:cg Bool:=kA 1 (fun n=>[.bool n]) (fun _=>rfl) (fun _ v hv=>by simp at hv;subst hv;rfl)
def aI {T:Type}(r:cg T)(ro:Addr->Option Value)(s:Value)(l:List T):Prop:=
 ∃ad cap,s= .slice ad l.length cap/\l.length<=cap/\l.length<=1000000000000000/\∀i x,l[i]?=some x->∃p cs,ad=some p/\r.rel ro x cs/\∀j v,cs[j]?=some v->ro ((p.add (i*r.n)).add j)=some v
theorem aI.mono {T:Type}{r:cg T}{ro aK:Addr->Option Value}{s:Value}{l:List T}(h:aI r ro s l)(a:Ext ro aK):aI r aK s l:=by
 obtain ⟨ad,cap,b,c,d,e⟩:=h;refine ⟨ad,cap,b,c,d,fun i x hi=>?_⟩;obtain ⟨p,cs,f,g,hm⟩:=e i x hi;exact ⟨p,cs,f,r.mono a g,fun j v hv=>a _ _ (hm j v hv)⟩
theorem aI.nil {T:Type}(r:cg T)(ro:Addr->Option Value):aI r ro (.slice none 0 0) []:=⟨none,0,rfl,Nat.le_refl _,aB,fun i x h=>by simp at h⟩
def rL {T:Type}(r:cg T):cg (List T):=
 ⟨1,fun ro l cs=>∃s,cs=[s]/\aI r ro s l,fun c ⟨s,a,b⟩=>⟨s,a,b.mono c⟩,fun ⟨s,a,_⟩=>by rw[a];rfl,fun ⟨s,a,ad,cap,b,_⟩ v hv=>by rw[a] at hv;simp at hv;subst hv;rw[b];rfl⟩
theorem aI.part {T:Type}{r:cg T}{ro:Addr->Option Value}{ad:Option Addr}{cap:Nat}{l:List T}(h:aI r ro (.slice ad l.length cap) l)(lo hi:Nat)(g:lo<=hi)(k:hi<=l.length):
  aI r ro (.slice (if cap=lo then ad else ad.map (·.add (lo*r.n))) (hi - lo) (cap - lo)) ((l.take hi).drop lo):=by
 obtain ⟨m,o,e,q,s,b⟩:=h
 cases e
 have hlen:((l.take hi).drop lo).length=hi - lo:=by simp;omega
 refine ⟨_,cap - lo,by rw[hlen],by rw[hlen];omega,by rw[hlen];omega,fun i x a=>?_⟩
 rw[List.getElem?_drop,List.getElem?_take] at a
 split at a
 case isFalse=>cases a
 obtain ⟨p,cs,c,d,hm⟩:=b _ x a
 have t:lo+i<l.length:=(List.getElem?_eq_some_iff.1 a).1
 refine ⟨p.add (lo*r.n),cs,?_,d,fun j v hv=>?_⟩
 .have f:¬cap=lo:=ai
  rw[if_neg f,c];rfl
 .have:=hm j v hv
  rw[jH] at this
  rw[jH,jH]
  rw[show lo*r.n+(i*r.n+j)=(lo+i)*r.n+j by rw[Nat.add_mul];omega]
  exact this
def Apart (ks:List Nat)(bz:List (Nat×Obj)):Prop:=∀k∈keys bz,k∉ks
theorem Apart.nil (ks:List Nat):Apart ks []:=fun k h=>(by cases h)
theorem kB:∀{l:List (Nat×Obj)} {b:Nat},aQ l b->b∉keys l
 |[],_,_=>by simp[keys]
 |(c,o)::l,b,h=>by simp only[keys,List.map_cons,List.mem_cons,not_or];exact ⟨h.1,kB h.2⟩
theorem kC:∀{l:List (Nat×Obj)} {b:Nat},b∉keys l->aQ l b
 |[],_,_=>trivial
 |(c,o)::l,b,h=>by simp only[keys,List.map_cons,List.mem_cons,not_or] at h;exact ⟨h.1,kC h.2⟩
theorem Apart.push {ks:List Nat}{bz:List (Nat×Obj)}{b:Nat}(h:Apart ks bz)(hb:aQ bz b):Apart (b::ks) bz:=fun k a=>by
 simp only[List.mem_cons,not_or]
 exact ⟨fun e=>kB hb (e▸a),h k a⟩
theorem Apart.drop {ks:List Nat}{bz:List (Nat×Obj)}{b:Nat}(h:Apart (b::ks) bz):Apart ks bz:=fun k a=>(by have:=h k a;simp only[List.mem_cons,not_or] at this;exact this.2)
def bx {T:Type}(r:cg T)(ro:Addr->Option Value)(e:TypeId)(v:Value)(l:List T)(bz:List (Nat×Obj)):Prop:=
 ∃ls:List (List Value),Gr ro e r.n v ls bz/\ls.length=l.length/\l.length<=1000000/\∀(i:Nat) (x:T),l[i]?=some x->∃cs:List Value,ls[i]?=some cs/\r.rel ro x cs
theorem bx.nil {T:Type}(r:cg T)(ro:Addr->Option Value)(e:TypeId):bx r ro e (.slice none 0 0) [] []:=⟨[],.inl ⟨rfl,rfl,rfl⟩,rfl,aB,fun i x h=>by simp at h⟩
theorem bx.len {T:Type}{r:cg T}{ro:Addr->Option Value}{e:TypeId}{v:Value}{l:List T}{bz:List (Nat×Obj)}(h:bx r ro e v l bz):∃ad cap,v= .slice ad l.length cap/\l.length<=cap:=by
 obtain ⟨ls,hg,a,-⟩:=h;rcases hg with ⟨rfl,rfl,rfl⟩|⟨b,arr,cap,rfl,rfl,hs,hle,-⟩
 .exact ⟨none,0,by rw[<-a];rfl,by rw[<-a];exact Nat.le_refl _⟩
 .exact ⟨_,cap,by rw[a],ai⟩
def aP (ro:Addr->Option Value)(own:List (Nat×Obj)):Prop:=∀b∈keys own,∀off sp,ro ⟨b,off,sp⟩=none
theorem bx.mono {T:Type}{r:cg T}{ro aK:Addr->Option Value}{e:TypeId}{v:Value}{l:List T}{bz:List (Nat×Obj)}(h:bx r ro e v l bz)(d:Ext ro aK)(hn:aP aK bz):bx r aK e v l bz:=by
 obtain ⟨ls,hg,f,hm,g⟩:=h;refine ⟨ls,?_,f,hm,fun i x hi=>?_⟩
 .rcases hg with h|⟨b,arr,cap,c,a,j,k,m,n,o⟩
  .exact .inl h
  .exact .inr ⟨b,arr,cap,c,a,j,k,m,n,hn b (by rw[a];simp[keys])⟩
 .obtain ⟨cs,c,a⟩:=g i x hi;exact ⟨cs,c,r.mono d a⟩
theorem Apart.fresh {pre bz:List (Nat×Obj)}{ks:List Nat}(h:Apart ks bz)(a:keys pre=ks):∀k∈keys bz,aQ pre k:=fun k b=>kC (by rw[a];exact h k b)
theorem lA {n:Nat}:∀(ls:List (List Value)) (i:Nat) (cs:List Value),(∀x∈ls,x.length=n)->ls[i]?=some cs->∀j v,cs[j]?=some v->ls.flatten[i*n+j]?=some v
 |[],i,cs,_,h,_,_,_=>by simp at h
 |y::ls,0,cs,hn,h,j,v,hv=>by
  simp at h;subst h
  have:j<y.length:=(List.getElem?_eq_some_iff.1 hv).1
  simp only[Nat.zero_mul,Nat.zero_add,List.flatten_cons]
  rw[List.getElem?_append_left this]
  exact hv
 |y::ls,i+1,cs,hn,h,j,v,hv=>by
  simp at h
  have ih:=lA ls i cs (fun x b=>hn x (by simp[b])) h j v hv
  have a:=hn y aB
  simp only[List.flatten_cons]
  rw[List.getElem?_append_right (by rw[a,Nat.add_mul];omega)]
  rw[show (i+1)*n+j - y.length=i*n+j by rw[a,Nat.add_mul];omega]
  exact ih
theorem bx.sK {T:Type}{r:cg T}{ro:Addr->Option Value}{e:TypeId}{v:Value}{l:List T}{bz:List (Nat×Obj)}{ks:List Nat}(h:bx r ro e v l bz)(pre:List (Nat×Obj))(k:Apart ks bz)(m:keys pre=ks)(hn:aP ro pre):
  ∃aK,Ext ro aK/\aP aK pre/\aI r aK v l/\Le ⟨aK,pre⟩ ⟨ro,pre++bz⟩:=by
 obtain ⟨ls,hg,d,hm,o⟩:=h
 rcases hg with ⟨rfl,rfl,rfl⟩|⟨b,arr,cap,rfl,rfl,hs,hle,ht,f,p⟩
 .have:l=[]:=List.eq_nil_of_length_eq_zero (by simpa using d.symm)
  subst this
  exact ⟨ro,Ext.refl ro,hn,aI.nil r ro,by rw[List.append_nil];exact Le.refl _⟩
 .have hb:b∉keys pre:=by rw[m];exact k b (by simp[keys])
  refine ⟨bY ro b (.cells arr e),fY _ _ _,fun c g off sp=>?_,⟨some ⟨b,0,none⟩,cap,by rw[d],ai,ai,fun i x hi=>?_⟩,kz ?_ (List.sublist_append_left _ _) (kC hb)⟩
  .have q:¬c=b:=fun e=>hb (e▸g)
   simp[bY,hn c g,q]
  .obtain ⟨cs,s,t⟩:=o i x hi
   refine ⟨_,cs,rfl,r.mono (fY _ _ _) t,fun j v hv=>?_⟩
   have a:=lA ls i cs f s j v hv
   rw[jH,iD,Nat.zero_add,ep p]
   have u:i*r.n+j<ls.length*r.n:=by
    have:=(List.getElem?_eq_some_iff.1 a).1
    rw[gM f] at this
    exact this
   rw[<-ht,List.getElem?_take_of_lt u] at a
   simpa [cellOf] using a
  .have:∀(pre:List (Nat×Obj)),b∉keys pre->lk (pre++[(b,Obj.cells arr e)]) b=some (.cells arr e):=fun pre h=>sj (kC h)
   exact this pre hb
theorem bx.elem {T:Type}{r:cg T}{ro:Addr->Option Value}{e:TypeId}{v:Value}{l:List T}{bz:List (Nat×Obj)}(h:bx r ro e v l bz){i:Nat}{x:T}(hi:l[i]?=some x):
  ∃b arr cap cs,v= .slice (some ⟨b,0,none⟩) l.length cap/\bz=[(b,.cells arr e)]/\(∀off sp,ro ⟨b,off,sp⟩=none)/\r.rel ro x cs/\∀j v,cs[j]?=some v->arr[i*r.n+j]?=some v:=by
 obtain ⟨ls,hg,f,hm,g⟩:=h
 obtain ⟨cs,c,k⟩:=g i x hi
 rcases hg with ⟨rfl,rfl,rfl⟩|⟨b,arr,cap,rfl,rfl,hs,hle,ht,d,m⟩
 .simp at c
 .refine ⟨b,arr,cap,cs,by rw[f],rfl,m,k,fun j v hv=>?_⟩
  have a:=lA ls i cs d c j v hv
  have o:i*r.n+j<ls.length*r.n:=by
   have:=(List.getElem?_eq_some_iff.1 a).1
   rw[gM d] at this
   exact this
  rw[<-ht,List.getElem?_take_of_lt o] at a
  simpa using a
theorem aZ {ro:Addr->Option Value}{own:List (Nat×Obj)}:Ext ro (ag.dz ⟨ro,own⟩).ro:=fun a v h=>by simp[ag.dz,ag.get,h]
theorem lB {ro:Addr->Option Value}{own:List (Nat×Obj)}{F:ag}(h:Knows ⟨ro,own⟩ F):Ext ro F.dz.ro:=fun a v b=>by
 have:F.ro a=some v:=h.1 a v b
 simp[ag.dz,ag.get,this]
theorem aI.pH {T:Type}{r:cg T}{ro:Addr->Option Value}{ad:Option Addr}{cap:Nat}{l x:List T}(h:aI r ro (.slice ad l.length cap) l)(lo hi:Nat)(b:lo<=hi)(c:hi<=l.length)(d:x=(l.take hi).drop lo):
  ∃a,(if cap=lo then ad else ad.map (·.add (lo*r.n)))=a/\hi - lo=x.length/\aI r ro (.slice a x.length (cap - lo)) x:=by
 subst d
 have hlen:((l.take hi).drop lo).length=hi - lo:=by simp;omega
 refine ⟨_,rfl,hlen.symm,?_⟩
 rw[hlen]
 exact h.part lo hi b c
theorem aI.one {T:Type}{r:cg T}{ro:Addr->Option Value}{own:List (Nat×Obj)}{b:Nat}{x:T}{cs:Array Value}{e:TypeId}(a:∀off sp,ro ⟨b,off,sp⟩=none)(c:lk own b=some (.cells cs e))(h:r.rel ro x cs.toList):
  aI r (bY ro b (.cells cs e)) (.slice (some ⟨b,0,none⟩) 1 1) [x]:=by
 refine ⟨some ⟨b,0,none⟩,1,rfl,Nat.le_refl _,aB,fun i y hi=>?_⟩
 have:i=0/\y=x:=by
  cases i with
  |zero=>simp at hi;exact ⟨rfl,hi.symm⟩
  |succ i=>simp at hi
 obtain ⟨rfl,rfl⟩:=this
 refine ⟨_,_,rfl,r.mono (fY _ _ _) h,fun j v hv=>?_⟩
 rw[Nat.zero_mul,add_zero',iD,Nat.zero_add,ep a]
 simpa [cellOf] using hv
theorem aI.flat {T:Type}{r:cg T}{ro:Addr->Option Value}{b:Nat}{cs:Array Value}{e:TypeId}(c:T->List Value)(l:List T)(a:∀x,r.rel ro x (c x))(d:∀off sp,ro ⟨b,off,sp⟩=none)(f:cs.toList=(l.map c).flatten)(hlen:l.length<=1000000000000000):
  aI r (bY ro b (.cells cs e)) (.slice (some ⟨b,0,none⟩) l.length l.length) l:=by
 refine ⟨some ⟨b,0,none⟩,l.length,rfl,Nat.le_refl _,hlen,fun i x hi=>⟨_,c x,rfl,r.mono (fY _ _ _) (a x),fun j v hv=>?_⟩⟩
 have g:(l.map c)[i]?=some (c x):=by rw[List.getElem?_map,hi];rfl
 have hn:∀y∈l.map c,y.length=r.n:=fun y h=>by
  obtain ⟨z,_,rfl⟩:=List.mem_map.1 h
  exact r.len (a z)
 have:=lA (l.map c) i (c x) hn g j v hv
 rw[iD,iD,Nat.zero_add,ep d]
 rw[<-f] at this
 simpa [cellOf] using this
theorem e8 {ro:Addr->Option Value}{own:List (Nat×Obj)}{b:Nat}{o:Obj}(e:lk own b=some o):Ext (bY ro b o) (ag.dz ⟨ro,own⟩).ro:=fun a v h=>by
 unfold bY at h
 simp only[ag.dz,ag.get]
 split at h
 .rename_i x c;rw[c];exact h
 .rename_i c
  split at h
  .rename_i d
   rw[c]
   simp only
   rw[if_pos d.2,d.1,e]
   exact h
  .cases h
theorem aF.sK {P:Program}{f:FuncId}{args:Array Value}{ro:Addr->Option Value}{R:Value->Prop}(h:aF P f args ⟨ro,[]⟩ (fun v _=>R v)):aF P f args ⟨ro,[]⟩ (fun v G=>R v/\G=⟨ro,[]⟩):=by
 intro main J hJ c cs hK
 exact rT (F:=⟨ro,[]⟩) (R:=R) (by
  have e:ag.dz ⟨ro,[]⟩=⟨ro,[]⟩:=by
   simp only[ag.dz,ag.mk.injEq,and_true];funext a;simp only[ag.get];cases ro a with
   |none=>simp[lk]
   |some v=>rfl
  rw[e];exact h) main J hJ c cs hK
end Go.Sep
end
section
namespace Go.Sep
open Go Go.Conc Go.ConcM
open Go.ConcN (sumTo upd sumTo_upd upd_ne upd_same)
def ef (P:Program)(Φ:Goroutine->ag->Prop)(g:Goroutine)(F:ag):Prop:=
 ∀(bn:Loc->Prop) (gs:Array Goroutine) (w:World) (sl:Option (Nat×Nat)) (t:Trace) (q:Nat->Nat),gX P bn g F gs w t q->
  ∃(N:Nat) (gs':Array Goroutine) (w':World) (c:Option (Nat×Nat)) (a:Trace) (d:Nat->Nat) (g':Goroutine) (F':ag) (b:Loc->Prop),
   runNT P N (crowd gs w sl) t=(.next (crowd gs' w' c),a)/\gX P b g' F' gs' w' a d/\eN F F' w w'/\(∀l,b l->bn l\/¬l.low w.heap.size)/\Φ g' F'
theorem ef.done {P:Program}{Φ:Goroutine->ag->Prop}{g:Goroutine}{F:ag}(h:Φ g F):ef P Φ g F:=
 fun bn gs w sl t q a=>⟨0,gs,w,sl,t,q,g,F,bn,rfl,a,.refl _ _,fun _ h=>.inl h,h⟩
theorem nB (P:Program)(Φ:Goroutine->ag->Prop):Closed P true (ef P Φ) where
 mono hle h bn gs w sl t q b:=by
  obtain ⟨N,gs',w',v,z,A,g',F',B,g,C,hu,D,E⟩:=h bn gs w sl t q ⟨b.g0,b.lv,b.past,hle.has w b.has,fun l hs H=>b.apart l hs (hle.gw H),b.low⟩
  exact ⟨N,gs',w',v,z,A,g',F',B,g,C,hu.le hle,D,E⟩
 step {fr cs F} h bn gs w sl t q b:=by
  obtain ⟨N,k,d,d',a2,m,t1,I,g,a3,o,p,J,K⟩:=xq (P:=P) (a:=G fr cs) rfl _ gs w sl t q (Nat.le_refl _) b.g0 b.lv b.past
  obtain ⟨g',w',es,F',hgo,hu,L,M,hJ⟩:=h (w.at d') (b.has.at d')
  have c:dy F F' w w':=⟨hu.os,hu.tape,hu.output,hu.size,hu.frame,hu.ro,hu.own⟩
  have O:=runT_crowd_go (P:=P) (sl:=m) (i:=0) o (show stepG P (0==0) (G fr cs) (w.at d')=_ from hgo)
  have Q:0<k.size:=(Array.getElem?_eq_some_iff.1 o).1
  have r:=gX.next (P:=P) b.apart b.low c
  obtain ⟨R,S,w2,T,t2,U,V,W,X,Y,Z,ab,ad,ae⟩:=hJ bn ((k.map (woken P (G fr cs) g' w')).setIfInBounds 0 g') w' m (t1++MemOp.ofEvents 0 (G fr cs).frame.fn (G fr cs).frame.place es) I
   {g0:=by simp[Q]
    lv:=⟨fun j x f s=>by
     have al:0≠j:=ai
     rw[Array.getElem?_setIfInBounds_ne al,Array.getElem?_map] at s
     obtain ⟨y,ao,rfl⟩:=Option.map_eq_some_iff.1 s
     have u:=p.old j y f ao
     rw[woken_quitsD u,Deaf_other t1 ai _ (fun op n=>by obtain ⟨e,_,rfl⟩:=Go.Conc.mem_ofEvents n;rfl)]
     exact u,fun j f=>by
     rw[Deaf_other t1 (g':=0) (by simp at f;omega) _ (fun op n=>by obtain ⟨e,_,rfl⟩:=Go.Conc.mem_ofEvents n;rfl)]
     exact p.above j (by simpa using f)⟩
    past:=(J.mono c.size).own fun e he=>xu b.has c.size b.apart b.low (M e he)
    has:=L
    apart:=r.1
    low:=r.2}
  refine ⟨N+1+R,S,w2,T,t2,U,V,W,X,?_,Z,(eN.rR c).trans ab,fun l ar=>(ad l ar).imp id fun hn a0=>hn (Loc.low_mono c.size a0),ae⟩
  have:runNT P (N+1) (crowd gs w sl) t=(.next (crowd ((k.map (woken P (G fr cs) g' w')).setIfInBounds 0 g') w' m),t1++MemOp.ofEvents 0 (G fr cs).frame.fn (G fr cs).frame.place es):=by
   rw[runNT_add,g]
   simp only[runNT,K,O]
  rw[jE this]
  exact Y
def e9 (P:Program)(f:FuncId)(args:Array Value)(F:ag)(R:Value->ag->Prop):Prop:=∀Φ,c8 P (ef P Φ) f args F R
theorem x4 {P:Program}{f:FuncId}{args:Array Value}{ro:Addr->Option Value}{own:List (Nat×Obj)}{R:Value->ag->Prop}(h:e9 P f args ⟨ro,[]⟩ R):
  e9 P f args ⟨ro,own⟩ (fun v F'=>∃G,R v G/\F'=G.star ⟨ro,own⟩/\Fits ⟨ro,own⟩ G/\jI ⟨ro,own⟩ G):=by
 intro Φ c cs hK bn gs w sl t q d
 let Fr:ag:=⟨ro,own⟩
 have E:gX P bn (G (Frame.enter P f args .normal) (c::cs)) ⟨ro,[]⟩ gs w t q:=
  ⟨d.g0,d.lv,d.past,⟨d.has.ro,fun b o hb=>(by cases hb),List.nodup_nil,fun a v j hm=>(by cases hm)⟩,fun l hs i=>d.apart l hs (by
   cases l with
   |cell a=>exact i.elim (fun x=>by cases x) .inr
   |obj r=>cases i
   |_=>exact i),d.low⟩
 obtain ⟨N,gs',w',F,p,s,g',F',u,j,g,hu,n,v,rfl,hR⟩:=h (fun g' F'=>∃v,g'=G (c.finish v) cs/\R v F') c cs (fun v F' hR=>ef.done ⟨v,rfl,hR⟩) bn gs w sl t q E
 have A:Has Fr w':=⟨fun a v j=>by
  have B:=d.has.ro a v j
  have H:=d.has.gv (a:=a) (by rw[j];rfl)
  unfold World.cell? at B ⊢
  rw[hu.frame _ H (fun hm=>by cases hm)]
  exact B,fun b o hb=>by
  rw[hu.frame b (d.has.lt (eC hb)) (fun hm=>by cases hm)]
  exact d.has.own b o hb,d.has.nodup,d.has.apart⟩
 have C:Fits Fr F':=⟨⟨w',g.has,A⟩,fun b hb hm=>by
  rcases hu.own b hb with x|x
  .cases x
  .have:=d.has.lt (b:=b) hm;omega,fun a k hm=>by
  rcases hu.own _ hm with x|x
  .cases x
  .have:=d.has.gv (a:=a) k;omega⟩
 have I:jI Fr F':=fun a k hm=>by
  rcases hu.ro a k with x|x|x
  .obtain ⟨y,J⟩:=Option.isSome_iff_exists.1 x
   exact d.has.apart a y J hm
  .cases x
  .have:=d.has.lt (b:=a.block) hm;omega
 have K:gX P u (G (c.finish v) cs) (F'.star Fr) gs' w' p s:=by
  refine ⟨g.g0,g.lv,g.past,C.both g.has A,fun l hs i=>?_,g.low⟩
  have D:∀b,b∈keys own->(l= .obj b\/∃a,l= .cell a/\a.block=b)->False:=fun b hb m=>by
   rcases n l hs with x|x
   .refine d.apart l x ?_
    rcases m with rfl|⟨a,rfl,e⟩
    .exact hb
    .exact .inl (e▸hb)
   .refine x ?_
    have:=d.has.lt (b:=b) hb
    rcases m with rfl|⟨a,rfl,e⟩
    .exact this
    .show a.block<_;rw[e];exact this
  cases l with
  |cell a=>
   rcases i with x|x
   .simp only[ag.star,b8,List.mem_append] at x
    rcases x with x|x
    .exact g.apart _ hs (.inl x)
    .exact D _ x (.inr ⟨a,rfl,rfl⟩)
   .rcases iB x with y|y
    .rcases n _ hs with z|z
     .exact d.apart _ z (.inr y)
     .exact z (d.has.gv (a:=a) y)
    .exact g.apart _ hs (.inr y)
  |obj r=>
   simp only[ag.gw,ag.star,b8,List.mem_append] at i
   rcases i with x|x
   .exact g.apart _ hs x
   .exact D _ x (.inl rfl)
  |_=>exact i
 obtain ⟨L,M,w2,O,t2,Q,S,T,U,V,W,X,Y,Z⟩:=hK v (F'.star Fr) ⟨F',hR,rfl,C,I⟩ u gs' w' F p s K
 have ab:eN ⟨ro,own⟩ (F'.star Fr) w w':=⟨hu.os,hu.tape,hu.output,hu.size,fun b hb hn=>hu.frame b hb (fun x=>by cases x),fun a k=>by
  rcases iB k with y|y
  .exact .inl y
  .rcases hu.ro a y with z|z|z
   .exact .inl z
   .cases z
   .exact .inr (.inr z),fun b hb=>by
  simp only[ag.star,b8,List.mem_append] at hb
  rcases hb with x|x
  .rcases hu.own b x with y|y
   .cases y
   .exact .inr y
  .exact .inl x⟩
 exact ⟨N+L,M,w2,O,t2,Q,S,T,U,by rw[jE j];exact V,W,ab.trans X,fun l m=>(Y l m).elim (n l) fun hn=>.inr fun ad=>hn (Loc.low_mono hu.size ad),Z⟩
theorem e9.go {P:Program}{f:FuncId}{fn:Func}{c:Code}{n:Nat}{rs:List ResultVar}{args:Array Value}{F:ag}{R:Value->ag->Prop}(d:P.funcs[f]?=some fn)(hb:fn.body=some c)(hn:fn.ntmps=n)(g:fn.results=rs.toArray)(k:args.size<=n)
  (h:∀Φ,Closed P true (ef P Φ)->∀A:Act,sz A=n->A.defers=[]->(∀i,slot A i=args.getD i undef)->Wp (ef P Φ) c (g5 P rs R) A F):e9 P f args F R:=fun Φ=>by
 refine c8.of_wp (nB P Φ) d hb ?_
 refine (h Φ (nB P Φ) _ (by simp[sz,hn];omega) rfl fun i=>?_).mono fun e a F b=>?_
 .simp only[slot,hn,Array.getD_eq_getD_getElem?]
  rcases Nat.lt_or_ge i args.size with hi|hi
  .rw[Array.getElem?_append_left hi]
  .rw[Array.getElem?_append_right hi,Array.getElem?_replicate,Array.getElem?_eq_none hi]
   split<;>rfl
 .cases e with
  |exit i=>exact b
  |_=>
   obtain ⟨hd,hv⟩:=b
   split at hv
   .rename_i v j
    show gK P a.defers _ F
    rw[hd]
    exact pe g j hv
   .exact hv.elim
def nC (P:Program)(f:FuncId)(args:Array Value)(ro:Addr->Option Value)(R:Value->(Addr->Option Value)->Prop):Prop:=
 e9 P f args ⟨ro,[]⟩ (fun v G=>∃aK,Ext ro aK/\Le ⟨aK,[]⟩ G/\R v aK)
theorem kD {P:Program}{Φ:Goroutine->ag->Prop}{f:FuncId}{args:Array Value}{ro:Addr->Option Value}{own:List (Nat×Obj)}{K:Value->ag->Prop}(R:Value->(Addr->Option Value)->Prop)
  (h:nC P f args ro R) (j:∀v aK,Ext ro aK->(∀b∈keys own,∀off sp,aK ⟨b,off,sp⟩=none)->R v aK->K v ⟨aK,own⟩):c8 P (ef P Φ) f args ⟨ro,own⟩ K:=by
 intro c cs hK
 refine x4 (own:=own) h Φ c cs fun v F' k=>?_
 obtain ⟨G,⟨aK,l,hle,hR⟩,rfl,e,hn⟩:=k
 have i:∀a,(aK a).isSome=true->a.block∉keys own:=fun a g=>(hle.ro a g).elim (hn a) (e.own _)
 refine (nB P Φ).mono (F:=⟨aK,own⟩) ⟨fun w hw=>?_,fun b hb=>?_,fun a g=>?_⟩ (hK v ⟨aK,own⟩ (j v aK l (fun b hb off sp=>?_) hR))
 .have m:=hle.has w (e.right hw)
  have hF:=e.left hw
  exact ⟨m.ro,hF.own,hF.nodup,fun a v d=>i a (by simp only at d;simp[d])⟩
 .simp only[ag.star,b8,List.mem_append];exact .inr hb
 .rcases hle.ro a g with x|x
  .exact (fH (.inr x)).imp id (fun z=>by simp only[ag.star,b8,List.mem_append];exact .inr z)
  .exact .inr (by simp only[ag.star,b8,List.mem_append];exact .inl x)
 .cases d:aK ⟨b,off,sp⟩ with
  |none=>rfl
  |some v=>exact absurd hb (i ⟨b,off,sp⟩ (by simp[d]))
theorem kE {P:Program}{Φ:Goroutine->ag->Prop}{f:FuncId}{args:Array Value}{ro:Addr->Option Value}{own:List (Nat×Obj)}{K:Value->ag->Prop}(v:Value)
  (h:e9 P f args ⟨ro,[]⟩ (fun d _=>d=v)) (e:K v ⟨ro,own⟩):c8 P (ef P Φ) f args ⟨ro,own⟩ K:=by
 intro c cs hK
 refine x4 (own:=own) h Φ c cs fun d F' g=>?_
 obtain ⟨G,rfl,rfl,i,hn⟩:=g
 refine (nB P Φ).mono (F:=⟨ro,own⟩) ⟨fun w hw=>i.left hw,fun b hb=>?_,fun a j=>?_⟩ (hK d ⟨ro,own⟩ e)
 .simp only[ag.star,b8,List.mem_append];exact .inr hb
 .exact (fH (.inl j)).imp id (fun z=>by simp only[ag.star,b8,List.mem_append];exact .inr z)
end Go.Sep
end
section
namespace Go.Sep
open Go Go.Conc Go.ConcM
def x5 (P:Program)(R:Value->ag->Prop)(g:Goroutine)(F:ag):Prop:=
 ∃(fr:Frame) (fn:Func) (t:Nat) (v:Value),g=G fr []/\fr.kind= .normal/\P.inits.idxOf? fr.fn=none/\fr.mode= .returning/\fr.defers=[]/\P.funcs[fr.fn]?=some fn/\fn.results=#[.tmp t]/\fr.tmps.getD t undef=v/\R v F
def iG (P:Program)(f:FuncId)(args:Array Value)(F:ag)(R:Value->ag->Prop):Prop:=
 ∀Φ:Goroutine->ag->Prop,(∀g F',x5 P R g F'->Φ g F')->ef P Φ (G (Frame.enter P f args .normal) []) F
theorem iG.go {P:Program}{f:FuncId}{fn:Func}{c:Code}{n t:Nat}{args:Array Value}{F:ag}{R:Value->ag->Prop}(g:P.funcs[f]?=some fn)(hb:fn.body=some c)(hn:fn.ntmps=n)(m:fn.results=[.tmp t].toArray)(v:args.size<=n)(hi:P.inits.idxOf? f=none)
  (h:∀Φ,Closed P true (ef P Φ)->∀A:Act,sz A=n->A.defers=[]->(∀i,slot A i=args.getD i undef)->Wp (ef P Φ) c (g5 P [.tmp t] R) A F):iG P f args F R:=by
 intro Φ o
 have hJ:=nB P Φ
 let b:Frame:={(default:Frame) with fn:=f,kind:=.normal}
 have p:Frame.enter P f args .normal=on b {tmps:=args++Array.replicate (fn.ntmps - args.size) undef,defers:=[]} [.code c]:=by
  simp[Frame.enter,on,g,hb,b]
  rfl
 rw[p]
 have j:∀(a:Act) (F':ag) (fr:Frame),fr.kind= .normal->fr.mode= .returning->fr.defers=a.defers->fr.fn=f->fr.tmps=a.tmps->g5 P [.tmp t] R .normal a F'->ef P Φ (G fr []) F':=by
  intro a F' fr q r s k u d
  obtain ⟨hd,hv⟩:=d
  refine ef.done (o _ _ ⟨fr,fn,t,_,rfl,q,by rw[k];exact hi,r,by rw[s,hd],by rw[k];exact g,m,rfl,?_⟩)
  rw[u]
  simpa [ku,kr,nj,slot] using hv
 refine h Φ hJ _ (by simp[sz,hn];omega) rfl (fun i=>?_) b [] [] ⟨by simp[b],.inl rfl⟩ fun e l F' d=>?_
 .simp only[slot,hn,Array.getD_eq_getD_getElem?]
  rcases Nat.lt_or_ge i args.size with hi|hi
  .rw[Array.getElem?_append_left hi]
  .rw[Array.getElem?_append_right hi,Array.getElem?_replicate,Array.getElem?_eq_none hi]
   split<;>rfl
 .cases e with
  |normal=>exact hJ.move (fun _=>jC rfl) (j l F' _ rfl rfl rfl rfl rfl d)
  |exit i=>exact d.elim
  |ret=>exact fun w=>hJ.move (fun _=>stepG_ret' rfl) (j l F' _ rfl rfl rfl rfl rfl d)
theorem iG.ends {P:Program}{f:FuncId}{args:Array Value}{F:ag}{R:Value->ag->Prop}(h:iG P f args F R){W:World}(hF:Has F W){a:Value->World->Prop}
  (i:∀v F' w',R v F'->eN F F' W w'->a v w'):
  ∃M last o w' b,runNT P (M+1) (solo (G (Frame.enter P f args .normal) []) W) #[]=(.ended o w',b)/\runN P M (solo (G (Frame.enter P f args .normal) []) W)= .next last/\step P last= .ended o w'/\Go.Conc.Good P a last o w' b:=by
 obtain ⟨N,gs',w',j,b,z,g',F',k,g,c,hu,_,fr,fn,t,v,rfl,l,hi,m,n,p,q,r,s⟩:=h (x5 P R) (fun _ _ x=>x) (fun _=>False) #[G (Frame.enter P f args .normal) []] W none #[] (fun _=>0)
  ⟨rfl,leavers_one P _,past_nil.mono (Nat.zero_le _),hF,fun _ x=>x.elim,fun _ x=>x.elim⟩
 have hg:Goes P true AtRel (fun _ _ _=>False) (AtEnd P k w'.heap.size a) 0 (G fr []) w':=by
  refine Goes.stop fun A ⟨d,hd⟩=>?_
  subst hd
  refine ⟨rfl,v,seen P fr.fn #[],?_,fun e he=>?_,i v F' _ s ⟨hu.os,hu.tape,hu.output,hu.size,hu.frame,hu.ro,hu.own⟩⟩
  .have u:fr.tmps[t]?.getD undef=v:=by rw[<-r,Array.getD_eq_getD_getElem?]
   simp[G,stepG,unwind,m,n,p,results,q,u,doReturn,GStep.after,Sem.runT,l,hi]
  .exact absurd (mem_seen he) aB
 obtain ⟨w,last,o,w2,t2,e1,e2,e3,y⟩:=beside_ends (sl:=j) (fun _ _ _ x=>x.elim) c.g0 c.lv c.past hg
 refine ⟨N+w,last,o,w2,t2,?_,?_,e3,y⟩
 .rw[solo_eq_crowd,Nat.add_assoc,jE g,e1]
 .rw[solo_eq_crowd,runN_add]
  have:=runNT_fst P N (crowd #[G (Frame.enter P f args .normal) []] W none) #[]
  rw[g] at this
  rw[<-this]
  exact e2
end Go.Sep
end
section
namespace Go.Proofs.YtcoalekambhghaaGreatDoor
open Go Go.Sep Go.Proofs
set_option maxRecDepth 100000
theorem mixed:Tryz.prog.follows .mixedOrders=true:=by kernel_rfl
@[go_sem] theorem Jl:cC Tryz.prog 3=some false:=by kernel_rfl
@[go_sem] theorem kF:cm Tryz.prog 3=some 1:=by kernel_rfl
theorem kG:bytesOf Tryz.prog 3=some 8:=by kernel_rfl
theorem jJ:zeroOf Tryz.prog 3=some (.int .i64 0):=by kernel_rfl
theorem Jm:cC Tryz.prog 4=some false:=by kernel_rfl
theorem Jn:cm Tryz.prog 4=some 1:=by kernel_rfl
theorem Cu:zeroOf Tryz.prog 4=some (.bool false):=by kernel_rfl
theorem Jo:r9 Tryz.prog 4=true:=by kernel_rfl
theorem Jp:cC Tryz.prog 9=some false:=by kernel_rfl
theorem Jq:Tryz.prog.underlying 9=some .string:=by kernel_rfl
theorem Jr:cC Tryz.prog 22=some false:=by kernel_rfl
theorem Js:cm Tryz.prog 22=some 1:=by kernel_rfl
theorem Jt:lg Tryz.prog 22=true:=by kernel_rfl
theorem lC:dL Tryz.prog 22=some 56:=by kernel_rfl
theorem Ju:cC Tryz.prog 24=some true:=by kernel_rfl
theorem Jv:cm Tryz.prog 24=some 3:=by kernel_rfl
theorem Jw:zeroOf Tryz.prog 24=some (.agg #[.int .i64 0,.int .i64 0,.slice none 0 0]):=by kernel_rfl
theorem Jx:dr Tryz.prog 24 0=some 0:=by kernel_rfl
theorem Jy:dr Tryz.prog 24 1=some 1:=by kernel_rfl
theorem Jz:dr Tryz.prog 24 2=some 2:=by kernel_rfl
theorem JA:placesOf Tryz.prog 24=some [(0,1),(1,1),(2,1)]:=by kernel_rfl
theorem JB:cC Tryz.prog 25=some false:=by kernel_rfl
theorem Cv:cm Tryz.prog 25=some 1:=by kernel_rfl
attribute [go_sem] jJ Jm Jn Cu Jo Jp Jq Jr Js Jt lC Ju Jv Jw Jx Jy Jz JA JB Cv
theorem Cw:bytesOf Tryz.prog 25=some 24:=by kernel_rfl
theorem x6:zeroOf Tryz.prog 25=some (.slice none 0 0):=by kernel_rfl
theorem ga:dL Tryz.prog 25=some 3:=by kernel_rfl
theorem JC:cC Tryz.prog 27=some true:=by kernel_rfl
theorem JD:cm Tryz.prog 27=some 3:=by kernel_rfl
theorem JE:zeroOf Tryz.prog 27=some (.agg #[.slice none 0 0,.slice none 0 0,.slice none 0 0]):=by kernel_rfl
theorem JG:dr Tryz.prog 27 0=some 0:=by kernel_rfl
theorem JH:dr Tryz.prog 27 1=some 1:=by kernel_rfl
theorem JI:dr Tryz.prog 27 2=some 2:=by kernel_rfl
theorem JJ:placesOf Tryz.prog 27=some [(0,1),(1,1),(2,1)]:=by kernel_rfl
theorem JK:cC Tryz.prog 31=some true:=by kernel_rfl
theorem Cx:cm Tryz.prog 31=some 2:=by kernel_rfl
attribute [go_sem] x6 ga JC JD JE JG JH JI JJ JK Cx
theorem Cz:bytesOf Tryz.prog 31=some 16:=by kernel_rfl
theorem x7:zeroOf Tryz.prog 31=some (.agg #[.int .i64 0,.int .i64 0]):=by kernel_rfl
theorem JL:m6 Tryz.prog 31=some [some true,some true]:=by kernel_rfl
theorem JM:dr Tryz.prog 31 0=some 0:=by kernel_rfl
theorem JN:dr Tryz.prog 31 1=some 1:=by kernel_rfl
theorem JO:placesOf Tryz.prog 31=some [(0,1),(1,1)]:=by kernel_rfl
theorem JP:cC Tryz.prog 53=some true:=by kernel_rfl
theorem JQ:cm Tryz.prog 53=some 2:=by kernel_rfl
theorem JR:zeroOf Tryz.prog 53=some (.agg #[.int .i64 0,.int .i64 0]):=by kernel_rfl
theorem JS:dr Tryz.prog 53 0=some 0:=by kernel_rfl
theorem JU:dr Tryz.prog 53 1=some 1:=by kernel_rfl
theorem JV:placesOf Tryz.prog 53=some [(0,1),(1,1)]:=by kernel_rfl
theorem JW:cC Tryz.prog 54=some false:=by kernel_rfl
theorem JX:cm Tryz.prog 54=some 1:=by kernel_rfl
theorem JY:lg Tryz.prog 54=true:=by kernel_rfl
theorem x8:dL Tryz.prog 54=some 92:=by kernel_rfl
theorem JZ:cC Tryz.prog 56=some true:=by kernel_rfl
theorem sL:cm Tryz.prog 56=some 7:=by kernel_rfl
attribute [go_sem] x7 JL JM JN JO JP JQ JR JS JU JV JW JX JY x8 JZ sL
theorem sM:bytesOf Tryz.prog 56=some 80:=by kernel_rfl
theorem sN:zeroOf Tryz.prog 56=some (.agg #[.string ⟨⟨[]⟩⟩,.int .i64 0,.int .i64 0,.int .i64 0,.int .i64 0,.int .i64 0,.slice none 0 0]):=by kernel_rfl
theorem J0:dr Tryz.prog 56 0=some 0:=by kernel_rfl
theorem J1:dr Tryz.prog 56 1=some 1:=by kernel_rfl
theorem J2:dr Tryz.prog 56 2=some 3:=by kernel_rfl
theorem J3:dr Tryz.prog 56 3=some 4:=by kernel_rfl
theorem J4:dr Tryz.prog 56 4=some 6:=by kernel_rfl
theorem J5:placesOf Tryz.prog 56=some [(0,1),(1,2),(3,1),(4,2),(6,1)]:=by kernel_rfl
theorem x9:dL Tryz.prog 71=some 31:=by kernel_rfl
theorem J6:cC Tryz.prog 81=some true:=by kernel_rfl
theorem J7:cm Tryz.prog 81=some 4:=by kernel_rfl
theorem J8:m6 Tryz.prog 81=some [some true,some true,some true,some true]:=by kernel_rfl
theorem J9:jG Tryz.prog 81=some (4,3):=by kernel_rfl
theorem Ka:cC Tryz.prog 82=some false:=by kernel_rfl
theorem Kb:cm Tryz.prog 82=some 1:=by kernel_rfl
theorem Kc:zeroOf Tryz.prog 82=some (.int .u64 0):=by kernel_rfl
theorem Ke:cC Tryz.prog 84=some true:=by kernel_rfl
theorem CA:cm Tryz.prog 84=some 9:=by kernel_rfl
attribute [go_sem] sN J0 J1 J2 J3 J4 J5 x9 J6 J7 J8 J9 Ka Kb Kc Ke CA
theorem CB:bytesOf Tryz.prog 84=some 72:=by kernel_rfl
theorem CC:zeroOf Tryz.prog 84=some (.agg #[.int .i64 0,.int .i64 0,.int .i64 0,.int .i64 0,.int .i64 0,.int .i64 0,.int .i64 0,.int .i64 0,.int .u64 0]):=by kernel_rfl
theorem Kg:m6 Tryz.prog 84=some [some true,some true,some true,some true,some true,some true,some true,some true,some true]:=by kernel_rfl
theorem Kh:dr Tryz.prog 84 0=some 0:=by kernel_rfl
theorem Ki:dr Tryz.prog 84 1=some 4:=by kernel_rfl
theorem Kj:dr Tryz.prog 84 2=some 8:=by kernel_rfl
theorem Kk:placesOf Tryz.prog 84=some [(0,4),(4,4),(8,1)]:=by kernel_rfl
theorem Kl:cC Tryz.prog 87=some true:=by kernel_rfl
theorem Km:cm Tryz.prog 87=some 3:=by kernel_rfl
theorem Kn:zeroOf Tryz.prog 87=some (.agg #[.int .i64 0,.int .i64 0,.slice none 0 0]):=by kernel_rfl
theorem Ko:dr Tryz.prog 87 0=some 0:=by kernel_rfl
theorem Kp:placesOf Tryz.prog 87=some [(0,3)]:=by kernel_rfl
theorem Kq:cC Tryz.prog 92=some true:=by kernel_rfl
theorem CD:cm Tryz.prog 92=some 3:=by kernel_rfl
attribute [go_sem] CC Kg Kh Ki Kj Kk Kl Km Kn Ko Kp Kq CD
theorem CE:bytesOf Tryz.prog 92=some 32:=by kernel_rfl
theorem CF:zeroOf Tryz.prog 92=some (.agg #[.string ⟨⟨[]⟩⟩,.int .i64 0,.int .i64 0]):=by kernel_rfl
theorem Kr:dr Tryz.prog 92 0=some 0:=by kernel_rfl
theorem Ks:dr Tryz.prog 92 1=some 1:=by kernel_rfl
theorem Kt:dr Tryz.prog 92 2=some 2:=by kernel_rfl
theorem Ku:placesOf Tryz.prog 92=some [(0,1),(1,1),(2,1)]:=by kernel_rfl
theorem Kv:cC Tryz.prog 97=some false:=by kernel_rfl
theorem Kw:cC Tryz.prog 99=some false:=by kernel_rfl
theorem Kx:cm Tryz.prog 99=some 1:=by kernel_rfl
theorem Ky:cC Tryz.prog 100=some true:=by kernel_rfl
theorem Kz:cm Tryz.prog 100=some 3:=by kernel_rfl
theorem KA:jG Tryz.prog 100=some (3,99):=by kernel_rfl
theorem KB:cC Tryz.prog 105=some false:=by kernel_rfl
theorem KC:cm Tryz.prog 105=some 1:=by kernel_rfl
theorem ya:dL Tryz.prog 105=some 84:=by kernel_rfl
theorem KD:cC Tryz.prog 107=some true:=by kernel_rfl
theorem KE:cm Tryz.prog 107=some 4:=by kernel_rfl
theorem KF:zeroOf Tryz.prog 107=some (.agg #[.int .i64 0,.int .i64 0,.slice none 0 0,.slice none 0 0]):=by kernel_rfl
theorem KG:dr Tryz.prog 107 0=some 0:=by kernel_rfl
theorem KH:dr Tryz.prog 107 1=some 3:=by kernel_rfl
theorem KI:placesOf Tryz.prog 107=some [(0,3),(3,1)]:=by kernel_rfl
theorem KJ:cC Tryz.prog 112=some false:=by kernel_rfl
theorem KL:cm Tryz.prog 112=some 1:=by kernel_rfl
theorem KM:zeroOf Tryz.prog 112=some .nilFunc:=by kernel_rfl
theorem KN:cC Tryz.prog 116=some false:=by kernel_rfl
theorem KO:cC Tryz.prog 135=some false:=by kernel_rfl
theorem KP:cm Tryz.prog 135=some 1:=by kernel_rfl
theorem KQ:zeroOf Tryz.prog 135=some .nilFunc:=by kernel_rfl
theorem KR:cC Tryz.prog 150=some false:=by kernel_rfl
theorem KS:cm Tryz.prog 150=some 1:=by kernel_rfl
theorem KT:zeroOf Tryz.prog 150=some (.chan none):=by kernel_rfl
theorem KU:dr Tryz.prog 157 2=some 0:=by kernel_rfl
theorem KV:zeroOf Tryz.prog 160=some (.agg #[.int .u64 0,.int .u32 0]):=by kernel_rfl
theorem KW:dr Tryz.prog 160 1=some 0:=by kernel_rfl
theorem KX:dr Tryz.prog 160 2=some 1:=by kernel_rfl
theorem yb:dL Tryz.prog 163=some 25:=by kernel_rfl
theorem KY:cC Tryz.prog 218=some false:=by kernel_rfl
theorem KZ:cm Tryz.prog 218=some 1:=by kernel_rfl
theorem K0:zeroOf Tryz.prog 218=some (.int .u64 0):=by kernel_rfl
theorem K1:aO Tryz.prog 2=true:=by kernel_rfl
theorem K2:aO Tryz.prog 3=true:=by kernel_rfl
theorem K3:aO Tryz.prog 4=true:=by kernel_rfl
theorem K4:aO Tryz.prog 5=true:=by kernel_rfl
theorem K5:aO Tryz.prog 6=true:=by kernel_rfl
theorem K6:aO Tryz.prog 7=true:=by kernel_rfl
theorem K7:aO Tryz.prog 8=true:=by kernel_rfl
theorem K8:aO Tryz.prog 9=true:=by kernel_rfl
theorem K9:aO Tryz.prog 10=true:=by kernel_rfl
theorem La:aO Tryz.prog 11=true:=by kernel_rfl
theorem Lb:aO Tryz.prog 12=true:=by kernel_rfl
theorem Lc:aO Tryz.prog 13=true:=by kernel_rfl
theorem Ld:aO Tryz.prog 14=true:=by kernel_rfl
theorem Lf:aO Tryz.prog 15=true:=by kernel_rfl
theorem Lg:aO Tryz.prog 16=true:=by kernel_rfl
theorem Lh:aO Tryz.prog 17=true:=by kernel_rfl
theorem Li:aO Tryz.prog 18=true:=by kernel_rfl
theorem Lj:aO Tryz.prog 19=true:=by kernel_rfl
theorem Ll:aO Tryz.prog 20=true:=by kernel_rfl
theorem Lm:aO Tryz.prog 21=true:=by kernel_rfl
theorem Ln:aO Tryz.prog 22=true:=by kernel_rfl
theorem Lp:aO Tryz.prog 23=true:=by kernel_rfl
theorem Lq:aO Tryz.prog 24=true:=by kernel_rfl
theorem Lr:aO Tryz.prog 25=true:=by kernel_rfl
theorem Ls:aO Tryz.prog 26=true:=by kernel_rfl
theorem Lu:aO Tryz.prog 27=true:=by kernel_rfl
theorem Lv:aO Tryz.prog 28=true:=by kernel_rfl
theorem Lx:aO Tryz.prog 29=true:=by kernel_rfl
theorem Ly:aO Tryz.prog 30=true:=by kernel_rfl
theorem Lz:aO Tryz.prog 31=true:=by kernel_rfl
theorem LA:aO Tryz.prog 32=true:=by kernel_rfl
theorem LB:aO Tryz.prog 33=true:=by kernel_rfl
theorem LC:aO Tryz.prog 34=true:=by kernel_rfl
theorem LD:aO Tryz.prog 35=true:=by kernel_rfl
theorem LF:aO Tryz.prog 36=true:=by kernel_rfl
theorem LG:aO Tryz.prog 37=true:=by kernel_rfl
theorem LH:aO Tryz.prog 38=true:=by kernel_rfl
theorem LI:aO Tryz.prog 39=true:=by kernel_rfl
theorem LJ:aO Tryz.prog 40=true:=by kernel_rfl
theorem LK:aO Tryz.prog 41=true:=by kernel_rfl
theorem LL:aO Tryz.prog 42=true:=by kernel_rfl
theorem LM:aO Tryz.prog 43=true:=by kernel_rfl
theorem LN:aO Tryz.prog 44=true:=by kernel_rfl
theorem LO:aO Tryz.prog 45=true:=by kernel_rfl
theorem LP:aO Tryz.prog 46=true:=by kernel_rfl
theorem LQ:aO Tryz.prog 47=true:=by kernel_rfl
theorem LR:aO Tryz.prog 48=true:=by kernel_rfl
theorem LS:aO Tryz.prog 49=true:=by kernel_rfl
theorem LU:aO Tryz.prog 50=true:=by kernel_rfl
theorem LV:aO Tryz.prog 51=true:=by kernel_rfl
theorem LW:aO Tryz.prog 52=true:=by kernel_rfl
theorem LX:aO Tryz.prog 53=true:=by kernel_rfl
theorem LY:aO Tryz.prog 54=true:=by kernel_rfl
theorem LZ:aO Tryz.prog 55=true:=by kernel_rfl
theorem L0:aO Tryz.prog 56=true:=by kernel_rfl
theorem L1:aO Tryz.prog 57=true:=by kernel_rfl
theorem L2:aO Tryz.prog 58=true:=by kernel_rfl
theorem L3:aO Tryz.prog 59=true:=by kernel_rfl
theorem L4:aO Tryz.prog 60=true:=by kernel_rfl
theorem L5:aO Tryz.prog 61=true:=by kernel_rfl
theorem L6:aO Tryz.prog 62=true:=by kernel_rfl
theorem L7:aO Tryz.prog 63=true:=by kernel_rfl
theorem L8:aO Tryz.prog 64=true:=by kernel_rfl
theorem L9:aO Tryz.prog 65=true:=by kernel_rfl
theorem Ma:aO Tryz.prog 66=true:=by kernel_rfl
theorem Mb:aO Tryz.prog 67=true:=by kernel_rfl
theorem Mc:aO Tryz.prog 68=true:=by kernel_rfl
theorem Md:aO Tryz.prog 69=true:=by kernel_rfl
theorem Me:aO Tryz.prog 70=true:=by kernel_rfl
theorem Mf:aO Tryz.prog 71=true:=by kernel_rfl
theorem Mg:aO Tryz.prog 72=true:=by kernel_rfl
theorem Mh:aO Tryz.prog 73=true:=by kernel_rfl
theorem Mi:aO Tryz.prog 74=true:=by kernel_rfl
theorem Mj:aO Tryz.prog 75=true:=by kernel_rfl
theorem Mk:aO Tryz.prog 76=true:=by kernel_rfl
theorem Ml:aO Tryz.prog 77=true:=by kernel_rfl
theorem Mm:aO Tryz.prog 78=true:=by kernel_rfl
theorem Mn:aO Tryz.prog 79=true:=by kernel_rfl
theorem Mo:aO Tryz.prog 80=true:=by kernel_rfl
theorem Mq:aO Tryz.prog 81=true:=by kernel_rfl
theorem Mr:aO Tryz.prog 82=true:=by kernel_rfl
theorem Ms:aO Tryz.prog 83=true:=by kernel_rfl
theorem Mt:aO Tryz.prog 84=true:=by kernel_rfl
theorem Mv:aO Tryz.prog 85=true:=by kernel_rfl
theorem Mw:aO Tryz.prog 86=true:=by kernel_rfl
theorem Mx:aO Tryz.prog 87=true:=by kernel_rfl
theorem My:aO Tryz.prog 88=true:=by kernel_rfl
theorem Mz:aO Tryz.prog 89=true:=by kernel_rfl
theorem MA:aO Tryz.prog 90=true:=by kernel_rfl
theorem MB:aO Tryz.prog 91=true:=by kernel_rfl
theorem MC:aO Tryz.prog 92=true:=by kernel_rfl
theorem MD:aO Tryz.prog 93=true:=by kernel_rfl
theorem ME:aO Tryz.prog 94=true:=by kernel_rfl
theorem MF:aO Tryz.prog 95=true:=by kernel_rfl
theorem MG:aO Tryz.prog 96=true:=by kernel_rfl
theorem MH:aO Tryz.prog 97=true:=by kernel_rfl
theorem MI:aO Tryz.prog 98=true:=by kernel_rfl
theorem MJ:aO Tryz.prog 99=true:=by kernel_rfl
theorem MK:aO Tryz.prog 100=true:=by kernel_rfl
theorem ML:aO Tryz.prog 101=true:=by kernel_rfl
theorem MM:aO Tryz.prog 102=true:=by kernel_rfl
theorem MN:aO Tryz.prog 103=true:=by kernel_rfl
theorem MO:aO Tryz.prog 104=true:=by kernel_rfl
theorem MP:aO Tryz.prog 105=true:=by kernel_rfl
theorem MQ:aO Tryz.prog 106=true:=by kernel_rfl
theorem MR:aO Tryz.prog 107=true:=by kernel_rfl
theorem MS:aO Tryz.prog 108=true:=by kernel_rfl
theorem MT:aO Tryz.prog 109=true:=by kernel_rfl
theorem MU:aO Tryz.prog 110=true:=by kernel_rfl
theorem MV:aO Tryz.prog 111=true:=by kernel_rfl
theorem MW:aO Tryz.prog 112=true:=by kernel_rfl
theorem MX:aO Tryz.prog 113=true:=by kernel_rfl
theorem MY:aO Tryz.prog 114=true:=by kernel_rfl
theorem MZ:aO Tryz.prog 115=true:=by kernel_rfl
theorem M0:aO Tryz.prog 116=true:=by kernel_rfl
theorem M1:aO Tryz.prog 117=true:=by kernel_rfl
theorem M3:aO Tryz.prog 118=true:=by kernel_rfl
theorem M4:aO Tryz.prog 119=true:=by kernel_rfl
theorem M5:aO Tryz.prog 120=true:=by kernel_rfl
theorem yc:aO Tryz.prog 121=true:=by kernel_rfl
theorem M6:aO Tryz.prog 122=true:=by kernel_rfl
theorem M7:aO Tryz.prog 123=true:=by kernel_rfl
theorem M8:aO Tryz.prog 124=true:=by kernel_rfl
theorem M9:aO Tryz.prog 125=true:=by kernel_rfl
theorem CG:aO Tryz.prog 126=true:=by kernel_rfl
theorem Na:aO Tryz.prog 127=true:=by kernel_rfl
theorem Nb:aO Tryz.prog 128=true:=by kernel_rfl
theorem Nc:aO Tryz.prog 129=true:=by kernel_rfl
theorem Nf:aO Tryz.prog 130=true:=by kernel_rfl
theorem Ng:aO Tryz.prog 131=true:=by kernel_rfl
theorem Nh:aO Tryz.prog 132=true:=by kernel_rfl
theorem Ni:aO Tryz.prog 133=true:=by kernel_rfl
theorem Nj:aO Tryz.prog 134=true:=by kernel_rfl
theorem Nk:aO Tryz.prog 135=true:=by kernel_rfl
theorem Nl:aO Tryz.prog 136=true:=by kernel_rfl
theorem Nm:aO Tryz.prog 137=true:=by kernel_rfl
theorem Nn:aO Tryz.prog 138=true:=by kernel_rfl
theorem No:aO Tryz.prog 139=true:=by kernel_rfl
theorem Np:aO Tryz.prog 140=true:=by kernel_rfl
theorem Nq:aO Tryz.prog 147=true:=by kernel_rfl
theorem yd:aO Tryz.prog 148=true:=by kernel_rfl
theorem sO:aO Tryz.prog 150=true:=by kernel_rfl
theorem CH:aO Tryz.prog 151=true:=by kernel_rfl
theorem CI:aO Tryz.prog 156=true:=by kernel_rfl
theorem Nr:aO Tryz.prog 159=true:=by kernel_rfl
theorem Ns:aO Tryz.prog 160=true:=by kernel_rfl
theorem Nt:aO Tryz.prog 161=true:=by kernel_rfl
theorem Nu:aO Tryz.prog 162=true:=by kernel_rfl
theorem Nv:aO Tryz.prog 163=true:=by kernel_rfl
theorem Ny:aO Tryz.prog 164=true:=by kernel_rfl
theorem Nz:aO Tryz.prog 165=true:=by kernel_rfl
theorem NA:aO Tryz.prog 166=true:=by kernel_rfl
theorem NB:aO Tryz.prog 167=true:=by kernel_rfl
theorem NC:aO Tryz.prog 168=true:=by kernel_rfl
theorem ND:aO Tryz.prog 169=true:=by kernel_rfl
theorem NF:aO Tryz.prog 170=true:=by kernel_rfl
theorem NG:aO Tryz.prog 171=true:=by kernel_rfl
theorem NH:aO Tryz.prog 177=true:=by kernel_rfl
theorem NI:aO Tryz.prog 178=true:=by kernel_rfl
theorem NJ:aO Tryz.prog 179=true:=by kernel_rfl
theorem NK:aO Tryz.prog 180=true:=by kernel_rfl
theorem NL:aO Tryz.prog 181=true:=by kernel_rfl
theorem NM:aO Tryz.prog 182=true:=by kernel_rfl
theorem NN:aO Tryz.prog 183=true:=by kernel_rfl
theorem NO:aO Tryz.prog 184=true:=by kernel_rfl
theorem NP:aO Tryz.prog 185=true:=by kernel_rfl
theorem NQ:aO Tryz.prog 186=true:=by kernel_rfl
theorem NR:aO Tryz.prog 187=true:=by kernel_rfl
theorem NS:aO Tryz.prog 188=true:=by kernel_rfl
theorem NT:aO Tryz.prog 189=true:=by kernel_rfl
theorem NU:aO Tryz.prog 190=true:=by kernel_rfl
theorem NV:aO Tryz.prog 191=true:=by kernel_rfl
theorem NW:aO Tryz.prog 192=true:=by kernel_rfl
theorem NX:aO Tryz.prog 193=true:=by kernel_rfl
theorem NY:aO Tryz.prog 194=true:=by kernel_rfl
theorem NZ:aO Tryz.prog 195=true:=by kernel_rfl
theorem N0:aO Tryz.prog 196=true:=by kernel_rfl
theorem N1:aO Tryz.prog 197=true:=by kernel_rfl
theorem N2:aO Tryz.prog 198=true:=by kernel_rfl
theorem N3:aO Tryz.prog 199=true:=by kernel_rfl
theorem N4:aO Tryz.prog 216=true:=by kernel_rfl
theorem N5:aO Tryz.prog 217=true:=by kernel_rfl
theorem N6:aO Tryz.prog 218=true:=by kernel_rfl
theorem N7:aO Tryz.prog 219=true:=by kernel_rfl
theorem N8:aO Tryz.prog 220=true:=by kernel_rfl
theorem N9:aO Tryz.prog 221=true:=by kernel_rfl
theorem Oa:aO Tryz.prog 222=true:=by kernel_rfl
theorem Ob:aO Tryz.prog 223=true:=by kernel_rfl
theorem Oc:aO Tryz.prog 227=true:=by kernel_rfl
attribute [go_sem] CF Kr Ks Kt Ku Kv Kw Kx Ky Kz KA KB KC ya KD KE KF KG KH KI KJ KL KM KN KO KP KQ KR KS KT KU KV KW KX yb KY KZ K0 K1 K2 K3 K4 K5 K6 K7 K8 K9 La Lb Lc Ld Lf Lg Lh Li Lj Ll Lm Ln Lp Lq Lr Ls Lu Lv Lx Ly Lz LA LB LC LD LF LG LH LI LJ LK LL LM LN LO LP LQ LR LS LU LV LW LX LY LZ L0 L1 L2 L3 L4 L5 L6 L7 L8 L9 Ma Mb Mc Md Me Mf Mg Mh Mi Mj Mk Ml Mm Mn Mo Mq Mr Ms Mt Mv Mw Mx My Mz MA MB MC MD ME MF MG MH MI MJ MK ML MM MN MO MP MQ MR MS MT MU MV MW MX MY MZ M0 M1 M3 M4 M5 yc M6 M7 M8 M9 CG Na Nb Nc Nf Ng Nh Ni Nj Nk Nl Nm Nn No Np Nq yd sO CH CI Nr Ns Nt Nu Nv Ny Nz NA NB NC ND NF NG NH NI NJ NK NL NM NN NO NP NQ NR NS NT NU NV NW NX NY NZ N0 N1 N2 N3 N4 N5 N6 N7 N8 N9 Oa Ob Oc
end Go.Proofs.YtcoalekambhghaaGreatDoor
end
section
namespace Go.Sep
open Go Go.Conc
def pick (ops:Array Oper):List Nat->List Oper
 |[]=>[]
 |i::is=>match ops[i]? with
  |some o=>o::pick ops is
  |none=>pick ops is
attribute [go_sem] pick
inductive jj where
 |done
 |rd (i:Nat) (p:jj)
 |one (i:Nat) (p:jj)
 |two (i:Nat) (p:jj) (j:Nat) (q:jj)
inductive jK where
 |done
 |rd (o:Oper) (p:jK)
 |one (o:Oper) (p:jK)
 |two (o:Oper) (p:jK) (o':Oper) (q:jK)
 |bad
def jj.opers (ops:Array Oper):jj->jK
 | .done=>.done
 | .rd i p=>match ops[i]? with
  |some o=>.rd o (p.opers ops)
  |none=>.bad
 | .one i p=>match ops[i]? with
  |some o=>.one o (p.opers ops)
  |none=>.bad
 | .two i p j q=>match ops[i]?,ops[j]? with
  |some o,some o'=>.two o (p.opers ops) o' (q.opers ops)
  |_,_=>.bad
def jj.len:jj->Nat
 | .done=>0
 | .rd _ p=>p.len+1
 | .one _ p=>p.len+1
 | .two _ p _ q=>max p.len q.len+1
def fB (P:Program)(J:Goroutine->ag->Prop)(ops:Array Oper)(F0:ag)(Q:Act->ag->Prop):jK->Bool->Act->ag->Prop
 | .done,_,a,F=>Q a F
 | .bad,_,_,_=>False
 | .rd o p,_,a,F=>match cx ops o a with
  |some false=>fB P J ops F0 Q p true (bB a o.dst undef) F
  |some true=>match o.op with
   | .load t x=>match ev a x with
    | .pointer (some ad)=>match e5 P F0 t ad with
     |some v=>fB P J ops F0 Q p true (bB a o.dst v) F
     |none=>False
    |_=>False
   | .call {callee:=.value x,args, ..}=>match ev a x with
    | .func (.func fn) first captured=>aO P fn=true/\∃v,Plain P J F0 fn (first++args.map (ev a)++captured) v/\fB P J ops F0 Q p false (bB a o.dst v) F
    |_=>False
   |_=>match g6 P o a with
    |some v=>fB P J ops F0 Q p true (bB a o.dst v) F
    |none=>False
  |none=>False
 | .one o p,_,a,F=>match cx ops o a with
  |some true=>cT P J o (fun v F'=>Knows F0 F'/\fB P J ops F0 Q p (!Oper.calls o) (bB a o.dst v) F') a F
  |_=>False
 | .two o p o' q,_,a,F=>(match cx ops o a with
  |some true=>cT P J o (fun v F'=>Knows F0 F'/\fB P J ops F0 Q p (!Oper.calls o) (bB a o.dst v) F') a F
  |_=>False)/\(match cx ops o' a with
  |some true=>cT P J o' (fun v F'=>Knows F0 F'/\fB P J ops F0 Q q (!Oper.calls o') (bB a o'.dst v) F') a F
  |_=>False)
theorem CJ {P:Program}{J:Goroutine->ag->Prop}{ops:Array Oper}{F0:ag}{Q:Act->ag->Prop}{go:Bool}{a:Act}{F:ag}:fB P J ops F0 Q .done go a F=Q a F:=rfl
theorem CL {P:Program}{J:Goroutine->ag->Prop}{ops:Array Oper}{F0:ag}{Q:Act->ag->Prop}{o:Oper}{p:jK}{a:Act}{F:ag}:fB P J ops F0 Q (.rd o p) true a F=match cx ops o a with
  |some false=>fB P J ops F0 Q p true (bB a o.dst undef) F
  |some true=>match o.op with
   | .load t x=>match ev a x with
    | .pointer (some ad)=>match e5 P F0 t ad with
     |some v=>fB P J ops F0 Q p true (bB a o.dst v) F
     |none=>False
    |_=>False
   | .call {callee:=.value x,args, ..}=>match ev a x with
    | .func (.func fn) first captured=>aO P fn=true/\∃v,Plain P J F0 fn (first++args.map (ev a)++captured) v/\fB P J ops F0 Q p false (bB a o.dst v) F
    |_=>False
   |_=>match g6 P o a with
    |some v=>fB P J ops F0 Q p true (bB a o.dst v) F
    |none=>False
  |none=>False:=(Eq.refl _).trans (Eq.refl _)
theorem CM {P:Program}{J:Goroutine->ag->Prop}{ops:Array Oper}{F0:ag}{Q:Act->ag->Prop}{o:Oper}{p:jK}{a:Act}{F:ag}:fB P J ops F0 Q (.one o p) true a F=match cx ops o a with
  |some true=>cT P J o (fun v F'=>Knows F0 F'/\fB P J ops F0 Q p (!Oper.calls o) (bB a o.dst v) F') a F
  |_=>False:=(Eq.refl _).trans (Eq.refl _)
attribute [irreducible] fB
attribute [go_sem] CJ CL CM jj.opers
theorem ye {F:ag}{a:Addr}:∀(cs:List Value) (i:Nat),(∀j v,cs[j]?=some v->F.get (a.add (i+j))=some v)->F.cX a i cs.length=some cs
 |[],i,_=>rfl
 |v::cs,i,h=>by
  have b:=h 0 v rfl
  rw[Nat.add_zero] at b
  have ih:=ye cs (i+1) (fun j w hw=>by
   have:=h (j+1) w (by simpa using hw)
   rwa [show i+(j+1)=i+1+j by omega] at this)
  simp only[List.length_cons,ag.cX,b,ih]
theorem yf {F:ag}{a:Addr}:∀(m i k:Nat) (d c:List Value),F.cX a i m=some d->F.cX a (i+m) k=some c->F.cX a i (m+k)=some (d++c)
 |0,i,k,d,c,b,e=>by
  simp only[ag.cX,Option.some.injEq] at b
  subst b
  rw[Nat.zero_add]
  simpa using e
 |m+1,i,k,d,c,b,e=>by
  unfold ag.cX at b
  split at b
  case h_2=>cases b
  rename_i v hv
  split at b
  case h_2=>cases b
  rename_i vs f
  cases b
  have ih:=yf m (i+1) k vs c f (by rwa [show i+1+m=i+(m+1) by omega])
  rw[show m+1+k=(m+k)+1 by omega]
  simp only[ag.cX,hv,ih,List.cons_append]
theorem aI.cells {T:Type}{r:cg T}{ro:Addr->Option Value}{ad:Option Addr}{c:Nat}{l:List T}(h:aI r ro (.slice ad l.length c) l)(F:ag)(hF:∀a v,ro a=some v->F.get a=some v):
  ∃b:List (List Value),b.length=l.length/\(∀x∈b,x.length=r.n/\∀v∈x,eX v=true)/\(∀(i:Nat) (x:T),l[i]?=some x->∃cs,b[i]?=some cs/\r.rel ro x cs)/\fK F r.n (.slice ad l.length c)=some b.flatten:=by
 obtain ⟨C,D,e,_,_,he⟩:=h
 cases e
 cases m:l with
 |nil=>subst m;refine ⟨[],rfl,aB,aB,?_⟩;cases ad<;>simp[fK,ag.cX]
 |cons x0 l0=>
  obtain ⟨p,E,w,-,-⟩:=he 0 x0 (by rw[m];rfl)
  subst w
  rw[<-m]
  have key:∀k,k<=l.length->∃b:List (List Value),b.length=k/\(∀x∈b,x.length=r.n/\∀v∈x,eX v=true)/\(∀(i:Nat) (x:T),i<k->l[i]?=some x->∃cs,b[i]?=some cs/\r.rel ro x cs)/\F.cX p 0 (k*r.n)=some b.flatten:=by
   intro k
   induction k with
   |zero=>intro _;exact ⟨[],rfl,aB,aB,by simp[ag.cX]⟩
   |succ k ih=>
    intro G
    obtain ⟨b,f,o,q,s⟩:=ih ai
    have d:l[k]?=some l[k]:=List.getElem?_eq_getElem ai
    obtain ⟨p',cs,z,t,hm⟩:=he k _ d
    cases z
    have hn:=r.len t
    refine ⟨b++[cs],by simp[f],fun y A=>?_,fun i x hi u=>?_,?_⟩
    .rcases List.mem_append.1 A with h|h
     .exact o y h
     .simp only[List.mem_singleton] at h;subst h;exact ⟨hn,r.one t⟩
    .rcases Nat.lt_or_ge i k with h|h
     .obtain ⟨cs',a1,B⟩:=q i x h u
      exact ⟨cs',by rw[List.getElem?_append_left ai];exact a1,B⟩
     .have:i=k:=ai
      subst this
      rw[d] at u
      obtain rfl:=Option.some.inj u
      exact ⟨cs,by rw[List.getElem?_append_right ai];simp[f],t⟩
    .rw[Nat.succ_mul]
     have g:=ye (F:=F) (a:=p) cs (k*r.n) (fun j v hv=>hF _ _ (by have:=hm j v hv;rwa [jH] at this))
     rw[hn] at g
     have:=yf (k*r.n) 0 r.n b.flatten cs s (by rw[Nat.zero_add];exact g)
     rw[this]
     simp
  obtain ⟨b,f,o,q,s⟩:=key l.length (Nat.le_refl _)
  exact ⟨b,f,o,fun i x d=>q i x (List.getElem?_eq_some_iff.1 d).1 d,s⟩
theorem bx.empty {T:Type}{r:cg T}{ro:Addr->Option Value}{e:TypeId}{b:Nat}(a:∀off sp,ro ⟨b,off,sp⟩=none):bx r ro e (.slice (some ⟨b,0,none⟩) 0 0) [] [(b,.cells #[] e)]:=
 ⟨[],.inr ⟨b,#[],0,rfl,rfl,aB,Nat.le_refl _,aB,aB,a⟩,rfl,aB,fun i x h=>by simp at h⟩
theorem yg {ro:Addr->Option Value}{x:Nat×Obj}{l:List (Nat×Obj)}:Le ⟨ro,l++[x]⟩ ⟨ro,x::l⟩:=by
 have d:∀b,b∈keys (l++[x])↔b∈keys (x::l):=fun b=>by
  simp only[keys,List.map_append,List.map_cons,List.map_nil,List.mem_append,List.mem_cons,List.not_mem_nil,or_false];exact Or.comm
 refine ⟨fun w hw=>⟨hw.ro,fun b o hb=>hw.own b o ?_,?_,fun a v h hm=>hw.apart a v h ((d _).1 hm)⟩,fun b hb=>(d b).1 hb,fun a c=>.inl c⟩
 .rcases List.mem_append.1 hb with h|h
  .exact List.mem_cons_of_mem _ h
  .simp only[List.mem_singleton] at h;rw[h];exact List.mem_cons_self
 .have:=hw.nodup;simp only[keys,List.map_cons,List.nodup_cons] at this;simp only[keys,List.map_append,List.map_cons,List.map_nil];rw[List.nodup_append];refine ⟨this.2,aB,fun a c b hb e=>?_⟩;simp only[List.mem_singleton] at hb;subst hb;exact this.1 (e▸c)
theorem yh {P:Program}{T:Type}{r:cg T}{ro:Addr->Option Value}{rest:List (Nat×Obj)}{ks:List Nat}{R:Value->ag->Prop}{argTypes:Array TypeId}{m o e w:TypeId}{f b c:Nat}{ad:Option Addr}{z:Value}{xs:List T}
  (y:∀off sp,ro ⟨b,off,sp⟩=none) (A:aQ rest b) (p:keys rest=ks) (hlen:xs.length<=1000000) (B:aI r ro (.slice ad xs.length c) xs)
  (C:argTypes[0]?=some m) (D:argTypes[1]?=some o) (he:dL P m=some e) (E:dL P o=some w) (hs:cm P e=some r.n) (F:zeroOf P e=some z) (G:z.cells.size=r.n) (hb:bytesOf P e=some f)
  (H:0<f) (I:f<=10000)
  (hR:∀v g,bx r ro e v xs g->Apart ks g->R v ⟨ro,rest++g⟩):o8 P argTypes (.slice (some ⟨b,0,none⟩) 0 0) (.slice ad xs.length c) R ⟨ro,(b,.cells #[] e)::rest⟩:=by
 intro ty
 obtain ⟨d,k1,J,K,L⟩:=B.cells ⟨ro,(b,.cells #[] e)::rest⟩ (fun a v h=>by simp[ag.get,h])
 have q:∀x∈d,x.length=r.n:=fun x h=>(J x h).1
 have i:=gM q
 refine si (old:=[]) C D he E hs F hb H I (by simpa using hlen) (by simp[fK,ag.cX]) L (fun M=>?_) (fun M k s l t=>?_)
 .have hn:xs.length=0:=ai
  have N:xs=[]:=List.eq_nil_of_length_eq_zero hn
  have O:d=[]:=List.eq_nil_of_length_eq_zero ai
  subst N O
  refine .inl ⟨_,_,rfl,rfl,⟨ro,rest++[(b,.cells #[] e)]⟩,yg,hR _ _ (bx.empty y) fun k l=>?_⟩
  simp only[keys,List.map_cons,List.map_nil,List.mem_singleton] at l
  subst l
  rw[<-p]
  exact kB A
 .refine ⟨⟨ro,rest++[(s,.cells (([]:List Value).toArray++d.flatten.toArray++Builtin.zeroCells z.cells (k - (0+xs.length))) e)]⟩,yg.trans (Le.sub (.cons₂ _ (.cons _ (List.Sublist.refl _)))),hR _ _ ?_ fun j u=>?_⟩
  .refine ⟨d,.inr ⟨s,_,k,by rw[k1,Nat.zero_add],rfl,?_,ai,?_,q,t.ro⟩,k1,hlen,K⟩
   .simp only[List.nil_append,Array.size_append,List.size_toArray,List.length_nil,Builtin.zeroCells,Array.size_map,Array.size_range,i,G,k1]
    rw[Nat.zero_add,<-Nat.add_mul]
    congr 1;omega
   .simp only[Array.toList_append,List.nil_append]
    rw[List.take_append_of_le_length (by simp[i])]
    rw[List.take_of_length_le (by simp[i])]
  .simp only[keys,List.map_cons,List.map_nil,List.mem_singleton] at u
   subst u
   rw[<-p]
   exact kB t.own.2
theorem pI:∀{pre bC:List (Nat×Obj)} {b:Nat} {o:Obj},aQ pre b->lk (pre++((b,o)::bC)) b=some o
 |[],bC,b,o,_=>by simp[lk]
 |(c,x)::pre,bC,b,o,h=>by
  have a:¬c=b:=fun e=>h.1 e.symm
  simp[lk,a,pI h.2]
theorem yj:∀{pre bC:List (Nat×Obj)} {b:Nat} {o x:Obj},aQ pre b->eM (pre++((b,o)::bC)) b x=pre++((b,x)::bC)
 |[],bC,b,o,x,_=>by simp[eM]
 |(c,y)::pre,bC,b,o,x,h=>by
  have a:¬c=b:=fun e=>h.1 e.symm
  simp[eM,a,yj h.2]
theorem pJ {ro:Addr->Option Value}{pre bC:List (Nat×Obj)}{b:Nat}{e:TypeId}(a:aQ pre b)(o:Nat):∀(vs:List Value) (arr:Array Value) (i:Nat),(∀v∈vs,eX v=true)->o+i+vs.length<=arr.size->
  ag.gY ⟨ro,pre++((b,.cells arr e)::bC)⟩ ⟨b,o,none⟩ i vs=some ⟨ro,pre++((b,.cells (bS arr (o+i) vs) e)::bC)⟩
 |[],arr,i,_,_=>rfl
 |v::vs,arr,i,c,h=>by
  simp only[List.length_cons] at h
  have d:(⟨b,o,none⟩:Addr).add i=⟨b,o+i,none⟩:=by
   unfold Addr.add
   split
   .rename_i hi;subst hi;rfl
   .rfl
  unfold ag.gY
  have:ag.j7 ⟨ro,pre++((b,.cells arr e)::bC)⟩ ((⟨b,o,none⟩:Addr).add i) v=some ⟨ro,pre++((b,.cells (arr.setIfInBounds (o+i) v) e)::bC)⟩:=by
   have f:o+i<arr.size:=ai
   simp[ag.j7,d,pI a,c v aB,f,frozenAt,ag.put,yj a]
  rw[this]
  simp only
  rw[pJ a o vs _ (i+1) (fun x g=>c x (by simp[g])) (by simp;omega)]
  rw[bS]
  congr 1
theorem yl {ro:Addr->Option Value}{pre bC:List (Nat×Obj)}{b:Nat}{e:TypeId}{arr:Array Value}(a:aQ pre b)(c:∀off sp,ro ⟨b,off,sp⟩=none):∀(n i:Nat),i+n<=arr.size->
  ag.cX ⟨ro,pre++((b,.cells arr e)::bC)⟩ ⟨b,0,none⟩ i n=some ((arr.toList.drop i).take n)
 |0,i,_=>by simp[ag.cX]
 |n+1,i,h=>by
  have f:(⟨b,0,none⟩:Addr).add i=⟨b,i,none⟩:=by
   unfold Addr.add
   split
   .rename_i hi;subst hi;rfl
   .simp
  have d:i<arr.size:=ai
  unfold ag.cX
  have ih:=yl (e:=e) (arr:=arr) (bC:=bC) a c n (i+1) ai
  simp only[ag.get,f,c,if_true,pI a,Option.bind_some,cellOf,Array.getElem?_eq_getElem d,ih]
  have g:i<arr.toList.length:=by simpa using d
  rw[List.drop_eq_getElem_cons g,List.take_succ_cons]
  simp
theorem Gr.CN {ro:Addr->Option Value}{e:TypeId}{size:Nat}{v:Value}{l:List (List Value)}{bz pre bC:List (Nat×Obj)}(h:Gr ro e size v l bz)(a:∀k∈keys bz,aQ pre k):
  Go.Sep.fK ⟨ro,pre++(bz++bC)⟩ size v=some l.flatten:=by
 rcases h with ⟨rfl,rfl,rfl⟩|⟨b,arr,cap,rfl,rfl,hs,c,ht,f,d⟩
 .rfl
 .simp only[Go.Sep.fK,List.cons_append,List.nil_append]
  have hle:l.length*size<=arr.size:=by rw[hs];exact Nat.mul_le_mul_right _ c
  rw[yl (a b (by simp[keys])) d _ _ ai]
  simp[ht]
theorem Le.ps {ro:Addr->Option Value}{l m l':List (Nat×Obj)}(e:l.Perm m)(hs:m.Sublist l'):Le ⟨ro,l⟩ ⟨ro,l'⟩:=by
 have c:(keys m).Sublist (keys l'):=hs.map _;have d:(keys l).Perm (keys m):=e.map _;exact ⟨fun w hw=>⟨hw.ro,fun b o hb=>hw.own b o (hs.subset (e.subset hb)),d.nodup_iff.2 (c.nodup hw.nodup),fun a v f hm=>hw.apart a v f (c.subset (d.subset hm))⟩,fun b hb=>c.subset (d.subset hb),fun a g=>.inl g⟩
structure bP (ks:List Nat):Prop where
 nd:ks.Nodup
abbrev Nd (l:List (Nat×Obj)):Prop:=(keys l).Nodup
theorem Nd.fresh {pre bz bC:List (Nat×Obj)}(h:Nd (pre++(bz++bC))):∀k∈keys bz,aQ pre k:=fun k a=>by
 refine kC fun hm=>?_
 simp only[Nd,b8] at h
 exact (List.nodup_append.1 h).2.2 k hm k (List.mem_append_left _ a) rfl
theorem Nd.push {l:List (Nat×Obj)}{b:Nat}{o:Obj}(h:Nd l)(hb:aQ l b):Nd ((b,o)::l):=by
 simp only[Nd,keys,List.map_cons,List.nodup_cons];exact ⟨kB hb,h⟩
theorem Nd.drop {pre bz bC:List (Nat×Obj)}(h:Nd (pre++(bz++bC))):Nd (pre++bC):=
 ((List.Sublist.append_left (List.sublist_append_right bz bC) pre).map _).nodup h
theorem Nd.ins {pre bz bC:List (Nat×Obj)}{b:Nat}{o:Obj}(h:Nd (pre++(bz++bC)))(hb:aQ (pre++(bz++bC)) b):Nd (pre++([(b,o)]++bC)):=by
 have a:Nd ((b,o)::(pre++bC)):=h.drop.push (kC fun hm=>kB hb (((List.Sublist.append_left (List.sublist_append_right bz bC) pre).map _).subset hm));have:(pre++([(b,o)]++bC)).Perm ((b,o)::(pre++bC)):=List.perm_middle;exact (this.map _).nodup_iff.2 a
section
variable {P:Program}
theorem ym {ro:Addr->Option Value}{pre bz bC:List (Nat×Obj)}{R:Value->ag->Prop}{argTypes:Array TypeId}{ty A B e O:TypeId}{size p n c:Nat}{C:Option Addr}{s z:Value}{l xs:List (List Value)}
  (D:argTypes[0]?=some A) (E:argTypes[1]?=some B) (he:dL P A=some e) (d:dL P B=some O) (hs:cm P e=some size) (G:zeroOf P e=some z) (Q:z.cells.size=size) (hb:bytesOf P e=some p)
  (H:0<p) (I:p<=10000) (hg:Gr ro e size s l bz) (j:Nd (pre++(bz++bC))) (hn:n=xs.length) (J:∀x∈xs,x.length=size/\∀v∈x,eX v=true) (K:fK ⟨ro,pre++(bz++bC)⟩ size (.slice C n c)=some xs.flatten)
  (L:l.length+xs.length<=1000000)
  (hR:∀v q,Gr ro e size v (l++xs) q->Nd (pre++(q++bC))->∃F0,Le F0 ⟨ro,pre++(q++bC)⟩/\R v F0):
  bA P (Builtin.append_ argTypes ty #[s,.slice C n c]) (fun v F=>∃F0,Le F0 F/\R v F0) ⟨ro,pre++(bz++bC)⟩:=by
 subst hn
 have M:=j.fresh
 have hold:=hg.CN (bC:=bC) M
 have r:∀x∈xs,x.length=size:=fun x h=>(J x h).1
 have a:=gM r
 have out:∀(k b:Nat) (old:List Value),old=l.flatten->(∀x∈l,x.length=size)->l.length+xs.length<=k->dP ⟨ro,pre++(bz++bC)⟩ b->
   ∃F0,Le F0 (ag.push ⟨ro,pre++(bz++bC)⟩ b (.cells (old.toArray++xs.flatten.toArray++Builtin.zeroCells z.cells (k - (l.length+xs.length))) e))/\R (.slice (some ⟨b,0,none⟩) (l.length+xs.length) k) F0:=by
  intro k b old S t i f
  subst S
  have u:=gM t
  have w:=hR (.slice (some ⟨b,0,none⟩) (l.length+xs.length) k) [(b,.cells (l.flatten.toArray++xs.flatten.toArray++Builtin.zeroCells z.cells (k - (l.length+xs.length))) e)] (.inr ⟨b,_,k,aB,rfl,?_,by simpa using i,?_,?_,f.ro⟩) (j.ins f.own)
  .obtain ⟨F0,hle,w⟩:=w
   refine ⟨F0,hle.trans ?_,w⟩
   exact Le.ps (m:=(b,.cells (l.flatten.toArray++xs.flatten.toArray++Builtin.zeroCells z.cells (k - (l.length+xs.length))) e)::(pre++bC)) List.perm_middle (.cons₂ _ (List.Sublist.append_left (List.sublist_append_right bz bC) pre))
  .simp only[Array.size_append,List.size_toArray,Builtin.zeroCells,Array.size_map,Array.size_range,u,a,Q]
   rw[<-Nat.add_mul,<-Nat.add_mul]
   congr 1;omega
  .simp only[Array.toList_append,List.length_append,List.flatten_append]
   rw[List.take_append_of_le_length (by simp[u,a,Nat.add_mul])]
   rw[List.take_of_length_le (by simp[u,a,Nat.add_mul])]
  .intro x d
   rcases List.mem_append.1 d with h|h
   .exact t x h
   .exact r x h
 rcases id hg with ⟨rfl,rfl,rfl⟩|⟨b,arr,cap,rfl,rfl,y,t,ht,o,T⟩
 .refine si D E he d hs G hb H I (by simpa using L) hold K (fun g=>.inr ⟨rfl,?_⟩) (fun g k b i f=>?_)
  .have:xs=[]:=List.eq_nil_of_length_eq_zero ai
   subst this
   exact hR _ _ (.inl ⟨rfl,rfl,rfl⟩) j
  .have:=out k b [] rfl aB (by simpa using i) f
   simpa using this
 .refine si D E he d hs G hb H I L hold K (fun g=>.inl ⟨_,⟨ro,pre++([(b,.cells (bS arr (l.length*size) xs.flatten) e)]++bC)⟩,rfl,?_,?_⟩) (fun g k U i f=>out k U _ rfl o i f)
  .have V:(⟨b,0,none⟩:Addr).add (l.length*size)=⟨b,l.length*size,none⟩:=by
    unfold Addr.add
    split
    .rename_i hi;rw[hi]
    .simp
   rw[V]
   have N:l.length*size+xs.length*size<=arr.size:=by rw[y,<-Nat.add_mul];exact Nat.mul_le_mul_right _ g
   have:=pJ (ro:=ro) (e:=e) (bC:=bC) (M b (by simp[keys])) (l.length*size) xs.flatten arr 0 (fun v hv=>by
    obtain ⟨x,W,X⟩:=List.mem_flatten.1 hv
    exact (J x W).2 v X) (by rw[a];omega)
   simpa using this
  .refine hR _ _ (.inr ⟨b,_,cap,aB,rfl,by rw[o3];exact y,by simpa using g,?_,?_,T⟩) (by simpa [Nd,keys] using j)
   .have N:l.length*size+xs.length*size<=arr.size:=by rw[y,<-Nat.add_mul];exact Nat.mul_le_mul_right _ g
    rw[o4 _ _ _ (by rw[a];exact N),ht,List.length_append,List.flatten_append,a]
    rw[List.take_append_of_le_length (by simp[gM o,a,Nat.add_mul])]
    rw[List.take_of_length_le (by simp[gM o,a,Nat.add_mul])]
   .intro x d
    rcases List.mem_append.1 d with h|h
    .exact o x h
    .exact r x h
theorem yo:∀{pre own:List (Nat×Obj)} {b:Nat} {o:Obj},lk pre b=some o->lk (pre++own) b=some o
 |(c,x)::pre,own,b,o,h=>by
  simp only[List.cons_append,lk] at h ⊢
  split
  .rename_i a;rw[if_pos a] at h;exact h
  .rename_i a;rw[if_neg a] at h;exact yo h
theorem yp {ro:Addr->Option Value}{own:List (Nat×Obj)}{b:Nat}{cs:Array Value}{e:TypeId}(a:lk own b=some (.cells cs e))(c:∀off sp,ro ⟨b,off,sp⟩=none):∀n i,i+n<=cs.toList.length->ag.cX ⟨ro,own⟩ ⟨b,0,none⟩ i n=some ((cs.toList.drop i).take n)
 |0,i,_=>by simp[ag.cX]
 |n+1,i,hi=>by
  have d:i<cs.toList.length:=ai
  unfold ag.cX
  have f:(⟨b,0,none⟩:Addr).add i=⟨b,i,none⟩:=by
   unfold Addr.add
   split
   .rename_i hi;subst hi;rfl
   .simp
  have g:i<cs.size:=by simpa using d
  simp only[ag.get,f,c,if_true,a,Option.bind_some,cellOf,Array.getElem?_eq_getElem g,yp a c n (i+1) ai]
  rw[List.drop_eq_getElem_cons d,List.take_succ_cons]
  simp
theorem bx.more {T:Type}{r:cg T}{ro:Addr->Option Value}{e:TypeId}{l xs:List T}{ls ys:List (List Value)}{v:Value}{a:List (Nat×Obj)}(hg:Gr ro e r.n v (ls++ys) a)(b:ls.length=l.length)(c:ys.length=xs.length)
  (d:∀(i:Nat) (x:T),l[i]?=some x->∃cs:List Value,ls[i]?=some cs/\r.rel ro x cs) (f:∀(i:Nat) (x:T),xs[i]?=some x->∃cs:List Value,ys[i]?=some cs/\r.rel ro x cs) (hn:l.length+xs.length<=1000000):bx r ro e v (l++xs) a:=by
 refine ⟨_,hg,by simp[b,c],by simpa using hn,fun i y hi=>?_⟩
 rcases Nat.lt_or_ge i l.length with h|h
 .rw[List.getElem?_append_left h] at hi
  rw[List.getElem?_append_left ai]
  exact d i y hi
 .rw[List.getElem?_append_right h] at hi
  rw[List.getElem?_append_right ai,b]
  exact f _ y hi
theorem iH {T:Type}{r:cg T}{ro:Addr->Option Value}{bz:List (Nat×Obj)}{R:Value->ag->Prop}{argTypes:Array TypeId}{g h e p e2:TypeId}{b c:Nat}{s z:Value}{l:List T}{x:T}{cs:Array Value}{own:List (Nat×Obj)}(pre bC:List (Nat×Obj))(q:own=pre++(bz++bC))
  (hg:bx r ro e s l bz) (t:bP (keys own)) (j:l.length+[x].length<=1000000) (d:r.rel ro x cs.toList) (u:lk pre c=some (.cells cs e2)) (w:∀off sp,ro ⟨c,off,sp⟩=none)
  (A:argTypes[0]?=some g) (B:argTypes[1]?=some h) (he:dL P g=some e) (C:dL P h=some p) (hs:cm P e=some r.n) (D:zeroOf P e=some z) (E:z.cells.size=r.n) (hb:bytesOf P e=some b)
  (F:0<b) (G:b<=10000)
  (hR:∀v a,bx r ro e v (l++[x]) a->∀f,f=pre++(a++bC)->bP (keys f)->∃F0,Le F0 ⟨ro,f⟩/\R v F0):o8 P argTypes s (.slice (some ⟨c,0,none⟩) 1 1) R ⟨ro,own⟩:=by
 subst q
 obtain ⟨ls,H,k,hm,I⟩:=hg
 have J:=t.nd
 intro ty
 have hlen:cs.toList.length=r.n:=r.len d
 refine ym (xs:=[cs.toList]) (e:=e) (size:=r.n) (z:=z) (l:=ls) A B he C hs D E hb F G H J rfl (fun y o=>?_) ?_ (by simpa [k] using j) (fun v a K L=>hR v a (bx.more K k rfl I (fun i y hi=>?_) j) _ rfl ⟨L⟩)
 .simp only[List.mem_singleton] at o;subst o;exact ⟨hlen,r.one d⟩
 .simp only[fK,Nat.one_mul]
  rw[yp (yo u) w _ _ ai]
  rw[List.drop_zero,List.take_of_length_le ai]
  simp
 .cases i with
  |zero=>simp at hi;subst hi;exact ⟨cs.toList,rfl,d⟩
  |succ m=>simp at hi
theorem yq {T:Type}{r:cg T}{ro:Addr->Option Value}{bz:List (Nat×Obj)}{R:Value->ag->Prop}{argTypes:Array TypeId}{g i e m:TypeId}{d c:Nat}{ad:Option Addr}{s z:Value}{l xs:List T}{own:List (Nat×Obj)}(pre bC:List (Nat×Obj))(o:own=pre++(bz++bC))
  (hg:bx r ro e s l bz) (p:bP (keys own)) (j:l.length+xs.length<=1000000) (q:aI r ro (.slice ad xs.length c) xs)
  (t:argTypes[0]?=some g) (u:argTypes[1]?=some i) (he:dL P g=some e) (w:dL P i=some m) (hs:cm P e=some r.n) (x:zeroOf P e=some z) (y:z.cells.size=r.n) (hb:bytesOf P e=some d)
  (A:0<d) (B:d<=10000)
  (hR:∀v b,bx r ro e v (l++xs) b->∀f,f=pre++(b++bC)->bP (keys f)->∃F0,Le F0 ⟨ro,f⟩/\R v F0):o8 P argTypes s (.slice ad xs.length c) R ⟨ro,own⟩:=by
 subst o
 obtain ⟨ls,C,k,hm,D⟩:=hg
 have E:=p.nd
 intro ty
 obtain ⟨F,k1,G,H,I⟩:=q.cells ⟨ro,pre++(bz++bC)⟩ (fun a v h=>by simp[ag.get,h])
 exact ym (xs:=F) (e:=e) (size:=r.n) (z:=z) (l:=ls) t u he w hs x y hb A B C E k1.symm G I (by rw[k,k1];exact j) (fun v b J K=>hR v b (bx.more J k k1 D H j) _ rfl ⟨K⟩)
theorem bx.gA {T:Type}{r:cg T}{ro:Addr->Option Value}{e:TypeId}{v:Value}{l:List T}{bz:List (Nat×Obj)}(h:bx r ro e v l bz){own:List (Nat×Obj)}(a pre bC:List (Nat×Obj))(f:own=pre++(bz++bC))(g:a=pre++bC)(i:bP (keys own))(hn:aP ro a):
  ∃aK,Ext ro aK/\aP aK a/\aI r aK v l/\Le ⟨aK,a⟩ ⟨ro,own⟩:=by
 subst f g
 have c:Nd (pre++(bz++bC)):=i.nd
 have j:Apart (keys (pre++bC)) bz:=fun k d hm=>by
  simp only[Nd,b8] at c
  have b:=List.nodup_append.1 c
  simp only[b8,List.mem_append] at hm
  rcases hm with hm|hm
  .exact b.2.2 k hm k (List.mem_append_left _ d) rfl
  .exact (List.nodup_append.1 b.2.1).2.2 k d k hm rfl
 obtain ⟨aK,m,b,n,o⟩:=h.sK (pre++bC) j rfl hn
 refine ⟨aK,m,b,n,o.trans ?_⟩
 have p:((pre++bC)++bz).Perm (pre++(bz++bC)):=by
  rw[List.append_assoc]
  exact List.Perm.append_left pre List.perm_append_comm
 exact Le.ps p (List.Sublist.refl _)
theorem bx.setAt {T:Type}{r:cg T}{ro:Addr->Option Value}{e:TypeId}{l:List T}{b n cap:Nat}{arr:Array Value}(h:bx r ro e (.slice (some ⟨b,0,none⟩) n cap) l [(b,.cells arr e)]){i:Nat}{x y:T}(hi:l[i]?=some x){cs:List Value}(k:r.rel ro y cs):
  bx r ro e (.slice (some ⟨b,0,none⟩) n cap) (l.set i y) [(b,.cells (bS arr (i*r.n) cs) e)]:=by
 obtain ⟨ls,hg,m,hm,o⟩:=h
 have C:i<l.length:=(List.getElem?_eq_some_iff.1 hi).1
 have a:=r.len k
 rcases hg with ⟨hv,_,_⟩|⟨D,E,p,hv,q,hs,hle,ht,c,s⟩
 .cases hv
 .cases q
  obtain ⟨rfl,rfl⟩:n=ls.length/\cap=p:=by cases hv;exact ⟨rfl,rfl⟩
  have t:i*r.n+cs.length<=arr.size:=by
   rw[hs,a,<-Nat.succ_mul]
   exact Nat.mul_le_mul_right _ ai
  refine ⟨ls.set i cs,.inr ⟨b,_,cap,aB,rfl,by rw[o3];exact hs,by simpa using hle,?_,?_,s⟩,by simp[m],by simpa using hm,fun j z d=>?_⟩
  .rw[o4 _ _ _ t]
   have F:=gM c
   have f:i<ls.length:=ai
   have e1:(ls.set i cs).flatten=(ls.take i).flatten++cs++(ls.drop (i+1)).flatten:=by
    rw[List.set_eq_take_append_cons_drop,if_pos f]
    simp
   have e2:ls.flatten=(ls.take i).flatten++(ls.drop i).flatten:=by rw[<-List.flatten_append,List.take_append_drop]
   have t1:((ls.take i).flatten).length=i*r.n:=by rw[gM (fun x h=>c x (List.mem_of_mem_take h)),List.length_take,Nat.min_eq_left ai]
   have e3:(ls.drop i).flatten=ls[i]++(ls.drop (i+1)).flatten:=by rw[List.drop_eq_getElem_cons f,List.flatten_cons]
   have t2:ls[i].length=r.n:=c _ (List.getElem_mem f)
   have a1:arr.toList.take (i*r.n)=(ls.take i).flatten:=by
    have:=congrArg (List.take (i*r.n)) ht
    rw[List.take_take,Nat.min_eq_left (Nat.mul_le_mul_right _ ai),e2,List.take_append_of_le_length (Nat.le_of_eq t1.symm),List.take_of_length_le (Nat.le_of_eq t1)] at this
    exact this
   have u:(arr.toList.take (ls.length*r.n)).drop (i*r.n+cs.length)=(ls.drop (i+1)).flatten:=by
    have t3:((ls.take i).flatten++ls[i]).length=i*r.n+cs.length:=by rw[List.length_append,t1,t2,a]
    rw[ht,e2,e3,<-List.append_assoc,List.drop_append_of_le_length (Nat.le_of_eq t3.symm),List.drop_eq_nil_of_le (Nat.le_of_eq t3),List.nil_append]
   rw[a1,e1]
   simp only[List.length_set]
   have v:ls.length*r.n=(i*r.n+cs.length)+(ls.length*r.n - (i*r.n+cs.length)):=by
    have:i*r.n+cs.length<=ls.length*r.n:=by rw[a,<-Nat.succ_mul];exact Nat.mul_le_mul_right _ f
    omega
   rw[v,List.take_append]
   rw[List.take_of_length_le (by rw[List.length_append,t1];omega)]
   congr 1
   have:i*r.n+cs.length+(ls.length*r.n - (i*r.n+cs.length)) - ((ls.take i).flatten++cs).length=ls.length*r.n - (i*r.n+cs.length):=by simp only[List.length_append,t1];omega
   rw[this,<-u,List.drop_take]
  .intro z w
   rcases List.mem_or_eq_of_mem_set w with h|h
   .exact c z h
   .rw[h];exact a
  .rcases Nat.decEq i j with g|g
   .rw[List.getElem?_set_ne g] at d
    obtain ⟨cs',A,B⟩:=o j z d
    exact ⟨cs',by rw[List.getElem?_set_ne g];exact A,B⟩
   .subst g
    rw[List.getElem?_set_self ai] at d
    obtain rfl:=Option.some.inj d
    exact ⟨cs,List.getElem?_set_self ai,k⟩
end
section
variable {P:Program}{main:Bool}{J:Goroutine->ag->Prop}
theorem aJ (hJ:Closed P main J){c:Code}{Q:Ex->Act->ag->Prop}{a:Act}{F:ag}(h:bP (keys F.own)->Wp J c Q a F):Wp J c Q a F:=by
 intro b k cs hb d;by_cases hw:∃w,Has F w
 .obtain ⟨w,hw⟩:=hw;exact h ⟨hw.nodup⟩ b k cs hb d
 .exact hJ.step fun w hF=>absurd ⟨w,hF⟩ hw
end
theorem bP.cons {l:List (Nat×Obj)}{b:Nat}(hb:aQ l b)(h:bP (keys l)):bP (b::keys l):=⟨List.nodup_cons.2 ⟨kB hb,h.nd⟩⟩
theorem aP.nil (ro:Addr->Option Value):aP ro []:=fun b h=>by cases h
theorem aP.cons {ro:Addr->Option Value}{b:Nat}{o:Obj}{l:List (Nat×Obj)}(hb:∀off sp,ro ⟨b,off,sp⟩=none)(h:aP ro l):aP ro ((b,o)::l):=fun c a=>by
 simp only[keys,List.map_cons,List.mem_cons] at a
 rcases a with rfl|a
 .exact hb
 .exact h c a
theorem aP.app {ro:Addr->Option Value}{l l':List (Nat×Obj)}(h:aP ro l)(h':aP ro l'):aP ro (l++l'):=fun c a=>by
 rw[b8] at a
 exact (List.mem_append.1 a).elim (h c) (h' c)
theorem aP.hd {ro:Addr->Option Value}{b:Nat}{o:Obj}{l:List (Nat×Obj)}(h:aP ro ((b,o)::l)):∀off sp,ro ⟨b,off,sp⟩=none:=h b (by simp[keys])
theorem aP.tl {ro:Addr->Option Value}{x:Nat×Obj}{l:List (Nat×Obj)}(h:aP ro (x::l)):aP ro l:=fun c a=>h c (by simp only[keys,List.map_cons,List.mem_cons];exact .inr a)
theorem bx.CO {T:Type}{r:cg T}{ro:Addr->Option Value}{e:TypeId}{v:Value}{l:List T}{bz:List (Nat×Obj)}(h:bx r ro e v l bz):aP ro bz:=by
 obtain ⟨ls,hg,-⟩:=h;rcases hg with ⟨_,_,rfl⟩|⟨b,arr,cap,_,rfl,_,_,_,_,a⟩
 .exact aP.nil _
 .exact aP.cons a (aP.nil _)
theorem Le.back {ro:Addr->Option Value}{l l':List (Nat×Obj)}(A B O S:List (Nat×Obj))(a:l=A++(B++(O++S)))(b:l'=A++(O++(B++S))):Le ⟨ro,l⟩ ⟨ro,l'⟩:=by
 subst a b;refine Le.ps (m:=A++(O++(B++S))) (List.Perm.append_left A ?_) (List.Sublist.refl _);rw[<-List.append_assoc,<-List.append_assoc];exact List.Perm.append_right S List.perm_append_comm
section
variable {P:Program}{main:Bool}{J:Goroutine->ag->Prop}
def pK (J:Goroutine->ag->Prop)(iI:Frame)(F:ag)(R:Value->ag->Prop):Prop:=
 ∀(c:Frame) (cs:List Frame),(∀v F',R v F'->J (G (c.finish v) cs) F')->J (G iI (c::cs)) F
theorem yt (hJ:Closed P main J){iI:Frame}{ro:Addr->Option Value}{bz:List (Nat×Obj)}{K:Value->ag->Prop}{own:List (Nat×Obj)}(pre bC:List (Nat×Obj))(n:own=pre++(bz++bC))(R:Value->List (Nat×Obj)->Prop)(h:∀(main:Bool) (J:Goroutine->ag->Prop),Closed P main J->pK J iI ⟨ro,bz⟩ (fun v G=>∃d,R v d/\Le ⟨ro,d⟩ G))
  (H:∀v d,R v d->∀p,p=pre++(d++bC)->bP (keys p)->∃F0,Le F0 ⟨ro,p⟩/\K v F0):pK J iI ⟨ro,own⟩ K:=by
 subst n
 intro c cs hK
 by_cases hw:∃w,Has ⟨ro,pre++(bz++bC)⟩ w
 .obtain ⟨q,j⟩:=hw
  let F:ag:=⟨fun _=>none,pre++bC⟩
  have r:(pre++bC).Sublist (pre++(bz++bC)):=List.Sublist.append_left (List.sublist_append_right bz bC) pre
  have s:bz.Sublist (pre++(bz++bC)):=(List.sublist_append_left bz bC).trans (List.sublist_append_right pre _)
  have t:∀w,Has ⟨ro,pre++(bz++bC)⟩ w->Has F w:=fun w hw=>⟨fun a v h=>(by cases h),fun b o hb=>hw.own b o (r.subset hb),(r.map _).nodup hw.nodup,fun a v h=>(by cases h)⟩
  have u:∀w,Has ⟨ro,pre++(bz++bC)⟩ w->Has ⟨ro,bz⟩ w:=fun w hw=>⟨hw.ro,fun b o hb=>hw.own b o (s.subset hb),(s.map _).nodup hw.nodup,fun a v g hm=>hw.apart a v g ((s.map _).subset hm)⟩
  have hd:∀b,b∈keys bz->b∉keys (pre++bC):=fun b hb hm=>by
   have hn:=j.nodup
   simp only[b8] at hn
   have A:=List.nodup_append.1 hn
   simp only[b8,List.mem_append] at hm
   rcases hm with hm|hm
   .exact A.2.2 b hm b (List.mem_append_left _ hb) rfl
   .exact (List.nodup_append.1 A.2.1).2.2 b hb b hm rfl
  have B:Fits F ⟨ro,bz⟩:=⟨⟨q,u q j,t q j⟩,hd,fun a f hm=>(by cases f)⟩
  have I:jI F ⟨ro,bz⟩:=fun a f hm=>by
   obtain ⟨v,hv⟩:=Option.isSome_iff_exists.1 f
   exact j.apart a v hv ((r.map _).subset hm)
  have n:pE J F (G iI (c::cs)) ⟨ro,bz⟩:=by
   refine h main _ (sF hJ F) c cs fun v C hR k hn=>?_
   obtain ⟨d,hR,hle⟩:=hR
   have D:Le ⟨ro,pre++(d++bC)⟩ (C.star F):=by
    refine ⟨fun w hw=>?_,fun b hb=>?_,fun a f=>?_⟩
    .have l:=hle.has w (k.right hw)
     have hF:=k.left hw
     have L:∀b,b∈keys d->b∉keys (pre++bC):=fun b hb=>k.own b (hle.own b hb)
     have i:(pre++(d++bC)).Perm (d++(pre++bC)):=by
      rw[<-List.append_assoc,<-List.append_assoc]
      exact List.Perm.append_right bC List.perm_append_comm
     refine ⟨l.ro,fun b o hb=>?_,?_,fun a v g hm=>?_⟩
     .rcases List.mem_append.1 (i.subset hb) with x|x
      .exact l.own b o x
      .exact hF.own b o x
     .refine (i.map _).nodup_iff.2 ?_
      rw[List.map_append]
      exact List.nodup_append.2 ⟨l.nodup,hF.nodup,fun a f b hb e=>L a f (e▸hb)⟩
     .have E:=(i.map (·.1)).subset hm
      rw[List.map_append] at E
      rcases List.mem_append.1 E with x|x
      .exact l.apart a v g x
      .rcases hle.ro a (by simp only at g;simp[g]) with y|y
       .exact hn a y x
       .exact k.own _ y x
    .simp only[ag.star,b8,List.mem_append] at hb ⊢
     rcases hb with x|x|x
     .exact .inr (show b∈keys (pre++bC) by rw[b8];exact List.mem_append_left _ x)
     .exact .inl (hle.own b x)
     .exact .inr (show b∈keys (pre++bC) by rw[b8];exact List.mem_append_right _ x)
    .rcases hle.ro a f with x|x
     .exact (fH (.inr x)).imp id (fun z=>by simp only[ag.star,b8,List.mem_append];exact .inr z)
     .exact .inr (by simp only[ag.star,b8,List.mem_append];exact .inl x)
   have M:∃fr cs',G (c.finish v) cs=G fr cs':=⟨_,_,rfl⟩
   obtain ⟨fr,cs',N⟩:=M
   by_cases m:∃w,Has (C.star F) w
   .obtain ⟨w1,m⟩:=m
    obtain ⟨F0,O,Q⟩:=H v d hR _ rfl ⟨(D.has w1 m).nodup⟩
    exact hJ.mono (O.trans D) (hK v F0 Q)
   .rw[N]
    exact hJ.step fun w hF=>absurd ⟨w,hF⟩ m
  refine hJ.mono ⟨fun w hw=>B.both (u w hw) (t w hw),fun b hb=>?_,fun a f=>?_⟩ (n B I)
  .have i:(bz++(pre++bC)).Perm (pre++(bz++bC)):=by
    rw[<-List.append_assoc,<-List.append_assoc]
    exact List.Perm.append_right bC List.perm_append_comm
   exact (i.map _).subset hb
  .rcases iB f with x|x
   .cases x
   .exact .inl x
 .exact hJ.step fun w hF=>absurd ⟨w,hF⟩ hw
theorem dA (hJ:Closed P main J){f:FuncId}{args:Array Value}{ro:Addr->Option Value}{bz:List (Nat×Obj)}{K:Value->ag->Prop}{own:List (Nat×Obj)}(pre bC:List (Nat×Obj))(c:own=pre++(bz++bC))(R:Value->List (Nat×Obj)->Prop)(h:aF P f args ⟨ro,bz⟩ (fun v G=>∃a,R v a/\Le ⟨ro,a⟩ G))
  (d:∀v a,R v a->∀b,b=pre++(a++bC)->bP (keys b)->∃F0,Le F0 ⟨ro,b⟩/\K v F0):c8 P J f args ⟨ro,own⟩ K:=
 yt hJ (iI:=Frame.enter P f args .normal) pre bC c R h d
end
attribute [go_sem] Array.size_setIfInBounds
theorem aI.op {T:Type}{r:cg T}{ro:Addr->Option Value}{ad:Option Addr}{n cap:Nat}{l:List T}(h:aI r ro (.slice ad n cap) l):
  l.length<=cap/\l.length<=1000000000000000/\∀i x,l[i]?=some x->∃p cs,ad=some p/\r.rel ro x cs/\∀j v,cs[j]?=some v->ro ((p.add (i*r.n)).add j)=some v:=by
 obtain ⟨d,f,e,a,b,c⟩:=h
 cases e
 exact ⟨a,b,c⟩
theorem bP.sub {l l':List (Nat×Obj)}(A O S:List (Nat×Obj))(a:l=A++S)(b:l'=A++(O++S))(h:bP (keys l')):bP (keys l):=by
 subst a b;exact
 ⟨((List.Sublist.append_left (List.sublist_append_right O S) A).map _).nodup h.nd⟩
theorem bP.back {l l':List (Nat×Obj)}(A B O S:List (Nat×Obj))(a:l=A++(B++(O++S)))(b:l'=A++(O++(B++S)))(h:bP (keys l')):bP (keys l):=by
 subst a b;refine ⟨(List.Perm.map _ (List.Perm.append_left A ?_)).nodup_iff.2 h.nd⟩;rw[<-List.append_assoc,<-List.append_assoc];exact List.Perm.append_right S List.perm_append_comm
theorem gB {ro:Addr->Option Value}{b:Nat}{o:Obj}(pre bC:List (Nat×Obj))(f:bP (keys (pre++((b,o)::bC))))(_hr:∀off sp,ro ⟨b,off,sp⟩=none)(hn:aP ro (pre++bC)):
  Ext ro (bY ro b o)/\aP (bY ro b o) (pre++bC)/\Le ⟨bY ro b o,pre++bC⟩ ⟨ro,pre++((b,o)::bC)⟩:=by
 have a:(pre++((b,o)::bC)).Perm ((b,o)::(pre++bC)):=List.perm_middle
 have g:Nd ((b,o)::(pre++bC)):=(a.map _).nodup_iff.1 f.nd
 have hb:b∉keys (pre++bC):=(List.nodup_cons.1 g).1
 refine ⟨fY _ _ _,fun c d off sp=>?_,?_⟩
 .have h:¬c=b:=fun e=>hb (e▸d)
  simp[bY,hn c d,h]
 .have i:Le ⟨bY ro b o,pre++bC⟩ ⟨ro,(b,o)::(pre++bC)⟩:=kz (by simp[lk]) (.cons _ (List.Sublist.refl _)) (kC hb)
  exact i.trans (Le.ps a.symm (List.Sublist.refl _))
section
variable {P:Program}{main:Bool}{J:Goroutine->ag->Prop}
theorem iJ (hJ:Closed P main J){c:Code}{Q:Ex->Act->ag->Prop}{a:Act}{F:ag}(h:bP (keys F.own)->aP F.ro F.own->Wp J c Q a F):Wp J c Q a F:=by
 intro b k cs hb d;by_cases hw:∃w,Has F w
 .obtain ⟨w,hw⟩:=hw;refine h ⟨hw.nodup⟩ (fun b hb off sp=>?_) b k cs hb d;cases e:F.ro ⟨b,off,sp⟩ with
  |none=>rfl
  |some v=>exact absurd hb (hw.apart _ v e)
 .exact hJ.step fun w hF=>absurd ⟨w,hF⟩ hw
end
theorem sP:∀(vs:List Value) (arr:Array Value) (k:Nat),k+vs.length<=arr.size->∀q,(bS arr k vs)[q]?=if k<=q/\q<k+vs.length then vs[q - k]? else arr[q]?
 |[],arr,k,h,q=>by
  have:¬(k<=q/\q<k+([]:List Value).length):=aB
  rw[if_neg this];rfl
 |v::vs,arr,k,h,q=>by
  simp only[List.length_cons] at h
  rw[bS,sP vs _ (k+1) (by simp;omega)]
  simp only[List.length_cons]
  by_cases a:k=q
  .subst a
   rw[if_neg ai,if_pos ai,Array.getElem?_setIfInBounds_self_of_lt ai]
   simp
  .by_cases b:k+1<=q/\q<k+1+vs.length
   .rw[if_pos b,if_pos ai]
    rw[show q - k=(q - (k+1))+1 by omega]
    simp
   .rw[if_neg b,if_neg ai,Array.getElem?_setIfInBounds_ne a]
theorem bx.part {T:Type}{r:cg T}{ro:Addr->Option Value}{e:TypeId}{l:List T}{b n cap:Nat}{arr:Array Value}(h:bx r ro e (.slice (some ⟨b,0,none⟩) n cap) l [(b,.cells arr e)]){i:Nat}{x y:T}(hi:l[i]?=some x)(o:Nat)(vs cs cs':List Value)
  (hm:∀j v,cs[j]?=some v->arr[i*r.n+j]?=some v) (hlen:cs.length=r.n) (f:cs'=cs.take o++vs++cs.drop (o+vs.length)) (ho:o+vs.length<=cs.length) (g:r.rel ro y cs'):
  bx r ro e (.slice (some ⟨b,0,none⟩) n cap) (l.set i y) [(b,.cells (bS arr (i*r.n+o) vs) e)]:=by
 have k:=h.setAt hi g
 have c:=r.len g
 have s:i*r.n+r.n<=arr.size:=by
  rcases Nat.eq_zero_or_pos r.n with t|w
  .rw[t];omega
  .have a:r.n - 1<cs.length:=ai
   have:=hm (r.n - 1) cs[r.n - 1] (List.getElem?_eq_getElem a)
   have:=(Array.getElem?_eq_some_iff.1 this).1
   omega
 have e1:bS arr (i*r.n) cs'=bS arr (i*r.n+o) vs:=by
  apply Array.ext_getElem?
  intro q
  rw[sP cs' arr _ (by rw[c];exact s),sP vs arr _ ai]
  by_cases m:i*r.n+o<=q/\q<i*r.n+o+vs.length
  .rw[if_pos m,if_pos (by rw[c];omega),f]
   rw[List.append_assoc,List.getElem?_append_right (by simp;omega),List.getElem?_append_left (by simp;omega)]
   congr 1
   simp;omega
  .rw[if_neg m]
   by_cases d:i*r.n<=q/\q<i*r.n+cs'.length
   .rw[if_pos d]
    rw[c] at d
    have u:arr[q]?=cs[q - i*r.n]?:=by
     have a:q - i*r.n<cs.length:=ai
     have:=hm (q - i*r.n) _ (List.getElem?_eq_getElem a)
     rw[show i*r.n+(q - i*r.n)=q by omega] at this
     rw[this,List.getElem?_eq_getElem a]
    rw[u,f]
    rcases Nat.lt_or_ge (q - i*r.n) o with p|p
    .rw[List.append_assoc,List.getElem?_append_left (by simp;omega),List.getElem?_take_of_lt p]
    .have z:o+vs.length<=q - i*r.n:=ai
     rw[List.getElem?_append_right (by simp;omega),List.getElem?_drop]
     congr 1
     simp;omega
   .rw[if_neg d]
 rw[e1] at k
 exact k
theorem bx.elemAt {T:Type}{r:cg T}{ro:Addr->Option Value}{e:TypeId}{b n cap:Nat}{l:List T}{bz:List (Nat×Obj)}(h:bx r ro e (.slice (some ⟨b,0,none⟩) n cap) l bz){i:Nat}{x:T}(hi:l[i]?=some x):
  ∃arr cs,bz=[(b,.cells arr e)]/\(∀off sp,ro ⟨b,off,sp⟩=none)/\r.rel ro x cs/\∀j v,cs[j]?=some v->arr[i*r.n+j]?=some v:=by
 obtain ⟨d,arr,f,cs,hv,ho,a,c,hm⟩:=h.elem hi
 cases hv
 exact ⟨arr,cs,ho,a,c,hm⟩
theorem bx.sQ {T:Type}{r:cg T}{ro:Addr->Option Value}{e:TypeId}{ad:Option Addr}{n cap:Nat}{l:List T}{bz:List (Nat×Obj)}(h:bx r ro e (.slice ad n cap) l bz){i:Nat}{x:T}(hi:l[i]?=some x):
  ∃b arr cs,ad=some ⟨b,0,none⟩/\bz=[(b,.cells arr e)]/\(∀off sp,ro ⟨b,off,sp⟩=none)/\r.rel ro x cs/\∀j v,cs[j]?=some v->arr[i*r.n+j]?=some v:=by
 obtain ⟨a,arr,g,cs,hv,ho,c,d,hm⟩:=h.elem hi
 injection hv with f k m
 exact ⟨a,arr,cs,f,ho,c,d,hm⟩
theorem bx.eF {T:Type}{r:cg T}{ro:Addr->Option Value}{e:TypeId}{b n cap:Nat}{l:List T}{arr:Array Value}(h:bx r ro e (.slice (some ⟨b,0,none⟩) n cap) l [(b,.cells arr e)]){i:Nat}{x:T}(hi:l[i]?=some x):
  ∃cs,r.rel ro x cs/\∀j v,cs[j]?=some v->arr[i*r.n+j]?=some v:=by
 obtain ⟨c,cs,ho,d,a,hm⟩:=h.elemAt hi
 simp only[List.cons.injEq,Prod.mk.injEq,Obj.cells.injEq,true_and,and_true] at ho
 subst ho
 exact ⟨cs,a,hm⟩
theorem bx.lD {T:Type}{r:cg T}{ro:Addr->Option Value}{e:TypeId}{l:List T}{b n cap:Nat}{arr:Array Value}(h:bx r ro e (.slice (some ⟨b,0,none⟩) n cap) l [(b,.cells arr e)]){i:Nat}{y:T}(hi:i<l.length){cs:List Value}(a:r.rel ro y cs):
  bx r ro e (.slice (some ⟨b,0,none⟩) n cap) (l.set i y) [(b,.cells (bS arr (i*r.n) cs) e)]:=h.setAt (List.getElem?_eq_getElem hi) a
theorem bx.fL {T:Type}{r:cg T}{ro:Addr->Option Value}{e:TypeId}{ad:Option Addr}{n cap:Nat}{l:List T}{bz:List (Nat×Obj)}(h:bx r ro e (.slice ad n cap) l bz)(hn:l.isEmpty=false):
  ∃b arr,ad=some ⟨b,0,none⟩/\bz=[(b,.cells arr e)]/\(∀off sp,ro ⟨b,off,sp⟩=none):=by
 cases l with
 |nil=>cases hn
 |cons x l=>
  obtain ⟨b,arr,cs,a,c,d,_⟩:=h.sQ (i:=0) rfl
  exact ⟨b,arr,a,c,d⟩
theorem bx.fC {T:Type}{r:cg T}{ro:Addr->Option Value}{e:TypeId}{b n cap:Nat}{l:List T}{bz:List (Nat×Obj)}(h:bx r ro e (.slice (some ⟨b,0,none⟩) n cap) l bz):∃arr,bz=[(b,.cells arr e)]:=by
 obtain ⟨ls,hg,-⟩:=h;rcases hg with ⟨hv,_,_⟩|⟨a,arr,c,hv,ho,_⟩
 .cases hv
 .cases hv;exact ⟨arr,ho⟩
theorem bx.count {T:Type}{r:cg T}{ro:Addr->Option Value}{e:TypeId}{ad:Option Addr}{n cap:Nat}{l:List T}{bz:List (Nat×Obj)}(h:bx r ro e (.slice ad n cap) l bz):l.length=n:=by
 obtain ⟨a,b,hv,_⟩:=h.len;cases hv;rfl
end Go.Sep
end

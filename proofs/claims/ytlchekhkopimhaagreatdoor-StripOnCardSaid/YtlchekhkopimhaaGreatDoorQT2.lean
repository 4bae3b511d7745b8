/- A part of the proof: QT2. -/
import Derived.Test.YtlchekhkopimhaaGreatDoorQT1
import Derived.WalkKit
import Derived.Laws.Strings
import Derived.IntWalk
import Derived.NoCompilerSame
set_option linter.all false
section
namespace Go.Sep
open Go Go.Conc
section
variable {α β:Type}{P:Program}{Q:α->af->Prop}{F:af}
@[go_sem] theorem bG (a:α):bw P (Pure.pure a) Q F=Q a F:=rfl
@[go_sem] theorem MQ (a:α):bw P (Sem.pure a) Q F=Q a F:=rfl
@[go_sem] theorem bA {R:β->af->Prop}(x:Sem α)(f:α->Sem β):bw P (x>>= f) R F=bw P x (fun a G=>bw P (f a) R G) F:=propext (y3 x F)
@[go_sem] theorem MR {R:β->af->Prop}(x:Sem α)(f:α->β):bw P (Functor.map f x) R F=bw P x (fun a G=>R (f a) G) F:=propext (y3 x F)
@[go_sem] theorem dJ (c:Prop)[Decidable c](x y:Sem α):bw P (if c then x else y) Q F=if c then bw P x Q F else bw P y Q F:=by split<;>rfl
@[go_sem] theorem zx {Q:Value->af->Prop}(a:Addr):bw P (load a) Q F=∃v,F.get a=some v/\Q v F:=by simp[load,bw]
@[go_sem] theorem Ea {Q:Unit->af->Prop}(a:Addr)(v:Value):bw P (store a v) Q F=∃F',F.lK a v=some F'/\Q () F':=by simp[store,bw]
theorem pV {Q:Nat->af->Prop}(o:Obj):bw P (newObj o) Q F=(o.isChan=false/\∀b,er F b->Q b (F.push b o)):=rfl
theorem j0 {Q:Program->af->Prop}:bw P program Q F=Q P F:=rfl
theorem zy {Q:Nat->af->Prop}(q:Question):bw P (choose q) Q F=if q.forced then Q 0 F else ∀t,Q (q.cut t) F:=rfl
theorem iL {Q:Obj->af->Prop}(r:Nat):bw P (getObj r) Q F=∃o,F.dm r=some o/\Q o F:=rfl
theorem jG {Q:Unit->af->Prop}(r:Nat)(o:Obj):bw P (Go.setObj r o) Q F=(o.isChan=false/\(F.dm r).isSome=true/\Q () (F.put r o)):=rfl
theorem MS (s:String):bw P (stuck s:Sem α) Q F=False:=rfl
theorem MT {Q:Unit->af->Prop}(m:Mark):bw P (mark m) Q F=(pQ m=true/\Q () F):=rfl
attribute [go_sem] pV j0 zy iL jG MS MT
@[go_sem] theorem di {Q:TypeDesc->af->Prop}(t:TypeId):bw P (underlying t) Q F=match P.underlying t with|some d=>Q d F|none=>False:=by
 simp only[underlying,bA,j0];cases P.underlying t<;>rfl
@[go_sem] theorem uN {Q:TypeInfo->af->Prop}(t:TypeId):bw P (typeInfo t) Q F=match P.info? t with|some d=>Q d F|none=>False:=by
 simp only[typeInfo,bA,j0];cases P.info? t<;>rfl
def cw (P:Program)(t:TypeId):Option Nat:=(P.info? t).map (·.size)
def zeroOf (P:Program)(t:TypeId):Option Value:=(P.info? t).bind (·.zero)
def bytesOf (P:Program)(t:TypeId):Option Nat:=(P.info? t).map (·.bytes)
@[go_sem] theorem ff {Q:Nat->af->Prop}(t:TypeId):bw P (sizeOf t) Q F=match cw P t with|some n=>Q n F|none=>False:=by
 simp only[sizeOf,bA,uN,cw];cases P.info? t<;>rfl
@[go_sem] theorem nt {Q:Value->af->Prop}(t:TypeId):bw P (zeroValue t) Q F=match zeroOf P t with|some n=>Q n F|none=>False:=by
 simp only[zeroValue,bA,uN,zeroOf];cases P.info? t with
 |none=>rfl
 |some i=>simp only[Option.bind_some];cases i.zero<;>rfl
def cK (P:Program)(t:TypeId):Option Bool:=(P.underlying t).map fun| .struct _=>true| .array _ _=>true|_=>false
@[go_sem] theorem nu {Q:Bool->af->Prop}(t:TypeId):bw P (isAgg t) Q F=match cK P t with|some n=>Q n F|none=>False:=by
 simp only[isAgg,bA,di,cK];cases P.underlying t with
 |none=>rfl
 |some d=>cases d<;>rfl
def af.lN (F:af)(a:Addr):Nat->List Value->Prop
 |_,[]=>True
 |i,v::vs=>F.get (a.add i)=some v/\F.lN a (i+1) vs
theorem uO {Q:Array Value->af->Prop}(a:Addr):∀(vs:List Value) (i:Nat) (acc:Array Value),F.lN a i vs->Q (acc++vs.toArray) F->bw P (loadCellsFrom a i vs.length acc) Q F
 |[],i,acc,_,h=>by simpa [loadCellsFrom,bG] using h
 |v::vs,i,acc,hg,h=>by
  simp only[List.length_cons,loadCellsFrom,bA,zx]
  refine ⟨v,hg.1,uO a vs (i+1) (acc.push v) hg.2 ?_⟩
  simpa using h
theorem Eb {Q:Value->af->Prop}{t:TypeId}{a:Addr}(vs:List Value)(ht:cK P t=some true)(hs:cw P t=some vs.length)(hg:F.lN a 0 vs)(h:Q (.agg vs.toArray) F):bw P (loadVar t a) Q F:=by
 simp only[loadVar,bA,nu,ht,dJ,if_true,ff,hs,loadCells];exact uO a vs 0 #[] hg (by simpa [bG] using h)
theorem Ec {Q:Value->af->Prop}{t:TypeId}{a:Addr}(v:Value)(ht:cK P t=some false)(hg:F.get a=some v)(h:Q v F):bw P (loadVar t a) Q F:=by
 simp only[loadVar,bA,nu,ht,dJ,zx];exact ⟨v,hg,h⟩
def af.jb (F:af)(a:Addr):Nat->List Value->Option af
 |_,[]=>some F
 |i,v::vs=>match F.lK (a.add i) v with
  |some F'=>F'.jb a (i+1) vs
  |none=>none
theorem pW {Q:Unit->af->Prop}(a:Addr):∀(vs:List Value) (i:Nat) (F F':af),F.jb a i vs=some F'->Q () F'->bw P (storeCells a vs i) Q F
 |[],i,F,F',hg,h=>by simp only[af.jb,Option.some.injEq] at hg;subst hg;simpa [storeCells,bG] using h
 |v::vs,i,F,F',hg,h=>by
  simp only[storeCells,bA,Ea]
  unfold af.jb at hg
  split at hg
  .rename_i F1 b
   exact ⟨F1,b,pW a vs (i+1) F1 F' hg h⟩
  .cases hg
theorem Ed {Q:Unit->af->Prop}{t:TypeId}{a:Addr}{v:Value}(F':af)(hs:cw P t=some v.cells.size)(hg:F.jb a 0 v.cells.toList=some F')(h:Q () F'):bw P (storeVar t a v) Q F:=by
 simp only[storeVar,bA,ff,hs,ne_eq,not_true_eq_false,if_false];exact pW a _ 0 F F' hg h
@[go_sem] theorem zz {Q:Addr->af->Prop}(t:TypeId)(v:Value):bw P (newVar t v) Q F=∀b,er F b->Q ⟨b,0,none⟩ (F.push b (.cells v.cells t)):=by
 simp only[newVar,newRow,bA,pV,bG];simp[Obj.isChan]
@[go_sem] theorem uP {Q:Addr->af->Prop}(t:TypeId)(v:Array Value):bw P (newRow t v) Q F=∀b,er F b->Q ⟨b,0,none⟩ (F.push b (.cells v t)):=by
 simp only[newRow,bA,pV,bG];simp[Obj.isChan]
theorem pX {Q:Addr->af->Prop}(a:Addr):bw P (Instr.sureAddr (.pointer (some a))) Q F=Q a F:=rfl
theorem kL {Q:IntKind×Int->af->Prop}(k:IntKind)(n:Int):bw P (asIntOf (.int k n)) Q F=Q (k,n) F:=rfl
theorem MU {Q:Int->af->Prop}(k:IntKind)(n:Int):bw P (asInt (.int k n)) Q F=Q n F:=rfl
theorem Ee {Q:Bool->af->Prop}(b:Bool):bw P (asBool (.bool b)) Q F=Q b F:=rfl
theorem Ef {Q:Array Value->af->Prop}(b:Array Value):bw P (asAgg (.agg b)) Q F=Q b F:=rfl
attribute [go_sem] pX kL MU Ee Ef
end
def slot (a:Act)(i:Nat):Value:=a.tmps.getD i undef
def sz (a:Act):Nat:=a.tmps.size
def bC (a:Act)(d:Option Tmp)(v:Value):Act:=a.put d v
def ev (a:Act)(x:Operand):Value:=a.eval x
theorem MV (a:Act)(t:Nat):ev a (.tmp t)=slot a t:=rfl
theorem MW (a:Act)(v:Value):ev a (.const v)=v:=rfl
theorem MX (a:Act)(g:Nat):ev a (.global g)= .pointer (some ⟨g,0,none⟩):=rfl
theorem MY (a:Act)(f:Nat):ev a (.func f)= .func (.func f) #[] #[]:=rfl
theorem MZ (a:Act)(v:Value):bC a none v=a:=rfl
attribute [go_sem] MV MW MX MY MZ
@[go_sem] theorem zA (a:Act)(d:Option Tmp)(v:Value):sz (bC a d v)=sz a:=by cases d<;>simp[sz,bC,Act.put]
theorem Eg (a:Act)(d:Nat)(v:Value)(h:d<sz a):slot (bC a (some d) v) d=v:=by
 simp only[sz] at h;simp[slot,bC,Act.put,h]
theorem uQ (a:Act)(d i:Nat)(v:Value)(h:¬d=i):slot (bC a (some d) v) i=slot a i:=by
 simp[slot,bC,Act.put,Array.getElem?_setIfInBounds_ne h]
@[go_sem] theorem M0 (a:Act)(d i:Nat)(v:Value)(h:d<sz a):slot (bC a (some d) v) i=if d=i then v else slot a i:=by
 split
 .rename_i e;subst e;exact Eg a d v h
 .rename_i e;exact uQ a d i v e
@[go_sem] theorem zB (a:Act)(d:Option Tmp)(v:Value):(bC a d v).defers=a.defers:=by cases d<;>rfl
theorem aE.start {P:Program}{f:FuncId}{fn:Func}{c:Code}{n:Nat}{args:Array Value}{F:af}{R:Value->af->Prop}(a:P.funcs[f]?=some fn)(hb:fn.body=some c)(hn:fn.ntmps=n)(b:args.size<=n)
  (h:∀main J,Closed P main J->∀A:Act,sz A=n->A.defers=[]->(∀i,slot A i=args.getD i undef)->Wp J c (rK P fn R) A F):aE P f args F R:=
 aE.of_wp a hb fun main J hJ=>h main J hJ _ (by simp[sz,hn];omega) rfl fun i=>by
  simp only[slot,hn,Array.getD_eq_getD_getElem?]
  rcases Nat.lt_or_ge i args.size with hi|hi
  .rw[Array.getElem?_append_left hi]
  .rw[Array.getElem?_append_right hi,Array.getElem?_replicate,Array.getElem?_eq_none hi]
   split<;>rfl
def dU (P:Program)(t:TypeId):Option TypeId:=match P.underlying t with|some (.slice e)=>some e|_=>none
def kM (P:Program)(t:TypeId):Option (Nat×TypeId):=match P.underlying t with|some (.array n e)=>some (n,e)|_=>none
def dK (P:Program)(t:TypeId)(n:Nat):Option Nat:=
 match P.underlying t with
 |some (.struct a)=>match a[n]? with
  |some f=>match cw P f.type with
   |some (_+1)=>some f.offset
   |_=>none
  |none=>none
 |_=>none
def zC (P:Program)(t:TypeId)(n:Nat):Option (Nat×Nat×Bool):=
 match P.underlying t with
 |some (.struct a)=>match a[n]? with
  |some f=>match cw P f.type,cK P f.type with
   |some s,some g=>some (f.offset,s,g)
   |_,_=>none
  |none=>none
 |_=>none
def placesOf (P:Program)(t:TypeId):Option (List (Nat×Nat)):=
 match P.underlying t with
 |some (.struct a)=>a.toList.mapM fun f=>(cw P f.type).map fun s=>(f.offset,s)
 |_=>none
def aI (P:Program)(f:FuncId):Bool:=match P.funcs[f]? with|some fn=>!(fn.body.isNone||fn.name== "runtime.NumGoroutine")|none=>false
def af.dj (F:af)(a:Addr):Nat->Nat->Option (List Value)
 |_,0=>some []
 |i,n+1=>match F.get (a.add i) with
  |some v=>match F.dj a (i+1) n with
   |some vs=>some (v::vs)
   |none=>none
  |none=>none
theorem uR (F:af)(a:Addr):∀(n i:Nat) (vs:List Value),F.dj a i n=some vs->F.lN a i vs/\vs.length=n
 |0,i,vs,h=>by simp only[af.dj,Option.some.injEq] at h;subst h;exact ⟨trivial,rfl⟩
 |n+1,i,vs,h=>by
  unfold af.dj at h
  split at h
  .rename_i v hv
   split at h
   .rename_i ws b
    cases h
    obtain ⟨c,d⟩:=uR F a n (i+1) ws b
    exact ⟨⟨hv,c⟩,by simp[d]⟩
   .cases h
  .cases h
def ga (P:Program)(F:af)(t:TypeId)(ad:Addr):Option Value:=
 match cK P t with
 |some false=>F.get ad
 |some true=>match cw P t with
  |some n=>match F.dj ad 0 n with
   |some vs=>some (.agg vs.toArray)
   |none=>none
  |none=>none
 |none=>none
def rM (P:Program)(F:af)(t:TypeId)(ad:Addr)(v:Value):Option af:=
 match cw P t with
 |some n=>if n=v.cells.size then F.jb ad 0 v.cells.toList else none
 |none=>none
theorem zD {P:Program}{F:af}{t:TypeId}{ad:Addr}{v:Value}{Q:Value->af->Prop}(h:ga P F t ad=some v)(a:Q v F):bw P (loadVar t ad) Q F:=by
 unfold ga at h;split at h
 .rename_i hg;exact Ec v hg h a
 .rename_i hg;split at h
  .rename_i n hn;split at h
   .rename_i vs b;cases h;obtain ⟨c,d⟩:=uR F ad n 0 vs b;exact Eb vs hg (by rw[hn,d]) c a
   .cases h
  .cases h
 .cases h
theorem Eh {P:Program}{F F':af}{t:TypeId}{ad:Addr}{v:Value}{Q:Unit->af->Prop}(h:rM P F t ad v=some F')(a:Q () F'):bw P (storeVar t ad v) Q F:=by
 unfold rM at h;split at h
 .rename_i n hn;split at h
  .rename_i e;exact Ed F' (by rw[hn,e]) h a
  .cases h
 .cases h
def nv (op:BinOp):Value->Value->Option Value
 | .int k a,.int c b=>if k=c then match op with
   | .add=>some (.int k (k.wrap (a+b)))
   | .sub=>some (.int k (k.wrap (a - b)))
   | .mul=>some (.int k (k.wrap (a*b)))
   | .quo=>if b=0 then none else some (.int k (k.wrap (a.tdiv b)))
   | .rem=>if b=0 then none else some (.int k (a.tmod b))
   | .eql=>some (.bool (a==b))
   | .neq=>some (.bool (a != b))
   | .lss=>some (.bool (decide (a<b)))
   | .leq=>some (.bool (decide (a<=b)))
   | .gtr=>some (.bool (decide (a>b)))
   | .geq=>some (.bool (decide (a≥b)))
   | .shl=>if b<0 then none else some (.int k (k.wrap (a*2 ^ min b.toNat k.bits)))
   | .shr=>if b<0 then none else some (.int k (a.fdiv (2 ^ min b.toNat k.bits)))
   | .and=>some (.int k (k.wrap (BitVec.ofInt k.bits a&&& BitVec.ofInt k.bits b).toNat))
   | .or=>some (.int k (k.wrap (BitVec.ofInt k.bits a|||BitVec.ofInt k.bits b).toNat))
   | .andNot=>some (.int k (k.wrap (BitVec.ofInt k.bits a&&& ~~~(BitVec.ofInt k.bits b)).toNat))
   | .xor=>some (.int k (k.wrap (BitVec.ofInt k.bits a ^^^ BitVec.ofInt k.bits b).toNat))
  else none
 | .string a,.string b=>match op with
  | .eql=>some (.bool (a.data.toList==b.data.toList))
  | .neq=>some (.bool !(a.data.toList==b.data.toList))
  |_=>none
 |_,_=>none
theorem gF {P:Program}{s:Sem Value}{Q:Next->af->Prop}{F:af}:bw P (do pure (Next.value (<-s)):Sem Next) Q F=bw P s (fun v G=>Q (.value v) G) F:=by
 simp only[bA,bG]
theorem uS {P:Program}(op:BinOp)(t:TypeId)(x y:Operand)(k c:IntKind)(a b:Int){Q:Unit->af->Prop}{F:af}(h:Q () F):bw P (eqGuard op t x y (.int k a) (.int c b)) Q F:=by
 unfold eqGuard;cases op<;>simp<;>exact h
theorem Ei {P:Program}{op:BinOp}{t:TypeId}{x y:Operand}{u v w:Value}{Q:Value->af->Prop}{F:af}(h:nv op u v=some w)(c:Q w F):bw P (do eqGuard op t x y u v;binOp op t u v) Q F:=by
 unfold nv at h;split at h
 case h_3=>cases h
 case h_2=>
  rename_i a b;cases op<;>simp only[reduceCtorEq] at h<;>(cases h;simp only[bA,eqGuard,binOp,Op.stringOp,ByteArray.toList_eq];exact c)
 rename_i k a e b;split at h
 case isFalse=>cases h
 rename_i d;subst d;rw[bA];refine uS op t x y k k a b ?_;cases op<;>simp only[binOp,ne_eq,not_true_eq_false,if_false,Op.intArith,Op.intDiv,Op.intCmp,Op.intBits,Op.shift,dJ] at h ⊢<;>first
  |(cases h;done)
  |(cases h;exact c)
  |(split at h
    .cases h
    .rename_i hb;rw[if_neg hb];cases h;exact c)
def lO (op:UnOp):Value->Option Value
 | .int k a=>match op with
  | .neg=>some (.int k (k.wrap (0 - a)))
  |_=>none
 | .bool b=>match op with
  | .not=>some (.bool (!b))
  |_=>none
 |_=>none
theorem Ej {P:Program}{op:UnOp}{u w:Value}{Q:Value->af->Prop}{F:af}(h:lO op u=some w)(a:Q w F):bw P (Op.unary op u) Q F:=by
 cases u<;>cases op<;>simp only[lO] at h<;>first|(cases h;done)|(cases h;exact a)
def rN:Value->Value->Option Value
 | .int k x,.int _ y=>some (.int k (if y>x then y else x))
 |_,_=>none
def rO:Value->Value->Option Value
 | .int k x,.int _ y=>some (.int k (if y<x then y else x))
 |_,_=>none
def pY (P:Program)(t:TypeId):Value->Value->Option Value
 | .slice (some ad) len _,.int _ i=>match dU P t with
  |some e=>match cw P e with
   |some n=>if 0<=i/\i<(len:Int) then some (.pointer (some (ad.add (i.toNat*n)))) else none
   |none=>none
  |none=>none
 | .pointer (some ad),.int _ i=>match kM P t with
  |some (len,e)=>match cw P e with
   |some n=>if 0<=i/\i<(len:Int) then some (.pointer (some (ad.add (i.toNat*n)))) else none
   |none=>none
  |none=>none
 |_,_=>none
theorem Ek {P:Program}{t:TypeId}{u v w:Value}{Q:Value->af->Prop}{F:af}(h:pY P t u v=some w)(b:Q w F):bw P (Instr.indexAt t u v) Q F:=by
 unfold pY at h;split at h
 .rename_i ad len cap k i;split at h
  case h_2=>cases h
  rename_i e he;split at h
  case h_2=>cases h
  rename_i n hn;split at h
  case isFalse=>cases h
  rename_i hi;cases h;have hu:P.underlying t=some (.slice e):=by
   unfold dU at he;split at he
   .rename_i c a;cases he;exact a
   .cases he
  simp only[Instr.indexAt,bA,kL,di,hu,bG,dJ,if_pos hi,ff,hn];exact b
 .rename_i ad k i;split at h
  case h_2=>cases h
  rename_i len e he;split at h
  case h_2=>cases h
  rename_i n hn;split at h
  case isFalse=>cases h
  rename_i hi;cases h;have hu:P.underlying t=some (.array len e):=by
   unfold kM at he;split at he
   .rename_i d c a;cases he;exact a
   .cases he
  simp only[Instr.indexAt,bA,kL,di,hu,bG,pX,dJ,if_pos hi,ff,hn];exact b
 .cases h
def lP (P:Program)(t:TypeId)(x:Value)(lo hi:Option Value):Option Value:=
 match x,dU P t with
 | .slice ad len cap,some e=>match cw P e with
  |some n=>
   match (match lo with|none=>some 0|some (.int _ i)=>if 0<=i then some i.toNat else none|_=>none),(match hi with|none=>some len|some (.int _ i)=>if 0<=i then some i.toNat else none|_=>none) with
   |some l,some h=>if l<=h/\h<=cap then some (.slice (if cap=l then ad else ad.map (·.add (l*n))) (h - l) (cap - l)) else none
   |_,_=>none
  |none=>none
 | .pointer (some ad),none=>match kM P t,lo,hi with
  |some (n,e),none,none=>match cw P e with
   |some _=>some (.slice (some ad) n n)
   |none=>none
  |_,_,_=>none
 |_,_=>none
theorem El {P:Program}{t:TypeId}{x w:Value}{lo hi:Option Value}{Q:Value->af->Prop}{F:af}(hlen:∀ad len cap,x= .slice ad len cap->len<=cap)(h:lP P t x lo hi=some w)(c:Q w F):bw P (Instr.sliceAt t x lo hi none) Q F:=by
 unfold lP at h;split at h
 case h_3=>cases h
 case h_2=>
  rename_i ad _;split at h
  case h_2=>cases h
  rename_i n e he;have hu:P.underlying t=some (.array n e):=by
   unfold kM at he;split at he
   .rename_i q g d;cases he;exact d
   .cases he
  split at h
  case h_2=>cases h
  rename_i sz hs;cases h;simp only[Instr.sliceAt,bA,di,hu,pX,Instr.sliceBounds,bG,ff,hs,Nat.zero_mul,Nat.sub_zero];have:(if n=0 then ad else ad.add 0)=ad:=by split<;>rfl
  rw[this];exact c
 rename_i ad len cap e he;have r:=hlen ad len cap rfl;have hu:P.underlying t=some (.slice e):=by
  unfold dU at he;split at he
  .rename_i g d;cases he;exact d
  .cases he
 split at h
 case h_2=>cases h
 rename_i n hn;split at h
 case h_2=>cases h
 rename_i l h' a b;split at h
 case isFalse=>cases h
 rename_i hb;cases h;simp only[Instr.sliceAt,bA,di,hu,Instr.slice,Instr.sliceBounds,bG];cases hi with
 |none=>
  simp only[Option.some.injEq] at b;subst b;simp only[bG];cases lo with
  |none=>
   simp only[Option.some.injEq] at a;subst a;simp only[bG,ff,hn];exact c
  |some v=>
   cases v<;>simp only[reduceCtorEq] at a;rename_i k i;split at a
   case isFalse=>cases a
   rename_i f;cases a;have:0<=i/\i<=(len:Int):=⟨f,aa⟩
   simp only[Instr.sliceBound,bA,kL,dJ,if_pos this,bG,ff,hn];exact c
 |some v=>
  cases v<;>simp only[reduceCtorEq] at b;rename_i k i;split at b
  case isFalse=>cases b
  rename_i f;cases b;have m:0<=i/\i<=(cap:Int):=⟨f,aa⟩
  simp only[Instr.sliceBound,bA,kL,dJ,if_pos m,bG];cases lo with
  |none=>
   simp only[Option.some.injEq] at a;subst a;simp only[bG,ff,hn];exact c
  |some v=>
   cases v<;>simp only[reduceCtorEq] at a;rename_i s j;split at a
   case isFalse=>cases a
   rename_i o;cases a;have p:0<=j/\j<=((i.toNat:Nat):Int):=⟨o,aa⟩
   simp only[bA,kL,dJ,if_pos p,bG,ff,hn];exact c
def gG:List Value->List Value->Option Bool
 |[],[]=>some true
 | .int k a::xs,.int c b::ys=>if k=c then match gG xs ys with
   |some r=>some (a==b&&r)
   |none=>none
  else none
 | .bool a::xs,.bool b::ys=>match gG xs ys with
   |some r=>some (a==b&&r)
   |none=>none
 | .string a::xs,.string b::ys=>match gG xs ys with
   |some r=>some (a.data.toList==b.data.toList&&r)
   |none=>none
 |_,_=>none
theorem Em (a b:ByteArray):(a==b)=(a.data.toList==b.data.toList):=by
 obtain ⟨⟨a⟩⟩:=a;obtain ⟨⟨b⟩⟩:=b;show ((⟨a⟩:Array UInt8)==⟨b⟩)=(a==b);simp
theorem pZ:∀{xs ys:List Value} {us vs:List Value} {r:Bool},xs.length=ys.length->gG (xs++us) (ys++vs)=some r->∃r1 r2,gG xs ys=some r1/\gG us vs=some r2/\r=(r1&&r2)
 |[],[],us,vs,r,_,h=>⟨true,r,rfl,h,an⟩
 |[],y::ys,_,_,_,a,_=>by simp at a
 |x::xs,[],_,_,_,a,_=>by simp at a
 |x::xs,y::ys,us,vs,r,a,h=>by
  have e:xs.length=ys.length:=by simpa using a
  cases x<;>cases y<;>simp only[List.cons_append,gG,reduceCtorEq] at h ⊢
  .split at h
   .rename_i f b
    obtain ⟨r1,r2,c,d,rfl⟩:=pZ e b
    cases h
    exact ⟨_,r2,by rw[c],d,by rw[Bool.and_assoc]⟩
   .cases h
  .split at h
   .rename_i g
    split at h
    .rename_i f b
     obtain ⟨r1,r2,c,d,rfl⟩:=pZ e b
     cases h
     exact ⟨_,r2,by rw[if_pos g,c],d,by rw[Bool.and_assoc]⟩
    .cases h
   .cases h
  .split at h
   .rename_i f b
    obtain ⟨r1,r2,c,d,rfl⟩:=pZ e b
    cases h
    exact ⟨_,r2,by rw[c],d,by rw[Bool.and_assoc]⟩
   .cases h
def Kd:List (Option Bool)->List Value->Prop
 |[],[]=>True
 |some true::ks,.int _ _::xs=>Kd ks xs
 |some false::ks,.bool _::xs=>Kd ks xs
 |none::ks,.string _::xs=>Kd ks xs
 |_,_=>False
theorem Kd.length:∀{ks:List (Option Bool)} {xs:List Value},Kd ks xs->xs.length=ks.length
 |[],[],_=>rfl
 |[],x::xs,h=>by simp[Kd] at h
 |k::ks,[],h=>by rcases k with _|_|_<;>simp[Kd] at h
 |k::ks,x::xs,h=>by
  have:Kd ks xs:=by rcases k with _|_|_<;>cases x<;>simp only[Kd] at h<;>exact h
  simp[Kd.length this]
theorem Kd.split:∀{ks:List (Option Bool)} {ls:List (Option Bool)} {xs:List Value},Kd (ks++ls) xs->Kd ks (xs.take ks.length)/\Kd ls (xs.drop ks.length)
 |[],_,_,h=>⟨by simp[Kd],by simpa using h⟩
 |k::ks,ls,[],h=>by rcases k with _|_|_<;>simp[Kd] at h
 |k::ks,ls,x::xs,h=>by
  rcases k with _|_|_<;>cases x<;>simp only[List.cons_append,Kd] at h
  all_goals
   obtain ⟨a,b⟩:=Kd.split h
   exact ⟨by simpa [Kd] using a,by simpa using b⟩
def p5 (P:Program)(g:TypeId->Option (List (Option Bool))):List Field->Nat->Option (List (Option Bool))
 |[],_=>some []
 |f::a,off=>if f.name≠ "_"/\f.offset=off then match g f.type with
   |some ks=>if cw P f.type=some ks.length then match p5 P g a (off+ks.length) with
     |some ls=>some (ks++ls)
     |none=>none
    else none
   |none=>none
  else none
def j3 (P:Program):Nat->TypeId->Option (List (Option Bool))
 |0,_=>none
 |d+1,t=>match P.underlying t with
  |some .bool=>if cK P t=some false then some [some false] else none
  |some (.int _)=>if cK P t=some false then some [some true] else none
  |some .string=>if cK P t=some false then some [none] else none
  |some (.struct a)=>if cK P t=some true/\P.stoodInHeld t=false then p5 P (j3 P d) a.toList 0 else none
  |some (.array n e)=>if cK P t=some true then match j3 P d e with
    |some ks=>if cw P e=some ks.length then some (List.replicate n ks).flatten else none
    |none=>none
   else none
  |_=>none
def Sc (v:Value):Prop:=(∃k a,v= .int k a)\/(∃b,v= .bool b)\/∃s,v= .string s
theorem Kd.sc:∀{ks:List (Option Bool)} {xs:List Value},Kd ks xs->∀x∈xs,Sc x
 |[],[],_=>by simp
 |[],x::xs,h=>by simp[Kd] at h
 |k::ks,[],h=>by simp
 |k::ks,x::xs,h=>by
  have:Sc x/\Kd ks xs:=by rcases k with _|_|_<;>cases x<;>simp only[Kd] at h<;>first|exact ⟨.inl ⟨_,_,rfl⟩,h⟩|exact ⟨.inr (.inl ⟨_,rfl⟩),h⟩|exact ⟨.inr (.inr ⟨_,rfl⟩),h⟩
  simpa using ⟨this.1,Kd.sc this.2⟩
theorem Sc.cells {v:Value}(h:Sc v):v.cells=#[v]:=by
 rcases h with ⟨k,a,rfl⟩|⟨b,rfl⟩|⟨b,rfl⟩<;>rfl
def Shape (P:Program)(t:TypeId)(v:Value):Prop:=(cK P t=some true->∃xs,v= .agg xs)/\(cK P t=some false->Sc v)
section
variable {P:Program}
theorem rP {t:TypeId}{xs:Array Value}{off m:Nat}{g:Bool}{Q:Value->af->Prop}{F:af}(hg:cK P t=some g)(hs:cw P t=some m)(hm:g=false->m=1)(e:off+m<=xs.size)
  (d:∀x∈xs.toList,Sc x) (h:∀v,v.cells.toList=(xs.toList.drop off).take m->Shape P t v->Q v F):bw P (part t xs off) Q F:=by
 simp only[part,bA,nu,hg,dJ]
 cases g with
 |true=>
  simp only[if_true,bA,ff,hs,bG]
  refine h _ ?_ ⟨fun _=>⟨_,rfl⟩,fun a=>by rw[hg] at a;cases a⟩
  simp only[Value.cells,Array.toList_extract,List.extract_eq_take_drop]
  congr 1;omega
 |false=>
  have:=hm rfl
  subst this
  have b:off<xs.size:=aa
  simp only[Bool.false_eq_true,if_false,Array.getElem?_eq_getElem b,bG]
  have c:=d xs[off] an
  refine h _ ?_ ⟨fun a=>(by rw[hg] at a;cases a),fun _=>c⟩
  rw[c.cells]
  have:off<xs.toList.length:=by simpa using b
  rw[List.drop_eq_getElem_cons this]
  simp
def uT (P:Program)(d:Nat)(t:TypeId)(ks:List (Option Bool)):Prop:=
 ∀(u v:Value) (r:Bool) (Q:Bool->af->Prop) (F:af),Shape P t u->Shape P t v->Kd ks u.cells.toList->Kd ks v.cells.toList->gG u.cells.toList v.cells.toList=some r->Q r F->bw P (Op.equalIn d t u v) Q F
theorem zE {d t:Nat}{ks:List (Option Bool)}(h:j3 P d t=some ks):∃g,cK P t=some g/\(g=false->ks.length=1):=by
 cases d with
 |zero=>cases h
 |succ d=>
  unfold j3 at h;split at h
  .split at h
   .rename_i hg;cases h;exact ⟨_,hg,fun _=>rfl⟩
   .cases h
  .split at h
   .rename_i hg;cases h;exact ⟨_,hg,fun _=>rfl⟩
   .cases h
  .split at h
   .rename_i hg;cases h;exact ⟨_,hg,fun _=>rfl⟩
   .cases h
  .split at h
   .rename_i hg;exact ⟨true,hg.1,fun x=>by cases x⟩
   .cases h
  .split at h
   .rename_i hg;exact ⟨true,hg,fun x=>by cases x⟩
   .cases h
  .cases h
theorem zF {d:Nat}(ih:∀t ks,j3 P d t=some ks->uT P d t ks){xs ys:Array Value}{Q:Bool->af->Prop}{F:af}(m:∀x∈xs.toList,Sc x)(n:∀x∈ys.toList,Sc x):
  ∀(c:List Field) (off:Nat) (ks:List (Option Bool)) (r:Bool),p5 P (j3 P d) c off=some ks->Kd ks (xs.toList.drop off)->Kd ks (ys.toList.drop off)->gG (xs.toList.drop off) (ys.toList.drop off)=some r->off<=xs.size->off<=ys.size->Q r F->
  bw P (do
   let x<-forIn c ((none,()):Option Bool×Unit) fun f _=>do
    if f.name≠ "_" then
     if (!(<-Op.equalIn d f.type (<-part f.type xs f.offset) (<-part f.type ys f.offset)))=true then pure (ForInStep.done (some false,())) else pure (ForInStep.yield (none,()))
    else pure (ForInStep.yield (none,()))
   match x.fst with
    |some a=>pure a
    |none=>pure true:Sem Bool) Q F
 |[],off,ks,r,b,e,h,he,_,_,i=>by
  simp only[p5,Option.some.injEq] at b
  subst b
  have j:=e.length
  have l:=h.length
  rw[List.eq_nil_of_length_eq_zero j,List.eq_nil_of_length_eq_zero l] at he
  cases he
  simp only[List.forIn_nil,bA,bG]
  exact i
 |f::c,off,ks,r,b,e,h,he,D,E,i=>by
  unfold p5 at b
  split at b
  case isFalse=>cases b
  rename_i hn
  obtain ⟨hn,rfl⟩:=hn
  split at b
  case h_2=>cases b
  rename_i k o
  split at b
  case isFalse=>cases b
  rename_i hs
  split at b
  case h_2=>cases b
  rename_i ls w
  cases b
  obtain ⟨g,hg,p⟩:=zE o
  have y:=e.length
  have z:=h.length
  simp only[List.length_drop,Array.length_toList,List.length_append] at y z
  obtain ⟨A,q⟩:=e.split
  obtain ⟨B,s⟩:=h.split
  rw[List.drop_drop] at q s
  have e1:xs.toList.drop f.offset=(xs.toList.drop f.offset).take k.length++xs.toList.drop (f.offset+k.length):=by
   rw[<-List.drop_drop,List.take_append_drop]
  have e2:ys.toList.drop f.offset=(ys.toList.drop f.offset).take k.length++ys.toList.drop (f.offset+k.length):=by
   rw[<-List.drop_drop,List.take_append_drop]
  rw[e1,e2] at he
  obtain ⟨r1,r2,j,l,rfl⟩:=pZ (by simp;omega) he
  simp only[List.forIn_cons,bA,if_pos hn]
  refine rP hg hs p aa m fun u hu C=>?_
  refine rP hg hs p aa n fun v hv sv=>?_
  refine ih _ _ o u v r1 _ F C sv (by rw[hu];exact A) (by rw[hv];exact B) (by rw[hu,hv];exact j) ?_
  cases r1 with
  |false=>simpa [bG,dJ] using i
  |true=>
   have:=zF ih m n c (f.offset+k.length) ls r2 w q s l aa aa (Q:=Q) (F:=F) (by simpa using i)
   simpa [bG,dJ,bA] using this
theorem zG {d e k:Nat}{ks:List (Option Bool)}{g:Bool}(s:uT P d e ks)(h:ks.length=k)(hg:cK P e=some g)(j:g=false->ks.length=1)(hs:cw P e=some ks.length){xs ys:Array Value}{Q:Bool->af->Prop}{F:af}(t:∀x∈xs.toList,Sc x)(w:∀x∈ys.toList,Sc x):
  ∀(n i:Nat) (r:Bool),Kd (List.replicate n ks).flatten (xs.toList.drop (i*k))->Kd (List.replicate n ks).flatten (ys.toList.drop (i*k))->gG (xs.toList.drop (i*k)) (ys.toList.drop (i*k))=some r->i*k<=xs.size->i*k<=ys.size->Q r F->
  bw P (do
   let x<-forIn (List.range' i n) ((none,()):Option Bool×Unit) fun i _=>do
    if (!(<-Op.equalIn d e (<-part e xs (i*k)) (<-part e ys (i*k))))=true then pure (ForInStep.done (some false,())) else pure (ForInStep.yield (none,()))
   match x.fst with
    |some a=>pure a
    |none=>pure true:Sem Bool) Q F
 |0,i,r,b,c,he,_,_,f=>by
  have l:=b.length
  have m:=c.length
  rw[List.eq_nil_of_length_eq_zero l,List.eq_nil_of_length_eq_zero m] at he
  cases he
  simp only[List.range'_zero,List.forIn_nil,bA,bG]
  exact f
 |n+1,i,r,b,c,he,D,E,f=>by
  have o:(i+1)*k=i*k+k:=by simp only[Nat.add_mul,Nat.one_mul]
  have A:=b.length
  have B:=c.length
  simp only[List.replicate_succ,List.flatten_cons,List.length_drop,Array.length_toList,List.length_append] at A B
  simp only[List.replicate_succ,List.flatten_cons] at b c
  obtain ⟨y,p⟩:=b.split
  obtain ⟨z,q⟩:=c.split
  rw[h] at y p z q
  rw[List.drop_drop,<-o] at p q
  have e1:xs.toList.drop (i*k)=(xs.toList.drop (i*k)).take k++xs.toList.drop ((i+1)*k):=by
   rw[o,<-List.drop_drop,List.take_append_drop]
  have e2:ys.toList.drop (i*k)=(ys.toList.drop (i*k)).take k++ys.toList.drop ((i+1)*k):=by
   rw[o,<-List.drop_drop,List.take_append_drop]
  rw[e1,e2] at he
  obtain ⟨r1,r2,l,m,rfl⟩:=pZ (by simp;omega) he
  simp only[List.range'_succ,List.forIn_cons,bA]
  refine rP hg hs j aa t fun u hu C=>?_
  refine rP hg hs j aa w fun v hv sv=>?_
  rw[h] at hu hv
  refine s u v r1 _ F C sv (by rw[hu];exact y) (by rw[hv];exact z) (by rw[hu,hv];exact l) ?_
  cases r1 with
  |false=>simpa [bG,dJ] using f
  |true=>
   have:=zG s h hg j hs t w n (i+1) r2 p q m aa aa (Q:=Q) (F:=F) (by simpa using f)
   simpa [bG,dJ,bA] using this
theorem uU:∀(d t:Nat) (ks:List (Option Bool)),j3 P d t=some ks->uT P d t ks
 |0,_,_,h=>by cases h
 |d+1,t,ks,h=>by
  intro u v r Q F i sv hu hv he j
  unfold j3 at h
  split at h
  .rename_i c
   split at h
   case isFalse=>cases h
   rename_i hg
   cases h
   have a1:=i.2 hg
   have f:=sv.2 hg
   rw[a1.cells] at he hu
   rw[f.cells] at he hv
   simp only[Op.equalIn,bA,di,c]
   rcases a1 with ⟨k,a,rfl⟩|⟨a,rfl⟩|⟨a,rfl⟩<;>rcases f with ⟨m,b,rfl⟩|⟨b,rfl⟩|⟨b,rfl⟩<;>simp[Kd] at hu hv
   simp[gG] at he
   subst he
   simpa [bG] using j
  .rename_i c
   split at h
   case isFalse=>cases h
   rename_i hg
   cases h
   have a1:=i.2 hg
   have f:=sv.2 hg
   rw[a1.cells] at he hu
   rw[f.cells] at he hv
   simp only[Op.equalIn,bA,di,c]
   rcases a1 with ⟨k,a,rfl⟩|⟨a,rfl⟩|⟨a,rfl⟩<;>rcases f with ⟨m,b,rfl⟩|⟨b,rfl⟩|⟨b,rfl⟩<;>simp[Kd] at hu hv
   simp[gG] at he
   obtain ⟨l,rfl⟩:=he
   simpa [bG,dJ,l] using j
  .rename_i c
   split at h
   case isFalse=>cases h
   rename_i hg
   cases h
   have a1:=i.2 hg
   have f:=sv.2 hg
   rw[a1.cells] at he hu
   rw[f.cells] at he hv
   simp only[Op.equalIn,bA,di,c]
   rcases a1 with ⟨k,a,rfl⟩|⟨a,rfl⟩|⟨a,rfl⟩<;>rcases f with ⟨m,b,rfl⟩|⟨b,rfl⟩|⟨b,rfl⟩<;>simp[Kd] at hu hv
   simp[gG] at he
   subst he
   simp only[bG,Em]
   simpa using j
  .rename_i o c
   split at h
   case isFalse=>cases h
   rename_i hg
   obtain ⟨hg,p⟩:=hg
   obtain ⟨xs,rfl⟩:=i.1 hg
   obtain ⟨ys,rfl⟩:=sv.1 hg
   simp only[Op.equalIn,bA,di,c,j0,p,Bool.false_eq_true,if_false,dJ,bG]
   have:=zF (P:=P) (d:=d) (fun t ks q=>uU d t ks q) (xs:=xs) (ys:=ys) (Q:=Q) (F:=F) hu.sc hv.sc o.toList 0 ks r h (by simpa [Value.cells] using hu) (by simpa [Value.cells] using hv) (by simpa [Value.cells] using he) aa aa j
   rw[<-Array.forIn_toList]
   simp[bA] at this ⊢
   exact gO (fun a G h=>by rcases a with ⟨_|_,_⟩<;>exact h) _ _ this
  .rename_i n e c
   split at h
   case isFalse=>cases h
   rename_i hg
   split at h
   case h_2=>cases h
   rename_i k l
   split at h
   case isFalse=>cases h
   rename_i hs
   cases h
   obtain ⟨xs,rfl⟩:=i.1 hg
   obtain ⟨ys,rfl⟩:=sv.1 hg
   obtain ⟨g,s,w⟩:=zE l
   simp only[Op.equalIn,bA,di,c,ff,hs]
   have:=zG (P:=P) (d:=d) (uU d e k l) rfl s w hs (xs:=xs) (ys:=ys) (Q:=Q) (F:=F) hu.sc hv.sc n 0 r (by simpa [Value.cells] using hu) (by simpa [Value.cells] using hv) (by simpa [Value.cells] using he) an an j
   simp only[Std.Legacy.Range.forIn_eq_forIn_range',Std.Legacy.Range.size,Nat.sub_zero,Nat.add_one_sub_one,Nat.div_one]
   simp[bA] at this ⊢
   exact gO (fun a G h=>by rcases a with ⟨_|_,_⟩<;>exact h) _ _ this
  .cases h
def jc:List (Option Bool)->List Value->Bool
 |[],[]=>true
 |some true::ks,.int _ _::xs=>jc ks xs
 |some false::ks,.bool _::xs=>jc ks xs
 |none::ks,.string _::xs=>jc ks xs
 |_,_=>false
theorem uV:∀{ks:List (Option Bool)} {xs:List Value},jc ks xs=true->Kd ks xs
 |[],[],_=>trivial
 |[],x::xs,h=>by simp[jc] at h
 |k::ks,[],h=>by rcases k with _|_|_<;>simp[jc] at h
 |k::ks,x::xs,h=>by
  rcases k with _|_|_<;>cases x<;>first
   |(simp only[jc,reduceCtorEq,Bool.false_eq_true] at h;done)
   |exact uV (ks:=ks) (xs:=xs) (by simpa only[jc] using h)
def p6 (P:Program)(t:TypeId):Option (List (Option Bool)):=if P.eqGuardType P.depth t=false/\cK P t=some true then j3 P Op.maxDepth t else none
def ny (P:Program)(t:TypeId):Value->Value->Option Bool
 | .agg xs,.agg ys=>match p6 P t with
  |some ks=>if jc ks xs.toList&&jc ks ys.toList then gG xs.toList ys.toList else none
  |none=>none
 |_,_=>none
theorem uW {t:TypeId}{u v:Value}{r:Bool}{Q:Bool->af->Prop}{F:af}(h:ny P t u v=some r)(c:Q r F):bw P (Op.equal t u v) Q F/\P.eqGuardType P.depth t=false/\(∃xs,u= .agg xs)/\∃ys,v= .agg ys:=by
 unfold ny at h;split at h
 case h_2=>cases h
 rename_i xs ys;split at h
 case h_2=>cases h
 rename_i ks a;split at h
 case isFalse=>cases h
 rename_i b;simp only[Bool.and_eq_true] at b;unfold p6 at a;split at a
 case isFalse=>cases a
 rename_i hg;refine ⟨?_,hg.1,⟨_,rfl⟩,_,rfl⟩;exact uU _ _ _ a _ _ r Q F ⟨fun _=>⟨_,rfl⟩,fun x=>by rw[hg.2] at x;cases x⟩ ⟨fun _=>⟨_,rfl⟩,fun x=>by rw[hg.2] at x;cases x⟩ (uV b.1) (uV b.2) h c
def uX (P:Program)(t:TypeId):Bool:=match P.underlying t with|some .bool=>true|_=>false
def nB (P:Program)(t:TypeId):Bool:=match P.underlying t with|some (.slice _)=>true|_=>false
def p7 (P:Program)(t:TypeId):Value->Value->Option Bool
 | .bool a,.bool b=>if uX P t=true then some (a==b) else none
 | .slice none _ _,.slice b _ _=>if nB P t=true then some b.isNone else none
 | .slice (some _) _ _,.slice none _ _=>if nB P t=true then some false else none
 |_,_=>none
theorem zH {t:TypeId}{u v:Value}{r:Bool}{Q:Bool->af->Prop}{F:af}(h:p7 P t u v=some r)(e:Q r F):bw P (Op.equal t u v) Q F/\((∃a b,u= .bool a/\v= .bool b)\/∃a n c b m d,u= .slice a n c/\v= .slice b m d):=by
 obtain ⟨d,hd⟩:∃d,Op.maxDepth=d+1:=⟨_,rfl⟩
 unfold p7 at h;split at h
 .split at h
  .rename_i hb;cases h;unfold uX at hb;split at hb
   .rename_i hu;refine ⟨?_,.inl ⟨_,_,rfl,rfl⟩⟩;unfold Op.equal;rw[hd];simp only[Op.equalIn,bA,di,hu,bG];exact e
   .cases hb
  .cases h
 .split at h
  .rename_i hb;cases h;unfold nB at hb;split at hb
   .rename_i hu;refine ⟨?_,.inr ⟨_,_,_,_,_,_,rfl,rfl⟩⟩;unfold Op.equal;rw[hd];simp only[Op.equalIn,bA,di,hu,bG];exact e
   .cases hb
  .cases h
 .split at h
  .rename_i hb;cases h;unfold nB at hb;split at hb
   .rename_i hu;refine ⟨?_,.inr ⟨_,_,_,_,_,_,rfl,rfl⟩⟩;unfold Op.equal;rw[hd];simp only[Op.equalIn,bA,di,hu,bG];exact e
   .cases hb
  .cases h
 .cases h
def p8 (P:Program)(op:BinOp)(t:TypeId)(u v:Value):Option Value:=
 match nv op u v with
 |some w=>some w
 |none=>match op with
  | .eql=>match ny P t u v with
   |some r=>some (.bool r)
   |none=>match p7 P t u v with
    |some r=>some (.bool r)
    |none=>none
  | .neq=>match ny P t u v with
   |some r=>some (.bool (!r))
   |none=>match p7 P t u v with
    |some r=>some (.bool (!r))
    |none=>none
  | .shr=>match u,v with
   | .int k a,.int _ b=>if b<0 then none else some (.int k (a.fdiv (2 ^ min b.toNat k.bits)))
   |_,_=>none
  | .shl=>match u,v with
   | .int k a,.int _ b=>if b<0 then none else some (.int k (k.wrap (a*2 ^ min b.toNat k.bits)))
   |_,_=>none
  |_=>none
theorem En {op:BinOp}{t:TypeId}{x y:Operand}{u v w:Value}{Q:Value->af->Prop}{F:af}(h:p8 P op t u v=some w)(e:Q w F):bw P (do eqGuard op t x y u v;binOp op t u v) Q F:=by
 unfold p8 at h;split at h
 .rename_i w' hw;cases h;exact Ei hw e
 .split at h
  .split at h
   .rename_i r f;cases h;obtain ⟨g,i,⟨xs,rfl⟩,ys,rfl⟩:=uW (Q:=fun r G=>Q (.bool r) G) f e;simp only[bA,eqGuard,binOp,j0,i,dJ,bG];simpa using g
   .split at h
    .rename_i r f;cases h;obtain ⟨g,i⟩:=zH (Q:=fun r G=>Q (.bool r) G) f e;rcases i with ⟨a,b,rfl,rfl⟩|⟨a,n,c,b,m,d,rfl,rfl⟩<;>
     .simp only[bA,eqGuard,binOp,j0,dJ,bG];simpa using g
    .cases h
  .split at h
   .rename_i r f;cases h;obtain ⟨g,i,⟨xs,rfl⟩,ys,rfl⟩:=uW (Q:=fun r G=>Q (.bool (!r)) G) f e;simp only[bA,eqGuard,binOp,j0,i,dJ,bG];simpa using g
   .split at h
    .rename_i r f;cases h;obtain ⟨g,i⟩:=zH (Q:=fun r G=>Q (.bool (!r)) G) f e;rcases i with ⟨a,b,rfl,rfl⟩|⟨a,n,c,b,m,d,rfl,rfl⟩<;>
     .simp only[bA,eqGuard,binOp,j0,dJ,bG];simpa using g
    .cases h
  .split at h
   .split at h
    .cases h
    .rename_i hb;cases h;rw[bA];refine uS .shr t x y _ _ _ _ ?_;simp only[binOp,Op.shift,dJ];rw[if_neg hb];exact e
   .cases h
  .split at h
   .split at h
    .cases h
    .rename_i hb;cases h;rw[bA];refine uS .shl t x y _ _ _ _ ?_;simp only[binOp,Op.shift,dJ];rw[if_neg hb];exact e
   .cases h
  .cases h
end
theorem uY {P:Program}{t e:TypeId}(h:dU P t=some e):P.underlying t=some (.slice e):=by
 unfold dU at h;split at h
 .rename_i a he;cases h;exact he
 .cases h
theorem zI (n:Nat):∀(r c:Nat),Builtin.growBy n r c<=2 ^ r*(c+768)
 |0,c=>by simp[Builtin.growBy]
 |r+1,c=>by
  unfold Builtin.growBy
  split
  .have:1<=2 ^ (r+1):=Nat.one_le_two_pow
   have:=Nat.mul_le_mul_right (c+768) this
   omega
  .have h:=zI n r (c+(c+768)/4)
   refine Nat.le_trans h ?_
   rw[Nat.pow_succ,Nat.mul_assoc]
   refine Nat.mul_le_mul_left _ ?_
   omega
theorem nextslicecap_le {n c:Nat}(h:c<n)(hn:n<=1000000):Builtin.nextslicecap n c<=20000000:=by
 unfold Builtin.nextslicecap;split
 .omega
 .split
  .omega
  .have a:=zI n 4 c;have e:(2:Nat) ^ 4=16:=aL;rw[e] at a;refine Nat.le_trans a ?_;omega
section
variable {P:Program}
theorem zJ {Q:Array Value->af->Prop}{F:af}(a:Addr){n:Nat}{vs:List Value}(h:F.dj a 0 n=some vs)(b:Q vs.toArray F):bw P (loadCells a n) Q F:=by
 obtain ⟨c,d⟩:=uR F a n 0 vs h;subst d;exact uO a vs 0 #[] c (by simpa using b)
def gH (F:af)(size:Nat):Value->Option (List Value)
 | .slice (some a) n _=>F.dj a 0 (n*size)
 | .slice none 0 _=>some []
 |_=>none
theorem uZ {Q:Array Value->af->Prop}{F:af}{size n:Nat}{ad:Option Addr}{c:Nat}{vs:List Value}(h:gH F size (.slice ad n c)=some vs)(b:Q vs.toArray F):bw P (Builtin.firstCells size n (.slice ad n c)) Q F:=by
 cases ad with
 |none=>
  cases n with
  |zero=>simp only[gH,Option.some.injEq] at h;subst h;exact b
  |succ n=>simp[gH] at h
 |some a=>exact zJ a h b
theorem Eo {Q:Unit->af->Prop}{F:af}(n:Nat)(h:Q () F):bw P (askRoom n) Q F:=by
 unfold askRoom;rw[dJ];split
 .exact ⟨rfl,h⟩
 .exact h
theorem u5 {F:af}{Q:Value->af->Prop}{argTypes:Array TypeId}{ty i j e p:TypeId}{size d len cap n c:Nat}{base l:Option Addr}{z:Value}{old new:List Value}
  (q:argTypes[0]?=some i) (r:argTypes[1]?=some j) (he:dU P i=some e) (s:dU P j=some p) (hs:cw P e=some size) (u:zeroOf P e=some z) (hb:bytesOf P e=some d)
  (C:0<d) (v:d<=10000) (w:len+n<=1000000) (hold:gH F size (.slice base len cap)=some old) (m:gH F size (.slice l n c)=some new)
  (f:len+n<=cap->(∃a F',base=some a/\F.jb (a.add (len*size)) 0 new=some F'/\Q (.slice base (len+n) cap) F')\/(base=none/\Q (.slice base (len+n) cap) F))
  (x:cap<len+n->∀k b,len+n<=k->er F b->Q (.slice (some ⟨b,0,none⟩) (len+n) k) (F.push b (.cells (old.toArray++new.toArray++Builtin.zeroCells z.cells (k - (len+n))) e))):
  bw P (Builtin.append_ argTypes ty #[.slice base len cap,.slice l n c]) Q F:=by
 have hu:=uY he
 have y:=uY s
 unfold bytesOf at hb
 obtain ⟨info,hi,rfl⟩:=Option.map_eq_some_iff.1 hb
 simp only[Builtin.append_,q,r,List.getElem?_toArray,List.getElem?_cons_zero,List.getElem?_cons_succ,bA,di,hu,y,ff,hs,bG,Builtin.lenOf,Bool.false_eq_true,if_false,dJ,Bool.not_false,if_true,uN,hi]
 split
 .rename_i hle
  have f:=f hle
  refine uZ m ?_
  rcases f with ⟨a,F',rfl,A,g⟩|⟨rfl,g⟩
  .simp only[bA]
   refine pW _ _ 0 F F' (by simpa using A) ?_
   exact g
  .exact g
 .rename_i D
  have B:=nextslicecap_le (n:=len+n) (c:=cap) aa w
  have e1:¬(((len+n:Nat):Int)>IntKind.i64.max/\(false=true\/info.bytes=0)):=by
   rintro ⟨_,h|h⟩
   .cases h
   .omega
  have e2:¬(Builtin.nextslicecap (len+n) cap*info.bytes>2 ^ 48):=by
   have:Builtin.nextslicecap (len+n) cap*info.bytes<=20000000*10000:=Nat.mul_le_mul B v
   omega
  rw[if_neg (by simpa using e1),if_neg e2]
  rw[zy]
  rw[if_neg (by simp[Question.forced])]
  intro t
  have o:len+n<=(Question.appendCap (len+n) cap e).cut t:=Nat.le_add_right _ _
  generalize (Question.appendCap (len+n) cap e).cut t=k at o ⊢
  refine Eo _ ?_
  refine uZ hold ?_
  refine uZ m ?_
  simp only[bA,nt,u,uP,bG]
  exact fun b hb=>x aa k b o hb
end
theorem u6:∀{pre:List (Nat×Obj)} {b:Nat} {o:Obj},aN pre b->lk (pre++[(b,o)]) b=some o
 |[],b,o,_=>by simp[lk]
 |(c,x)::pre,b,o,h=>by
  have a:¬c=b:=fun e=>h.1 e.symm
  simp[lk,a,u6 h.2]
def bI (arr:Array Value)(k:Nat):List Value->Array Value
 |[]=>arr
 |v::vs=>bI (arr.setIfInBounds k v) (k+1) vs
theorem rQ:∀(vs:List Value) (arr:Array Value) (k:Nat),(bI arr k vs).size=arr.size
 |[],_,_=>rfl
 |v::vs,arr,k=>by rw[bI,rQ vs];simp
theorem rR:∀(vs:List Value) (arr:Array Value) (k:Nat),k+vs.length<=arr.size->(bI arr k vs).toList=arr.toList.take k++vs++arr.toList.drop (k+vs.length)
 |[],arr,k,_=>by simp[bI]
 |v::vs,arr,k,h=>by
  simp only[List.length_cons] at h
  rw[bI,rR vs _ _ (by simp;omega)]
  have a:k<arr.toList.length:=by simp;omega
  rw[Array.toList_setIfInBounds]
  have e1:(arr.toList.set k v).take (k+1)=arr.toList.take k++[v]:=by
   rw[List.take_succ_eq_append_getElem (by simpa using a),List.take_set_of_le (Nat.le_refl _)]
   simp
  have e2:(arr.toList.set k v).drop (k+1+vs.length)=arr.toList.drop (k+(v::vs).length):=by
   rw[List.drop_set_of_lt aa]
   congr 1
   simp;omega
  rw[e1,e2]
  simp
def Gr (ro:Addr->Option Value)(e:TypeId)(size:Nat)(v:Value)(l:List (List Value))(bn:List (Nat×Obj)):Prop:=
 (v= .slice none 0 0/\l=[]/\bn=[])\/
 ∃b arr cap,v= .slice (some ⟨b,0,none⟩) l.length cap/\bn=[(b,.cells arr e)]/\arr.size=cap*size/\l.length<=cap/\arr.toList.take (l.length*size)=l.flatten/\(∀x∈l,x.length=size)/\∀off sp,ro ⟨b,off,sp⟩=none
theorem iM {size:Nat}:∀{l:List (List Value)},(∀x∈l,x.length=size)->l.flatten.length=l.length*size
 |[],_=>by simp
 |x::l,h=>by
  have ih:l.flatten.length=l.length*size:=iM (fun y a=>h y (List.mem_cons_of_mem _ a))
  simp only[List.flatten_cons,List.length_append,List.length_cons,h x an,ih,Nat.add_mul,Nat.one_mul]
  omega
theorem zK {ro:Addr->Option Value}{pre:List (Nat×Obj)}{b:Nat}{e:TypeId}{arr:Array Value}(a:aN pre b)(c:∀off sp,ro ⟨b,off,sp⟩=none):∀(n i:Nat),i+n<=arr.size->
  af.dj ⟨ro,pre++[(b,.cells arr e)]⟩ ⟨b,0,none⟩ i n=some ((arr.toList.drop i).take n)
 |0,i,_=>by simp[af.dj]
 |n+1,i,h=>by
  have f:(⟨b,0,none⟩:Addr).add i=⟨b,i,none⟩:=by
   unfold Addr.add
   split
   .rename_i hi;subst hi;rfl
   .simp
  have d:i<arr.size:=aa
  unfold af.dj
  have ih:=zK (e:=e) (arr:=arr) a c n (i+1) aa
  simp only[af.get,f,c,if_true,u6 a,Option.bind_some,cellOf,Array.getElem?_eq_getElem d,ih]
  have g:i<arr.toList.length:=by simpa using d
  rw[List.drop_eq_getElem_cons g,List.take_succ_cons]
  simp
theorem Gr.gH {ro:Addr->Option Value}{e:TypeId}{size:Nat}{v:Value}{l:List (List Value)}{bn pre:List (Nat×Obj)}(h:Gr ro e size v l bn)(a:∀k∈keys bn,aN pre k):
  Go.Sep.gH ⟨ro,pre++bn⟩ size v=some l.flatten:=by
 rcases h with ⟨rfl,rfl,rfl⟩|⟨b,arr,cap,rfl,rfl,hs,c,ht,f,d⟩
 .rfl
 .simp only[Go.Sep.gH]
  have hle:l.length*size<=arr.size:=by rw[hs];exact Nat.mul_le_mul_right _ c
  rw[zK (a b (by simp[keys])) d _ _ aa]
  simp[ht]
def p9 (P:Program)(t:TypeId)(parts:List (Nat×Value)):Option Value:=
 match zeroOf P t,placesOf P t with
 |some z,some pl=>match Instr.fill (fun i=>pl[i]?) z.cells parts with
  |some cs=>some (.agg cs)
  |none=>none
 |_,_=>none
theorem zL {P:Program}{Q:Array (Nat×Nat)->af->Prop}{F:af}:∀(a:List Field) (pl:List (Nat×Nat)) (acc:Array (Nat×Nat)),(a.mapM fun f=>(cw P f.type).map fun s=>(f.offset,s))=some pl->
  Q (acc++pl.toArray) F->bw P (a.foldlM (fun (b:Array (Nat×Nat)) f=>do let s<-sizeOf f.type;pure (b.push (f.offset,s))) acc) Q F
 |[],pl,acc,h,c=>by
  simp at h;subst h
  simpa [bG] using c
 |f::a,pl,acc,h,c=>by
  simp only[List.mapM_cons] at h
  cases hs:cw P f.type with
  |none=>simp[hs] at h
  |some s=>
   cases d:(a.mapM fun f=>(cw P f.type).map fun s=>(f.offset,s)) with
   |none=>simp[hs,d] at h
   |some e=>
    simp[hs,d] at h
    subst h
    simp only[List.foldlM_cons,bA,ff,hs,bG]
    exact zL a e _ d (by simpa using c)
theorem Ep {P:Program}{Q:Array (Nat×Nat)->af->Prop}{F:af}(a:Array Field)(pl:List (Nat×Nat))(h:(a.toList.mapM fun f=>(cw P f.type).map fun s=>(f.offset,s))=some pl)
  (b:Q pl.toArray F):bw P (a.mapM fun f=>do let s<-sizeOf f.type;pure (f.offset,s)) Q F:=by
 rw[Array.mapM_eq_foldlM,<-Array.foldlM_toList]
 have:=zL (Q:=Q) (F:=F) a.toList pl #[] h (by simpa using b)
 simpa using this
theorem Er {P:Program}{t:TypeId}{parts:Array (Nat×Value)}{w:Value}{Q:Value->af->Prop}{F:af}(h:p9 P t parts.toList=some w)(b:Q w F):bw P (Instr.build t parts) Q F:=by
 unfold p9 at h;split at h
 case h_2=>cases h
 rename_i z pl c a;split at h
 case h_2=>cases h
 rename_i cs d;cases h;unfold placesOf at a;split at a
 case h_2=>cases a
 rename_i e f;simp only[Instr.build,bA,nt,c,di,f];refine Ep e pl a ?_;simp only[List.getElem?_toArray,d,bG];exact b
def rS (P:Program)(t:TypeId)(len:Nat)(parts:List (Nat×Value)):Option (TypeId×Array Value):=
 match dU P t with
 |some e=>match cw P e,zeroOf P e with
  |some size,some z=>if len*size<=2 ^ 24/\0<len*size then
    match Instr.fill (fun i=>some (i*size,size)) ((Array.range (len*size)).map (z.cells[· % z.cells.size]!)) parts with
    |some cs=>some (e,cs)
    |none=>none
   else if len*size=0/\parts.isEmpty=true then some (e,#[]) else none
  |_,_=>none
 |none=>none
theorem Es {P:Program}{t:TypeId}{len:Nat}{parts:Array (Nat×Value)}{e:TypeId}{cs:Array Value}{Q:Value->af->Prop}{F:af}(h:rS P t len parts.toList=some (e,cs))
  (d:∀b,er F b->Q (.slice (some ⟨b,0,none⟩) len len) (F.push b (.cells cs e))):bw P (Instr.buildSlice t len parts) Q F:=by
 unfold rS at h
 split at h
 case h_2=>cases h
 rename_i f he
 split at h
 case h_2=>cases h
 rename_i size z hs g
 split at h
 case isFalse=>
  split at h
  case isFalse=>cases h
  rename_i hb
  cases h
  have hu:P.underlying t=some (.slice e):=by
   unfold dU at he
   split at he
   .rename_i f a;cases he;exact a
   .cases he
  have c:¬(len*size>2 ^ 24):=by rw[hb.1];decide
  have i:parts.toList=[]:=List.isEmpty_iff.1 hb.2
  simp only[Instr.buildSlice,bA,di,hu,ff,hs,dJ,if_neg c,if_pos hb.1,bG,i]
  rw[hb.1]
  have e0:Array.range 0=#[]:=rfl
  simp only[e0,Array.map_empty,Instr.fill,bA,uP,bG]
  exact d
 rename_i hb
 split at h
 case h_2=>cases h
 rename_i cs' j
 cases h
 have hu:P.underlying t=some (.slice e):=by
  unfold dU at he
  split at he
  .rename_i f a;cases he;exact a
  .cases he
 have c:¬(len*size>2 ^ 24):=aa
 have k:¬(len*size=0):=aa
 simp only[Instr.buildSlice,bA,di,hu,ff,hs,dJ,if_neg c,if_neg k,nt,g,bG,j,uP]
 exact d
def qa (P:Program)(t:TypeId)(n:Nat):Value->Option Value
 | .agg cs=>match zC P t n with
  |some (off,s,true)=>some (.agg (cs.extract off (off+s)))
  |some (off,_,false)=>cs[off]?
  |none=>none
 |_=>none
theorem Et {P:Program}{t:TypeId}{n:Nat}{u w:Value}{Q:Value->af->Prop}{F:af}(h:qa P t n u=some w)(b:Q w F):bw P (Instr.field t u n) Q F:=by
 cases u<;>simp only[qa,reduceCtorEq] at h;rename_i cs;unfold zC at h;cases hu:P.underlying t with
 |none=>simp[hu] at h
 |some d=>
  cases d<;>simp only[hu,reduceCtorEq] at h;rename_i c;cases a:c[n]? with
  |none=>simp[a] at h
  |some f=>
   simp only[a] at h;cases hs:cw P f.type with
   |none=>simp[hs] at h
   |some s=>
    cases hg:cK P f.type with
    |none=>simp[hs,hg] at h
    |some g=>
     simp only[hs,hg] at h;simp only[Instr.field,bA,di,hu,a,Ef,part,nu,hg,dJ];cases g with
     |true=>simp only[Option.some.injEq] at h;subst h;simpa [ff,hs,bG] using b
     |false=>
      simp only at h;simp only[Bool.false_eq_true,if_false,h];exact b
def rT (n:Nat):Value->Option Value
 | .tuple vs=>vs[n]?
 |_=>none
def lQ (P:Program)(src dst:TypeId):Value->Option Value
 | .int _ n=>match P.underlying src,P.underlying dst with
  |some (.int _),some (.int k)=>some (.int k (k.wrap n))
  |_,_=>none
 |_=>none
theorem Eu {P:Program}{src dst:TypeId}{u w:Value}{Q:Value->af->Prop}{F:af}(h:lQ P src dst u=some w)(a:Q w F):bw P (convert src dst u) Q F:=by
 cases u<;>simp only[lQ,reduceCtorEq] at h;rename_i k n;split at h
 .rename_i k1 d b c;cases h;simp only[convert,bA,di,b,c,Conv.intToInt,bG];exact a
 .cases h
def rU (P:Program)(t:TypeId):Value->Option Value
 | .slice _ n _=>match dU P t with
  |some _=>some (.int .i64 n)
  |none=>none
 | .string s=>match P.underlying t with
  |some .string=>some (.int .i64 s.size)
  |_=>none
 |_=>none
theorem Ev (l:List UInt8):((⟨⟨l⟩⟩:ByteArray).size)=l.length:=rfl
theorem Ew (l:List UInt8)(i:Nat):(⟨⟨l⟩⟩:ByteArray)[i]?=l[i]?:=by
 rcases Nat.lt_or_ge i l.length with h|h
 .rw[ByteArray.getElem?_lt' _ _ h,List.getElem?_eq_getElem h];rfl
 .rw[ByteArray.getElem?_ge' _ _ (Nat.not_lt.2 h),List.getElem?_eq_none h]
attribute [go_sem] Ev Ew
def qb (P:Program)(t:TypeId):Value->Value->Option Value
 | .agg cs,.int _ i=>match kM P t with
  |some (len,e)=>match cw P e,cK P e with
   |some s,some true=>if 0<=i/\i<(len:Int) then some (.agg (cs.extract (i.toNat*s) (i.toNat*s+s))) else none
   |some s,some false=>if 0<=i/\i<(len:Int) then cs[i.toNat*s]? else none
   |_,_=>none
  |none=>none
 | .string s,.int _ i=>match P.underlying t with
  |some .string=>if 0<=i then (s[i.toNat]?).map fun b=>.int .u8 b.toNat else none
  |_=>none
 |_,_=>none
theorem Ey {P:Program}{t:TypeId}{u v w:Value}{Q:Value->af->Prop}{F:af}(h:qb P t u v=some w)(a:Q w F):bw P (Instr.index t u v) Q F:=by
 unfold qb at h;split at h
 case h_3=>cases h
 case h_2=>
  rename_i s k i;split at h
  case h_2=>cases h
  rename_i hu;split at h
  case isFalse=>cases h
  rename_i hi;obtain ⟨b,hb,rfl⟩:=Option.map_eq_some_iff.1 h;simp only[Instr.index,bA,kL,di,hu,if_pos hi,hb,bG];exact a
 rename_i cs k i;split at h
 case h_2=>cases h
 rename_i len e he;have hu:P.underlying t=some (.array len e):=by
  unfold kM at he;split at he
  .rename_i d f c;cases he;exact c
  .cases he
 split at h
 .rename_i s hs hg;split at h
  case isFalse=>cases h
  rename_i hi;cases h;simp only[Instr.index,bA,kL,di,hu,dJ,if_pos hi,ff,hs,part,nu,hg,if_true,bG];exact a
 .rename_i s hs hg;split at h
  case isFalse=>cases h
  rename_i hi;simp only[Instr.index,bA,kL,di,hu,dJ,if_pos hi,ff,hs,part,nu,hg,Bool.false_eq_true,if_false,h,bG];exact a
 .cases h
def nC (P:Program)(argTypes:Array TypeId)(s x:Value)(R:Value->af->Prop)(F:af):Prop:=
 ∀ty,bw P (Builtin.append_ argTypes ty #[s,x]) (fun v F=>∃F0,Le F0 F/\R v F0) F
def Oper.rV (o:Oper):Bool:=match o.op with| .call {callee:=.builtin .append, ..}=>true|_=>false
def gP (P:Program)(J:Goroutine->af->Prop)(y:Value)(args:Array Value)(F:af)(R:Value->af->Prop):Prop:=
 match y with
 | .func (.func fn) first captured=>aI P fn=true/\dh P J fn (first++args++captured) F R
 | .func (.yield l) first captured=>first=#[]/\captured=#[]/\∃r,F.dm l=some (.loop r)/\args.size=r.params.size/\jD J l r.fn ((r.params.zip args).foldl (fun tmps (t,a)=>tmps.setIfInBounds t a) r.tmps) r.assign r.body F R
 |_=>False
theorem gP.mono {P:Program}{J:Goroutine->af->Prop}{y:Value}{args:Array Value}{F:af}{R a:Value->af->Prop}(h:gP P J y args F R)(b:∀v F',R v F'->a v F'):gP P J y args F a:=by
 unfold gP at h ⊢;split at h
 .exact ⟨h.1,h.2.mono b⟩
 .obtain ⟨e1,e2,r,c,d,e⟩:=h;exact ⟨e1,e2,r,c,d,e.mono b⟩
 .exact h.elim
theorem Ez {P:Program}{J:Goroutine->af->Prop}{fn:FuncId}{first captured args:Array Value}{F:af}{R:Value->af->Prop}:gP P J (.func (.func fn) first captured) args F R=(aI P fn=true/\dh P J fn (first++args++captured) F R):=rfl
def cR (P:Program)(m:Sem Value)(R:Value->af->Prop)(F:af):Prop:=bw P m R F
def dc (P:Program)(J:Goroutine->af->Prop)(o:Oper)(R:Value->af->Prop)(a:Act)(F:af):Prop:=
 match o.op with
 | .move x| .assign x=>R (ev a x) F
 | .nilCheck x=>match ev a x with
  | .pointer (some _)=>R (ev a x) F
  |_=>False
 | .pick c x y=>match ev a c with
  | .bool b=>R (if b then ev a x else ev a y) F
  |_=>False
 | .alloc t=>match zeroOf P t with
  |some z=>∀b,er F b->R (.pointer (some ⟨b,0,none⟩)) (F.push b (.cells z.cells t))
  |none=>False
 | .box t x=>∀b,er F b->R (.pointer (some ⟨b,0,none⟩)) (F.push b (.cells (ev a x).cells t))
 | .build t parts=>match p9 P t (parts.map fun (i,x)=>(i,ev a x)).toList with
  |some v=>R v F
  |none=>False
 | .buildSlice t len parts=>match rS P t len (parts.map fun (i,x)=>(i,ev a x)).toList with
  |some (e,cs)=>∀b,er F b->R (.slice (some ⟨b,0,none⟩) len len) (F.push b (.cells cs e))
  |none=>False
 | .load t x=>match ev a x with
  | .pointer (some ad)=>match ga P F t ad with
   |some v=>R v F
   |none=>False
  |_=>False
 | .store t x y=>match ev a x with
  | .pointer (some ad)=>match rM P F t ad (ev a y) with
   |some F'=>R undef F'
   |none=>False
  |_=>False
 | .binOp op t x y _=>match p8 P op t (ev a x) (ev a y) with
  |some v=>R v F
  |none=>False
 | .unOp op _ x=>match lO op (ev a x) with
  |some v=>R v F
  |none=>False
 | .convert src dst x=>match lQ P src dst (ev a x) with
  |some v=>R v F
  |none=>False
 | .makeFunc fn first captured=>R (.func fn (first.map (ev a)) (captured.map (ev a))) F
 | .slice t x lo hi none=>(match ev a x with| .slice _ len cap=>len<=cap| .pointer (some _)=>True|_=>False)/\match lP P t (ev a x) (lo.map (ev a)) (hi.map (ev a)) with
  |some v=>R v F
  |none=>False
 | .fieldAddr s x n=>match ev a x with
  | .pointer (some ad)=>match dK P s n with
   |some k=>R (.pointer (some (ad.add k))) F
   |none=>False
  |_=>False
 | .field s x n=>match qa P s n (ev a x) with
  |some v=>R v F
  |none=>False
 | .indexAddr t x i=>match pY P t (ev a x) (ev a i) with
  |some v=>R v F
  |none=>False
 | .index t x i=>match qb P t (ev a x) (ev a i) with
  |some v=>R v F
  |none=>False
 | .extract x n=>match rT n (ev a x) with
  |some v=>R v F
  |none=>False
 | .call {callee:=.value x,args, ..}=>gP P J (ev a x) (args.map (ev a)) F R
 | .call {callee:=.builtin .len,args,argTypes}=>match argTypes[0]?,args[0]? with
  |some t,some x=>match rU P t (ev a x) with
   |some v=>R v F
   |none=>cR P (Builtin.len_ argTypes o.type (args.map (ev a))) R F
  |_,_=>False
 | .makeMap t r=>cR P (Instr.makeMap t (r.map (ev a))) R F
 | .makeSlice t l c=>cR P (Instr.makeSlice t (ev a l) (ev a c)) R F
 | .lookup t m k ok=>cR P (Instr.lookup t (ev a m) (ev a k) ok) R F
 | .range t x=>cR P (Instr.range t (ev a x)) R F
 | .next x st=>cR P (Instr.next (ev a x) st o.type) R F
 | .entry x=>cR P (Instr.entry (ev a x)) R F
 | .mapUpdate t m k x=>cR P (Instr.mapUpdate t (ev a m) (ev a k) (ev a x)>>= fun _=>pure undef) R F
 | .call {callee:=.builtin .clear,args,argTypes}=>cR P (Builtin.clear_ argTypes o.type (args.map (ev a))) R F
 | .call {callee:=.builtin .cap,args,argTypes}=>cR P (Builtin.cap_ argTypes o.type (args.map (ev a))) R F
 | .call {callee:=.builtin .copy,args,argTypes}=>cR P (Builtin.copy_ argTypes o.type (args.map (ev a))) R F
 | .call {callee:=.builtin .append,args,argTypes}=>match args.toList with
  |[x,y]=>nC P argTypes (ev a x) (ev a y) R F
  |_=>False
 | .call {callee:=.builtin .max,args, ..}=>match args.toList with
  |[x,y]=>match rN (ev a x) (ev a y) with
   |some v=>R v F
   |none=>False
  |_=>False
 | .call {callee:=.builtin .min,args, ..}=>match args.toList with
  |[x,y]=>match rO (ev a x) (ev a y) with
   |some v=>R v F
   |none=>False
  |_=>False
 |_=>False
theorem fC (a:Act):a.eval=ev a:=rfl
theorem EA {P:Program}{J:Goroutine->af->Prop}{o:Oper}{R:Value->af->Prop}{D:Deferred->af->Prop}{a:Act}{F:af}(E:Oper.rV o=false)(h:dc P J o R a F):bw P (execOp a.eval o) (fX P J R D) F:=by
 obtain ⟨dst,op,type,pos,after,guard⟩:=o;unfold execOp;simp only[fC];unfold dc at h;simp only at h;cases op<;>simp only at h ⊢
 case move x=>exact h
 case assign x=>exact h
 case nilCheck x=>
  split at h
  .rename_i ad d;simp only[d,bG,fX];rw[d] at h;exact h
  .exact h.elim
 case pick c x y=>
  split at h
  .rename_i b hb;simp only[bA,hb,Ee,bG,fX];exact h
  .exact h.elim
 case alloc t=>
  split at h
  .rename_i z G;simp only[Instr.alloc,bA,nt,G,zz,bG,fX];exact h
  .exact h.elim
 case box t x=>
  simp only[Instr.box,bA,zz,bG,fX];exact h
 case build t parts=>
  split at h
  .rename_i v hv;simp only[bA,bG];exact Er hv h
  .exact h.elim
 case buildSlice t len parts=>
  split at h
  .rename_i e cs hv;simp only[bA,bG];exact Es hv h
  .exact h.elim
 case load t x=>
  split at h
  case h_2=>exact h.elim
  rename_i ad p;split at h
  case h_2=>exact h.elim
  rename_i v hv;simp only[Instr.loadAt,bA,p,pX,bG];exact zD hv h
 case store t x y=>
  split at h
  case h_2=>exact h.elim
  rename_i ad p;split at h
  case h_2=>exact h.elim
  rename_i F' H;simp only[Instr.storeAt,bA,p,pX,bG];exact Eh H h
 case binOp op t x y W=>
  split at h
  case h_2=>exact h.elim
  rename_i v hv;rw[gF];exact En hv h
 case unOp op t x=>
  split at h
  case h_2=>exact h.elim
  rename_i v hv;rw[gF];exact Ej hv h
 case convert src dst x=>
  split at h
  case h_2=>exact h.elim
  rename_i v hv;rw[gF];exact Eu hv h
 case makeFunc fn first captured=>
  simp only[Instr.makeFunc,bA,bG,fX];exact h
 case slice t x lo hi I=>
  cases I with
  |some m=>exact h.elim
  |none=>
   simp only at h;obtain ⟨q,h⟩:=h;split at h
   case h_2=>exact h.elim
   rename_i v hv;rw[gF];exact El (fun ad len cap e=>by rw[e] at q;exact q) hv h
 case fieldAddr s x n=>
  split at h
  case h_2=>exact h.elim
  rename_i ad p;split at h
  case h_2=>exact h.elim
  rename_i k g;unfold dK at g;split at g
  case h_2=>cases g
  rename_i X K;split at g
  case h_2=>cases g
  rename_i f u;split at g
  case h_2=>cases g
  rename_i m hm;cases g;rw[gF];simp only[Instr.fieldAt,bA,di,K,u,p,pX,fieldPlace,ff,hm];simpa [bG,fX] using h
 case field s x n=>
  split at h
  case h_2=>exact h.elim
  rename_i v hv;rw[gF];exact Et hv h
 case indexAddr t x i=>
  split at h
  case h_2=>exact h.elim
  rename_i v hv;rw[gF];exact Ek hv h
 case index t x i=>
  split at h
  case h_2=>exact h.elim
  rename_i v hv;rw[gF];exact Ey hv h
 case extract x n=>
  split at h
  case h_2=>exact h.elim
  rename_i v hv;rw[gF];unfold rT at hv;split at hv
  .rename_i vs L;simp only[L,Instr.extract,hv];exact h
  .cases hv
 case makeMap t r=>
  rw[gF];exact h
 case makeSlice t l c=>
  rw[gF];exact h
 case lookup t m k ok=>
  rw[gF];exact h
 case range t x=>
  rw[gF];exact h
 case next x st=>
  rw[gF];exact h
 case entry x=>
  rw[gF];exact h
 case mapUpdate t m k x=>
  unfold cR at h;rw[bA] at h;rw[bA];exact h
 case call c=>
  obtain ⟨callee,args,argTypes⟩:=c;cases callee with
  |value x=>
   simp only at h;unfold gP at h;split at h
   case h_3=>exact h.elim
   .rename_i fn first captured d
    obtain ⟨j,M⟩:=h;unfold aI at j;split at j
    case h_2=>cases j
    rename_i f u;simp only[Bool.not_eq_true',Bool.or_eq_false_iff] at j;simp only[resolve,d,Deferred.ofValue,bA,bG,invoke,callFunc,j0,u,j.1,j.2,Bool.false_eq_true,if_false,fX];exact M
   .rename_i l first captured d
    obtain ⟨rfl,rfl,r,q,N,O⟩:=h;simp only[resolve,d,Deferred.ofValue,bA,bG,invoke,Instr.yield,Instr.getLoop,Array.append_empty,Array.empty_append,Array.map_map];refine ⟨_,q,?_⟩;have S:∀{α:Type} (x:α) (Q:α->af->Prop) (F:af),bw P (Sem.pure x) Q F=Q x F:=fun _ _ _=>rfl;simp only[bA,S,bG,dJ,ne_eq,N,not_true_eq_false,if_false,fX];exact O
  |invoke r m=>exact h.elim
  |builtin b=>
   cases b<;>simp only at h
   case append=>simp[Oper.rV] at E
   case clear=>
    simp only[resolve,bA,bG,invoke,builtin];exact h
   case cap=>
    simp only[resolve,bA,bG,invoke,builtin];exact h
   case copy=>
    simp only[resolve,bA,bG,invoke,builtin];exact h
   case len=>
    split at h
    case h_2=>exact h.elim
    rename_i t x ht d;split at h
    case h_2=>
     simp only[resolve,bA,bG,invoke,builtin];exact h
    rename_i v hv;unfold rU at hv;split at hv
    case h_3=>cases hv
    case h_2=>
     rename_i s w;split at hv
     case h_2=>cases hv
     rename_i hu;cases hv;have A:(args.map (ev a))[0]?=some (.string s):=by simp[d,w]
     simp only[resolve,bA,bG,invoke,builtin,Builtin.len_,ht,A,di,hu];exact h
    rename_i ad n cap w;split at hv
    case h_2=>cases hv
    rename_i e T;have he:=uY T;cases hv;have A:(args.map (ev a))[0]?=some (.slice ad n cap):=by simp[d,w]
    simp only[resolve,bA,bG,invoke,builtin,Builtin.len_,ht,A,di,he];exact h
   case max=>
    split at h
    case h_2=>exact h.elim
    rename_i x y B;split at h
    case h_2=>exact h.elim
    rename_i v hv;unfold rN at hv;split at hv
    case h_2=>cases hv
    rename_i k x' U V d C;cases hv;simp only[resolve,bA,bG,invoke,builtin,Builtin.max_,Array.toList_map,B,List.map_cons,List.map_nil,List.foldlM_cons,List.foldlM_nil,d,C,Builtin.max2,fX];exact h
   case min=>
    split at h
    case h_2=>exact h.elim
    rename_i x y B;split at h
    case h_2=>exact h.elim
    rename_i v hv;unfold rO at hv;split at hv
    case h_2=>cases hv
    rename_i k x' U V d C;cases hv;simp only[resolve,bA,bG,invoke,builtin,Builtin.min_,Array.toList_map,B,List.map_cons,List.map_nil,List.foldlM_cons,List.foldlM_nil,d,C,Builtin.min2,fX];exact h
theorem j4 {P:Program}{J:Goroutine->af->Prop}{o:Oper}{R:Value->af->Prop}{D:Deferred->af->Prop}{a:Act}{F:af}(h:dc P J o R a F):bw P (execOp a.eval o) (kJ P J R D) F:=
by
 cases b:Oper.rV o with
 |false=>exact gO DX _ _ (EA b h)
 |true=>
  obtain ⟨dst,op,type,pos,after,guard⟩:=o
  unfold Oper.rV at b
  split at b
  .rename_i callee args argTypes c
   simp only at c
   subst c
   unfold dc at h
   simp only at h
   split at h
   case h_2=>exact h.elim
   rename_i x y d
   have e:args=#[x,y]:=by rw[<-Array.toList_inj];simpa using d
   subst e
   unfold execOp
   simp only[fC,resolve,bA,bG,invoke,builtin]
   have:=h type
   simpa [kJ,fX,bA,bG] using this
  .cases b
def cJ (ops:Array Oper)(o:Oper)(a:Act):Option Bool:=
 match o.guard with
 |none=>some true
 |some (j,want)=>match (ops[j]?).bind (·.dst) with
  |some d=>match slot a d with
   | .bool b=>some (b==want)
   | .tuple _=>some false
   |_=>none
  |none=>none
theorem cH {ops:Array Oper}{o:Oper}{a:Act}{t:Bool}(h:cJ ops o a=some t):Region.wanted o (yielded ops a.tmps)=t:=by
 unfold cJ at h;unfold Region.wanted;split at h
 .rename_i hg;rw[hg];cases h;rfl
 .rename_i j want hg;rw[hg];split at h
  .rename_i d hd;split at h
   .rename_i b hb;cases h;have ht:a.tmps[d]?=some (.bool b):=by
     unfold slot at hb;rw[Array.getD_eq_getD_getElem?] at hb;cases c:a.tmps[d]? with
     |none=>rw[c] at hb;simp[undef] at hb
     |some v=>rw[c] at hb;simpa using hb
    simp only[yielded,hd,Option.bind_some,ht];cases b<;>cases want<;>rfl
   .rename_i b hb;cases h;simp only[yielded,hd,Option.bind_some];unfold slot at hb;rw[Array.getD_eq_getD_getElem?] at hb;cases c:a.tmps[d]? with
    |none=>rfl
    |some v=>
     rw[c] at hb;simp at hb;subst hb;rfl
   .cases h
  .cases h
def Oper.calls (o:Oper):Bool:=match o.op with| .call {callee:=.value _, ..}=>true| .call {callee:=.builtin .append, ..}=>true| .call {callee:=.builtin .clear, ..}=>true| .call {callee:=.builtin .cap, ..}=>true| .call {callee:=.builtin .copy, ..}=>true| .makeMap ..=>true| .makeSlice ..=>true| .mapUpdate ..=>true|_=>false
def eM (P:Program)(J:Goroutine->af->Prop)(ops:Array Oper)(K:Act->af->Prop):List Oper->Bool->Act->af->Prop
 |[],_,a,F=>K a F
 |o::rest,_,a,F=>match cJ ops o a with
  |some true=>dc P J o (fun v F'=>eM P J ops K rest (!Oper.calls o) (bC a o.dst v) F') a F
  |some false=>eM P J ops K rest true (bC a o.dst undef) F
  |none=>False
theorem u7 {P:Program}{J:Goroutine->af->Prop}{ops:Array Oper}{K:Act->af->Prop}{go:Bool}{a:Act}{F:af}:eM P J ops K [] go a F=K a F:=rfl
theorem u9 {P:Program}{J:Goroutine->af->Prop}{ops:Array Oper}{K:Act->af->Prop}{o:Oper}{rest:List Oper}{a:Act}{F:af}:eM P J ops K (o::rest) true a F=match cJ ops o a with
  |some true=>dc P J o (fun v F'=>eM P J ops K rest (!Oper.calls o) (bC a o.dst v) F') a F
  |some false=>eM P J ops K rest true (bC a o.dst undef) F
  |none=>False:=(Eq.refl _).trans (Eq.refl _)
theorem aJ {P:Program}{J:Goroutine->af->Prop}{ops:Array Oper}{K:Act->af->Prop}:∀{l:List Oper} {go:Bool} {a:Act} {F:af},eM P J ops K l true a F->eM P J ops K l go a F
 |[],_,_,_,h=>h
 |_::_,_,_,_,h=>h
theorem vb {P:Program}{J:Goroutine->af->Prop}{ops:Array Oper}{K:Act->af->Prop}:∀(l:List Oper) (k:Nat) (go:Bool) (a:Act) (F:af),ops.toList.drop k=l->eM P J ops K l go a F->
  fB P J ops K (List.range' k l.length) a F
 |[],k,_,a,F,_,h=>h
 |o::rest,k,_,a,F,b,h=>by
  have ho:ops[k]?=some o:=by
   have:=congrArg List.head? b
   simpa [List.head?_drop] using this
  have c:ops.toList.drop (k+1)=rest:=by
   have:=congrArg List.tail b
   simpa [List.tail_drop] using this
  simp only[List.length_cons,List.range'_succ]
  show ee P J ops k (fB P J ops K (List.range' (k+1) rest.length)) a F
  unfold ee
  simp only[ho]
  unfold eM at h
  split at h
  .rename_i hg
   rw[if_pos (cH hg)]
   exact gO (nk (fun v F' hv=>vb rest (k+1) _ _ F' c hv) (fun _ _ x=>x)) _ _ (j4 h)
  .rename_i hg
   rw[if_neg (by rw[cH hg];simp)]
   exact vb rest (k+1) _ _ F c h
  .exact h.elim
theorem aG {P:Program}{main:Bool}{J:Goroutine->af->Prop}{Q:Ex->Act->af->Prop}{a:Act}{F:af}(hJ:Closed P main J){id:Nat}{ops:Array Oper}(h:eM P J ops (Q .normal) ops.toList true a F):Wp J (.region id ops false) Q a F:=by
 refine D6 hJ ?_;have:=vb ops.toList 0 true a F an h;simpa [List.range_eq_range'] using this
theorem aA {P:Program}{main:Bool}{J:Goroutine->af->Prop}{Q:Ex->Act->af->Prop}{a:Act}{F:af}(hJ:Closed P main J){id:Nat}{ops:Array Oper}{y:Code}(h:eM P J ops (rH J y Q .normal) ops.toList true a F):Wp J (.seq (.region id ops false) y) Q a F:=ah hJ (aG hJ h)
attribute [irreducible] eM
theorem vc {P:Program}{J:Goroutine->af->Prop}{ops:Array Oper}{Q:Act->af->Prop}{S:af->Prop}(i:Nat){b:Oper}(v:Value){fuel:Nat}{listed:Array Bool}{a:Act}{F:af}(hi:ops[i]?=some b)
  (d:(Region.noSelect ops&&Region.free .any ops listed i&&(Region.ready .any ops listed).contains i)=true)
  (hg:cJ ops b a=some true) (e:∀F R,S F->R v F->dc P J b R a F) (c:S F)
  (h:eO P J ops Q S fuel (listed.setIfInBounds i true) (bC a b.dst v) F):eO P J ops Q S (fuel+1) listed a F:=
 zi i v hi d (.inl ⟨cH hg,fun F R c hR=>j4 (e F R c hR)⟩) c h
theorem EB {P:Program}{J:Goroutine->af->Prop}{ops:Array Oper}{Q:Act->af->Prop}{S:af->Prop}(i:Nat){b:Oper}{fuel:Nat}{listed:Array Bool}{a:Act}{F:af}(hi:ops[i]?=some b)
  (c:(Region.noSelect ops&&Region.free .any ops listed i&&(Region.ready .any ops listed).contains i)=true)
  (hg:cJ ops b a=some false) (d:S F)
  (h:eO P J ops Q S fuel (listed.setIfInBounds i true) (bC a b.dst undef) F):eO P J ops Q S (fuel+1) listed a F:=
 zi i undef hi c (.inr ⟨cH hg,rfl⟩) d h
theorem EC {P:Program}{J:Goroutine->af->Prop}{ops:Array Oper}{Q:Act->af->Prop}{S:af->Prop}(i:Nat){b:Oper}{fuel:Nat}{listed:Array Bool}{a:Act}{F:af}(hi:ops[i]?=some b)
  (c:Region.ready .any ops listed=[i]) (hg:cJ ops b a=some true)
  (h:dc P J b (fun v F'=>S F'/\eO P J ops Q S fuel (listed.setIfInBounds i true) (bC a b.dst v) F') a F):eO P J ops Q S (fuel+1) listed a F:=by
 refine D2 i c ?_
 unfold ee
 simp only[hi]
 rw[if_pos (cH hg)]
 exact j4 h
theorem aB {P:Program}{main:Bool}{J:Goroutine->af->Prop}{Q:Ex->Act->af->Prop}{a:Act}{F:af}{B:Prop}(hJ:Closed P main J){id:Nat}{ops:Array Oper}{y:Code}(h:B)(e:eM P J ops (rH J y Q .normal) ops.toList true a F=B:=by conv=>lhs;simp only[*,go_sem]):Wp J (.seq (.region id ops false) y) Q a F:=ah hJ (aG hJ (e▸h))
theorem aM {P:Program}{main:Bool}{J:Goroutine->af->Prop}{Q:Ex->Act->af->Prop}{a:Act}{F:af}{B:Prop}(hJ:Closed P main J){id:Nat}{ops:Array Oper}(h:B)(e:eM P J ops (Q .normal) ops.toList true a F=B:=by conv=>lhs;simp only[*,go_sem]):Wp J (.region id ops false) Q a F:=aG hJ (e▸h)
theorem b5 {J:Goroutine->af->Prop}{Q:Ex->Act->af->Prop}{a:Act}{F:af}{B:Prop}(h:B)(e:Q .ret a F=B:=by conv=>lhs;simp only[*,go_sem]):Wp J .ret Q a F:=aO (e▸h)
attribute [go_sem] List.isEmpty_nil List.isEmpty_cons undef u7 u9 Oper.calls Bool.not_true Bool.not_false cJ dc af.push af.get af.put lk fK cellOf ga rM af.dj af.jb af.lK dP frozenAt p8 ny p7 Option.isNone_none Option.isNone_some gG jc nv lO rN rO pY qb lP qa rT lQ rU p9 rS
theorem add_zero' (a:Addr):a.add 0=a:=rfl
theorem kN (a:Addr)(m n:Nat):(a.add m).add n=a.add (m+n):=by
 unfold Addr.add;by_cases hm:m=0
 .subst hm;simp
 .by_cases hn:n=0
  .subst hn;simp[hm]
  .have:¬m+n=0:=aa;simp[hm,hn,this,Nat.add_assoc]
theorem jH (b o n:Nat):(⟨b,o,none⟩:Addr).add n=⟨b,o+n,none⟩:=by
 unfold Addr.add;by_cases hn:n=0
 .subst hn;simp
 .simp[hn]
attribute [go_sem] add_zero' kN jH Nat.add_assoc Int.reduceLE Int.reduceLT Int.reduceToNat Int.toNat_zero Int.le_refl
attribute [go_sem] Value.cells Instr.fill rK iK uG rH Ez
attribute [go_sem] and_true true_and Array.getD_eq_getD_getElem? List.getElem?_toArray List.getElem?_cons_zero List.getElem?_cons_succ List.getElem?_nil Option.getD_some Option.getD_none Option.bind_some Option.bind_none Option.map_some Option.map_none
attribute [go_sem] Nat.reduceLT Nat.reduceEqDiff Nat.reduceAdd Nat.reduceMul Nat.reduceSub if_true if_false reduceIte reduceCtorEq List.setIfInBounds_toArray List.set_cons_zero List.set_cons_succ
attribute [go_sem] List.map_toArray List.map_cons List.map_nil List.append_toArray List.cons_append List.nil_append List.append_nil Array.append_empty Array.empty_append List.toList_toArray List.length_cons List.length_nil List.size_toArray ne_eq not_true_eq_false not_false_eq_true forall_const
theorem cT {ro:Addr->Option Value}{own:List (Nat×Obj)}{b:Nat}(h:er ⟨ro,own⟩ b):∀off sp,ro ⟨b,off,sp⟩=none:=h.ro
theorem cY {ro:Addr->Option Value}{own:List (Nat×Obj)}{b:Nat}(h:er ⟨ro,own⟩ b):aN own b:=h.own
def qc (P:Program)(F:af)(a:Act):ResultVar->Option Value
 | .tmp t=>some (slot a t)
 | .cell ad t=>match slot a ad with
  | .pointer (some p)=>ga P F t p
  |_=>none
def lR (P:Program)(F:af)(a:Act):List ResultVar->Option (List Value)
 |[]=>some []
 |r::rs=>match qc P F a r with
  |some v=>match lR P F a rs with
   |some vs=>some (v::vs)
   |none=>none
  |none=>none
def lS (P:Program)(F:af)(a:Act)(rs:List ResultVar):Option Value:=
 match lR P F a rs with
 |some [v]=>some v
 |some vs=>some (.tuple vs.toArray)
 |none=>none
attribute [go_sem] qc lR lS
theorem ve {P:Program}{F:af}{a:Act}{Q:Array Value->af->Prop}:∀(rs:List ResultVar) (vs:List Value) (acc:Array Value),lR P F a rs=some vs->Q (acc++vs.toArray) F->
  bw P (rs.foldlM (fun (b:Array Value) r=>do let x<-(match r with| .tmp t=>pure (a.tmps.getD t undef)| .cell ad t=>do loadVar t (<-asAddr (a.tmps.getD ad undef)):Sem Value);pure (b.push x)) acc) Q F
 |[],vs,acc,h,c=>by
  simp only[lR,Option.some.injEq] at h;subst h
  simpa [bG] using c
 |r::rs,vs,acc,h,c=>by
  unfold lR at h
  split at h
  case h_2=>cases h
  rename_i v hv
  split at h
  case h_2=>cases h
  rename_i ws f
  cases h
  have d:=ve rs ws (acc.push v) f (Q:=Q) (by simpa using c)
  simp only[List.foldlM_cons,bA]
  cases r with
  |tmp t=>
   simp only[qc,Option.some.injEq,slot] at hv
   subst hv
   simpa only[bG] using d
  |cell ad t=>
   simp only[qc] at hv
   split at hv
   .rename_i p e
    unfold slot at e
    simp only[bA,e,asAddr,bG]
    exact zD hv d
   .cases hv
theorem rW {P:Program}{fn:Func}{rs:List ResultVar}{F:af}{a:Act}{v:Value}{R:Value->af->Prop}(c:fn.results=rs.toArray)(h:lS P F a rs=some v)(hR:R v F):bw P (results fn a.tmps) R F:=by
 unfold results;rw[c,bA,Array.mapM_eq_foldlM,<-Array.foldlM_toList];unfold lS at h;split at h
 case h_3=>cases h
 .rename_i x b;cases h;exact ve rs [v] #[] b (by simpa [bG] using hR)
 .rename_i vs d b;cases h;refine ve rs vs #[] b ?_;simp only[Array.empty_append,bG];split
  .rename_i hs;simp at hs;obtain ⟨v,rfl⟩:=List.length_eq_one_iff.1 hs;exact absurd rfl (d v)
  .exact hR
def iN (P:Program)(rs:List ResultVar)(R:Value->af->Prop):Ex->Act->af->Prop
 | .exit _,_,_=>False
 |_,a,F=>a.defers=[]/\match lS P F a rs with|some v=>R v F|none=>False
attribute [go_sem] iN
theorem aE.go {P:Program}{f:FuncId}{fn:Func}{c:Code}{n:Nat}{rs:List ResultVar}{args:Array Value}{F:af}{R:Value->af->Prop}(d:P.funcs[f]?=some fn)(hb:fn.body=some c)(hn:fn.ntmps=n)(g:fn.results=rs.toArray)(j:args.size<=n)
  (h:∀main J,Closed P main J->∀A:Act,sz A=n->A.defers=[]->(∀i,slot A i=args.getD i undef)->Wp J c (iN P rs R) A F):aE P f args F R:=
 aE.start d hb hn j fun main J hJ A k l m=>(h main J hJ A k l m).mono fun e a F b=>by
  cases e with
  |exit i=>exact b
  |_=>
   obtain ⟨hd,hv⟩:=b
   split at hv
   .rename_i v o
    show iK P a.defers _ F
    rw[hd]
    exact rW g o hv
   .exact hv.elim
def dV (n m:Nat):Array Bool:=(Array.range n).map fun i=>decide (i<m)
def rX (ops:Array Oper)(m:Nat):Bool:=
 Region.noSelect ops&&decide (m<=ops.size)&&((List.range m).all fun i=>Region.free .any ops (dV ops.size i) i&&(Region.ready .any ops (dV ops.size i)).contains i)&&
 ((List.range (ops.size - m)).all fun j=>decide (Region.ready .any ops (dV ops.size (m+j))=[m+j]))&&decide (Region.ready .any ops (dV ops.size ops.size)=[])
def ED (D:List Nat)(L:List (List Nat))(x y:Nat):Bool:=RegionTabs.apart ⟨#[],D.toArray,L.toArray⟩ x y
def vg (A:List (List Nat))(D:List Nat)(L:List (List Nat))(n m:Nat):Bool:=
 decide (m<=n)&&((List.range m).all fun k=>(A.getD k []).all (fun x=>decide (x<k))&&(List.range n).all fun j=>decide (j<=k)||(A.getD j []).contains k||ED D L k j)&&
 ((List.range (n - m)).all fun t=>(A.getD (m+t) []).all (fun x=>decide (x<m+t))&&(List.range (n - (m+t+1))).all fun u=>!(A.getD (m+t+1+u) []).all (fun x=>decide (x<m+t)))
section
variable {ops:Array Oper}
theorem zM {n k i:Nat}(h:i<n):(dV n k).getD i true=decide (i<k):=by
 simp[dV,Array.getD_eq_getD_getElem?,h]
theorem EE {n k i:Nat}(a:k<=n):(dV n k).getD i false=decide (i<k):=by
 rcases Nat.lt_or_ge i n with h|h
 .simp[dV,Array.getD_eq_getD_getElem?,h]
 .have:¬i<k:=aa;simp[dV,Array.getD_eq_getD_getElem?,Array.getElem?_eq_none,h,this]
theorem vh {A:List (List Nat)}{k:Nat}(a:Region.tabAfter .any ops=A)(b:k<=ops.size):
  Region.ready .any ops (dV ops.size k)=(List.range ops.size).filter fun i=>!decide (i<k)&&(A.getD i []).all fun x=>decide (x<k):=by
 have hlen:A.length=ops.size:=by rw[<-a];simp[Region.tabAfter]
 rw[<-RegionTabs.ready_eq]
 unfold RegionTabs.ready RegionTabs.of
 simp only[a,List.size_toArray,hlen]
 apply List.filter_congr
 intro i hi
 have c:i<ops.size:=List.mem_range.1 hi
 rw[zM c]
 congr 1
 rw[List.getElem?_toArray,List.getD_eq_getElem?_getD,List.getElem?_eq_getElem aa]
 simp only[Option.map_some,Option.getD_some]
 congr 1
 funext x
 exact EE b
theorem filter_one {k:Nat}{p:Nat->Bool}(b:p k=true):∀(n:Nat),k<n->(∀i,i<n->i≠k->p i=false)->(List.range n).filter p=[k]
 |0,c,_=>by omega
 |n+1,c,a=>by
  rw[List.range_succ,List.filter_append]
  by_cases e:k=n
  .subst e
   have:(List.range k).filter p=[]:=by
    rw[List.filter_eq_nil_iff]
    intro i hi
    have d:=List.mem_range.1 hi
    rw[a i aa aa];simp
   rw[this];simp[b]
  .rw[filter_one b n aa fun i hi=>a i aa]
   simp[a n aa (fun x=>e x.symm)]
theorem EF {m n:Nat}(A:List (List Nat))(D:List Nat)(L:List (List Nat))(hs:Region.noSelect ops=true)(hn:ops.size=n)(a:Region.tabAfter .any ops=A)(f:Region.tabDst ops=D)(g:Region.tabLooks ops=L)(h:vg A D L n m=true):rX ops m=true:=by
 subst hn;have hlen:A.length=ops.size:=by rw[<-a];simp[Region.tabAfter]
 simp only[vg,Bool.and_eq_true,decide_eq_true_eq,List.all_eq_true,List.mem_range] at h;obtain ⟨⟨hm,c⟩,d⟩:=h;simp only[rX,Bool.and_eq_true,decide_eq_true_eq,List.all_eq_true,List.mem_range];refine ⟨⟨⟨⟨hs,hm⟩,fun i hi=>⟨?_,?_⟩⟩,fun j b=>?_⟩,?_⟩
 .rw[<-RegionTabs.free_eq];unfold RegionTabs.free;have e1:(RegionTabs.of .any ops).after=A.toArray:=by simp[RegionTabs.of,a]
  rw[e1,List.size_toArray,hlen];simp only[Bool.and_eq_true,decide_eq_true_eq,List.all_eq_true,List.mem_range];refine ⟨aa,fun j b=>?_⟩;have:=(c i hi).2 j b;simp only[Bool.or_eq_true,decide_eq_true_eq] at this;simp only[Bool.or_eq_true];rcases this with (hle|k)|l
  .rcases Nat.lt_or_eq_of_le hle with x|x
   .left;left;right;rw[zM aa];simpa using x
   .left;left;left;simpa using x
  .left;right;simpa [Array.getD_eq_getD_getElem?,List.getD_eq_getElem?_getD] using k
  .right;have e:RegionTabs.of .any ops=⟨A.toArray,D.toArray,L.toArray⟩:=by simp[RegionTabs.of,a,f,g]
   rw[e];exact l
 .rw[vh a aa];rw[List.contains_iff_mem,List.mem_filter];refine ⟨List.mem_range.2 aa,?_⟩;have:=(c i hi).1;simpa [List.all_eq_true] using this
 .have o:m+j<ops.size:=aa;rw[vh a aa];refine filter_one ?_ _ o fun i hi p=>?_
  .have:=(d j b).1;simpa [List.all_eq_true] using this
  .rcases Nat.lt_or_ge i (m+j) with x|x
   .simp[x]
   .have:=(d j b).2 (i - (m+j+1)) aa;rw[show m+j+1+(i - (m+j+1))=i by omega] at this;simp only[Bool.not_eq_true'] at this;simp only[this,Bool.and_false]
 .rw[vh a (Nat.le_refl _)];rw[List.filter_eq_nil_iff];intro i hi;have:=List.mem_range.1 hi;simp[this]
def vi (n:Nat)(k:Nat->Bool):Bool:=Nat.casesOn n (k 0) fun m=>k (m+1)
def qd:List Nat->(List Nat->Bool)->Bool
 |[],k=>k []
 |x::xs,k=>vi x fun y=>qd xs fun ys=>k (y::ys)
def qf:List (List Nat)->(List (List Nat)->Bool)->Bool
 |[],k=>k []
 |x::xs,k=>qd x fun y=>qf xs fun ys=>k (y::ys)
theorem zN (n:Nat)(k:Nat->Bool):vi n k=k n:=by cases n<;>rfl
theorem vj:∀(l:List Nat) (k:List Nat->Bool),qd l k=k l
 |[],_=>rfl
 |x::xs,k=>by rw[qd,zN,vj xs]
theorem zO:∀(l:List (List Nat)) (k:List (List Nat)->Bool),qf l k=k l
 |[],_=>rfl
 |x::xs,k=>by rw[qf,vj,zO xs]
def rY (ops:Array Oper)(m:Nat):Bool:=Region.noSelect ops&&qf (Region.tabAfter .any ops) fun A=>qd (Region.tabDst ops) fun D=>qf (Region.tabLooks ops) fun L=>vi ops.size fun n=>vg A D L n m
theorem EG {m:Nat}(h:rY ops m=true):rX ops m=true:=by
 simp only[rY,Bool.and_eq_true,zO,vj,zN] at h;exact EF _ _ _ h.1 rfl rfl rfl rfl h.2
end
def j5:List (Nat×Obj)->List (Nat×Obj)->Prop
 |[],_=>True
 |(b,o)::l,own=>lk own b=some o/\j5 l own
def Knows (F0 F:af):Prop:=(∀a v,F0.ro a=some v->F.ro a=some v)/\(∀a,a.block∈keys F0.own->F0.ro a=none->F.ro a=none)/\j5 F0.own F.own
theorem j5.lk:∀{l own:List (Nat×Obj)} {b:Nat} {o:Obj},j5 l own->lk l b=some o->Go.Sep.lk own b=some o
 |[],_,_,_,_,h=>by cases h
 |(c,x)::l,own,b,o,a,h=>by
  unfold Go.Sep.lk at h
  split at h
  .rename_i e;cases h;exact e▸a.1
  .exact j5.lk a.2 h
theorem Knows.get {F0 F:af}(h:Knows F0 F){a:Addr}{v:Value}(hg:F0.get a=some v):F.get a=some v:=by
 unfold af.get at hg ⊢;cases b:F0.ro a with
 |some x=>rw[b] at hg;rw[h.1 a x b];exact hg
 |none=>
  rw[b] at hg;simp only at hg;split at hg
  .rename_i hs;obtain ⟨o,ho,c⟩:=Option.bind_eq_some_iff.1 hg;rw[h.2.1 a (fA (iI ho)) b];simp only;rw[if_pos hs,h.2.2.lk ho];exact c
  .cases hg
theorem EH {ro:Addr->Option Value}{l own:List (Nat×Obj)}:Knows ⟨ro,l⟩ ⟨ro,own⟩=j5 l own:=
 propext ⟨fun h=>h.2.2,fun h=>⟨fun _ _ x=>x,fun _ _ x=>x,h⟩⟩
theorem EI {ro aF:Addr->Option Value}{l own:List (Nat×Obj)}(c:∀a v,ro a=some v->aF a=some v)(hn:∀b∈keys l,∀off sp,aF ⟨b,off,sp⟩=none)(h:j5 l own):Knows ⟨ro,l⟩ ⟨aF,own⟩:=
 ⟨c,fun a d _=>hn a.block d a.off a.spot,h⟩
theorem Knows.lN {F0 F:af}(h:Knows F0 F){a:Addr}:∀{n i:Nat} {vs:List Value},F0.dj a i n=some vs->F.dj a i n=some vs
 |0,_,_,hg=>hg
 |n+1,i,vs,hg=>by
  unfold af.dj at hg ⊢
  split at hg
  case h_2=>cases hg
  rename_i v hv
  split at hg
  case h_2=>cases hg
  rename_i ws b
  rw[h.get hv,h.lN b]
  exact hg
theorem Knows.ga {P:Program}{F0 F:af}(h:Knows F0 F){t:TypeId}{ad:Addr}{v:Value}(hg:ga P F0 t ad=some v):Go.Sep.ga P F t ad=some v:=by
 unfold Go.Sep.ga at hg ⊢;split at hg
 .exact h.get hg
 .split at hg
  case h_2=>cases hg
  rename_i n hn;split at hg
  case h_2=>cases hg
  rename_i vs a;rw[h.lN a];exact hg
 .cases hg
def jd (P:Program)(o:Oper)(a:Act):Option Value:=
 match o.op with
 | .move x| .assign x=>some (ev a x)
 | .nilCheck x=>match ev a x with
  | .pointer (some ad)=>some (.pointer (some ad))
  |_=>none
 | .pick c x y=>match ev a c with
  | .bool b=>some (if b then ev a x else ev a y)
  |_=>none
 | .build t parts=>p9 P t (parts.map fun (i,x)=>(i,ev a x)).toList
 | .binOp op t x y _=>p8 P op t (ev a x) (ev a y)
 | .unOp op _ x=>lO op (ev a x)
 | .convert src dst x=>lQ P src dst (ev a x)
 | .makeFunc fn first captured=>some (.func fn (first.map (ev a)) (captured.map (ev a)))
 | .slice t x lo hi none=>match ev a x with
  | .slice ad len cap=>if len<=cap then lP P t (.slice ad len cap) (lo.map (ev a)) (hi.map (ev a)) else none
  | .pointer (some ad)=>lP P t (.pointer (some ad)) (lo.map (ev a)) (hi.map (ev a))
  |_=>none
 | .fieldAddr s x n=>match ev a x with
  | .pointer (some ad)=>match dK P s n with
   |some k=>some (.pointer (some (ad.add k)))
   |none=>none
  |_=>none
 | .field s x n=>qa P s n (ev a x)
 | .indexAddr t x i=>pY P t (ev a x) (ev a i)
 | .index t x i=>qb P t (ev a x) (ev a i)
 | .extract x n=>rT n (ev a x)
 | .call {callee:=.builtin .len,args,argTypes}=>match argTypes[0]?,args[0]? with
  |some t,some x=>rU P t (ev a x)
  |_,_=>none
 | .call {callee:=.builtin .max,args, ..}=>match args.toList with
  |[x,y]=>rN (ev a x) (ev a y)
  |_=>none
 | .call {callee:=.builtin .min,args, ..}=>match args.toList with
  |[x,y]=>rO (ev a x) (ev a y)
  |_=>none
 |_=>none
theorem vk {P:Program}{J:Goroutine->af->Prop}{o:Oper}{a:Act}{v:Value}{R:Value->af->Prop}{F:af}(h:jd P o a=some v)(hR:R v F):dc P J o R a F:=by
 obtain ⟨dst,op,type,pos,after,guard⟩:=o;unfold jd at h;unfold dc;cases op<;>simp only[reduceCtorEq] at h ⊢
 case move x=>cases h;exact hR
 case assign x=>cases h;exact hR
 case nilCheck x=>
  split at h
  .rename_i ad d;cases h;rw[d];exact hR
  .cases h
 case pick c x y=>
  split at h
  .rename_i b hb;cases h;try rw[hb]
   exact hR
  .cases h
 case build t parts=>rw[h];exact hR
 case binOp=>rw[h];exact hR
 case unOp=>rw[h];exact hR
 case convert=>rw[h];exact hR
 case makeFunc=>cases h;exact hR
 case slice t x lo hi f=>
  cases f with
  |some m=>cases h
  |none=>
   simp only at h ⊢;split at h
   case h_3=>cases h
   case h_2=>
    rename_i ad d;rw[d];exact ⟨trivial,by rw[h];exact hR⟩
   rename_i ad len cap d;split at h
   case isFalse=>cases h
   rename_i g;rw[d];exact ⟨g,by rw[h];exact hR⟩
 case fieldAddr s x n=>
  split at h
  case h_2=>cases h
  rename_i ad d;split at h
  case h_2=>cases h
  rename_i k i;cases h;try rw[d]
  try simp only[i]
  exact hR
 case field=>rw[h];exact hR
 case indexAddr=>rw[h];exact hR
 case index=>rw[h];exact hR
 case extract=>rw[h];exact hR
 case call c=>
  obtain ⟨callee,args,argTypes⟩:=c;cases callee with
  |value x=>cases h
  |invoke r m=>cases h
  |builtin b=>
   cases b<;>simp only[reduceCtorEq] at h ⊢
   case len=>
    split at h
    case h_2=>cases h
    rename_i t x ht d;simp only[ht,d,h];exact hR
   case max=>
    split at h
    case h_2=>cases h
    rename_i x y e;simp only[e,h];exact hR
   case min=>
    split at h
    case h_2=>cases h
    rename_i x y e;simp only[e,h];exact hR
def Plain (P:Program)(J:Goroutine->af->Prop)(F0:af)(f:FuncId)(args:Array Value)(v:Value):Prop:=
 ∀F,Knows F0 F->dh P J f args F (fun a F'=>a=v/\F'=F)
def fM (P:Program)(J:Goroutine->af->Prop)(ops:Array Oper)(F0:af)(K:Act->Prop):List Oper->Bool->Act->Prop
 |[],_,a=>K a
 |o::rest,_,a=>match cJ ops o a with
  |some false=>fM P J ops F0 K rest true (bC a o.dst undef)
  |some true=>match o.op with
   | .load t x=>match ev a x with
    | .pointer (some ad)=>match ga P F0 t ad with
     |some v=>fM P J ops F0 K rest true (bC a o.dst v)
     |none=>False
    |_=>False
   | .call {callee:=.value x,args, ..}=>match ev a x with
    | .func (.func fn) first captured=>aI P fn=true/\∃v,Plain P J F0 fn (first++args.map (ev a)++captured) v/\fM P J ops F0 K rest false (bC a o.dst v)
    |_=>False
   |_=>match jd P o a with
    |some v=>fM P J ops F0 K rest true (bC a o.dst v)
    |none=>False
  |none=>False
theorem EJ {P:Program}{J:Goroutine->af->Prop}{ops:Array Oper}{F0:af}{K:Act->Prop}{go:Bool}{a:Act}:fM P J ops F0 K [] go a=K a:=rfl
theorem EK {P:Program}{J:Goroutine->af->Prop}{ops:Array Oper}{F0:af}{K:Act->Prop}{o:Oper}{rest:List Oper}{a:Act}:fM P J ops F0 K (o::rest) true a=match cJ ops o a with
  |some false=>fM P J ops F0 K rest true (bC a o.dst undef)
  |some true=>match o.op with
   | .load t x=>match ev a x with
    | .pointer (some ad)=>match ga P F0 t ad with
     |some v=>fM P J ops F0 K rest true (bC a o.dst v)
     |none=>False
    |_=>False
   | .call {callee:=.value x,args, ..}=>match ev a x with
    | .func (.func fn) first captured=>aI P fn=true/\∃v,Plain P J F0 fn (first++args.map (ev a)++captured) v/\fM P J ops F0 K rest false (bC a o.dst v)
    |_=>False
   |_=>match jd P o a with
    |some v=>fM P J ops F0 K rest true (bC a o.dst v)
    |none=>False
  |none=>False:=(Eq.refl _).trans (Eq.refl _)
theorem eB {P:Program}{J:Goroutine->af->Prop}{ops:Array Oper}{F0:af}{K:Act->Prop}:∀{l:List Oper} {go:Bool} {a:Act},fM P J ops F0 K l true a->fM P J ops F0 K l go a
 |[],_,_,h=>h
 |_::_,_,_,h=>h
theorem zP {n m:Nat}(h:m<n):(dV n m).setIfInBounds m true=dV n (m+1):=by
 apply Array.ext
 .simp[dV]
 .intro i a b;simp[dV] at a b;rw[Array.getElem_setIfInBounds (by simp[dV];omega)];by_cases e:m=i
  .subst e;simp[dV]
  .simp only[if_neg e,dV,Array.getElem_map,Array.getElem_range];rw[decide_eq_decide];omega
theorem EL (n:Nat):dV n 0=Array.replicate n false:=by
 apply Array.ext
 .simp[dV]
 .intro i a b;simp[dV]
section
variable {P:Program}{main:Bool}{J:Goroutine->af->Prop}{ops:Array Oper}{Q:Act->af->Prop}{F0:af}
theorem vl {K:Act->Prop}(m:Nat)(hm:m<=ops.size)(g:Region.noSelect ops=true)(j:∀i,i<m->(Region.free .any ops (dV ops.size i) i&&(Region.ready .any ops (dV ops.size i)).contains i)=true)
  {F:af} (hF:Knows F0 F) (hK:∀a,K a->eO P J ops Q (Knows F0) (ops.size - m) (dV ops.size m) a F):
  ∀(l:List Oper) (k:Nat) (go:Bool) (a:Act),(ops.toList.take m).drop k=l->k<=m->fM P J ops F0 K l go a->eO P J ops Q (Knows F0) (ops.size - k) (dV ops.size k) a F
 |[],k,_,a,b,s,h=>by
  have:k=m:=by
   have:=congrArg List.length b
   simp at this
   omega
  subst this
  exact hK a h
 |o::rest,k,_,a,b,s,h=>by
  have c:k<m:=by
   rcases Nat.lt_or_ge k m with x|x
   .exact x
   .rw[List.drop_eq_nil_of_le (by simp;omega)] at b;cases b
  have ho:ops[k]?=some o:=by
   have:=congrArg List.head? b
   rw[List.head?_drop,List.getElem?_take_of_lt c] at this
   simpa using this
  have q:(ops.toList.take m).drop (k+1)=rest:=by
   have:=congrArg List.tail b
   simpa [List.tail_drop] using this
  have u:=j k c
  have e:ops.size - k=(ops.size - (k+1))+1:=aa
  have r:=zP (n:=ops.size) (m:=k) aa
  have d:(Region.noSelect ops&&Region.free .any ops (dV ops.size k) k&&(Region.ready .any ops (dV ops.size k)).contains k)=true:=by
   rw[g,Bool.true_and];exact u
  rw[e]
  unfold fM at h
  split at h
  .rename_i hg
   exact EB k ho d hg hF (by rw[r];exact vl m hm g j hF hK rest (k+1) _ _ q c h)
  .rename_i hg
   have next:∀go v,fM P J ops F0 K rest go (bC a o.dst v)->eO P J ops Q (Knows F0) (ops.size - (k+1)) ((dV ops.size k).setIfInBounds k true) (bC a o.dst v) F:=fun go v hv=>by
    rw[r];exact vl m hm g j hF hK rest (k+1) _ _ q c hv
   split at h
   .rename_i t x p
    split at h
    case h_2=>exact h.elim
    rename_i ad w
    split at h
    case h_2=>exact h.elim
    rename_i v hv
    refine vc k v ho d hg (fun F R f hR=>?_) hF (next _ v h)
    unfold dc
    simp only[p,w,f.ga hv]
    exact hR
   .rename_i x args argTypes p
    split at h
    case h_2=>exact h.elim
    rename_i fn first captured y
    obtain ⟨z,v,A,h⟩:=h
    refine vc k v ho d hg (fun F R f hR=>?_) hF (next _ v h)
    unfold dc
    simp only[p,y]
    exact ⟨z,(A F f).mono fun C F' B=>by obtain ⟨rfl,rfl⟩:=B;exact hR⟩
   .split at h
    case h_2=>exact h.elim
    rename_i v hv
    exact vc k v ho d hg (fun F R f hR=>vk hv hR) hF (next _ v h)
  .exact h.elim
def je (P:Program)(J:Goroutine->af->Prop)(ops:Array Oper)(F0:af)(Q:Act->af->Prop):List Oper->Bool->Act->af->Prop
 |[],_,a,F=>Q a F
 |o::rest,_,a,F=>match cJ ops o a with
  |some true=>dc P J o (fun v F'=>Knows F0 F'/\je P J ops F0 Q rest (!Oper.calls o) (bC a o.dst v) F') a F
  |_=>False
theorem EM {P:Program}{J:Goroutine->af->Prop}{ops:Array Oper}{F0:af}{Q:Act->af->Prop}{go:Bool}{a:Act}{F:af}:je P J ops F0 Q [] go a F=Q a F:=rfl
theorem EN {P:Program}{J:Goroutine->af->Prop}{ops:Array Oper}{F0:af}{Q:Act->af->Prop}{o:Oper}{rest:List Oper}{a:Act}{F:af}:je P J ops F0 Q (o::rest) true a F=match cJ ops o a with
  |some true=>dc P J o (fun v F'=>Knows F0 F'/\je P J ops F0 Q rest (!Oper.calls o) (bC a o.dst v) F') a F
  |_=>False:=(Eq.refl _).trans (Eq.refl _)
theorem rZ {P:Program}{J:Goroutine->af->Prop}{ops:Array Oper}{F0:af}{Q:Act->af->Prop}:∀{l:List Oper} {go:Bool} {a:Act} {F:af},je P J ops F0 Q l true a F->je P J ops F0 Q l go a F
 |[],_,_,_,h=>h
 |_::_,_,_,_,h=>h
theorem r4 (m:Nat)(g:∀j,j<ops.size - m->Region.ready .any ops (dV ops.size (m+j))=[m+j])(i:Region.ready .any ops (dV ops.size ops.size)=[]):
  ∀(l:List Oper) (k:Nat) (go:Bool) (a:Act) (F:af),m<=k->k<=ops.size->ops.toList.drop k=l->je P J ops F0 Q l go a F->eO P J ops Q (Knows F0) (ops.size - k) (dV ops.size k) a F
 |[],k,_,a,F,q,s,d,h=>by
  have:k=ops.size:=by
   have:=congrArg List.length d
   simp at this
   omega
  subst this
  exact D3 i h _
 |o::rest,k,_,a,F,q,s,d,h=>by
  have u:k<ops.size:=by
   rcases Nat.lt_or_ge k ops.size with x|x
   .exact x
   .rw[List.drop_eq_nil_of_le (by simpa using x)] at d;cases d
  have ho:ops[k]?=some o:=by
   have:=congrArg List.head? d
   simpa [List.head?_drop] using this
  have w:ops.toList.drop (k+1)=rest:=by
   have:=congrArg List.tail d
   simpa [List.tail_drop] using this
  have e:ops.size - k=(ops.size - (k+1))+1:=aa
  have n:=g (k - m) aa
  rw[show m+(k - m)=k by omega] at n
  rw[e]
  unfold je at h
  split at h
  .rename_i hg
   refine EC k ho n hg ?_
   refine vm ?_ h
   rintro v F' ⟨y,f⟩
   refine ⟨y,?_⟩
   rw[zP u]
   exact r4 m g i rest (k+1) _ _ F' aa aa w f
  .exact h.elim
where
 vm {o:Oper} {a:Act} {F:af} {R p:Value->af->Prop} (hR:∀v F,R v F->p v F) (h:dc P J o R a F):dc P J o p a F:=by
  obtain ⟨dst,op,type,pos,after,guard⟩:=o
  unfold dc at h ⊢
  cases op<;>simp only at h ⊢<;>first
   |exact h.elim
   |exact hR _ _ h
   |exact fun b hb=>hR _ _ (h b hb)
   |exact gO (fun v F h=>hR v F h) _ _ h
   |(split at h<;>first
     |exact h.elim
     |exact hR _ _ h
     |exact fun b hb=>hR _ _ (h b hb)
     |(split at h<;>first|exact h.elim|exact hR _ _ h|exact fun b hb=>hR _ _ (h b hb)))
   |skip
  case slice t x lo hi z=>
   cases z with
   |some m=>exact h.elim
   |none=>
    refine ⟨h.1,?_⟩
    have f:=h.2
    revert f
    cases lP P t (ev a x) (lo.map (ev a)) (hi.map (ev a)) with
    |some v=>exact fun x=>hR _ _ x
    |none=>exact fun x=>x
  case call c=>
   obtain ⟨callee,args,argTypes⟩:=c
   cases callee with
   |value x=>
    exact gP.mono h hR
   |invoke r m=>exact h.elim
   |builtin b=>
    cases b<;>simp only at h ⊢<;>first
     |exact h.elim
     |(split at h<;>first|exact h.elim|exact fun ty=>gO (fun v F ⟨F0,hle,h⟩=>⟨F0,hle,hR _ _ h⟩) _ _ (h ty))
     |exact gO (fun v F h=>hR v F h) _ _ h
     |(split at h<;>first|exact h.elim|(split at h<;>first|exact h.elim|exact hR _ _ h|exact gO (fun v F h=>hR v F h) _ _ h))
theorem eN {Q:Ex->Act->af->Prop}(hJ:Closed P main J)(e:P.follows .mixedOrders=true)(m:Nat){id:Nat}{a:Act}{F:af}(F0:af)(hF:Knows F0 F)(f:rY ops m=true)
  (h:fM P J ops F0 (fun b=>je P J ops F0 (Q .normal) (ops.toList.drop m) true b F) (ops.toList.take m) true a):Wp J (.region id ops true) Q a F:=by
 have c:=EG f
 simp only[rX,Bool.and_eq_true,decide_eq_true_eq,List.all_eq_true,List.mem_range] at c
 obtain ⟨⟨⟨⟨g,d⟩,j⟩,k⟩,l⟩:=c
 refine D7 hJ (Knows F0) e ?_
 rw[<-EL]
 have:=vl (P:=P) (J:=J) (Q:=Q .normal) m d g (fun i hi=>by have:=j i hi;simpa using this) hF (fun b n=>r4 m k l _ m _ b F (Nat.le_refl _) d rfl n) _ 0 true a an (Nat.zero_le _) h
 simpa using this
theorem dW (hJ:Closed P main J){F0:af}{f:FuncId}{args:Array Value}{v:Value}(h:∀F,Knows F0 F->aE P f args F.dQ (fun a _=>a=v)):Plain P J F0 f args v:=
 fun F hF=>uL (h F hF) main J hJ
end
attribute [irreducible] fM je
attribute [go_sem] j5 EH jd EJ EK EM EN rJ List.take_succ_cons List.take_zero List.drop_succ_cons List.drop_zero Array.zipIdx_toArray List.zipIdx_cons List.zipIdx_nil List.foldl_toArray List.foldl_toArray' decide_eq_true_eq Bool.and_false Bool.false_and Bool.and_self Bool.true_and Bool.and_true List.foldl_cons List.foldl_nil decide_false decide_true Bool.or_false Bool.false_or Bool.or_self Bool.or_true Bool.true_or gt_iff_lt Nat.reduceGT Nat.lt_irrefl Bool.false_eq_true Nat.zero_add Nat.add_zero Nat.not_lt_zero
section
variable {P:Program}{main:Bool}{J:Goroutine->af->Prop}{Q:Ex->Act->af->Prop}{a:Act}{F:af}
theorem bh (hJ:Closed P main J){f:FuncId}{args:Array Value}{F:af}{K:Value->af->Prop}(v:Value)(h:aE P f args F.dQ (fun a _=>a=v))(b:K v F):dh P J f args F K:=
 (uL h main J hJ).mono fun a F' hv=>by obtain ⟨rfl,rfl⟩:=hv;exact b
theorem dn (hJ:Closed P main J){c:Operand}{x y:Code}(b:ev a c= .bool true)(h:Wp J x Q a F):Wp J (.cond c x y) Q a F:=uF hJ true b h
theorem dr (hJ:Closed P main J){c:Operand}{x y:Code}(b:ev a c= .bool false)(h:Wp J y Q a F):Wp J (.cond c x y) Q a F:=uF hJ false b h
theorem EO (hJ:Closed P main J){c:Operand}{x y:Code}(b:Bool)(d:ev a c= .bool b)(e:b=true->Wp J x Q a F)(f:b=false->Wp J y Q a F):Wp J (.cond c x y) Q a F:=by
 refine uF hJ b d ?_;cases b
 .exact f rfl
 .exact e rfl
theorem cq (hJ:Closed P main J){c:Code}{F':af}(hle:Le F F')(h:Wp J c Q a F):Wp J c Q a F':=h.le (hJ:=hJ) hle
theorem Le.sub {ro:Addr->Option Value}{l l':List (Nat×Obj)}(h:l.Sublist l'):Le ⟨ro,l⟩ ⟨ro,l'⟩:=by
 have c:(keys l).Sublist (keys l'):=h.map _;exact ⟨fun w hw=>⟨hw.ro,fun b o hb=>hw.own b o (h.subset hb),c.nodup hw.nodup,fun a v d hm=>hw.apart a v d (c.subset hm)⟩,fun b hb=>c.subset hb,fun a e=>.inl e⟩
theorem vn (hJ:Closed P main J){c:Code}(I:Nat->Act->af->Prop)(n:Nat)(b:I n a F)(hs:∀n a F,I n a F->Wp J c (rJ (fun m a F=>∃F0,Le F0 F/\I m a F0) n Q) a F):Wp J (.loop c) Q a F:=
 zm hJ (fun m a F=>∃F0,Le F0 F/\I m a F0) n ⟨F,Le.refl F,b⟩ fun n a F ⟨F0,hle,d⟩=>cq hJ hle (hs n a F0 d)
end
def ir:List Nat->Nat->Bool
 |[],_=>false
 |w::ws,i=>i==w||ir ws i
abbrev In (ws:List Nat)(i:Nat):Prop:=ir ws i=true
structure cj (ws:List Nat)(a a0:Act):Prop where
 size:sz a=sz a0
 defers:a.defers=a0.defers
 bM:∀i,¬In ws i->slot a i=slot a0 i
theorem cj.refl (ws:List Nat)(a:Act):cj ws a a:=⟨rfl,rfl,fun _ _=>rfl⟩
theorem cj.trans {ws:List Nat}{a b c:Act}(h:cj ws a b)(k:cj ws b c):cj ws a c:=⟨h.size.trans k.size,h.defers.trans k.defers,fun i hi=>(h.bM i hi).trans (k.bM i hi)⟩
theorem cj.sub {ws c:List Nat}{a b:Act}(hs:∀i,In ws i->In c i)(h:cj ws a b):cj c a b:=⟨h.size,h.defers,fun i hi=>h.bM i fun x=>hi (hs i x)⟩
theorem EP {ws:List Nat}{a:Act}:cj ws a a=True:=eq_true (cj.refl ws a)
theorem ER {ws:List Nat}{a a0:Act}{d:Nat}{v:Value}(h:ir ws d=true):cj ws (bC a (some d) v) a0=cj ws a a0:=by
 apply propext;constructor
 .intro k;refine ⟨by rw[<-k.size,zA],by rw[<-k.defers,zB],fun i hi=>?_⟩;rw[<-k.bM i hi,uQ _ _ _ _ (fun e=>hi (by subst e;exact h))]
 .intro k;refine ⟨by rw[<-k.size,zA],by rw[<-k.defers,zB],fun i hi=>?_⟩;rw[<-k.bM i hi,uQ _ _ _ _ (fun e=>hi (by subst e;exact h))]
def eC (ws a:List Nat):Bool:=ws.all fun w=>ir a w
theorem zQ:∀{ws:List Nat} {i:Nat},ir ws i=true->i∈ws
 |[],_,h=>by cases h
 |w::ws,i,h=>by
  simp only[ir,Bool.or_eq_true,beq_iff_eq] at h
  rcases h with h|h
  .rw[h];exact List.mem_cons_self
  .exact List.mem_cons_of_mem _ (zQ h)
theorem cj.eC {ws c:List Nat}{a b:Act}(h:cj ws a b)(hs:Sep.eC ws c=true):cj c a b:=h.sub fun i hi=>by
 have:=zQ hi
 exact List.all_eq_true.1 hs i this
def rg:Nat->Nat->List Nat->List Nat
 |_,0,ws=>ws
 |a,n+1,ws=>a::rg (a+1) n ws
theorem zR:∀(n a i:Nat) (ws:List Nat),ir (rg a n ws) i=(decide (a<=i)&&decide (i<a+n)||ir ws i)
 |0,a,i,ws=>by
  show ir ws i=_
  cases h:(decide (a<=i)&&decide (i<a+0)) with
  |false=>rfl
  |true=>rw[Bool.and_eq_true,decide_eq_true_eq,decide_eq_true_eq] at h;omega
 |n+1,a,i,ws=>by
  show (i==a||ir (rg (a+1) n ws) i)=_
  rw[zR n (a+1) i ws,<-Bool.or_assoc]
  congr 1
  rw[Bool.eq_iff_iff]
  simp only[Bool.or_eq_true,Bool.and_eq_true,decide_eq_true_eq,beq_iff_eq]
  omega
attribute [go_sem] zR Nat.reduceLeDiff Nat.reduceLT Nat.reduceAdd
attribute [go_sem] ir EP ER or_true true_or or_false false_or Nat.reduceBEq
section
variable {P:Program}{main:Bool}{J:Goroutine->af->Prop}{Q:Ex->Act->af->Prop}{a:Act}{F:af}
theorem bP (hJ:Closed P main J){c:Code}(ws:List Nat)(I:Nat->Act->af->Prop)(n:Nat)(h:I n a F)
  (hs:∀n b F',cj ws b a->I n b F'->Wp J c (rJ (fun m d f=>cj ws d b/\∃F0,Le F0 f/\I m d F0) n Q) b F'):Wp J (.loop c) Q a F:=
 zm hJ (fun m d f=>cj ws d a/\∃F0,Le F0 f/\I m d F0) n ⟨.refl ws a,F,Le.refl F,h⟩ fun n b F' ⟨ho,F0,hle,j⟩=>
  cq hJ hle ((hs n b F0 ho j).mono fun e d f g=>by
   cases e with
   |normal=>obtain ⟨m,hm,k,l⟩:=g;exact ⟨m,hm,k.trans ho,l⟩
   |exit i=>exact g
   |ret=>exact g)
end
def Ext (ro aF:Addr->Option Value):Prop:=∀a v,ro a=some v->aF a=some v
theorem Ext.refl (ro:Addr->Option Value):Ext ro ro:=fun _ _ h=>h
theorem Ext.trans {r s t:Addr->Option Value}(h:Ext r s)(k:Ext s t):Ext r t:=fun a v x=>k a v (h a v x)
def b9 (ro:Addr->Option Value)(b:Nat)(o:Obj):Addr->Option Value:=fun a=>match ro a with
 |some v=>some v
 |none=>if a.block=b/\a.spot=none then cellOf o a.off else none
theorem gQ (ro:Addr->Option Value)(b:Nat)(o:Obj):Ext ro (b9 ro b o):=fun a v h=>by simp[b9,h]
theorem eY {ro:Addr->Option Value}{b off:Nat}{o:Obj}(h:∀off sp,ro ⟨b,off,sp⟩=none):b9 ro b o ⟨b,off,none⟩=cellOf o off:=by simp[b9,h]
theorem lT {ro:Addr->Option Value}{own e:List (Nat×Obj)}{b:Nat}{o:Obj}(i:lk own b=some o)(hs:e.Sublist own)(hb:aN e b):Le ⟨b9 ro b o,e⟩ ⟨ro,own⟩:=by
 have g:(keys e).Sublist (keys own):=hs.map _;have hm:=iI i;have hn:b∉keys e:=by
  clear i hs g hm
  induction e with
  |nil=>simp[keys]
  |cons x l ih=>
   simp only[keys,List.map_cons,List.mem_cons,not_or];exact ⟨hb.1,ih hb.2⟩
 refine ⟨fun w hw=>⟨fun a v h=>?_,fun c x d=>hw.own c x (hs.subset d),g.nodup hw.nodup,fun a v h d=>?_⟩,fun c d=>g.subset d,fun a j=>?_⟩
 .replace h:b9 ro b o a=some v:=h;unfold b9 at h;split at h
  .rename_i x f;cases h;exact hw.ro _ _ f
  .split at h
   .rename_i d;have:=hw.own b o hm;rw[<-d.1] at this;cases o<;>simp only[cellOf,reduceCtorEq] at h;simp[World.cell?,this,d.2,h]
   .cases h
 .replace h:b9 ro b o a=some v:=h;unfold b9 at h;split at h
  .rename_i x f;exact hw.apart a x f (g.subset d)
  .split at h
   .rename_i k;rw[k.1] at d;exact hn d
   .cases h
 .obtain ⟨v,h⟩:=Option.isSome_iff_exists.1 j;replace h:b9 ro b o a=some v:=h;unfold b9 at h;split at h
  .rename_i x f;exact .inl (by simp[f])
  .split at h
   .rename_i d;exact .inr (by rw[d.1];exact fA hm)
   .cases h
def eZ (P:Program)(f:FuncId)(args:Array Value)(ro:Addr->Option Value)(R:Value->(Addr->Option Value)->Prop):Prop:=
 aE P f args ⟨ro,[]⟩ (fun v G=>∃aF,Ext ro aF/\Le ⟨aF,[]⟩ G/\R v aF)
def kO (F G:af):Prop:=∀a,(G.ro a).isSome=true->a.block∉keys F.own
def r5 (J:Goroutine->af->Prop)(F:af)(g:Goroutine)(G:af):Prop:=Fits F G->kO F G->J g (G.star F)
theorem vo {P:Program}{main:Bool}{J:Goroutine->af->Prop}(hJ:Closed P main J)(F:af):Closed P main (r5 J F) where
 mono {g G H} hle h c hn:=by
  have k:=c.le hle
  have t:kO F G:=fun a d=>(hle.ro a d).elim (hn a) (c.own _)
  refine hJ.mono ⟨fun w hw=>k.both (hle.has w (c.right hw)) (c.left hw),fun b hb=>?_,fun a d=>?_⟩ (h k t)
  .simp only[af.star,cu,List.mem_append] at hb ⊢
   exact hb.imp (hle.own b) id
  .rcases jF d with x|x
   .exact (gE (.inl x)).imp id (fun y=>by simp only[af.star,cu,List.mem_append];exact .inr y)
   .rcases hle.ro a x with y|y
    .exact (gE (.inr y)).imp id (fun z=>by simp only[af.star,cu,List.mem_append];exact .inr z)
    .exact .inr (by simp only[af.star,cu,List.mem_append];exact .inl y)
 step {fr cs G} h c hn:=by
  refine hJ.step fun w hw=>?_
  have u:=c.right hw
  have hF:=c.left hw
  obtain ⟨g',w',es,i,hgo,hu,l,A,B⟩:=h w u
  have n:Has F w':=by
   refine ⟨fun a v j=>?_,fun b o hb=>?_,hF.nodup,hF.apart⟩
   .have p:=hF.ro a v j
    have C:=hF.ij (a:=a) (by simp[j])
    unfold World.cell? at p ⊢
    rw[hu.frame _ C (c.ro a (by simp[j]))]
    exact p
   .rw[hu.frame b (hF.lt (fA hb)) (fun hm=>c.own b hm (fA hb))]
    exact hF.own b o hb
  have q:Fits F i:=by
   refine ⟨⟨w',l,n⟩,fun b hb hm=>?_,fun a d hm=>?_⟩
   .rcases hu.own b hb with x|x
    .exact c.own b x hm
    .have:=hF.lt hm;omega
   .rcases hu.own _ hm with x|x
    .exact c.ro a d x
    .have:=hF.ij d;omega
  have D:kO F i:=fun a d hm=>by
   rcases hu.ro a d with x|x|x
   .exact hn a x hm
   .exact c.own _ x hm
   .have:=hF.lt hm;omega
  refine ⟨g',w',es,i.star F,hgo,⟨hu.os,hu.tape,hu.output,hu.size,fun b hb hn=>hu.frame b hb fun hm=>hn ?_,fun a d=>?_,fun b hb=>?_⟩,q.both l n,fun e he=>?_,B q D⟩
  .simp only[af.star,cu,List.mem_append];exact .inl hm
  .rcases jF d with x|x
   .exact (gE (.inl x)).imp id (fun y=>.inl (by simp only[af.star,cu,List.mem_append];exact .inr y))
   .rcases hu.ro a x with y|y|y
    .exact (gE (.inr y)).imp id (fun z=>.inl (by simp only[af.star,cu,List.mem_append];exact .inr z))
    .exact .inr (.inl (by simp only[af.star,cu,List.mem_append];exact .inl y))
    .exact .inr (.inr y)
  .simp only[af.star,cu,List.mem_append] at hb ⊢
   rcases hb with hb|hb
   .exact (hu.own b hb).imp .inl id
   .exact .inl (.inr hb)
  .have s:∀b,gr G w.heap.size w'.heap.size b->gr (G.star F) w.heap.size w'.heap.size b:=fun b hb=>hb.imp (fun x=>by simp only[af.star,cu,List.mem_append];exact .inl x) id
   rcases A e he with ⟨a,wr,rfl,f|⟨E,f⟩⟩|⟨r,wr,rfl,f⟩|⟨m,rfl,hm⟩
   .exact .inl ⟨a,wr,rfl,.inl (s _ f)⟩
   .rcases gE (F:=F) (.inr f) with y|y
    .exact .inl ⟨a,wr,rfl,.inr ⟨E,y⟩⟩
    .exact .inl ⟨a,wr,rfl,.inl (.inl (by simp only[af.star,cu,List.mem_append];exact .inr y))⟩
   .exact .inr (.inl ⟨r,wr,rfl,s _ f⟩)
   .exact .inr (.inr ⟨m,rfl,hm⟩)
section
variable {P:Program}{main:Bool}{J:Goroutine->af->Prop}
theorem nD (hJ:Closed P main J){f:FuncId}{args:Array Value}{ro:Addr->Option Value}{own:List (Nat×Obj)}{K:Value->af->Prop}(R:Value->(Addr->Option Value)->Prop)(h:eZ P f args ro R)
  (p:∀v aF,Ext ro aF->(∀b∈keys own,∀off sp,aF ⟨b,off,sp⟩=none)->R v aF->K v ⟨aF,own⟩):dh P J f args ⟨ro,own⟩ K:=by
 intro c cs hK
 by_cases hw:∃w,Has ⟨ro,own⟩ w
 .obtain ⟨g,i⟩:=hw
  let F:af:=⟨fun _=>none,own⟩
  have k:∀w,Has ⟨ro,own⟩ w->Has F w:=fun w hw=>⟨fun a v h=>(by cases h),hw.own,hw.nodup,fun a v h=>(by cases h)⟩
  have l:∀w,Has ⟨ro,own⟩ w->Has ⟨ro,[]⟩ w:=fun w hw=>⟨hw.ro,fun b o hb=>(by cases hb),List.nodup_nil,fun a v e hm=>(by cases hm)⟩
  have m:Fits F ⟨ro,[]⟩:=⟨⟨g,l g i,k g i⟩,fun b hb=>(by cases hb),fun a d hm=>(by cases hm)⟩
  have q:kO F ⟨ro,[]⟩:=fun a d hm=>by
   obtain ⟨v,hv⟩:=Option.isSome_iff_exists.1 d
   exact i.apart a v hv hm
  have r:r5 J F (G (Frame.enter P f args .normal) (c::cs)) ⟨ro,[]⟩:=by
   refine h main _ (vo hJ F) c cs fun v G hR j hn=>?_
   obtain ⟨aF,s,hle,hR⟩:=hR
   have n:∀a,(aF a).isSome=true->a.block∉keys own:=fun a d=>(hle.ro a d).elim (hn a) (j.own _)
   refine hJ.mono (F:=⟨aF,own⟩) ⟨fun w hw=>?_,fun b hb=>?_,fun a d=>?_⟩ (hK v ⟨aF,own⟩ (p v aF s (fun b hb off sp=>?_) hR))
   .have t:=hle.has w (j.right hw)
    have hF:=j.left hw
    exact ⟨t.ro,hF.own,hF.nodup,fun a v e=>n a (by simp only at e;simp[e])⟩
   .simp only[af.star,cu,List.mem_append];exact .inr hb
   .rcases hle.ro a d with x|x
    .exact (gE (.inr x)).imp id (fun z=>by simp only[af.star,cu,List.mem_append];exact .inr z)
    .exact .inr (by simp only[af.star,cu,List.mem_append];exact .inl x)
   .cases e:aF ⟨b,off,sp⟩ with
    |none=>rfl
    |some v=>exact absurd hb (n ⟨b,off,sp⟩ (by simp[e]))
  refine hJ.mono ⟨fun w hw=>m.both (l w hw) (k w hw),fun b hb=>?_,fun a d=>?_⟩ (r m q)
  .simpa [af.star,F] using hb
  .rcases jF d with x|x
   .cases x
   .exact .inl x
 .exact hJ.step fun w hF=>absurd ⟨w,hF⟩ hw
end
attribute [go_sem] beq_self_eq_true beq_iff_eq beq_true beq_false Int.toNat_natCast Int.natCast_nonneg Int.ofNat_lt Nat.zero_mul Nat.mul_one List.length_map Bool.not_eq_true Bool.not_not decide_not
inductive Fl (σ ρ:Type) where
 |nx (s:σ)
 |bk (s:σ)
 |br (k:Nat) (s:σ)
 |rt (r:ρ)
def ai {α β:Type}(x:Option α)(f:α->Option β):Option β:=match x with
 |some a=>f a
 |none=>none
theorem eu {α β:Type}{x:Option α}{f:α->Option β}{r:β}(h:ai x f=some r):∃a,x=some a/\f a=some r:=by
 cases x with
 |none=>cases h
 |some a=>exact ⟨a,rfl,h⟩
theorem nE {α:Type}{b:Bool}{x y:Option α}{r:α}(h:cond b x y=some r):(b=true/\x=some r)\/(b=false/\y=some r):=by
 cases b
 .exact .inr ⟨rfl,h⟩
 .exact .inl ⟨rfl,h⟩
def az {σ ρ τ:Type}(o:Fl σ ρ)(f:σ->Option τ)(g:Nat->σ->Option τ)(h:ρ->Option τ):Option τ:=match o with
 | .nx s=>f s
 | .bk s=>f s
 | .br k s=>g k s
 | .rt r=>h r
def aQ {σ ρ:Type}(f:σ->Option (Fl σ ρ)):Nat->σ->Option (Fl σ ρ)
 |0,_=>none
 |n+1,s=>ai (f s) fun o=>match o with
  | .nx s'=>aQ f n s'
  | .bk s'=>some (.nx s')
  | .br k s'=>some (.br k s')
  | .rt r=>some (.rt r)
def b7 {α σ ρ:Type}(f:Nat->α->σ->Option (Fl σ ρ)):Nat->List α->σ->Option (Fl σ ρ)
 |_,[],s=>some (.nx s)
 |i,x::l,s=>ai (f i x s) fun o=>match o with
  | .nx s'=>b7 f (i+1) l s'
  | .bk s'=>some (.nx s')
  | .br k s'=>some (.br k s')
  | .rt r=>some (.rt r)
def fu:Nat:=1000000000000000000
def bD {α:Type}(l:List α)(i:Int):Option α:=if 0<=i then l[i.toNat]? else none
theorem cG {α:Type}{l:List α}{i:Int}{x:α}(h:bD l i=some x):0<=i/\i<l.length/\l[i.toNat]?=some x:=by
 unfold bD at h;split at h
 .rename_i a;obtain ⟨hi,_⟩:=List.getElem?_eq_some_iff.1 h;exact ⟨a,aa,h⟩
 .cases h
def jI {α:Type}(l xs:List α):Option (List α):=if l.length+xs.length<=1000000 then some (l++xs) else none
theorem nF {α:Type}{l xs r:List α}(h:jI l xs=some r):l.length+xs.length<=1000000/\r=l++xs:=by
 unfold jI at h;split at h
 .rename_i a;cases h;exact ⟨a,rfl⟩
 .cases h
def lU {α:Type}(l:List α)(lo hi:Int):Option (List α):=if 0<=lo/\lo<=hi/\hi<=l.length then some ((l.take hi.toNat).drop lo.toNat) else none
theorem zS {α:Type}{l r:List α}{lo hi:Int}(h:lU l lo hi=some r):0<=lo/\lo<=hi/\hi<=l.length/\r=(l.take hi.toNat).drop lo.toNat:=by
 unfold lU at h;split at h
 .rename_i a;cases h;exact ⟨a.1,a.2.1,a.2.2,rfl⟩
 .cases h
def gR (a b:Int):Option Int:=if b=0 then none else some (IntKind.i64.wrap (a.tdiv b))
theorem r6 {a b r:Int}(h:gR a b=some r):¬b=0/\IntKind.i64.wrap (a.tdiv b)=r:=by
 unfold gR at h;split at h
 .cases h
 .rename_i c;cases h;exact ⟨c,rfl⟩
def fD (a b:Int):Option Int:=if b=0 then none else some (a.tmod b)
theorem jJ {a b r:Int}(h:fD a b=some r):¬b=0/\a.tmod b=r:=by
 unfold fD at h;split at h
 .cases h
 .rename_i c;cases h;exact ⟨c,rfl⟩
def ES (a b:Int):Int:=IntKind.i64.wrap (BitVec.ofInt 64 a&&& BitVec.ofInt 64 b).toNat
theorem ET (a b:Int):IntKind.i64.wrap (BitVec.ofInt IntKind.i64.bits a&&& BitVec.ofInt IntKind.i64.bits b).toNat=ES a b:=rfl
attribute [go_sem ↓] ET
def EU (a b:Int):Int:=IntKind.u8.wrap (BitVec.ofInt 8 a&&& BitVec.ofInt 8 b).toNat
theorem EV (a b:Int):IntKind.u8.wrap (BitVec.ofInt IntKind.u8.bits a&&& BitVec.ofInt IntKind.u8.bits b).toNat=EU a b:=rfl
attribute [go_sem ↓] EV
def iO (a b:Int):Option Int:=if b<0 then none else some (IntKind.u64.wrap (a*2 ^ min b.toNat IntKind.u64.bits))
theorem nG {a b r:Int}(h:iO a b=some r):¬b<0/\IntKind.u64.wrap (a*2 ^ min b.toNat IntKind.u64.bits)=r:=by
 unfold iO at h;split at h
 .cases h
 .rename_i c;cases h;exact ⟨c,rfl⟩
def kP (a b:Int):Option Int:=if b<0 then none else some (a.fdiv (2 ^ min b.toNat IntKind.u64.bits))
theorem vp {a b r:Int}(h:kP a b=some r):¬b<0/\a.fdiv (2 ^ min b.toNat IntKind.u64.bits)=r:=by
 unfold kP at h;split at h
 .cases h
 .rename_i c;cases h;exact ⟨c,rfl⟩
def fE (a b:Int):Int:=IntKind.u64.wrap (BitVec.ofInt 64 a&&& BitVec.ofInt 64 b).toNat
theorem EW (a b:Int):IntKind.u64.wrap (BitVec.ofInt IntKind.u64.bits a&&& BitVec.ofInt IntKind.u64.bits b).toNat=fE a b:=rfl
def gI (a b:Int):Int:=IntKind.u64.wrap (BitVec.ofInt 64 a ^^^ BitVec.ofInt 64 b).toNat
theorem EX (a b:Int):IntKind.u64.wrap (BitVec.ofInt IntKind.u64.bits a ^^^ BitVec.ofInt IntKind.u64.bits b).toNat=gI a b:=rfl
def vq (a b:Int):Int:=IntKind.u64.wrap (BitVec.ofInt 64 a|||BitVec.ofInt 64 b).toNat
theorem EY (a b:Int):IntKind.u64.wrap (BitVec.ofInt IntKind.u64.bits a|||BitVec.ofInt IntKind.u64.bits b).toNat=vq a b:=rfl
def vr (a b:Int):Int:=IntKind.u64.wrap (BitVec.ofInt 64 a&&& ~~~(BitVec.ofInt 64 b)).toNat
theorem EZ (a b:Int):IntKind.u64.wrap (BitVec.ofInt IntKind.u64.bits a&&& ~~~(BitVec.ofInt IntKind.u64.bits b)).toNat=vr a b:=rfl
attribute [go_sem ↓] EW EX EY EZ
def nJ (l:List UInt8)(i:Int):Option Int:=if 0<=i then (l[i.toNat]?).map fun b=>(b.toNat:Int) else none
theorem zT {l:List UInt8}{i x:Int}(h:nJ l i=some x):0<=i/\∃y:UInt8,l[i.toNat]?=some y/\(y.toNat:Int)=x:=by
 unfold nJ at h;split at h
 .rename_i a;obtain ⟨y,b,e⟩:=Option.map_eq_some_iff.1 h;exact ⟨a,y,b,e⟩
 .cases h
theorem dY {n:Nat}(h:n<1000000000000000):IntKind.i64.wrap ((n:Int)+1)=((n+1:Nat):Int):=by
 simp only[IntKind.wrap,IntKind.bits,IntKind.signed];simp;omega
theorem e4 {α:Type}{l:List α}{i:Nat}{x:α}(h:l[i]?=some x):l.drop i=x::l.drop (i+1):=by
 obtain ⟨hi,rfl⟩:=List.getElem?_eq_some_iff.1 h;exact List.drop_eq_getElem_cons hi
theorem cast_zero:((0:Nat):Int)=0:=rfl
attribute [go_sem] cast_zero
theorem E0 (l:List Value)(i j:Nat):(l.toArray).extract i j=((l.drop i).take (j - i)).toArray:=by
 apply Array.ext';simp[List.extract_eq_drop_take]
attribute [go_sem] E0
structure cm (T:Type) where
 n:Nat
 rel:(Addr->Option Value)->T->List Value->Prop
 mono:∀{ro aF:Addr->Option Value} {x:T} {cs:List Value},Ext ro aF->rel ro x cs->rel aF x cs
 len:∀{ro:Addr->Option Value} {x:T} {cs:List Value},rel ro x cs->cs.length=n
 one:∀{ro:Addr->Option Value} {x:T} {cs:List Value},rel ro x cs->∀v∈cs,dP v=true
def lV {T:Type}(n:Nat)(c:T->List Value)(h:∀x,(c x).length=n)(a:∀x,∀v∈c x,dP v=true):cm T:=
 ⟨n,fun _ x cs=>cs=c x,fun _ h=>h,fun e=>by rw[e];exact h _,fun e=>by rw[e];exact a _⟩
def rI:cm Int:=lV 1 (fun n=>[.int .i64 n]) (fun _=>rfl) (fun _ v hv=>by simp at hv;subst hv;rfl)
def rB:cm Bool:=lV 1 (fun n=>[.bool n]) (fun _=>rfl) (fun _ v hv=>by simp at hv;subst hv;rfl)
def aH {T:Type}(r:cm T)(ro:Addr->Option Value)(s:Value)(l:List T):Prop:=
 ∃ad cap,s= .slice ad l.length cap/\l.length<=cap/\l.length<=1000000000000000/\∀i x,l[i]?=some x->∃p cs,ad=some p/\r.rel ro x cs/\∀j v,cs[j]?=some v->ro ((p.add (i*r.n)).add j)=some v
theorem aH.mono {T:Type}{r:cm T}{ro aF:Addr->Option Value}{s:Value}{l:List T}(h:aH r ro s l)(a:Ext ro aF):aH r aF s l:=by
 obtain ⟨ad,cap,b,c,d,e⟩:=h;refine ⟨ad,cap,b,c,d,fun i x hi=>?_⟩;obtain ⟨p,cs,f,g,hm⟩:=e i x hi;exact ⟨p,cs,f,r.mono a g,fun j v hv=>a _ _ (hm j v hv)⟩
theorem aH.nil {T:Type}(r:cm T)(ro:Addr->Option Value):aH r ro (.slice none 0 0) []:=⟨none,0,rfl,Nat.le_refl _,an,fun i x h=>by simp at h⟩
def rL {T:Type}(r:cm T):cm (List T):=
 ⟨1,fun ro l cs=>∃s,cs=[s]/\aH r ro s l,fun c ⟨s,a,b⟩=>⟨s,a,b.mono c⟩,fun ⟨s,a,_⟩=>by rw[a];rfl,fun ⟨s,a,ad,cap,b,_⟩ v hv=>by rw[a] at hv;simp at hv;subst hv;rw[b];rfl⟩
theorem aH.part {T:Type}{r:cm T}{ro:Addr->Option Value}{ad:Option Addr}{cap:Nat}{l:List T}(h:aH r ro (.slice ad l.length cap) l)(lo hi:Nat)(g:lo<=hi)(k:hi<=l.length):
  aH r ro (.slice (if cap=lo then ad else ad.map (·.add (lo*r.n))) (hi - lo) (cap - lo)) ((l.take hi).drop lo):=by
 obtain ⟨m,o,e,q,s,b⟩:=h
 cases e
 have hlen:((l.take hi).drop lo).length=hi - lo:=by simp;omega
 refine ⟨_,cap - lo,by rw[hlen],by rw[hlen];omega,by rw[hlen];omega,fun i x a=>?_⟩
 rw[List.getElem?_drop,List.getElem?_take] at a
 split at a
 case isFalse=>cases a
 obtain ⟨p,cs,c,d,hm⟩:=b _ x a
 have t:lo+i<l.length:=(List.getElem?_eq_some_iff.1 a).1
 refine ⟨p.add (lo*r.n),cs,?_,d,fun j v hv=>?_⟩
 .have f:¬cap=lo:=aa
  rw[if_neg f,c];rfl
 .have:=hm j v hv
  rw[kN] at this
  rw[kN,kN]
  rw[show lo*r.n+(i*r.n+j)=(lo+i)*r.n+j by rw[Nat.add_mul];omega]
  exact this
def Apart (ks:List Nat)(bn:List (Nat×Obj)):Prop:=∀k∈keys bn,k∉ks
theorem Apart.nil (ks:List Nat):Apart ks []:=fun k h=>(by cases h)
theorem lW:∀{l:List (Nat×Obj)} {b:Nat},aN l b->b∉keys l
 |[],_,_=>by simp[keys]
 |(c,o)::l,b,h=>by simp only[keys,List.map_cons,List.mem_cons,not_or];exact ⟨h.1,lW h.2⟩
theorem lX:∀{l:List (Nat×Obj)} {b:Nat},b∉keys l->aN l b
 |[],_,_=>trivial
 |(c,o)::l,b,h=>by simp only[keys,List.map_cons,List.mem_cons,not_or] at h;exact ⟨h.1,lX h.2⟩
theorem Apart.push {ks:List Nat}{bn:List (Nat×Obj)}{b:Nat}(h:Apart ks bn)(hb:aN bn b):Apart (b::ks) bn:=fun k a=>by
 simp only[List.mem_cons,not_or]
 exact ⟨fun e=>lW hb (e▸a),h k a⟩
theorem Apart.drop {ks:List Nat}{bn:List (Nat×Obj)}{b:Nat}(h:Apart (b::ks) bn):Apart ks bn:=fun k a=>(by have:=h k a;simp only[List.mem_cons,not_or] at this;exact this.2)
def aW {T:Type}(r:cm T)(ro:Addr->Option Value)(e:TypeId)(v:Value)(l:List T)(bn:List (Nat×Obj)):Prop:=
 ∃ls:List (List Value),Gr ro e r.n v ls bn/\ls.length=l.length/\l.length<=1000000/\∀(i:Nat) (x:T),l[i]?=some x->∃cs:List Value,ls[i]?=some cs/\r.rel ro x cs
theorem aW.nil {T:Type}(r:cm T)(ro:Addr->Option Value)(e:TypeId):aW r ro e (.slice none 0 0) [] []:=⟨[],.inl ⟨rfl,rfl,rfl⟩,rfl,an,fun i x h=>by simp at h⟩
theorem aW.len {T:Type}{r:cm T}{ro:Addr->Option Value}{e:TypeId}{v:Value}{l:List T}{bn:List (Nat×Obj)}(h:aW r ro e v l bn):∃ad cap,v= .slice ad l.length cap/\l.length<=cap:=by
 obtain ⟨ls,hg,a,-⟩:=h;rcases hg with ⟨rfl,rfl,rfl⟩|⟨b,arr,cap,rfl,rfl,hs,hle,-⟩
 .exact ⟨none,0,by rw[<-a];rfl,by rw[<-a];exact Nat.le_refl _⟩
 .exact ⟨_,cap,by rw[a],aa⟩
def bg (ro:Addr->Option Value)(own:List (Nat×Obj)):Prop:=∀b∈keys own,∀off sp,ro ⟨b,off,sp⟩=none
theorem aW.mono {T:Type}{r:cm T}{ro aF:Addr->Option Value}{e:TypeId}{v:Value}{l:List T}{bn:List (Nat×Obj)}(h:aW r ro e v l bn)(d:Ext ro aF)(hn:bg aF bn):aW r aF e v l bn:=by
 obtain ⟨ls,hg,f,hm,g⟩:=h;refine ⟨ls,?_,f,hm,fun i x hi=>?_⟩
 .rcases hg with h|⟨b,arr,cap,c,a,j,k,m,n,o⟩
  .exact .inl h
  .exact .inr ⟨b,arr,cap,c,a,j,k,m,n,hn b (by rw[a];simp[keys])⟩
 .obtain ⟨cs,c,a⟩:=g i x hi;exact ⟨cs,c,r.mono d a⟩
theorem Apart.fresh {pre bn:List (Nat×Obj)}{ks:List Nat}(h:Apart ks bn)(a:keys pre=ks):∀k∈keys bn,aN pre k:=fun k b=>lX (by rw[a];exact h k b)
theorem nL {n:Nat}:∀(ls:List (List Value)) (i:Nat) (cs:List Value),(∀x∈ls,x.length=n)->ls[i]?=some cs->∀j v,cs[j]?=some v->ls.flatten[i*n+j]?=some v
 |[],i,cs,_,h,_,_,_=>by simp at h
 |y::ls,0,cs,hn,h,j,v,hv=>by
  simp at h;subst h
  have:j<y.length:=(List.getElem?_eq_some_iff.1 hv).1
  simp only[Nat.zero_mul,Nat.zero_add,List.flatten_cons]
  rw[List.getElem?_append_left this]
  exact hv
 |y::ls,i+1,cs,hn,h,j,v,hv=>by
  simp at h
  have ih:=nL ls i cs (fun x b=>hn x (by simp[b])) h j v hv
  have a:=hn y an
  simp only[List.flatten_cons]
  rw[List.getElem?_append_right (by rw[a,Nat.add_mul];omega)]
  rw[show (i+1)*n+j - y.length=i*n+j by rw[a,Nat.add_mul];omega]
  exact ih
theorem aW.vt {T:Type}{r:cm T}{ro:Addr->Option Value}{e:TypeId}{v:Value}{l:List T}{bn:List (Nat×Obj)}{ks:List Nat}(h:aW r ro e v l bn)(pre:List (Nat×Obj))(k:Apart ks bn)(m:keys pre=ks)(hn:bg ro pre):
  ∃aF,Ext ro aF/\bg aF pre/\aH r aF v l/\Le ⟨aF,pre⟩ ⟨ro,pre++bn⟩:=by
 obtain ⟨ls,hg,d,hm,o⟩:=h
 rcases hg with ⟨rfl,rfl,rfl⟩|⟨b,arr,cap,rfl,rfl,hs,hle,ht,f,p⟩
 .have:l=[]:=List.eq_nil_of_length_eq_zero (by simpa using d.symm)
  subst this
  exact ⟨ro,Ext.refl ro,hn,aH.nil r ro,by rw[List.append_nil];exact Le.refl _⟩
 .have hb:b∉keys pre:=by rw[m];exact k b (by simp[keys])
  refine ⟨b9 ro b (.cells arr e),gQ _ _ _,fun c g off sp=>?_,⟨some ⟨b,0,none⟩,cap,by rw[d],aa,aa,fun i x hi=>?_⟩,lT ?_ (List.sublist_append_left _ _) (lX hb)⟩
  .have q:¬c=b:=fun e=>hb (e▸g)
   simp[b9,hn c g,q]
  .obtain ⟨cs,s,t⟩:=o i x hi
   refine ⟨_,cs,rfl,r.mono (gQ _ _ _) t,fun j v hv=>?_⟩
   have a:=nL ls i cs f s j v hv
   rw[kN,jH,Nat.zero_add,eY p]
   have u:i*r.n+j<ls.length*r.n:=by
    have:=(List.getElem?_eq_some_iff.1 a).1
    rw[iM f] at this
    exact this
   rw[<-ht,List.getElem?_take_of_lt u] at a
   simpa [cellOf] using a
  .have:∀(pre:List (Nat×Obj)),b∉keys pre->lk (pre++[(b,Obj.cells arr e)]) b=some (.cells arr e):=fun pre h=>u6 (lX h)
   exact this pre hb
theorem aW.elem {T:Type}{r:cm T}{ro:Addr->Option Value}{e:TypeId}{v:Value}{l:List T}{bn:List (Nat×Obj)}(h:aW r ro e v l bn){i:Nat}{x:T}(hi:l[i]?=some x):
  ∃b arr cap cs,v= .slice (some ⟨b,0,none⟩) l.length cap/\bn=[(b,.cells arr e)]/\(∀off sp,ro ⟨b,off,sp⟩=none)/\r.rel ro x cs/\∀j v,cs[j]?=some v->arr[i*r.n+j]?=some v:=by
 obtain ⟨ls,hg,f,hm,g⟩:=h
 obtain ⟨cs,c,k⟩:=g i x hi
 rcases hg with ⟨rfl,rfl,rfl⟩|⟨b,arr,cap,rfl,rfl,hs,hle,ht,d,m⟩
 .simp at c
 .refine ⟨b,arr,cap,cs,by rw[f],rfl,m,k,fun j v hv=>?_⟩
  have a:=nL ls i cs d c j v hv
  have o:i*r.n+j<ls.length*r.n:=by
   have:=(List.getElem?_eq_some_iff.1 a).1
   rw[iM d] at this
   exact this
  rw[<-ht,List.getElem?_take_of_lt o] at a
  simpa using a
theorem aY {ro:Addr->Option Value}{own:List (Nat×Obj)}:Ext ro (af.dQ ⟨ro,own⟩).ro:=fun a v h=>by simp[af.dQ,af.get,h]
theorem j6 {ro:Addr->Option Value}{own:List (Nat×Obj)}{F:af}(h:Knows ⟨ro,own⟩ F):Ext ro F.dQ.ro:=fun a v b=>by
 have:F.ro a=some v:=h.1 a v b
 simp[af.dQ,af.get,this]
theorem aH.zU {T:Type}{r:cm T}{ro:Addr->Option Value}{ad:Option Addr}{cap:Nat}{l x:List T}(h:aH r ro (.slice ad l.length cap) l)(lo hi:Nat)(b:lo<=hi)(c:hi<=l.length)(d:x=(l.take hi).drop lo):
  ∃a,(if cap=lo then ad else ad.map (·.add (lo*r.n)))=a/\hi - lo=x.length/\aH r ro (.slice a x.length (cap - lo)) x:=by
 subst d
 have hlen:((l.take hi).drop lo).length=hi - lo:=by simp;omega
 refine ⟨_,rfl,hlen.symm,?_⟩
 rw[hlen]
 exact h.part lo hi b c
theorem aH.one {T:Type}{r:cm T}{ro:Addr->Option Value}{own:List (Nat×Obj)}{b:Nat}{x:T}{cs:Array Value}{e:TypeId}(a:∀off sp,ro ⟨b,off,sp⟩=none)(c:lk own b=some (.cells cs e))(h:r.rel ro x cs.toList):
  aH r (b9 ro b (.cells cs e)) (.slice (some ⟨b,0,none⟩) 1 1) [x]:=by
 refine ⟨some ⟨b,0,none⟩,1,rfl,Nat.le_refl _,an,fun i y hi=>?_⟩
 have:i=0/\y=x:=by
  cases i with
  |zero=>simp at hi;exact ⟨rfl,hi.symm⟩
  |succ i=>simp at hi
 obtain ⟨rfl,rfl⟩:=this
 refine ⟨_,_,rfl,r.mono (gQ _ _ _) h,fun j v hv=>?_⟩
 rw[Nat.zero_mul,add_zero',jH,Nat.zero_add,eY a]
 simpa [cellOf] using hv
theorem aH.flat {T:Type}{r:cm T}{ro:Addr->Option Value}{b:Nat}{cs:Array Value}{e:TypeId}(c:T->List Value)(l:List T)(a:∀x,r.rel ro x (c x))(d:∀off sp,ro ⟨b,off,sp⟩=none)(f:cs.toList=(l.map c).flatten)(hlen:l.length<=1000000000000000):
  aH r (b9 ro b (.cells cs e)) (.slice (some ⟨b,0,none⟩) l.length l.length) l:=by
 refine ⟨some ⟨b,0,none⟩,l.length,rfl,Nat.le_refl _,hlen,fun i x hi=>⟨_,c x,rfl,r.mono (gQ _ _ _) (a x),fun j v hv=>?_⟩⟩
 have g:(l.map c)[i]?=some (c x):=by rw[List.getElem?_map,hi];rfl
 have hn:∀y∈l.map c,y.length=r.n:=fun y h=>by
  obtain ⟨z,_,rfl⟩:=List.mem_map.1 h
  exact r.len (a z)
 have:=nL (l.map c) i (c x) hn g j v hv
 rw[jH,jH,Nat.zero_add,eY d]
 rw[<-f] at this
 simpa [cellOf] using this
theorem gb {ro:Addr->Option Value}{own:List (Nat×Obj)}{b:Nat}{o:Obj}(e:lk own b=some o):Ext (b9 ro b o) (af.dQ ⟨ro,own⟩).ro:=fun a v h=>by
 unfold b9 at h
 simp only[af.dQ,af.get]
 split at h
 .rename_i x c;rw[c];exact h
 .rename_i c
  split at h
  .rename_i d
   rw[c]
   simp only
   rw[if_pos d.2,d.1,e]
   exact h
  .cases h
theorem aW.bd {T:Type}{r:cm T}{ro:Addr->Option Value}{e:TypeId}{v:Value}{l:List T}{bn:List (Nat×Obj)}(h:aW r ro e v l bn):l.length<=1000000:=by
 obtain ⟨ls,_,_,hm,_⟩:=h;exact hm
theorem aE.vt {P:Program}{f:FuncId}{args:Array Value}{ro:Addr->Option Value}{R:Value->Prop}(h:aE P f args ⟨ro,[]⟩ (fun v _=>R v)):aE P f args ⟨ro,[]⟩ (fun v G=>R v/\G=⟨ro,[]⟩):=by
 intro main J hJ c cs hK
 exact uL (F:=⟨ro,[]⟩) (R:=R) (by
  have e:af.dQ ⟨ro,[]⟩=⟨ro,[]⟩:=by
   simp only[af.dQ,af.mk.injEq,and_true];funext a;simp only[af.get];cases ro a with
   |none=>simp[lk]
   |some v=>rfl
  rw[e];exact h) main J hJ c cs hK
end Go.Sep
end
section
namespace Go.Sep
open Go Go.Conc Go.ConcM
open Go.ConcN (sumTo upd sumTo_upd upd_ne upd_same)
def eD (P:Program)(Φ:Goroutine->af->Prop)(g:Goroutine)(F:af):Prop:=
 ∀(bl:Loc->Prop) (gs:Array Goroutine) (w:World) (sl:Option (Nat×Nat)) (t:Trace) (q:Nat->Nat),ja P bl g F gs w t q->
  ∃(N:Nat) (gs':Array Goroutine) (w':World) (c:Option (Nat×Nat)) (a:Trace) (d:Nat->Nat) (g':Goroutine) (F':af) (b:Loc->Prop),
   runNT P N (crowd gs w sl) t=(.next (crowd gs' w' c),a)/\ja P b g' F' gs' w' a d/\fL F F' w w'/\(∀l,b l->bl l\/¬l.low w.heap.size)/\Φ g' F'
theorem eD.done {P:Program}{Φ:Goroutine->af->Prop}{g:Goroutine}{F:af}(h:Φ g F):eD P Φ g F:=
 fun bl gs w sl t q a=>⟨0,gs,w,sl,t,q,g,F,bl,rfl,a,.refl _ _,fun _ h=>.inl h,h⟩
theorem qg (P:Program)(Φ:Goroutine->af->Prop):Closed P true (eD P Φ) where
 mono hle h bl gs w sl t q b:=by
  obtain ⟨N,gs',w',v,z,A,g',F',B,g,C,hu,D,E⟩:=h bl gs w sl t q ⟨b.g0,b.lv,b.past,hle.has w b.has,fun l hs H=>b.apart l hs (hle.iq H),b.low⟩
  exact ⟨N,gs',w',v,z,A,g',F',B,g,C,hu.le hle,D,E⟩
 step {fr cs F} h bl gs w sl t q b:=by
  obtain ⟨N,k,d,d',a2,m,t1,I,g,a3,o,p,J,K⟩:=zn (P:=P) (a:=G fr cs) rfl _ gs w sl t q (Nat.le_refl _) b.g0 b.lv b.past
  obtain ⟨g',w',es,F',hgo,hu,L,M,hJ⟩:=h (w.at d') (b.has.at d')
  have c:dO F F' w w':=⟨hu.os,hu.tape,hu.output,hu.size,hu.frame,hu.ro,hu.own⟩
  have O:=runT_crowd_go (P:=P) (sl:=m) (i:=0) o (show stepG P (0==0) (G fr cs) (w.at d')=_ from hgo)
  have Q:0<k.size:=(Array.getElem?_eq_some_iff.1 o).1
  have r:=ja.next (P:=P) b.apart b.low c
  obtain ⟨R,S,w2,T,t2,U,V,W,X,Y,Z,ab,ad,ae⟩:=hJ bl ((k.map (woken P (G fr cs) g' w')).setIfInBounds 0 g') w' m (t1++MemOp.ofEvents 0 (G fr cs).frame.fn (G fr cs).frame.place es) I
   {g0:=by simp[Q]
    lv:=⟨fun j x f s=>by
     have al:0≠j:=aa
     rw[Array.getElem?_setIfInBounds_ne al,Array.getElem?_map] at s
     obtain ⟨y,ao,rfl⟩:=Option.map_eq_some_iff.1 s
     have u:=p.old j y f ao
     rw[woken_quitsD u,Deaf_other t1 aa _ (fun op n=>by obtain ⟨e,_,rfl⟩:=Go.Conc.mem_ofEvents n;rfl)]
     exact u,fun j f=>by
     rw[Deaf_other t1 (g':=0) (by simp at f;omega) _ (fun op n=>by obtain ⟨e,_,rfl⟩:=Go.Conc.mem_ofEvents n;rfl)]
     exact p.above j (by simpa using f)⟩
    past:=(J.mono c.size).own fun e he=>zo b.has c.size b.apart b.low (M e he)
    has:=L
    apart:=r.1
    low:=r.2}
  refine ⟨N+1+R,S,w2,T,t2,U,V,W,X,?_,Z,(fL.uJ c).trans ab,fun l ar=>(ad l ar).imp id fun hn a0=>hn (Loc.low_mono c.size a0),ae⟩
  have:runNT P (N+1) (crowd gs w sl) t=(.next (crowd ((k.map (woken P (G fr cs) g' w')).setIfInBounds 0 g') w' m),t1++MemOp.ofEvents 0 (G fr cs).frame.fn (G fr cs).frame.place es):=by
   rw[runNT_add,g]
   simp only[runNT,K,O]
  rw[kK this]
  exact Y
def gd (P:Program)(f:FuncId)(args:Array Value)(F:af)(R:Value->af->Prop):Prop:=∀Φ,dh P (eD P Φ) f args F R
theorem zV {P:Program}{f:FuncId}{args:Array Value}{ro:Addr->Option Value}{own:List (Nat×Obj)}{R:Value->af->Prop}(h:gd P f args ⟨ro,[]⟩ R):
  gd P f args ⟨ro,own⟩ (fun v F'=>∃G,R v G/\F'=G.star ⟨ro,own⟩/\Fits ⟨ro,own⟩ G/\kO ⟨ro,own⟩ G):=by
 intro Φ c cs hK bl gs w sl t q d
 let Fr:af:=⟨ro,own⟩
 have E:ja P bl (G (Frame.enter P f args .normal) (c::cs)) ⟨ro,[]⟩ gs w t q:=
  ⟨d.g0,d.lv,d.past,⟨d.has.ro,fun b o hb=>(by cases hb),List.nodup_nil,fun a v j hm=>(by cases hm)⟩,fun l hs i=>d.apart l hs (by
   cases l with
   |cell a=>exact i.elim (fun x=>by cases x) .inr
   |obj r=>cases i
   |_=>exact i),d.low⟩
 obtain ⟨N,gs',w',F,p,s,g',F',u,j,g,hu,n,v,rfl,hR⟩:=h (fun g' F'=>∃v,g'=G (c.finish v) cs/\R v F') c cs (fun v F' hR=>eD.done ⟨v,rfl,hR⟩) bl gs w sl t q E
 have A:Has Fr w':=⟨fun a v j=>by
  have B:=d.has.ro a v j
  have H:=d.has.ij (a:=a) (by rw[j];rfl)
  unfold World.cell? at B ⊢
  rw[hu.frame _ H (fun hm=>by cases hm)]
  exact B,fun b o hb=>by
  rw[hu.frame b (d.has.lt (fA hb)) (fun hm=>by cases hm)]
  exact d.has.own b o hb,d.has.nodup,d.has.apart⟩
 have C:Fits Fr F':=⟨⟨w',g.has,A⟩,fun b hb hm=>by
  rcases hu.own b hb with x|x
  .cases x
  .have:=d.has.lt (b:=b) hm;omega,fun a k hm=>by
  rcases hu.own _ hm with x|x
  .cases x
  .have:=d.has.ij (a:=a) k;omega⟩
 have I:kO Fr F':=fun a k hm=>by
  rcases hu.ro a k with x|x|x
  .obtain ⟨y,J⟩:=Option.isSome_iff_exists.1 x
   exact d.has.apart a y J hm
  .cases x
  .have:=d.has.lt (b:=a.block) hm;omega
 have K:ja P u (G (c.finish v) cs) (F'.star Fr) gs' w' p s:=by
  refine ⟨g.g0,g.lv,g.past,C.both g.has A,fun l hs i=>?_,g.low⟩
  have D:∀b,b∈keys own->(l= .obj b\/∃a,l= .cell a/\a.block=b)->False:=fun b hb m=>by
   rcases n l hs with x|x
   .refine d.apart l x ?_
    rcases m with rfl|⟨a,rfl,e⟩
    .exact hb
    .exact .inl (e▸hb)
   .refine x ?_
    have:=d.has.lt (b:=b) hb
    rcases m with rfl|⟨a,rfl,e⟩
    .exact this
    .show a.block<_;rw[e];exact this
  cases l with
  |cell a=>
   rcases i with x|x
   .simp only[af.star,cu,List.mem_append] at x
    rcases x with x|x
    .exact g.apart _ hs (.inl x)
    .exact D _ x (.inr ⟨a,rfl,rfl⟩)
   .rcases jF x with y|y
    .rcases n _ hs with z|z
     .exact d.apart _ z (.inr y)
     .exact z (d.has.ij (a:=a) y)
    .exact g.apart _ hs (.inr y)
  |obj r=>
   simp only[af.iq,af.star,cu,List.mem_append] at i
   rcases i with x|x
   .exact g.apart _ hs x
   .exact D _ x (.inl rfl)
  |_=>exact i
 obtain ⟨L,M,w2,O,t2,Q,S,T,U,V,W,X,Y,Z⟩:=hK v (F'.star Fr) ⟨F',hR,rfl,C,I⟩ u gs' w' F p s K
 have ab:fL ⟨ro,own⟩ (F'.star Fr) w w':=⟨hu.os,hu.tape,hu.output,hu.size,fun b hb hn=>hu.frame b hb (fun x=>by cases x),fun a k=>by
  rcases jF k with y|y
  .exact .inl y
  .rcases hu.ro a y with z|z|z
   .exact .inl z
   .cases z
   .exact .inr (.inr z),fun b hb=>by
  simp only[af.star,cu,List.mem_append] at hb
  rcases hb with x|x
  .rcases hu.own b x with y|y
   .cases y
   .exact .inr y
  .exact .inl x⟩
 exact ⟨N+L,M,w2,O,t2,Q,S,T,U,by rw[kK j];exact V,W,ab.trans X,fun l m=>(Y l m).elim (n l) fun hn=>.inr fun ad=>hn (Loc.low_mono hu.size ad),Z⟩
theorem gd.go {P:Program}{f:FuncId}{fn:Func}{c:Code}{n:Nat}{rs:List ResultVar}{args:Array Value}{F:af}{R:Value->af->Prop}(d:P.funcs[f]?=some fn)(hb:fn.body=some c)(hn:fn.ntmps=n)(g:fn.results=rs.toArray)(k:args.size<=n)
  (h:∀Φ,Closed P true (eD P Φ)->∀A:Act,sz A=n->A.defers=[]->(∀i,slot A i=args.getD i undef)->Wp (eD P Φ) c (iN P rs R) A F):gd P f args F R:=fun Φ=>by
 refine dh.of_wp (qg P Φ) d hb ?_
 refine (h Φ (qg P Φ) _ (by simp[sz,hn];omega) rfl fun i=>?_).mono fun e a F b=>?_
 .simp only[slot,hn,Array.getD_eq_getD_getElem?]
  rcases Nat.lt_or_ge i args.size with hi|hi
  .rw[Array.getElem?_append_left hi]
  .rw[Array.getElem?_append_right hi,Array.getElem?_replicate,Array.getElem?_eq_none hi]
   split<;>rfl
 .cases e with
  |exit i=>exact b
  |_=>
   obtain ⟨hd,hv⟩:=b
   split at hv
   .rename_i v j
    show iK P a.defers _ F
    rw[hd]
    exact rW g j hv
   .exact hv.elim
def nM (P:Program)(f:FuncId)(args:Array Value)(ro:Addr->Option Value)(R:Value->(Addr->Option Value)->Prop):Prop:=
 gd P f args ⟨ro,[]⟩ (fun v G=>∃aF,Ext ro aF/\Le ⟨aF,[]⟩ G/\R v aF)
theorem E1 {P:Program}{Φ:Goroutine->af->Prop}{f:FuncId}{args:Array Value}{ro:Addr->Option Value}{own:List (Nat×Obj)}{K:Value->af->Prop}(R:Value->(Addr->Option Value)->Prop)
  (h:nM P f args ro R) (j:∀v aF,Ext ro aF->(∀b∈keys own,∀off sp,aF ⟨b,off,sp⟩=none)->R v aF->K v ⟨aF,own⟩):dh P (eD P Φ) f args ⟨ro,own⟩ K:=by
 intro c cs hK
 refine zV (own:=own) h Φ c cs fun v F' k=>?_
 obtain ⟨G,⟨aF,l,hle,hR⟩,rfl,e,hn⟩:=k
 have i:∀a,(aF a).isSome=true->a.block∉keys own:=fun a g=>(hle.ro a g).elim (hn a) (e.own _)
 refine (qg P Φ).mono (F:=⟨aF,own⟩) ⟨fun w hw=>?_,fun b hb=>?_,fun a g=>?_⟩ (hK v ⟨aF,own⟩ (j v aF l (fun b hb off sp=>?_) hR))
 .have m:=hle.has w (e.right hw)
  have hF:=e.left hw
  exact ⟨m.ro,hF.own,hF.nodup,fun a v d=>i a (by simp only at d;simp[d])⟩
 .simp only[af.star,cu,List.mem_append];exact .inr hb
 .rcases hle.ro a g with x|x
  .exact (gE (.inr x)).imp id (fun z=>by simp only[af.star,cu,List.mem_append];exact .inr z)
  .exact .inr (by simp only[af.star,cu,List.mem_append];exact .inl x)
 .cases d:aF ⟨b,off,sp⟩ with
  |none=>rfl
  |some v=>exact absurd hb (i ⟨b,off,sp⟩ (by simp[d]))
theorem gu {P:Program}{Φ:Goroutine->af->Prop}{f:FuncId}{args:Array Value}{ro:Addr->Option Value}{own:List (Nat×Obj)}{K:Value->af->Prop}(v:Value)
  (h:gd P f args ⟨ro,[]⟩ (fun d _=>d=v)) (e:K v ⟨ro,own⟩):dh P (eD P Φ) f args ⟨ro,own⟩ K:=by
 intro c cs hK
 refine zV (own:=own) h Φ c cs fun d F' g=>?_
 obtain ⟨G,rfl,rfl,i,hn⟩:=g
 refine (qg P Φ).mono (F:=⟨ro,own⟩) ⟨fun w hw=>i.left hw,fun b hb=>?_,fun a j=>?_⟩ (hK d ⟨ro,own⟩ e)
 .simp only[af.star,cu,List.mem_append];exact .inr hb
 .exact (gE (.inl j)).imp id (fun z=>by simp only[af.star,cu,List.mem_append];exact .inr z)
end Go.Sep
end
section
namespace Go.Sep
open Go Go.Conc Go.ConcM
def zW (P:Program)(R:Value->af->Prop)(g:Goroutine)(F:af):Prop:=
 ∃(fr:Frame) (fn:Func) (t:Nat) (v:Value),g=G fr []/\fr.kind= .normal/\P.inits.idxOf? fr.fn=none/\fr.mode= .returning/\fr.defers=[]/\P.funcs[fr.fn]?=some fn/\fn.results=#[.tmp t]/\fr.tmps.getD t undef=v/\R v F
def iu (P:Program)(f:FuncId)(args:Array Value)(F:af)(R:Value->af->Prop):Prop:=
 ∀Φ:Goroutine->af->Prop,(∀g F',zW P R g F'->Φ g F')->eD P Φ (G (Frame.enter P f args .normal) []) F
theorem iu.go {P:Program}{f:FuncId}{fn:Func}{c:Code}{n t:Nat}{args:Array Value}{F:af}{R:Value->af->Prop}(g:P.funcs[f]?=some fn)(hb:fn.body=some c)(hn:fn.ntmps=n)(m:fn.results=[.tmp t].toArray)(v:args.size<=n)(hi:P.inits.idxOf? f=none)
  (h:∀Φ,Closed P true (eD P Φ)->∀A:Act,sz A=n->A.defers=[]->(∀i,slot A i=args.getD i undef)->Wp (eD P Φ) c (iN P [.tmp t] R) A F):iu P f args F R:=by
 intro Φ o
 have hJ:=qg P Φ
 let b:Frame:={(default:Frame) with fn:=f,kind:=.normal}
 have p:Frame.enter P f args .normal=on b {tmps:=args++Array.replicate (fn.ntmps - args.size) undef,defers:=[]} [.code c]:=by
  simp[Frame.enter,on,g,hb,b]
  rfl
 rw[p]
 have j:∀(a:Act) (F':af) (fr:Frame),fr.kind= .normal->fr.mode= .returning->fr.defers=a.defers->fr.fn=f->fr.tmps=a.tmps->iN P [.tmp t] R .normal a F'->eD P Φ (G fr []) F':=by
  intro a F' fr q r s k u d
  obtain ⟨hd,hv⟩:=d
  refine eD.done (o _ _ ⟨fr,fn,t,_,rfl,q,by rw[k];exact hi,r,by rw[s,hd],by rw[k];exact g,m,rfl,?_⟩)
  rw[u]
  simpa [lS,lR,qc,slot] using hv
 refine h Φ hJ _ (by simp[sz,hn];omega) rfl (fun i=>?_) b [] [] ⟨by simp[b],.inl rfl⟩ fun e l F' d=>?_
 .simp only[slot,hn,Array.getD_eq_getD_getElem?]
  rcases Nat.lt_or_ge i args.size with hi|hi
  .rw[Array.getElem?_append_left hi]
  .rw[Array.getElem?_append_right hi,Array.getElem?_replicate,Array.getElem?_eq_none hi]
   split<;>rfl
 .cases e with
  |normal=>exact hJ.move (fun _=>kI rfl) (j l F' _ rfl rfl rfl rfl rfl d)
  |exit i=>exact d.elim
  |ret=>exact fun w=>hJ.move (fun _=>stepG_ret' rfl) (j l F' _ rfl rfl rfl rfl rfl d)
theorem iu.ends {P:Program}{f:FuncId}{args:Array Value}{F:af}{R:Value->af->Prop}(h:iu P f args F R){W:World}(hF:Has F W){a:Value->World->Prop}
  (i:∀v F' w',R v F'->fL F F' W w'->a v w'):
  ∃M last o w' b,runNT P (M+1) (solo (G (Frame.enter P f args .normal) []) W) #[]=(.ended o w',b)/\runN P M (solo (G (Frame.enter P f args .normal) []) W)= .next last/\step P last= .ended o w'/\Go.Conc.Good P a last o w' b:=by
 obtain ⟨N,gs',w',j,b,z,g',F',k,g,c,hu,_,fr,fn,t,v,rfl,l,hi,m,n,p,q,r,s⟩:=h (zW P R) (fun _ _ x=>x) (fun _=>False) #[G (Frame.enter P f args .normal) []] W none #[] (fun _=>0)
  ⟨rfl,leavers_one P _,past_nil.mono (Nat.zero_le _),hF,fun _ x=>x.elim,fun _ x=>x.elim⟩
 have hg:Goes P true AtRel (fun _ _ _=>False) (AtEnd P k w'.heap.size a) 0 (G fr []) w':=by
  refine Goes.stop fun A ⟨d,hd⟩=>?_
  subst hd
  refine ⟨rfl,v,seen P fr.fn #[],?_,fun e he=>?_,i v F' _ s ⟨hu.os,hu.tape,hu.output,hu.size,hu.frame,hu.ro,hu.own⟩⟩
  .have u:fr.tmps[t]?.getD undef=v:=by rw[<-r,Array.getD_eq_getD_getElem?]
   simp[G,stepG,unwind,m,n,p,results,q,u,doReturn,GStep.after,Sem.runT,l,hi]
  .exact absurd (mem_seen he) an
 obtain ⟨w,last,o,w2,t2,e1,e2,e3,y⟩:=beside_ends (sl:=j) (fun _ _ _ x=>x.elim) c.g0 c.lv c.past hg
 refine ⟨N+w,last,o,w2,t2,?_,?_,e3,y⟩
 .rw[solo_eq_crowd,Nat.add_assoc,kK g,e1]
 .rw[solo_eq_crowd,runN_add]
  have:=runNT_fst P N (crowd #[G (Frame.enter P f args .normal) []] W none) #[]
  rw[g] at this
  rw[<-this]
  exact e2
end Go.Sep
end
section
namespace Go.Sep
open Go Go.Conc
theorem zX {F:af}{a:Addr}:∀(cs:List Value) (i:Nat),(∀j v,cs[j]?=some v->F.get (a.add (i+j))=some v)->F.dj a i cs.length=some cs
 |[],i,_=>rfl
 |v::cs,i,h=>by
  have b:=h 0 v rfl
  rw[Nat.add_zero] at b
  have ih:=zX cs (i+1) (fun j w hw=>by
   have:=h (j+1) w (by simpa using hw)
   rwa [show i+(j+1)=i+1+j by omega] at this)
  simp only[List.length_cons,af.dj,b,ih]
theorem zY {F:af}{a:Addr}:∀(m i k:Nat) (d c:List Value),F.dj a i m=some d->F.dj a (i+m) k=some c->F.dj a i (m+k)=some (d++c)
 |0,i,k,d,c,b,e=>by
  simp only[af.dj,Option.some.injEq] at b
  subst b
  rw[Nat.zero_add]
  simpa using e
 |m+1,i,k,d,c,b,e=>by
  unfold af.dj at b
  split at b
  case h_2=>cases b
  rename_i v hv
  split at b
  case h_2=>cases b
  rename_i vs f
  cases b
  have ih:=zY m (i+1) k vs c f (by rwa [show i+1+m=i+(m+1) by omega])
  rw[show m+1+k=(m+k)+1 by omega]
  simp only[af.dj,hv,ih,List.cons_append]
theorem aH.cells {T:Type}{r:cm T}{ro:Addr->Option Value}{ad:Option Addr}{c:Nat}{l:List T}(h:aH r ro (.slice ad l.length c) l)(F:af)(hF:∀a v,ro a=some v->F.get a=some v):
  ∃b:List (List Value),b.length=l.length/\(∀x∈b,x.length=r.n/\∀v∈x,dP v=true)/\(∀(i:Nat) (x:T),l[i]?=some x->∃cs,b[i]?=some cs/\r.rel ro x cs)/\gH F r.n (.slice ad l.length c)=some b.flatten:=by
 obtain ⟨C,D,e,_,_,he⟩:=h
 cases e
 cases m:l with
 |nil=>subst m;refine ⟨[],rfl,an,an,?_⟩;cases ad<;>simp[gH,af.dj]
 |cons x0 l0=>
  obtain ⟨p,E,w,-,-⟩:=he 0 x0 (by rw[m];rfl)
  subst w
  rw[<-m]
  have key:∀k,k<=l.length->∃b:List (List Value),b.length=k/\(∀x∈b,x.length=r.n/\∀v∈x,dP v=true)/\(∀(i:Nat) (x:T),i<k->l[i]?=some x->∃cs,b[i]?=some cs/\r.rel ro x cs)/\F.dj p 0 (k*r.n)=some b.flatten:=by
   intro k
   induction k with
   |zero=>intro _;exact ⟨[],rfl,an,an,by simp[af.dj]⟩
   |succ k ih=>
    intro G
    obtain ⟨b,f,o,q,s⟩:=ih aa
    have d:l[k]?=some l[k]:=List.getElem?_eq_getElem aa
    obtain ⟨p',cs,z,t,hm⟩:=he k _ d
    cases z
    have hn:=r.len t
    refine ⟨b++[cs],by simp[f],fun y A=>?_,fun i x hi u=>?_,?_⟩
    .rcases List.mem_append.1 A with h|h
     .exact o y h
     .simp only[List.mem_singleton] at h;subst h;exact ⟨hn,r.one t⟩
    .rcases Nat.lt_or_ge i k with h|h
     .obtain ⟨cs',a1,B⟩:=q i x h u
      exact ⟨cs',by rw[List.getElem?_append_left aa];exact a1,B⟩
     .have:i=k:=aa
      subst this
      rw[d] at u
      obtain rfl:=Option.some.inj u
      exact ⟨cs,by rw[List.getElem?_append_right aa];simp[f],t⟩
    .rw[Nat.succ_mul]
     have g:=zX (F:=F) (a:=p) cs (k*r.n) (fun j v hv=>hF _ _ (by have:=hm j v hv;rwa [kN] at this))
     rw[hn] at g
     have:=zY (k*r.n) 0 r.n b.flatten cs s (by rw[Nat.zero_add];exact g)
     rw[this]
     simp
  obtain ⟨b,f,o,q,s⟩:=key l.length (Nat.le_refl _)
  exact ⟨b,f,o,fun i x d=>q i x (List.getElem?_eq_some_iff.1 d).1 d,s⟩
theorem aW.empty {T:Type}{r:cm T}{ro:Addr->Option Value}{e:TypeId}{b:Nat}(a:∀off sp,ro ⟨b,off,sp⟩=none):aW r ro e (.slice (some ⟨b,0,none⟩) 0 0) [] [(b,.cells #[] e)]:=
 ⟨[],.inr ⟨b,#[],0,rfl,rfl,an,Nat.le_refl _,an,an,a⟩,rfl,an,fun i x h=>by simp at h⟩
theorem zZ {ro:Addr->Option Value}{x:Nat×Obj}{l:List (Nat×Obj)}:Le ⟨ro,l++[x]⟩ ⟨ro,x::l⟩:=by
 have d:∀b,b∈keys (l++[x])↔b∈keys (x::l):=fun b=>by
  simp only[keys,List.map_append,List.map_cons,List.map_nil,List.mem_append,List.mem_cons,List.not_mem_nil,or_false];exact Or.comm
 refine ⟨fun w hw=>⟨hw.ro,fun b o hb=>hw.own b o ?_,?_,fun a v h hm=>hw.apart a v h ((d _).1 hm)⟩,fun b hb=>(d b).1 hb,fun a c=>.inl c⟩
 .rcases List.mem_append.1 hb with h|h
  .exact List.mem_cons_of_mem _ h
  .simp only[List.mem_singleton] at h;rw[h];exact List.mem_cons_self
 .have:=hw.nodup;simp only[keys,List.map_cons,List.nodup_cons] at this;simp only[keys,List.map_append,List.map_cons,List.map_nil];rw[List.nodup_append];refine ⟨this.2,an,fun a c b hb e=>?_⟩;simp only[List.mem_singleton] at hb;subst hb;exact this.1 (e▸c)
theorem z0 {P:Program}{T:Type}{r:cm T}{ro:Addr->Option Value}{rest:List (Nat×Obj)}{ks:List Nat}{R:Value->af->Prop}{argTypes:Array TypeId}{m o e w:TypeId}{f b c:Nat}{ad:Option Addr}{z:Value}{xs:List T}
  (y:∀off sp,ro ⟨b,off,sp⟩=none) (A:aN rest b) (p:keys rest=ks) (hlen:xs.length<=1000000) (B:aH r ro (.slice ad xs.length c) xs)
  (C:argTypes[0]?=some m) (D:argTypes[1]?=some o) (he:dU P m=some e) (E:dU P o=some w) (hs:cw P e=some r.n) (F:zeroOf P e=some z) (G:z.cells.size=r.n) (hb:bytesOf P e=some f)
  (H:0<f) (I:f<=10000)
  (hR:∀v g,aW r ro e v xs g->Apart ks g->R v ⟨ro,rest++g⟩):nC P argTypes (.slice (some ⟨b,0,none⟩) 0 0) (.slice ad xs.length c) R ⟨ro,(b,.cells #[] e)::rest⟩:=by
 intro ty
 obtain ⟨d,k1,J,K,L⟩:=B.cells ⟨ro,(b,.cells #[] e)::rest⟩ (fun a v h=>by simp[af.get,h])
 have q:∀x∈d,x.length=r.n:=fun x h=>(J x h).1
 have i:=iM q
 refine u5 (old:=[]) C D he E hs F hb H I (by simpa using hlen) (by simp[gH,af.dj]) L (fun M=>?_) (fun M k s l t=>?_)
 .have hn:xs.length=0:=aa
  have N:xs=[]:=List.eq_nil_of_length_eq_zero hn
  have O:d=[]:=List.eq_nil_of_length_eq_zero aa
  subst N O
  refine .inl ⟨_,_,rfl,rfl,⟨ro,rest++[(b,.cells #[] e)]⟩,zZ,hR _ _ (aW.empty y) fun k l=>?_⟩
  simp only[keys,List.map_cons,List.map_nil,List.mem_singleton] at l
  subst l
  rw[<-p]
  exact lW A
 .refine ⟨⟨ro,rest++[(s,.cells (([]:List Value).toArray++d.flatten.toArray++Builtin.zeroCells z.cells (k - (0+xs.length))) e)]⟩,zZ.trans (Le.sub (.cons₂ _ (.cons _ (List.Sublist.refl _)))),hR _ _ ?_ fun j u=>?_⟩
  .refine ⟨d,.inr ⟨s,_,k,by rw[k1,Nat.zero_add],rfl,?_,aa,?_,q,t.ro⟩,k1,hlen,K⟩
   .simp only[List.nil_append,Array.size_append,List.size_toArray,List.length_nil,Builtin.zeroCells,Array.size_map,Array.size_range,i,G,k1]
    rw[Nat.zero_add,<-Nat.add_mul]
    congr 1;omega
   .simp only[Array.toList_append,List.nil_append]
    rw[List.take_append_of_le_length (by simp[i])]
    rw[List.take_of_length_le (by simp[i])]
  .simp only[keys,List.map_cons,List.map_nil,List.mem_singleton] at u
   subst u
   rw[<-p]
   exact lW t.own.2
theorem r7:∀{pre bq:List (Nat×Obj)} {b:Nat} {o:Obj},aN pre b->lk (pre++((b,o)::bq)) b=some o
 |[],bq,b,o,_=>by simp[lk]
 |(c,x)::pre,bq,b,o,h=>by
  have a:¬c=b:=fun e=>h.1 e.symm
  simp[lk,a,r7 h.2]
theorem z1:∀{pre bq:List (Nat×Obj)} {b:Nat} {o x:Obj},aN pre b->fK (pre++((b,o)::bq)) b x=pre++((b,x)::bq)
 |[],bq,b,o,x,_=>by simp[fK]
 |(c,y)::pre,bq,b,o,x,h=>by
  have a:¬c=b:=fun e=>h.1 e.symm
  simp[fK,a,z1 h.2]
theorem r8 {ro:Addr->Option Value}{pre bq:List (Nat×Obj)}{b:Nat}{e:TypeId}(a:aN pre b)(o:Nat):∀(vs:List Value) (arr:Array Value) (i:Nat),(∀v∈vs,dP v=true)->o+i+vs.length<=arr.size->
  af.jb ⟨ro,pre++((b,.cells arr e)::bq)⟩ ⟨b,o,none⟩ i vs=some ⟨ro,pre++((b,.cells (bI arr (o+i) vs) e)::bq)⟩
 |[],arr,i,_,_=>rfl
 |v::vs,arr,i,c,h=>by
  simp only[List.length_cons] at h
  have d:(⟨b,o,none⟩:Addr).add i=⟨b,o+i,none⟩:=by
   unfold Addr.add
   split
   .rename_i hi;subst hi;rfl
   .rfl
  unfold af.jb
  have:af.lK ⟨ro,pre++((b,.cells arr e)::bq)⟩ ((⟨b,o,none⟩:Addr).add i) v=some ⟨ro,pre++((b,.cells (arr.setIfInBounds (o+i) v) e)::bq)⟩:=by
   have f:o+i<arr.size:=aa
   simp[af.lK,d,r7 a,c v an,f,frozenAt,af.put,z1 a]
  rw[this]
  simp only
  rw[r8 a o vs _ (i+1) (fun x g=>c x (by simp[g])) (by simp;omega)]
  rw[bI]
  congr 1
theorem z2 {ro:Addr->Option Value}{pre bq:List (Nat×Obj)}{b:Nat}{e:TypeId}{arr:Array Value}(a:aN pre b)(c:∀off sp,ro ⟨b,off,sp⟩=none):∀(n i:Nat),i+n<=arr.size->
  af.dj ⟨ro,pre++((b,.cells arr e)::bq)⟩ ⟨b,0,none⟩ i n=some ((arr.toList.drop i).take n)
 |0,i,_=>by simp[af.dj]
 |n+1,i,h=>by
  have f:(⟨b,0,none⟩:Addr).add i=⟨b,i,none⟩:=by
   unfold Addr.add
   split
   .rename_i hi;subst hi;rfl
   .simp
  have d:i<arr.size:=aa
  unfold af.dj
  have ih:=z2 (e:=e) (arr:=arr) (bq:=bq) a c n (i+1) aa
  simp only[af.get,f,c,if_true,r7 a,Option.bind_some,cellOf,Array.getElem?_eq_getElem d,ih]
  have g:i<arr.toList.length:=by simpa using d
  rw[List.drop_eq_getElem_cons g,List.take_succ_cons]
  simp
theorem Gr.E2 {ro:Addr->Option Value}{e:TypeId}{size:Nat}{v:Value}{l:List (List Value)}{bn pre bq:List (Nat×Obj)}(h:Gr ro e size v l bn)(a:∀k∈keys bn,aN pre k):
  Go.Sep.gH ⟨ro,pre++(bn++bq)⟩ size v=some l.flatten:=by
 rcases h with ⟨rfl,rfl,rfl⟩|⟨b,arr,cap,rfl,rfl,hs,c,ht,f,d⟩
 .rfl
 .simp only[Go.Sep.gH,List.cons_append,List.nil_append]
  have hle:l.length*size<=arr.size:=by rw[hs];exact Nat.mul_le_mul_right _ c
  rw[z2 (a b (by simp[keys])) d _ _ aa]
  simp[ht]
theorem Le.ps {ro:Addr->Option Value}{l m l':List (Nat×Obj)}(e:l.Perm m)(hs:m.Sublist l'):Le ⟨ro,l⟩ ⟨ro,l'⟩:=by
 have c:(keys m).Sublist (keys l'):=hs.map _;have d:(keys l).Perm (keys m):=e.map _;exact ⟨fun w hw=>⟨hw.ro,fun b o hb=>hw.own b o (hs.subset (e.subset hb)),d.nodup_iff.2 (c.nodup hw.nodup),fun a v f hm=>hw.apart a v f (c.subset (d.subset hm))⟩,fun b hb=>c.subset (d.subset hb),fun a g=>.inl g⟩
structure bO (ks:List Nat):Prop where
 nd:ks.Nodup
abbrev Nd (l:List (Nat×Obj)):Prop:=(keys l).Nodup
theorem Nd.fresh {pre bn bq:List (Nat×Obj)}(h:Nd (pre++(bn++bq))):∀k∈keys bn,aN pre k:=fun k a=>by
 refine lX fun hm=>?_
 simp only[Nd,cu] at h
 exact (List.nodup_append.1 h).2.2 k hm k (List.mem_append_left _ a) rfl
theorem Nd.push {l:List (Nat×Obj)}{b:Nat}{o:Obj}(h:Nd l)(hb:aN l b):Nd ((b,o)::l):=by
 simp only[Nd,keys,List.map_cons,List.nodup_cons];exact ⟨lW hb,h⟩
theorem Nd.drop {pre bn bq:List (Nat×Obj)}(h:Nd (pre++(bn++bq))):Nd (pre++bq):=
 ((List.Sublist.append_left (List.sublist_append_right bn bq) pre).map _).nodup h
theorem Nd.ins {pre bn bq:List (Nat×Obj)}{b:Nat}{o:Obj}(h:Nd (pre++(bn++bq)))(hb:aN (pre++(bn++bq)) b):Nd (pre++([(b,o)]++bq)):=by
 have a:Nd ((b,o)::(pre++bq)):=h.drop.push (lX fun hm=>lW hb (((List.Sublist.append_left (List.sublist_append_right bn bq) pre).map _).subset hm));have:(pre++([(b,o)]++bq)).Perm ((b,o)::(pre++bq)):=List.perm_middle;exact (this.map _).nodup_iff.2 a
section
variable {P:Program}
theorem z3 {ro:Addr->Option Value}{pre bn bq:List (Nat×Obj)}{R:Value->af->Prop}{argTypes:Array TypeId}{ty A B e O:TypeId}{size p n c:Nat}{C:Option Addr}{s z:Value}{l xs:List (List Value)}
  (D:argTypes[0]?=some A) (E:argTypes[1]?=some B) (he:dU P A=some e) (d:dU P B=some O) (hs:cw P e=some size) (G:zeroOf P e=some z) (Q:z.cells.size=size) (hb:bytesOf P e=some p)
  (H:0<p) (I:p<=10000) (hg:Gr ro e size s l bn) (j:Nd (pre++(bn++bq))) (hn:n=xs.length) (J:∀x∈xs,x.length=size/\∀v∈x,dP v=true) (K:gH ⟨ro,pre++(bn++bq)⟩ size (.slice C n c)=some xs.flatten)
  (L:l.length+xs.length<=1000000)
  (hR:∀v q,Gr ro e size v (l++xs) q->Nd (pre++(q++bq))->∃F0,Le F0 ⟨ro,pre++(q++bq)⟩/\R v F0):
  bw P (Builtin.append_ argTypes ty #[s,.slice C n c]) (fun v F=>∃F0,Le F0 F/\R v F0) ⟨ro,pre++(bn++bq)⟩:=by
 subst hn
 have M:=j.fresh
 have hold:=hg.E2 (bq:=bq) M
 have r:∀x∈xs,x.length=size:=fun x h=>(J x h).1
 have a:=iM r
 have out:∀(k b:Nat) (old:List Value),old=l.flatten->(∀x∈l,x.length=size)->l.length+xs.length<=k->er ⟨ro,pre++(bn++bq)⟩ b->
   ∃F0,Le F0 (af.push ⟨ro,pre++(bn++bq)⟩ b (.cells (old.toArray++xs.flatten.toArray++Builtin.zeroCells z.cells (k - (l.length+xs.length))) e))/\R (.slice (some ⟨b,0,none⟩) (l.length+xs.length) k) F0:=by
  intro k b old S t i f
  subst S
  have u:=iM t
  have w:=hR (.slice (some ⟨b,0,none⟩) (l.length+xs.length) k) [(b,.cells (l.flatten.toArray++xs.flatten.toArray++Builtin.zeroCells z.cells (k - (l.length+xs.length))) e)] (.inr ⟨b,_,k,an,rfl,?_,by simpa using i,?_,?_,f.ro⟩) (j.ins f.own)
  .obtain ⟨F0,hle,w⟩:=w
   refine ⟨F0,hle.trans ?_,w⟩
   exact Le.ps (m:=(b,.cells (l.flatten.toArray++xs.flatten.toArray++Builtin.zeroCells z.cells (k - (l.length+xs.length))) e)::(pre++bq)) List.perm_middle (.cons₂ _ (List.Sublist.append_left (List.sublist_append_right bn bq) pre))
  .simp only[Array.size_append,List.size_toArray,Builtin.zeroCells,Array.size_map,Array.size_range,u,a,Q]
   rw[<-Nat.add_mul,<-Nat.add_mul]
   congr 1;omega
  .simp only[Array.toList_append,List.length_append,List.flatten_append]
   rw[List.take_append_of_le_length (by simp[u,a,Nat.add_mul])]
   rw[List.take_of_length_le (by simp[u,a,Nat.add_mul])]
  .intro x d
   rcases List.mem_append.1 d with h|h
   .exact t x h
   .exact r x h
 rcases id hg with ⟨rfl,rfl,rfl⟩|⟨b,arr,cap,rfl,rfl,y,t,ht,o,T⟩
 .refine u5 D E he d hs G hb H I (by simpa using L) hold K (fun g=>.inr ⟨rfl,?_⟩) (fun g k b i f=>?_)
  .have:xs=[]:=List.eq_nil_of_length_eq_zero aa
   subst this
   exact hR _ _ (.inl ⟨rfl,rfl,rfl⟩) j
  .have:=out k b [] rfl an (by simpa using i) f
   simpa using this
 .refine u5 D E he d hs G hb H I L hold K (fun g=>.inl ⟨_,⟨ro,pre++([(b,.cells (bI arr (l.length*size) xs.flatten) e)]++bq)⟩,rfl,?_,?_⟩) (fun g k U i f=>out k U _ rfl o i f)
  .have V:(⟨b,0,none⟩:Addr).add (l.length*size)=⟨b,l.length*size,none⟩:=by
    unfold Addr.add
    split
    .rename_i hi;rw[hi]
    .simp
   rw[V]
   have N:l.length*size+xs.length*size<=arr.size:=by rw[y,<-Nat.add_mul];exact Nat.mul_le_mul_right _ g
   have:=r8 (ro:=ro) (e:=e) (bq:=bq) (M b (by simp[keys])) (l.length*size) xs.flatten arr 0 (fun v hv=>by
    obtain ⟨x,W,X⟩:=List.mem_flatten.1 hv
    exact (J x W).2 v X) (by rw[a];omega)
   simpa using this
  .refine hR _ _ (.inr ⟨b,_,cap,an,rfl,by rw[rQ];exact y,by simpa using g,?_,?_,T⟩) (by simpa [Nd,keys] using j)
   .have N:l.length*size+xs.length*size<=arr.size:=by rw[y,<-Nat.add_mul];exact Nat.mul_le_mul_right _ g
    rw[rR _ _ _ (by rw[a];exact N),ht,List.length_append,List.flatten_append,a]
    rw[List.take_append_of_le_length (by simp[iM o,a,Nat.add_mul])]
    rw[List.take_of_length_le (by simp[iM o,a,Nat.add_mul])]
   .intro x d
    rcases List.mem_append.1 d with h|h
    .exact o x h
    .exact r x h
theorem z4:∀{pre own:List (Nat×Obj)} {b:Nat} {o:Obj},lk pre b=some o->lk (pre++own) b=some o
 |(c,x)::pre,own,b,o,h=>by
  simp only[List.cons_append,lk] at h ⊢
  split
  .rename_i a;rw[if_pos a] at h;exact h
  .rename_i a;rw[if_neg a] at h;exact z4 h
theorem z5 {ro:Addr->Option Value}{own:List (Nat×Obj)}{b:Nat}{cs:Array Value}{e:TypeId}(a:lk own b=some (.cells cs e))(c:∀off sp,ro ⟨b,off,sp⟩=none):∀n i,i+n<=cs.toList.length->af.dj ⟨ro,own⟩ ⟨b,0,none⟩ i n=some ((cs.toList.drop i).take n)
 |0,i,_=>by simp[af.dj]
 |n+1,i,hi=>by
  have d:i<cs.toList.length:=aa
  unfold af.dj
  have f:(⟨b,0,none⟩:Addr).add i=⟨b,i,none⟩:=by
   unfold Addr.add
   split
   .rename_i hi;subst hi;rfl
   .simp
  have g:i<cs.size:=by simpa using d
  simp only[af.get,f,c,if_true,a,Option.bind_some,cellOf,Array.getElem?_eq_getElem g,z5 a c n (i+1) aa]
  rw[List.drop_eq_getElem_cons d,List.take_succ_cons]
  simp
theorem aW.more {T:Type}{r:cm T}{ro:Addr->Option Value}{e:TypeId}{l xs:List T}{ls ys:List (List Value)}{v:Value}{a:List (Nat×Obj)}(hg:Gr ro e r.n v (ls++ys) a)(b:ls.length=l.length)(c:ys.length=xs.length)
  (d:∀(i:Nat) (x:T),l[i]?=some x->∃cs:List Value,ls[i]?=some cs/\r.rel ro x cs) (f:∀(i:Nat) (x:T),xs[i]?=some x->∃cs:List Value,ys[i]?=some cs/\r.rel ro x cs) (hn:l.length+xs.length<=1000000):aW r ro e v (l++xs) a:=by
 refine ⟨_,hg,by simp[b,c],by simpa using hn,fun i y hi=>?_⟩
 rcases Nat.lt_or_ge i l.length with h|h
 .rw[List.getElem?_append_left h] at hi
  rw[List.getElem?_append_left aa]
  exact d i y hi
 .rw[List.getElem?_append_right h] at hi
  rw[List.getElem?_append_right aa,b]
  exact f _ y hi
theorem qh {T:Type}{r:cm T}{ro:Addr->Option Value}{bn:List (Nat×Obj)}{R:Value->af->Prop}{argTypes:Array TypeId}{g h e p e2:TypeId}{b c:Nat}{s z:Value}{l:List T}{x:T}{cs:Array Value}{own:List (Nat×Obj)}(pre bq:List (Nat×Obj))(q:own=pre++(bn++bq))
  (hg:aW r ro e s l bn) (t:bO (keys own)) (j:l.length+[x].length<=1000000) (d:r.rel ro x cs.toList) (u:lk pre c=some (.cells cs e2)) (w:∀off sp,ro ⟨c,off,sp⟩=none)
  (A:argTypes[0]?=some g) (B:argTypes[1]?=some h) (he:dU P g=some e) (C:dU P h=some p) (hs:cw P e=some r.n) (D:zeroOf P e=some z) (E:z.cells.size=r.n) (hb:bytesOf P e=some b)
  (F:0<b) (G:b<=10000)
  (hR:∀v a,aW r ro e v (l++[x]) a->∀f,f=pre++(a++bq)->bO (keys f)->∃F0,Le F0 ⟨ro,f⟩/\R v F0):nC P argTypes s (.slice (some ⟨c,0,none⟩) 1 1) R ⟨ro,own⟩:=by
 subst q
 obtain ⟨ls,H,k,hm,I⟩:=hg
 have J:=t.nd
 intro ty
 have hlen:cs.toList.length=r.n:=r.len d
 refine z3 (xs:=[cs.toList]) (e:=e) (size:=r.n) (z:=z) (l:=ls) A B he C hs D E hb F G H J rfl (fun y o=>?_) ?_ (by simpa [k] using j) (fun v a K L=>hR v a (aW.more K k rfl I (fun i y hi=>?_) j) _ rfl ⟨L⟩)
 .simp only[List.mem_singleton] at o;subst o;exact ⟨hlen,r.one d⟩
 .simp only[gH,Nat.one_mul]
  rw[z5 (z4 u) w _ _ aa]
  rw[List.drop_zero,List.take_of_length_le aa]
  simp
 .cases i with
  |zero=>simp at hi;subst hi;exact ⟨cs.toList,rfl,d⟩
  |succ m=>simp at hi
theorem E3 {T:Type}{r:cm T}{ro:Addr->Option Value}{bn:List (Nat×Obj)}{R:Value->af->Prop}{argTypes:Array TypeId}{g i e m:TypeId}{d c:Nat}{ad:Option Addr}{s z:Value}{l xs:List T}{own:List (Nat×Obj)}(pre bq:List (Nat×Obj))(o:own=pre++(bn++bq))
  (hg:aW r ro e s l bn) (p:bO (keys own)) (j:l.length+xs.length<=1000000) (q:aH r ro (.slice ad xs.length c) xs)
  (t:argTypes[0]?=some g) (u:argTypes[1]?=some i) (he:dU P g=some e) (w:dU P i=some m) (hs:cw P e=some r.n) (x:zeroOf P e=some z) (y:z.cells.size=r.n) (hb:bytesOf P e=some d)
  (A:0<d) (B:d<=10000)
  (hR:∀v b,aW r ro e v (l++xs) b->∀f,f=pre++(b++bq)->bO (keys f)->∃F0,Le F0 ⟨ro,f⟩/\R v F0):nC P argTypes s (.slice ad xs.length c) R ⟨ro,own⟩:=by
 subst o
 obtain ⟨ls,C,k,hm,D⟩:=hg
 have E:=p.nd
 intro ty
 obtain ⟨F,k1,G,H,I⟩:=q.cells ⟨ro,pre++(bn++bq)⟩ (fun a v h=>by simp[af.get,h])
 exact z3 (xs:=F) (e:=e) (size:=r.n) (z:=z) (l:=ls) t u he w hs x y hb A B C E k1.symm G I (by rw[k,k1];exact j) (fun v b J K=>hR v b (aW.more J k k1 D H j) _ rfl ⟨K⟩)
theorem aW.lY {T:Type}{r:cm T}{ro:Addr->Option Value}{e:TypeId}{v:Value}{l:List T}{bn:List (Nat×Obj)}(h:aW r ro e v l bn){own:List (Nat×Obj)}(a pre bq:List (Nat×Obj))(f:own=pre++(bn++bq))(g:a=pre++bq)(i:bO (keys own))(hn:bg ro a):
  ∃aF,Ext ro aF/\bg aF a/\aH r aF v l/\Le ⟨aF,a⟩ ⟨ro,own⟩:=by
 subst f g
 have c:Nd (pre++(bn++bq)):=i.nd
 have j:Apart (keys (pre++bq)) bn:=fun k d hm=>by
  simp only[Nd,cu] at c
  have b:=List.nodup_append.1 c
  simp only[cu,List.mem_append] at hm
  rcases hm with hm|hm
  .exact b.2.2 k hm k (List.mem_append_left _ d) rfl
  .exact (List.nodup_append.1 b.2.1).2.2 k d k hm rfl
 obtain ⟨aF,m,b,n,o⟩:=h.vt (pre++bq) j rfl hn
 refine ⟨aF,m,b,n,o.trans ?_⟩
 have p:((pre++bq)++bn).Perm (pre++(bn++bq)):=by
  rw[List.append_assoc]
  exact List.Perm.append_left pre List.perm_append_comm
 exact Le.ps p (List.Sublist.refl _)
theorem aW.setAt {T:Type}{r:cm T}{ro:Addr->Option Value}{e:TypeId}{l:List T}{b n cap:Nat}{arr:Array Value}(h:aW r ro e (.slice (some ⟨b,0,none⟩) n cap) l [(b,.cells arr e)]){i:Nat}{x y:T}(hi:l[i]?=some x){cs:List Value}(k:r.rel ro y cs):
  aW r ro e (.slice (some ⟨b,0,none⟩) n cap) (l.set i y) [(b,.cells (bI arr (i*r.n) cs) e)]:=by
 obtain ⟨ls,hg,m,hm,o⟩:=h
 have C:i<l.length:=(List.getElem?_eq_some_iff.1 hi).1
 have a:=r.len k
 rcases hg with ⟨hv,_,_⟩|⟨D,E,p,hv,q,hs,hle,ht,c,s⟩
 .cases hv
 .cases q
  obtain ⟨rfl,rfl⟩:n=ls.length/\cap=p:=by cases hv;exact ⟨rfl,rfl⟩
  have t:i*r.n+cs.length<=arr.size:=by
   rw[hs,a,<-Nat.succ_mul]
   exact Nat.mul_le_mul_right _ aa
  refine ⟨ls.set i cs,.inr ⟨b,_,cap,an,rfl,by rw[rQ];exact hs,by simpa using hle,?_,?_,s⟩,by simp[m],by simpa using hm,fun j z d=>?_⟩
  .rw[rR _ _ _ t]
   have F:=iM c
   have f:i<ls.length:=aa
   have e1:(ls.set i cs).flatten=(ls.take i).flatten++cs++(ls.drop (i+1)).flatten:=by
    rw[List.set_eq_take_append_cons_drop,if_pos f]
    simp
   have e2:ls.flatten=(ls.take i).flatten++(ls.drop i).flatten:=by rw[<-List.flatten_append,List.take_append_drop]
   have t1:((ls.take i).flatten).length=i*r.n:=by rw[iM (fun x h=>c x (List.mem_of_mem_take h)),List.length_take,Nat.min_eq_left aa]
   have e3:(ls.drop i).flatten=ls[i]++(ls.drop (i+1)).flatten:=by rw[List.drop_eq_getElem_cons f,List.flatten_cons]
   have t2:ls[i].length=r.n:=c _ (List.getElem_mem f)
   have a1:arr.toList.take (i*r.n)=(ls.take i).flatten:=by
    have:=congrArg (List.take (i*r.n)) ht
    rw[List.take_take,Nat.min_eq_left (Nat.mul_le_mul_right _ aa),e2,List.take_append_of_le_length (Nat.le_of_eq t1.symm),List.take_of_length_le (Nat.le_of_eq t1)] at this
    exact this
   have u:(arr.toList.take (ls.length*r.n)).drop (i*r.n+cs.length)=(ls.drop (i+1)).flatten:=by
    have t3:((ls.take i).flatten++ls[i]).length=i*r.n+cs.length:=by rw[List.length_append,t1,t2,a]
    rw[ht,e2,e3,<-List.append_assoc,List.drop_append_of_le_length (Nat.le_of_eq t3.symm),List.drop_eq_nil_of_le (Nat.le_of_eq t3),List.nil_append]
   rw[a1,e1]
   simp only[List.length_set]
   have v:ls.length*r.n=(i*r.n+cs.length)+(ls.length*r.n - (i*r.n+cs.length)):=by
    have:i*r.n+cs.length<=ls.length*r.n:=by rw[a,<-Nat.succ_mul];exact Nat.mul_le_mul_right _ f
    omega
   rw[v,List.take_append]
   rw[List.take_of_length_le (by rw[List.length_append,t1];omega)]
   congr 1
   have:i*r.n+cs.length+(ls.length*r.n - (i*r.n+cs.length)) - ((ls.take i).flatten++cs).length=ls.length*r.n - (i*r.n+cs.length):=by simp only[List.length_append,t1];omega
   rw[this,<-u,List.drop_take]
  .intro z w
   rcases List.mem_or_eq_of_mem_set w with h|h
   .exact c z h
   .rw[h];exact a
  .rcases Nat.decEq i j with g|g
   .rw[List.getElem?_set_ne g] at d
    obtain ⟨cs',A,B⟩:=o j z d
    exact ⟨cs',by rw[List.getElem?_set_ne g];exact A,B⟩
   .subst g
    rw[List.getElem?_set_self aa] at d
    obtain rfl:=Option.some.inj d
    exact ⟨cs,List.getElem?_set_self aa,k⟩
end
section
variable {P:Program}{main:Bool}{J:Goroutine->af->Prop}
theorem aC (hJ:Closed P main J){c:Code}{Q:Ex->Act->af->Prop}{a:Act}{F:af}(h:bO (keys F.own)->Wp J c Q a F):Wp J c Q a F:=by
 intro b k cs hb d;by_cases hw:∃w,Has F w
 .obtain ⟨w,hw⟩:=hw;exact h ⟨hw.nodup⟩ b k cs hb d
 .exact hJ.step fun w hF=>absurd ⟨w,hF⟩ hw
end
theorem bO.cons {l:List (Nat×Obj)}{b:Nat}(hb:aN l b)(h:bO (keys l)):bO (b::keys l):=⟨List.nodup_cons.2 ⟨lW hb,h.nd⟩⟩
theorem bg.nil (ro:Addr->Option Value):bg ro []:=fun b h=>by cases h
theorem bg.cons {ro:Addr->Option Value}{b:Nat}{o:Obj}{l:List (Nat×Obj)}(hb:∀off sp,ro ⟨b,off,sp⟩=none)(h:bg ro l):bg ro ((b,o)::l):=fun c a=>by
 simp only[keys,List.map_cons,List.mem_cons] at a
 rcases a with rfl|a
 .exact hb
 .exact h c a
theorem bg.app {ro:Addr->Option Value}{l l':List (Nat×Obj)}(h:bg ro l)(h':bg ro l'):bg ro (l++l'):=fun c a=>by
 rw[cu] at a
 exact (List.mem_append.1 a).elim (h c) (h' c)
theorem bg.hd {ro:Addr->Option Value}{b:Nat}{o:Obj}{l:List (Nat×Obj)}(h:bg ro ((b,o)::l)):∀off sp,ro ⟨b,off,sp⟩=none:=h b (by simp[keys])
theorem bg.tl {ro:Addr->Option Value}{x:Nat×Obj}{l:List (Nat×Obj)}(h:bg ro (x::l)):bg ro l:=fun c a=>h c (by simp only[keys,List.map_cons,List.mem_cons];exact .inr a)
theorem aW.E4 {T:Type}{r:cm T}{ro:Addr->Option Value}{e:TypeId}{v:Value}{l:List T}{bn:List (Nat×Obj)}(h:aW r ro e v l bn):bg ro bn:=by
 obtain ⟨ls,hg,-⟩:=h;rcases hg with ⟨_,_,rfl⟩|⟨b,arr,cap,_,rfl,_,_,_,_,a⟩
 .exact bg.nil _
 .exact bg.cons a (bg.nil _)
theorem Le.back {ro:Addr->Option Value}{l l':List (Nat×Obj)}(A B O S:List (Nat×Obj))(a:l=A++(B++(O++S)))(b:l'=A++(O++(B++S))):Le ⟨ro,l⟩ ⟨ro,l'⟩:=by
 subst a b;refine Le.ps (m:=A++(O++(B++S))) (List.Perm.append_left A ?_) (List.Sublist.refl _);rw[<-List.append_assoc,<-List.append_assoc];exact List.Perm.append_right S List.perm_append_comm
section
variable {P:Program}{main:Bool}{J:Goroutine->af->Prop}
def r9 (J:Goroutine->af->Prop)(jK:Frame)(F:af)(R:Value->af->Prop):Prop:=
 ∀(c:Frame) (cs:List Frame),(∀v F',R v F'->J (G (c.finish v) cs) F')->J (G jK (c::cs)) F
theorem z6 (hJ:Closed P main J){jK:Frame}{ro:Addr->Option Value}{bn:List (Nat×Obj)}{K:Value->af->Prop}{own:List (Nat×Obj)}(pre bq:List (Nat×Obj))(n:own=pre++(bn++bq))(R:Value->List (Nat×Obj)->Prop)(h:∀(main:Bool) (J:Goroutine->af->Prop),Closed P main J->r9 J jK ⟨ro,bn⟩ (fun v G=>∃d,R v d/\Le ⟨ro,d⟩ G))
  (H:∀v d,R v d->∀p,p=pre++(d++bq)->bO (keys p)->∃F0,Le F0 ⟨ro,p⟩/\K v F0):r9 J jK ⟨ro,own⟩ K:=by
 subst n
 intro c cs hK
 by_cases hw:∃w,Has ⟨ro,pre++(bn++bq)⟩ w
 .obtain ⟨q,j⟩:=hw
  let F:af:=⟨fun _=>none,pre++bq⟩
  have r:(pre++bq).Sublist (pre++(bn++bq)):=List.Sublist.append_left (List.sublist_append_right bn bq) pre
  have s:bn.Sublist (pre++(bn++bq)):=(List.sublist_append_left bn bq).trans (List.sublist_append_right pre _)
  have t:∀w,Has ⟨ro,pre++(bn++bq)⟩ w->Has F w:=fun w hw=>⟨fun a v h=>(by cases h),fun b o hb=>hw.own b o (r.subset hb),(r.map _).nodup hw.nodup,fun a v h=>(by cases h)⟩
  have u:∀w,Has ⟨ro,pre++(bn++bq)⟩ w->Has ⟨ro,bn⟩ w:=fun w hw=>⟨hw.ro,fun b o hb=>hw.own b o (s.subset hb),(s.map _).nodup hw.nodup,fun a v g hm=>hw.apart a v g ((s.map _).subset hm)⟩
  have hd:∀b,b∈keys bn->b∉keys (pre++bq):=fun b hb hm=>by
   have hn:=j.nodup
   simp only[cu] at hn
   have A:=List.nodup_append.1 hn
   simp only[cu,List.mem_append] at hm
   rcases hm with hm|hm
   .exact A.2.2 b hm b (List.mem_append_left _ hb) rfl
   .exact (List.nodup_append.1 A.2.1).2.2 b hb b hm rfl
  have B:Fits F ⟨ro,bn⟩:=⟨⟨q,u q j,t q j⟩,hd,fun a f hm=>(by cases f)⟩
  have I:kO F ⟨ro,bn⟩:=fun a f hm=>by
   obtain ⟨v,hv⟩:=Option.isSome_iff_exists.1 f
   exact j.apart a v hv ((r.map _).subset hm)
  have n:r5 J F (G jK (c::cs)) ⟨ro,bn⟩:=by
   refine h main _ (vo hJ F) c cs fun v C hR k hn=>?_
   obtain ⟨d,hR,hle⟩:=hR
   have D:Le ⟨ro,pre++(d++bq)⟩ (C.star F):=by
    refine ⟨fun w hw=>?_,fun b hb=>?_,fun a f=>?_⟩
    .have l:=hle.has w (k.right hw)
     have hF:=k.left hw
     have L:∀b,b∈keys d->b∉keys (pre++bq):=fun b hb=>k.own b (hle.own b hb)
     have i:(pre++(d++bq)).Perm (d++(pre++bq)):=by
      rw[<-List.append_assoc,<-List.append_assoc]
      exact List.Perm.append_right bq List.perm_append_comm
     refine ⟨l.ro,fun b o hb=>?_,?_,fun a v g hm=>?_⟩
     .rcases List.mem_append.1 (i.subset hb) with x|x
      .exact l.own b o x
      .exact hF.own b o x
     .refine (i.map _).nodup_iff.2 ?_
      rw[List.map_append]
      exact List.nodup_append.2 ⟨l.nodup,hF.nodup,fun a f b hb e=>L a f (e▸hb)⟩
     .have E:=(i.map (·.1)).subset hm
      rw[List.map_append] at E
      rcases List.mem_append.1 E with x|x
      .exact l.apart a v g x
      .rcases hle.ro a (by simp only at g;simp[g]) with y|y
       .exact hn a y x
       .exact k.own _ y x
    .simp only[af.star,cu,List.mem_append] at hb ⊢
     rcases hb with x|x|x
     .exact .inr (show b∈keys (pre++bq) by rw[cu];exact List.mem_append_left _ x)
     .exact .inl (hle.own b x)
     .exact .inr (show b∈keys (pre++bq) by rw[cu];exact List.mem_append_right _ x)
    .rcases hle.ro a f with x|x
     .exact (gE (.inr x)).imp id (fun z=>by simp only[af.star,cu,List.mem_append];exact .inr z)
     .exact .inr (by simp only[af.star,cu,List.mem_append];exact .inl x)
   have M:∃fr cs',G (c.finish v) cs=G fr cs':=⟨_,_,rfl⟩
   obtain ⟨fr,cs',N⟩:=M
   by_cases m:∃w,Has (C.star F) w
   .obtain ⟨w1,m⟩:=m
    obtain ⟨F0,O,Q⟩:=H v d hR _ rfl ⟨(D.has w1 m).nodup⟩
    exact hJ.mono (O.trans D) (hK v F0 Q)
   .rw[N]
    exact hJ.step fun w hF=>absurd ⟨w,hF⟩ m
  refine hJ.mono ⟨fun w hw=>B.both (u w hw) (t w hw),fun b hb=>?_,fun a f=>?_⟩ (n B I)
  .have i:(bn++(pre++bq)).Perm (pre++(bn++bq)):=by
    rw[<-List.append_assoc,<-List.append_assoc]
    exact List.Perm.append_right bq List.perm_append_comm
   exact (i.map _).subset hb
  .rcases jF f with x|x
   .cases x
   .exact .inl x
 .exact hJ.step fun w hF=>absurd ⟨w,hF⟩ hw
theorem iw (hJ:Closed P main J){f:FuncId}{args:Array Value}{ro:Addr->Option Value}{bn:List (Nat×Obj)}{K:Value->af->Prop}{own:List (Nat×Obj)}(pre bq:List (Nat×Obj))(c:own=pre++(bn++bq))(R:Value->List (Nat×Obj)->Prop)(h:aE P f args ⟨ro,bn⟩ (fun v G=>∃a,R v a/\Le ⟨ro,a⟩ G))
  (d:∀v a,R v a->∀b,b=pre++(a++bq)->bO (keys b)->∃F0,Le F0 ⟨ro,b⟩/\K v F0):dh P J f args ⟨ro,own⟩ K:=
 z6 hJ (jK:=Frame.enter P f args .normal) pre bq c R h d
end
attribute [go_sem] Array.size_setIfInBounds
theorem aH.op {T:Type}{r:cm T}{ro:Addr->Option Value}{ad:Option Addr}{n cap:Nat}{l:List T}(h:aH r ro (.slice ad n cap) l):
  l.length<=cap/\l.length<=1000000000000000/\∀i x,l[i]?=some x->∃p cs,ad=some p/\r.rel ro x cs/\∀j v,cs[j]?=some v->ro ((p.add (i*r.n)).add j)=some v:=by
 obtain ⟨d,f,e,a,b,c⟩:=h
 cases e
 exact ⟨a,b,c⟩
theorem bO.sub {l l':List (Nat×Obj)}(A O S:List (Nat×Obj))(a:l=A++S)(b:l'=A++(O++S))(h:bO (keys l')):bO (keys l):=by
 subst a b;exact
 ⟨((List.Sublist.append_left (List.sublist_append_right O S) A).map _).nodup h.nd⟩
theorem bO.back {l l':List (Nat×Obj)}(A B O S:List (Nat×Obj))(a:l=A++(B++(O++S)))(b:l'=A++(O++(B++S)))(h:bO (keys l')):bO (keys l):=by
 subst a b;refine ⟨(List.Perm.map _ (List.Perm.append_left A ?_)).nodup_iff.2 h.nd⟩;rw[<-List.append_assoc,<-List.append_assoc];exact List.Perm.append_right S List.perm_append_comm
theorem iy {ro:Addr->Option Value}{b:Nat}{o:Obj}(pre bq:List (Nat×Obj))(f:bO (keys (pre++((b,o)::bq))))(_hr:∀off sp,ro ⟨b,off,sp⟩=none)(hn:bg ro (pre++bq)):
  Ext ro (b9 ro b o)/\bg (b9 ro b o) (pre++bq)/\Le ⟨b9 ro b o,pre++bq⟩ ⟨ro,pre++((b,o)::bq)⟩:=by
 have a:(pre++((b,o)::bq)).Perm ((b,o)::(pre++bq)):=List.perm_middle
 have g:Nd ((b,o)::(pre++bq)):=(a.map _).nodup_iff.1 f.nd
 have hb:b∉keys (pre++bq):=(List.nodup_cons.1 g).1
 refine ⟨gQ _ _ _,fun c d off sp=>?_,?_⟩
 .have h:¬c=b:=fun e=>hb (e▸d)
  simp[b9,hn c d,h]
 .have i:Le ⟨b9 ro b o,pre++bq⟩ ⟨ro,(b,o)::(pre++bq)⟩:=lT (by simp[lk]) (.cons _ (List.Sublist.refl _)) (lX hb)
  exact i.trans (Le.ps a.symm (List.Sublist.refl _))
section
variable {P:Program}{main:Bool}{J:Goroutine->af->Prop}
theorem jf (hJ:Closed P main J){c:Code}{Q:Ex->Act->af->Prop}{a:Act}{F:af}(h:bO (keys F.own)->bg F.ro F.own->Wp J c Q a F):Wp J c Q a F:=by
 intro b k cs hb d;by_cases hw:∃w,Has F w
 .obtain ⟨w,hw⟩:=hw;refine h ⟨hw.nodup⟩ (fun b hb off sp=>?_) b k cs hb d;cases e:F.ro ⟨b,off,sp⟩ with
  |none=>rfl
  |some v=>exact absurd hb (hw.apart _ v e)
 .exact hJ.step fun w hF=>absurd ⟨w,hF⟩ hw
end
theorem vu:∀(vs:List Value) (arr:Array Value) (k:Nat),k+vs.length<=arr.size->∀q,(bI arr k vs)[q]?=if k<=q/\q<k+vs.length then vs[q - k]? else arr[q]?
 |[],arr,k,h,q=>by
  have:¬(k<=q/\q<k+([]:List Value).length):=an
  rw[if_neg this];rfl
 |v::vs,arr,k,h,q=>by
  simp only[List.length_cons] at h
  rw[bI,vu vs _ (k+1) (by simp;omega)]
  simp only[List.length_cons]
  by_cases a:k=q
  .subst a
   rw[if_neg aa,if_pos aa,Array.getElem?_setIfInBounds_self_of_lt aa]
   simp
  .by_cases b:k+1<=q/\q<k+1+vs.length
   .rw[if_pos b,if_pos aa]
    rw[show q - k=(q - (k+1))+1 by omega]
    simp
   .rw[if_neg b,if_neg aa,Array.getElem?_setIfInBounds_ne a]
theorem aW.part {T:Type}{r:cm T}{ro:Addr->Option Value}{e:TypeId}{l:List T}{b n cap:Nat}{arr:Array Value}(h:aW r ro e (.slice (some ⟨b,0,none⟩) n cap) l [(b,.cells arr e)]){i:Nat}{x y:T}(hi:l[i]?=some x)(o:Nat)(vs cs cs':List Value)
  (hm:∀j v,cs[j]?=some v->arr[i*r.n+j]?=some v) (hlen:cs.length=r.n) (f:cs'=cs.take o++vs++cs.drop (o+vs.length)) (ho:o+vs.length<=cs.length) (g:r.rel ro y cs'):
  aW r ro e (.slice (some ⟨b,0,none⟩) n cap) (l.set i y) [(b,.cells (bI arr (i*r.n+o) vs) e)]:=by
 have k:=h.setAt hi g
 have c:=r.len g
 have s:i*r.n+r.n<=arr.size:=by
  rcases Nat.eq_zero_or_pos r.n with t|w
  .rw[t];omega
  .have a:r.n - 1<cs.length:=aa
   have:=hm (r.n - 1) cs[r.n - 1] (List.getElem?_eq_getElem a)
   have:=(Array.getElem?_eq_some_iff.1 this).1
   omega
 have e1:bI arr (i*r.n) cs'=bI arr (i*r.n+o) vs:=by
  apply Array.ext_getElem?
  intro q
  rw[vu cs' arr _ (by rw[c];exact s),vu vs arr _ aa]
  by_cases m:i*r.n+o<=q/\q<i*r.n+o+vs.length
  .rw[if_pos m,if_pos (by rw[c];omega),f]
   rw[List.append_assoc,List.getElem?_append_right (by simp;omega),List.getElem?_append_left (by simp;omega)]
   congr 1
   simp;omega
  .rw[if_neg m]
   by_cases d:i*r.n<=q/\q<i*r.n+cs'.length
   .rw[if_pos d]
    rw[c] at d
    have u:arr[q]?=cs[q - i*r.n]?:=by
     have a:q - i*r.n<cs.length:=aa
     have:=hm (q - i*r.n) _ (List.getElem?_eq_getElem a)
     rw[show i*r.n+(q - i*r.n)=q by omega] at this
     rw[this,List.getElem?_eq_getElem a]
    rw[u,f]
    rcases Nat.lt_or_ge (q - i*r.n) o with p|p
    .rw[List.append_assoc,List.getElem?_append_left (by simp;omega),List.getElem?_take_of_lt p]
    .have z:o+vs.length<=q - i*r.n:=aa
     rw[List.getElem?_append_right (by simp;omega),List.getElem?_drop]
     congr 1
     simp;omega
   .rw[if_neg d]
 rw[e1] at k
 exact k
theorem aW.elemAt {T:Type}{r:cm T}{ro:Addr->Option Value}{e:TypeId}{b n cap:Nat}{l:List T}{bn:List (Nat×Obj)}(h:aW r ro e (.slice (some ⟨b,0,none⟩) n cap) l bn){i:Nat}{x:T}(hi:l[i]?=some x):
  ∃arr cs,bn=[(b,.cells arr e)]/\(∀off sp,ro ⟨b,off,sp⟩=none)/\r.rel ro x cs/\∀j v,cs[j]?=some v->arr[i*r.n+j]?=some v:=by
 obtain ⟨d,arr,f,cs,hv,ho,a,c,hm⟩:=h.elem hi
 cases hv
 exact ⟨arr,cs,ho,a,c,hm⟩
theorem aW.sd {T:Type}{r:cm T}{ro:Addr->Option Value}{e:TypeId}{ad:Option Addr}{n cap:Nat}{l:List T}{bn:List (Nat×Obj)}(h:aW r ro e (.slice ad n cap) l bn){i:Nat}{x:T}(hi:l[i]?=some x):
  ∃b arr cs,ad=some ⟨b,0,none⟩/\bn=[(b,.cells arr e)]/\(∀off sp,ro ⟨b,off,sp⟩=none)/\r.rel ro x cs/\∀j v,cs[j]?=some v->arr[i*r.n+j]?=some v:=by
 obtain ⟨a,arr,g,cs,hv,ho,c,d,hm⟩:=h.elem hi
 injection hv with f k m
 exact ⟨a,arr,cs,f,ho,c,d,hm⟩
theorem aW.dL {T:Type}{r:cm T}{ro:Addr->Option Value}{e:TypeId}{b n cap:Nat}{l:List T}{arr:Array Value}(h:aW r ro e (.slice (some ⟨b,0,none⟩) n cap) l [(b,.cells arr e)]){i:Nat}{x:T}(hi:l[i]?=some x):
  ∃cs,r.rel ro x cs/\∀j v,cs[j]?=some v->arr[i*r.n+j]?=some v:=by
 obtain ⟨c,cs,ho,d,a,hm⟩:=h.elemAt hi
 simp only[List.cons.injEq,Prod.mk.injEq,Obj.cells.injEq,true_and,and_true] at ho
 subst ho
 exact ⟨cs,a,hm⟩
theorem aW.gS {T:Type}{r:cm T}{ro:Addr->Option Value}{e:TypeId}{l:List T}{b n cap:Nat}{arr:Array Value}(h:aW r ro e (.slice (some ⟨b,0,none⟩) n cap) l [(b,.cells arr e)]){i:Nat}{y:T}(hi:i<l.length){cs:List Value}(a:r.rel ro y cs):
  aW r ro e (.slice (some ⟨b,0,none⟩) n cap) (l.set i y) [(b,.cells (bI arr (i*r.n) cs) e)]:=h.setAt (List.getElem?_eq_getElem hi) a
theorem aW.fN {T:Type}{r:cm T}{ro:Addr->Option Value}{e:TypeId}{ad:Option Addr}{n cap:Nat}{l:List T}{bn:List (Nat×Obj)}(h:aW r ro e (.slice ad n cap) l bn)(hn:l.isEmpty=false):
  ∃b arr,ad=some ⟨b,0,none⟩/\bn=[(b,.cells arr e)]/\(∀off sp,ro ⟨b,off,sp⟩=none):=by
 cases l with
 |nil=>cases hn
 |cons x l=>
  obtain ⟨b,arr,cs,a,c,d,_⟩:=h.sd (i:=0) rfl
  exact ⟨b,arr,a,c,d⟩
theorem aW.eI {T:Type}{r:cm T}{ro:Addr->Option Value}{e:TypeId}{b n cap:Nat}{l:List T}{bn:List (Nat×Obj)}(h:aW r ro e (.slice (some ⟨b,0,none⟩) n cap) l bn):∃arr,bn=[(b,.cells arr e)]:=by
 obtain ⟨ls,hg,-⟩:=h;rcases hg with ⟨hv,_,_⟩|⟨a,arr,c,hv,ho,_⟩
 .cases hv
 .cases hv;exact ⟨arr,ho⟩
theorem aW.count {T:Type}{r:cm T}{ro:Addr->Option Value}{e:TypeId}{ad:Option Addr}{n cap:Nat}{l:List T}{bn:List (Nat×Obj)}(h:aW r ro e (.slice ad n cap) l bn):l.length=n:=by
 obtain ⟨a,b,hv,_⟩:=h.len;cases hv;rfl
def pick (ops:Array Oper):List Nat->List Oper
 |[]=>[]
 |i::is=>match ops[i]? with
  |some o=>o::pick ops is
  |none=>pick ops is
attribute [go_sem] pick
inductive jg where
 |done
 |rd (i:Nat) (p:jg)
 |one (i:Nat) (p:jg)
 |two (i:Nat) (p:jg) (j:Nat) (q:jg)
inductive kQ where
 |done
 |rd (o:Oper) (p:kQ)
 |one (o:Oper) (p:kQ)
 |two (o:Oper) (p:kQ) (o':Oper) (q:kQ)
 |bad
def jg.opers (ops:Array Oper):jg->kQ
 | .done=>.done
 | .rd i p=>match ops[i]? with
  |some o=>.rd o (p.opers ops)
  |none=>.bad
 | .one i p=>match ops[i]? with
  |some o=>.one o (p.opers ops)
  |none=>.bad
 | .two i p j q=>match ops[i]?,ops[j]? with
  |some o,some o'=>.two o (p.opers ops) o' (q.opers ops)
  |_,_=>.bad
def jg.ok (ops:Array Oper):jg->Array Bool->Bool
 | .done,L=>decide (Region.ready .any ops L=[])
 | .rd i p,L=>Region.free .any ops L i&&(Region.ready .any ops L).contains i&&(ops[i]?).isSome&&p.ok ops (L.setIfInBounds i true)
 | .one i p,L=>decide (Region.ready .any ops L=[i])&&(ops[i]?).isSome&&p.ok ops (L.setIfInBounds i true)
 | .two i p j q,L=>decide (Region.ready .any ops L=[i,j])&&(ops[i]?).isSome&&(ops[j]?).isSome&&p.ok ops (L.setIfInBounds i true)&&q.ok ops (L.setIfInBounds j true)
def jg.len:jg->Nat
 | .done=>0
 | .rd _ p=>p.len+1
 | .one _ p=>p.len+1
 | .two _ p _ q=>max p.len q.len+1
def gv (P:Program)(J:Goroutine->af->Prop)(ops:Array Oper)(F0:af)(Q:Act->af->Prop):kQ->Bool->Act->af->Prop
 | .done,_,a,F=>Q a F
 | .bad,_,_,_=>False
 | .rd o p,_,a,F=>match cJ ops o a with
  |some false=>gv P J ops F0 Q p true (bC a o.dst undef) F
  |some true=>match o.op with
   | .load t x=>match ev a x with
    | .pointer (some ad)=>match ga P F0 t ad with
     |some v=>gv P J ops F0 Q p true (bC a o.dst v) F
     |none=>False
    |_=>False
   | .call {callee:=.value x,args, ..}=>match ev a x with
    | .func (.func fn) first captured=>aI P fn=true/\∃v,Plain P J F0 fn (first++args.map (ev a)++captured) v/\gv P J ops F0 Q p false (bC a o.dst v) F
    |_=>False
   |_=>match jd P o a with
    |some v=>gv P J ops F0 Q p true (bC a o.dst v) F
    |none=>False
  |none=>False
 | .one o p,_,a,F=>match cJ ops o a with
  |some true=>dc P J o (fun v F'=>Knows F0 F'/\gv P J ops F0 Q p (!Oper.calls o) (bC a o.dst v) F') a F
  |_=>False
 | .two o p o' q,_,a,F=>(match cJ ops o a with
  |some true=>dc P J o (fun v F'=>Knows F0 F'/\gv P J ops F0 Q p (!Oper.calls o) (bC a o.dst v) F') a F
  |_=>False)/\(match cJ ops o' a with
  |some true=>dc P J o' (fun v F'=>Knows F0 F'/\gv P J ops F0 Q q (!Oper.calls o') (bC a o'.dst v) F') a F
  |_=>False)
theorem E5 {P:Program}{J:Goroutine->af->Prop}{ops:Array Oper}{F0:af}{Q:Act->af->Prop}{go:Bool}{a:Act}{F:af}:gv P J ops F0 Q .done go a F=Q a F:=rfl
theorem E6 {P:Program}{J:Goroutine->af->Prop}{ops:Array Oper}{F0:af}{Q:Act->af->Prop}{o:Oper}{p:kQ}{a:Act}{F:af}:gv P J ops F0 Q (.rd o p) true a F=match cJ ops o a with
  |some false=>gv P J ops F0 Q p true (bC a o.dst undef) F
  |some true=>match o.op with
   | .load t x=>match ev a x with
    | .pointer (some ad)=>match ga P F0 t ad with
     |some v=>gv P J ops F0 Q p true (bC a o.dst v) F
     |none=>False
    |_=>False
   | .call {callee:=.value x,args, ..}=>match ev a x with
    | .func (.func fn) first captured=>aI P fn=true/\∃v,Plain P J F0 fn (first++args.map (ev a)++captured) v/\gv P J ops F0 Q p false (bC a o.dst v) F
    |_=>False
   |_=>match jd P o a with
    |some v=>gv P J ops F0 Q p true (bC a o.dst v) F
    |none=>False
  |none=>False:=(Eq.refl _).trans (Eq.refl _)
theorem E7 {P:Program}{J:Goroutine->af->Prop}{ops:Array Oper}{F0:af}{Q:Act->af->Prop}{o:Oper}{p:kQ}{a:Act}{F:af}:gv P J ops F0 Q (.one o p) true a F=match cJ ops o a with
  |some true=>dc P J o (fun v F'=>Knows F0 F'/\gv P J ops F0 Q p (!Oper.calls o) (bC a o.dst v) F') a F
  |_=>False:=(Eq.refl _).trans (Eq.refl _)
attribute [irreducible] gv
attribute [go_sem] E5 E6 E7 jg.opers
def qi (ops:Array Oper)(cg:List Nat)(i:Nat):Bool:=cg.all fun j=>match ops[j]? with
 |some o=>o.after.any fun e=>Region.binds .any e&&e.on==i
 |none=>true
section
variable {P:Program}{main:Bool}{J:Goroutine->af->Prop}{ops:Array Oper}{Q:Act->af->Prop}{S:af->Prop}{cg:List Nat}
def ew (P:Program)(J:Goroutine->af->Prop)(ops:Array Oper)(Q:Act->af->Prop)(S:af->Prop)(cg:List Nat):Nat->Array Bool->Act->af->Prop
 |0,listed,a,F=>Region.ready .any ops listed=[]/\Q a F
 |fuel+1,listed,a,F=>(Region.ready .any ops listed=[]->Q a F)/\
  ∀i∈Region.ready .any ops listed,ee P J ops i (fun b F'=>(¬i∈cg->S F->S F')/\ew P J ops Q S cg fuel (listed.setIfInBounds i true) b F') a F
theorem E8:∀(fuel t:Nat) (listed:Array Bool) (a:Act) (F:af),ew P J ops Q S cg fuel listed a F->
  fB P J ops Q (Region.linearise.go .any ops fuel t listed []) a F:=by
 intro fuel
 induction fuel with
 |zero=>intro t listed a F h;simpa [Region.linearise.go,fB] using h.2
 |succ fuel ih=>
  intro t listed a F h
  obtain ⟨b,c⟩:=h
  simp only[Region.linearise.go]
  change fB P J ops Q (match (Region.ready .any ops listed)[t % (Region.ready .any ops listed).length]? with
   |some i=>Region.linearise.go .any ops fuel (t/(Region.ready .any ops listed).length) (listed.setIfInBounds i true) [i]
   |none=>[].reverse) a F
  cases hi:(Region.ready .any ops listed)[t % (Region.ready .any ops listed).length]? with
  |none=>
   have d:Region.ready .any ops listed=[]:=by
    cases e:Region.ready .any ops listed with
    |nil=>rfl
    |cons x xs=>
     rw[e] at hi
     have f:t % (x::xs).length<(x::xs).length:=Nat.mod_lt _ an
     simp at hi
     simp at f
     omega
   simpa [fB] using b d
  |some i=>
   simp only[]
   rw[linearise_go_acc,List.reverse_singleton,List.singleton_append]
   exact pS (fun a F h=>ih _ _ a F h.2) (c i (List.mem_of_getElem? hi))
theorem E9 {i:Nat}{l:Oper}{v:Value}(hi:ops[i]?=some l)(m:qi ops cg i=true)(u:∀(j:Nat) (o:Oper) cs b,ops[j]?=some o->o.op≠ .select cs b):
  ∀(fuel:Nat) (listed:Array Bool) (a:Act) (F:af),
   (∀j f,ops[j]?=some f->j≠i->listed.getD j true=false->(∀e∈f.after,Region.binds .any e=true->e.on≠i)->l.apart ops f=true)->
   i∈Region.ready .any ops listed->fY P J ops S l v a->S F->
   ew P J ops Q S cg fuel (listed.setIfInBounds i true) (a.put l.dst v) F->ew P J ops Q S cg (fuel+1) listed a F:=by
 intro fuel
 induction fuel with
 |zero=>
  intro listed a F _ g n p H
  refine ⟨fun h=>(by rw[h] at g;cases g),fun j q=>?_⟩
  by_cases d:j=i
  .subst d;exact n.nq hi p ⟨fun _ h=>h,H⟩
  .have:=ready_mono q d
   rw[H.1] at this
   cases this
 |succ fuel ih=>
  intro listed a F w g n p H
  refine ⟨fun h=>(by rw[h] at g;cases g),fun j q=>?_⟩
  by_cases d:j=i
  .subst d;exact n.nq hi p ⟨fun _ h=>h,H⟩
  .have c:=H.2 j (ready_mono q d)
   obtain ⟨y,f,r,D⟩:=mem_ready.1 q
   have z:∀e∈f.after,Region.binds .any e=true->e.on≠i:=fun e he hb heq=>by
    have c:=D e he hb
    have A:=(mem_ready.1 g).1
    rw[heq] at c
    rcases Nat.lt_or_ge i listed.size with h'|h'
    .simp[h'] at A c;rw[A] at c;cases c
    .simp[Array.getElem?_eq_none h'] at c
   have E:¬j∈cg:=fun e=>by
    have m:=List.all_eq_true.1 m j e
    simp only[r,Array.any_eq_true,Bool.and_eq_true,beq_iff_eq] at m
    obtain ⟨x,G,c,t⟩:=m
    exact z _ (Array.getElem_mem G) c t
   have t:=uE r (w j f r d y z) (fun cs b=>u i l cs b hi) (fun cs b=>u j f cs b r) n c
   have I:∀k ok,ops[k]?=some ok->k≠i->(listed.setIfInBounds j true).getD k true=false->
     (∀e∈ok.after,Region.binds .any e=true->e.on≠i)->l.apart ops ok=true:=fun k ok K L B M=>by
    refine w k ok K L ?_ M
    by_cases C:j=k
    .subst C;exact y
    .rw[getD_set_ne true C] at B;exact B
   refine pS (fun N F' s=>⟨s.2.1,ih (listed.setIfInBounds j true) N F' I (ready_mono g (Ne.symm d)) s.1 (s.2.1 E p) ?_⟩) t
   rw[Array.setIfInBounds_comm _ _ d]
   exact s.2.2
theorem Fa {i:Nat}{l:Oper}{v:Value}(hi:ops[i]?=some l)(r:∀(j:Nat) (o:Oper) cs b,ops[j]?=some o->o.op≠ .select cs b):
  ∀(fuel:Nat) (listed:Array Bool) (a:Act) (F:af),
   (∀j d,ops[j]?=some d->j≠i->listed.getD j true=false->(∀e∈d.after,Region.binds .any e=true->e.on≠i)->l.apart ops d=true)->
   i∈Region.ready .any ops listed->fY P J ops (fun _=>True) l v a->
   ew P J ops Q S cg fuel (listed.setIfInBounds i true) (a.put l.dst v) F->ew P J ops Q S cg (fuel+1) listed a F:=by
 intro fuel
 induction fuel with
 |zero=>
  intro listed a F _ f m H
  refine ⟨fun h=>(by rw[h] at f;cases f),fun j n=>?_⟩
  by_cases c:j=i
  .subst c;exact m.nq hi trivial ⟨fun _ h=>h,H⟩
  .have:=ready_mono n c
   rw[H.1] at this
   cases this
 |succ fuel ih=>
  intro listed a F s f m H
  refine ⟨fun h=>(by rw[h] at f;cases f),fun j n=>?_⟩
  by_cases c:j=i
  .subst c;exact m.nq hi trivial ⟨fun _ h=>h,H⟩
  .have g:=H.2 j (ready_mono n c)
   obtain ⟨t,d,p,y⟩:=mem_ready.1 n
   have z:∀e∈d.after,Region.binds .any e=true->e.on≠i:=fun e he hb heq=>by
    have g:=y e he hb
    have u:=(mem_ready.1 f).1
    rw[heq] at g
    rcases Nat.lt_or_ge i listed.size with h'|h'
    .simp[h'] at u g;rw[u] at g;cases g
    .simp[Array.getElem?_eq_none h'] at g
   have A:=uE p (s j d p c t z) (fun cs b=>r i l cs b hi) (fun cs b=>r j d cs b p) m g
   have B:∀k ok,ops[k]?=some ok->k≠i->(listed.setIfInBounds j true).getD k true=false->
     (∀e∈ok.after,Region.binds .any e=true->e.on≠i)->l.apart ops ok=true:=fun k ok C D w E=>by
    refine s k ok C D ?_ E
    by_cases x:j=k
    .subst x;exact t
    .rw[getD_set_ne true x] at w;exact w
   refine pS (fun G F' q=>⟨q.2.1,ih (listed.setIfInBounds j true) G F' B (ready_mono f (Ne.symm c)) q.1 ?_⟩) A
   rw[Array.setIfInBounds_comm _ _ c]
   exact q.2.2
theorem z7 (i:Nat){c:Oper}(v:Value){fuel:Nat}{listed:Array Bool}{a:Act}{F:af}(hi:ops[i]?=some c)
  (b:(Region.noSelect ops&&Region.free .any ops listed i&&(Region.ready .any ops listed).contains i)=true)
  (d:qi ops cg i=true) (e:fY P J ops S c v a) (f:S F)
  (h:ew P J ops Q S cg fuel (listed.setIfInBounds i true) (a.put c.dst v) F):ew P J ops Q S cg (fuel+1) listed a F:=by
 simp only[Bool.and_eq_true] at b
 exact E9 hi d (Region.noSelect_spec b.1.1) fuel listed a F (Region.free_spec hi b.1.2) (by simpa using b.2) e f h
theorem vv {rs:List Nat}{fuel:Nat}{listed:Array Bool}{a:Act}{F:af}(b:Region.ready .any ops listed=rs)(c:rs≠[])
  (h:∀i∈rs,ee P J ops i (fun d F'=>(¬i∈cg->S F->S F')/\ew P J ops Q S cg fuel (listed.setIfInBounds i true) d F') a F):ew P J ops Q S cg (fuel+1) listed a F:=
 ⟨fun e=>absurd (b▸e) c,b▸h⟩
theorem z8 (i:Nat){fuel:Nat}{listed:Array Bool}{a:Act}{F:af}(b:Region.ready .any ops listed=[i])
  (h:ee P J ops i (fun c F'=>(¬i∈cg->S F->S F')/\ew P J ops Q S cg fuel (listed.setIfInBounds i true) c F') a F):ew P J ops Q S cg (fuel+1) listed a F:=
 vv b an (by simpa using h)
theorem z9 {listed:Array Bool}{a:Act}{F:af}(b:Region.ready .any ops listed=[])(h:Q a F):∀fuel,ew P J ops Q S cg fuel listed a F
 |0=>⟨b,h⟩
 |_+1=>⟨fun _=>h,by rw[b];simp⟩
end
theorem vw {P:Program}{J:Goroutine->af->Prop}{ops:Array Oper}{Q:Act->af->Prop}{S:af->Prop}{cg:List Nat}(i:Nat){b:Oper}(v:Value){fuel:Nat}{listed:Array Bool}{a:Act}{F:af}(hi:ops[i]?=some b)
  (d:(Region.noSelect ops&&Region.free .any ops listed i&&(Region.ready .any ops listed).contains i)=true)
  (e:qi ops cg i=true) (hg:cJ ops b a=some true) (f:∀F R,S F->R v F->dc P J b R a F) (c:S F)
  (h:ew P J ops Q S cg fuel (listed.setIfInBounds i true) (bC a b.dst v) F):ew P J ops Q S cg (fuel+1) listed a F:=
 z7 i v hi d e (.inl ⟨cH hg,fun F R c hR=>j4 (f F R c hR)⟩) c h
theorem Fb {P:Program}{J:Goroutine->af->Prop}{ops:Array Oper}{Q:Act->af->Prop}{S:af->Prop}{cg:List Nat}(i:Nat){b:Oper}{fuel:Nat}{listed:Array Bool}{a:Act}{F:af}(hi:ops[i]?=some b)
  (c:(Region.noSelect ops&&Region.free .any ops listed i&&(Region.ready .any ops listed).contains i)=true)
  (d:qi ops cg i=true) (hg:cJ ops b a=some false) (e:S F)
  (h:ew P J ops Q S cg fuel (listed.setIfInBounds i true) (bC a b.dst undef) F):ew P J ops Q S cg (fuel+1) listed a F:=
 z7 i undef hi c d (.inr ⟨cH hg,rfl⟩) e h
theorem Aa {P:Program}{J:Goroutine->af->Prop}{ops:Array Oper}{Q:Act->af->Prop}{S:af->Prop}{cg:List Nat}(i:Nat){c:Oper}(v:Value){fuel:Nat}{listed:Array Bool}{a:Act}{F:af}(hi:ops[i]?=some c)
  (b:(Region.noSelect ops&&Region.free .any ops listed i&&(Region.ready .any ops listed).contains i)=true)
  (d:fY P J ops (fun _=>True) c v a)
  (h:ew P J ops Q S cg fuel (listed.setIfInBounds i true) (bC a c.dst v) F):ew P J ops Q S cg (fuel+1) listed a F:=by
 simp only[Bool.and_eq_true] at b
 exact Fa hi (Region.noSelect_spec b.1.1) fuel listed a F (Region.free_spec hi b.1.2) (by simpa using b.2) d h
inductive cx where
 |done
 |rd (i:Nat) (p:cx)
 |one (i:Nat) (p:cx)
 |two (i:Nat) (p:cx) (j:Nat) (q:cx)
 |three (i:Nat) (p:cx) (j:Nat) (q:cx) (k:Nat) (r:cx)
 |last (i:Nat) (p:cx)
 |pure (i:Nat) (p:cx)
inductive gf where
 |done
 |rd (o:Oper) (p:gf)
 |one (o:Oper) (p:gf)
 |two (o:Oper) (p:gf) (o':Oper) (q:gf)
 |three (o:Oper) (p:gf) (o':Oper) (q:gf) (jL:Oper) (r:gf)
 |last (o:Oper) (p:gf)
 |pure (o:Oper) (p:gf)
 |bad
def cx.opers (ops:Array Oper):cx->gf
 | .done=>.done
 | .rd i p=>match ops[i]? with
  |some o=>.rd o (p.opers ops)
  |none=>.bad
 | .one i p=>match ops[i]? with
  |some o=>.one o (p.opers ops)
  |none=>.bad
 | .two i p j q=>match ops[i]?,ops[j]? with
  |some o,some o'=>.two o (p.opers ops) o' (q.opers ops)
  |_,_=>.bad
 | .three i p j q k r=>match ops[i]?,ops[j]?,ops[k]? with
  |some o,some o',some jL=>.three o (p.opers ops) o' (q.opers ops) jL (r.opers ops)
  |_,_,_=>.bad
 | .last i p=>match ops[i]? with
  |some o=>.last o (p.opers ops)
  |none=>.bad
 | .pure i p=>match ops[i]? with
  |some o=>.pure o (p.opers ops)
  |none=>.bad
def cx.tl:cx->Bool
 | .done=>true
 | .last _ p=>p.tl
 | .pure _ p=>p.tl
 |_=>false
def cx.ok (ops:Array Oper)(cg:List Nat):cx->Array Bool->Bool
 | .done,L=>decide (Region.ready .any ops L=[])
 | .rd i p,L=>Region.free .any ops L i&&(Region.ready .any ops L).contains i&&(ops[i]?).isSome&&qi ops cg i&&p.ok ops cg (L.setIfInBounds i true)
 | .one i p,L=>decide (Region.ready .any ops L=[i])&&(ops[i]?).isSome&&p.ok ops cg (L.setIfInBounds i true)
 | .two i p j q,L=>decide (Region.ready .any ops L=[i,j])&&(ops[i]?).isSome&&(ops[j]?).isSome&&p.ok ops cg (L.setIfInBounds i true)&&q.ok ops cg (L.setIfInBounds j true)
 | .three i p j q k r,L=>decide (Region.ready .any ops L=[i,j,k])&&(ops[i]?).isSome&&(ops[j]?).isSome&&(ops[k]?).isSome&&p.ok ops cg (L.setIfInBounds i true)&&q.ok ops cg (L.setIfInBounds j true)&&r.ok ops cg (L.setIfInBounds k true)
 | .pure i p,L=>Region.free .any ops L i&&(Region.ready .any ops L).contains i&&(ops[i]?).isSome&&p.ok ops cg (L.setIfInBounds i true)
 | .last i p,L=>cg.contains i&&decide (Region.ready .any ops L=[i])&&p.tl&&(ops[i]?).isSome&&p.ok ops cg (L.setIfInBounds i true)
def cx.len:cx->Nat
 | .done=>0
 | .rd _ p=>p.len+1
 | .one _ p=>p.len+1
 | .two _ p _ q=>max p.len q.len+1
 | .three _ p _ q _ r=>max p.len (max q.len r.len)+1
 | .last _ p=>p.len+1
 | .pure _ p=>p.len+1
def cp (P:Program)(J:Goroutine->af->Prop)(ops:Array Oper)(F0:af)(Q:Act->af->Prop):gf->Bool->Act->af->Prop
 | .done,_,a,F=>Q a F
 | .bad,_,_,_=>False
 | .rd o p,_,a,F=>match cJ ops o a with
  |some false=>cp P J ops F0 Q p true (bC a o.dst undef) F
  |some true=>match o.op with
   | .load t x=>match ev a x with
    | .pointer (some ad)=>match ga P F0 t ad with
     |some v=>cp P J ops F0 Q p true (bC a o.dst v) F
     |none=>False
    |_=>False
   | .call {callee:=.value x,args, ..}=>match ev a x with
    | .func (.func fn) first captured=>aI P fn=true/\∃v,Plain P J F0 fn (first++args.map (ev a)++captured) v/\cp P J ops F0 Q p false (bC a o.dst v) F
    |_=>False
   |_=>match jd P o a with
    |some v=>cp P J ops F0 Q p true (bC a o.dst v) F
    |none=>False
  |none=>False
 | .one o p,_,a,F=>match cJ ops o a with
  |some true=>dc P J o (fun v F'=>Knows F0 F'/\cp P J ops F0 Q p (!Oper.calls o) (bC a o.dst v) F') a F
  |some false=>cp P J ops F0 Q p true (bC a o.dst undef) F
  |none=>False
 | .two o p o' q,_,a,F=>(match cJ ops o a with
  |some true=>dc P J o (fun v F'=>Knows F0 F'/\cp P J ops F0 Q p (!Oper.calls o) (bC a o.dst v) F') a F
  |some false=>cp P J ops F0 Q p true (bC a o.dst undef) F
  |none=>False)/\(match cJ ops o' a with
  |some true=>dc P J o' (fun v F'=>Knows F0 F'/\cp P J ops F0 Q q (!Oper.calls o') (bC a o'.dst v) F') a F
  |some false=>cp P J ops F0 Q q true (bC a o'.dst undef) F
  |none=>False)
 | .three o p o' q jL r,_,a,F=>(match cJ ops o a with
  |some true=>dc P J o (fun v F'=>Knows F0 F'/\cp P J ops F0 Q p (!Oper.calls o) (bC a o.dst v) F') a F
  |some false=>cp P J ops F0 Q p true (bC a o.dst undef) F
  |none=>False)/\(match cJ ops o' a with
  |some true=>dc P J o' (fun v F'=>Knows F0 F'/\cp P J ops F0 Q q (!Oper.calls o') (bC a o'.dst v) F') a F
  |some false=>cp P J ops F0 Q q true (bC a o'.dst undef) F
  |none=>False)/\(match cJ ops jL a with
  |some true=>dc P J jL (fun v F'=>Knows F0 F'/\cp P J ops F0 Q r (!Oper.calls jL) (bC a jL.dst v) F') a F
  |some false=>cp P J ops F0 Q r true (bC a jL.dst undef) F
  |none=>False)
 | .pure o p,_,a,F=>match cJ ops o a with
  |some false=>cp P J ops F0 Q p true (bC a o.dst undef) F
  |some true=>match jd P o a with
   |some v=>cp P J ops F0 Q p true (bC a o.dst v) F
   |none=>False
  |none=>False
 | .last o p,_,a,F=>match cJ ops o a with
  |some true=>dc P J o (fun v F'=>cp P J ops F0 Q p (!Oper.calls o) (bC a o.dst v) F') a F
  |_=>False
section
variable {P:Program}{main:Bool}{J:Goroutine->af->Prop}{ops:Array Oper}{Q:Act->af->Prop}{F0:af}{cg:List Nat}
theorem nN {p:cx}{i:Nat}{o:Oper}{fuel:Nat}{L:Array Bool}{a:Act}{F:af}(ho:ops[i]?=some o)(hF:Knows F0 F)
  (ih:∀go a F,Knows F0 F->cp P J ops F0 Q (p.opers ops) go a F->ew P J ops Q (Knows F0) cg fuel (L.setIfInBounds i true) a F)
  (h:match cJ ops o a with
   |some true=>dc P J o (fun v F'=>Knows F0 F'/\cp P J ops F0 Q (p.opers ops) (!Oper.calls o) (bC a o.dst v) F') a F
   |some false=>cp P J ops F0 Q (p.opers ops) true (bC a o.dst undef) F
   |none=>False):ee P J ops i (fun c F'=>(¬i∈cg->Knows F0 F->Knows F0 F')/\ew P J ops Q (Knows F0) cg fuel (L.setIfInBounds i true) c F') a F:=by
 split at h
 .rename_i hg
  unfold ee
  simp only[ho]
  rw[if_pos (cH hg)]
  refine j4 (r4.vm ?_ h)
  rintro v F' ⟨b,d⟩
  exact ⟨fun _ _=>b,ih _ _ F' b d⟩
 .rename_i hg
  unfold ee
  simp only[ho]
  rw[if_neg (by rw[cH hg];exact Bool.false_ne_true)]
  exact ⟨fun _ e=>e,ih _ _ F hF h⟩
 .exact h.elim
theorem Ab {p:cx}{i:Nat}{fuel:Nat}{L:Array Bool}{go:Bool}{a:Act}{F:af}(d:Region.noSelect ops=true)(b:(cx.pure i p).ok ops cg L=true)
  (ih:∀go v a,p.ok ops cg (L.setIfInBounds i true)=true->cp P J ops F0 Q (p.opers ops) go (bC a ((ops[i]?).bind (·.dst)) v) F->ew P J ops Q (Knows F0) cg fuel (L.setIfInBounds i true) (bC a ((ops[i]?).bind (·.dst)) v) F)
  (h:cp P J ops F0 Q ((cx.pure i p).opers ops) go a F):ew P J ops Q (Knows F0) cg (fuel+1) L a F:=by
 simp only[cx.ok,Bool.and_eq_true] at b
 obtain ⟨⟨⟨c1,c2⟩,c3⟩,c4⟩:=b
 obtain ⟨o,ho⟩:=Option.isSome_iff_exists.1 c3
 have c:(Region.noSelect ops&&Region.free .any ops L i&&(Region.ready .any ops L).contains i)=true:=by rw[d,c1,c2];rfl
 have e:cx.opers ops (.pure i p)= .pure o (p.opers ops):=by simp only[cx.opers,ho]
 rw[e] at h
 have hd:(ops[i]?).bind (·.dst)=o.dst:=by rw[ho];rfl
 rw[hd] at ih
 unfold cp at h
 split at h
 .rename_i hg
  exact Aa i undef ho c (.inr ⟨cH hg,rfl⟩) (ih _ _ _ c4 h)
 .rename_i hg
  split at h
  .rename_i v hv
   exact Aa i v ho c (.inl ⟨cH hg,fun F R _ hR=>j4 (vk hv hR)⟩) (ih _ _ _ c4 h)
  .exact h.elim
 .exact h.elim
theorem vz (d:Region.noSelect ops=true):∀(p:cx) (fuel:Nat) (L:Array Bool) (go:Bool) (a:Act) (F:af),p.tl=true->p.len<=fuel->p.ok ops cg L=true->cp P J ops F0 Q (p.opers ops) go a F->ew P J ops Q (Knows F0) cg fuel L a F
 | .done,fuel,L,go,a,F,_,c,b,h=>by
  simp only[cx.ok,decide_eq_true_eq] at b
  unfold cx.opers cp at h
  exact z9 b h _
 | .last i p,fuel,L,go,a,F,ht,c,b,h=>by
  simp only[cx.ok,Bool.and_eq_true,decide_eq_true_eq] at b
  obtain ⟨⟨⟨⟨c1,c2⟩,c3⟩,c4⟩,e⟩:=b
  obtain ⟨o,ho⟩:=Option.isSome_iff_exists.1 c4
  have g:cx.opers ops (.last i p)= .last o (p.opers ops):=by simp only[cx.opers,ho]
  rw[g] at h
  simp only[cx.len] at c
  obtain ⟨fuel,rfl⟩:∃f,fuel=f+1:=⟨fuel - 1,aa⟩
  unfold cp at h
  refine z8 i c2 ?_
  split at h
  .rename_i hg
   unfold ee
   simp only[ho]
   rw[if_pos (cH hg)]
   refine j4 (r4.vm ?_ h)
   exact fun v F' j=>⟨fun k _=>absurd (by simpa using c1) k,vz d p fuel _ _ _ F' c3 aa e j⟩
  .exact h.elim
 | .pure i p,fuel,L,go,a,F,ht,c,b,h=>by
  simp only[cx.len] at c
  obtain ⟨fuel,rfl⟩:∃f,fuel=f+1:=⟨fuel - 1,aa⟩
  exact Ab d b (fun go v a c4 hv=>vz d p fuel _ go _ F ht aa c4 hv) h
 | .rd _ _,_,_,_,_,_,ht,_,_,_=>by cases ht
 | .one _ _,_,_,_,_,_,ht,_,_,_=>by cases ht
 | .two ..,_,_,_,_,_,ht,_,_,_=>by cases ht
 | .three ..,_,_,_,_,_,ht,_,_,_=>by cases ht
theorem j7 (d:Region.noSelect ops=true):∀(p:cx) (fuel:Nat) (L:Array Bool) (go:Bool) (a:Act) (F:af),Knows F0 F->p.len<=fuel->p.ok ops cg L=true->cp P J ops F0 Q (p.opers ops) go a F->ew P J ops Q (Knows F0) cg fuel L a F
 | .done,fuel,L,go,a,F,hF,c,b,h=>by
  simp only[cx.ok,decide_eq_true_eq] at b
  unfold cx.opers cp at h
  exact z9 b h _
 | .rd i p,fuel,L,go,a,F,hF,c,b,h=>by
  simp only[cx.ok,Bool.and_eq_true] at b
  obtain ⟨⟨⟨⟨c1,c2⟩,c3⟩,e⟩,c4⟩:=b
  obtain ⟨o,ho⟩:=Option.isSome_iff_exists.1 c3
  have n:(Region.noSelect ops&&Region.free .any ops L i&&(Region.ready .any ops L).contains i)=true:=by rw[d,c1,c2];rfl
  have g:cx.opers ops (.rd i p)= .rd o (p.opers ops):=by simp only[cx.opers,ho]
  rw[g] at h
  simp only[cx.len] at c
  obtain ⟨fuel,rfl⟩:∃f,fuel=f+1:=⟨fuel - 1,aa⟩
  have next:∀go v,cp P J ops F0 Q (p.opers ops) go (bC a o.dst v) F->ew P J ops Q (Knows F0) cg fuel (L.setIfInBounds i true) (bC a o.dst v) F:=fun go v hv=>
   j7 d p fuel _ go _ F hF aa c4 hv
  unfold cp at h
  split at h
  .rename_i hg
   exact Fb i ho n e hg hF (next true undef h)
  .rename_i hg
   split at h
   .rename_i t x u
    split at h
    case h_2=>exact h.elim
    rename_i ad y
    split at h
    case h_2=>exact h.elim
    rename_i v hv
    refine vw i v ho n e hg (fun F R s hR=>?_) hF (next _ v h)
    unfold dc
    simp only[u,y,s.ga hv]
    exact hR
   .rename_i x args argTypes u
    split at h
    case h_2=>exact h.elim
    rename_i fn first captured l
    obtain ⟨z,v,A,h⟩:=h
    refine vw i v ho n e hg (fun F R s hR=>?_) hF (next _ v h)
    unfold dc
    simp only[u,l]
    exact ⟨z,(A F s).mono fun E F' B=>by obtain ⟨rfl,rfl⟩:=B;exact hR⟩
   .split at h
    case h_2=>exact h.elim
    rename_i v hv
    exact vw i v ho n e hg (fun F R s hR=>vk hv hR) hF (next _ v h)
  .exact h.elim
 | .one i p,fuel,L,go,a,F,hF,c,b,h=>by
  simp only[cx.ok,Bool.and_eq_true,decide_eq_true_eq] at b
  obtain ⟨⟨c1,c3⟩,c4⟩:=b
  obtain ⟨o,ho⟩:=Option.isSome_iff_exists.1 c3
  have g:cx.opers ops (.one i p)= .one o (p.opers ops):=by simp only[cx.opers,ho]
  rw[g] at h
  simp only[cx.len] at c
  obtain ⟨fuel,rfl⟩:∃f,fuel=f+1:=⟨fuel - 1,aa⟩
  unfold cp at h
  exact z8 i c1 (nN ho hF (fun go a F hF h=>j7 d p fuel _ go a F hF aa c4 h) h)
 | .two i p j q,fuel,L,go,a,F,hF,c,b,h=>by
  simp only[cx.ok,Bool.and_eq_true,decide_eq_true_eq] at b
  obtain ⟨⟨⟨⟨c1,c2⟩,c3⟩,c4⟩,e⟩:=b
  obtain ⟨o,ho⟩:=Option.isSome_iff_exists.1 c2
  obtain ⟨o',m⟩:=Option.isSome_iff_exists.1 c3
  have g:cx.opers ops (.two i p j q)= .two o (p.opers ops) o' (q.opers ops):=by simp only[cx.opers,ho,m]
  rw[g] at h
  simp only[cx.len] at c
  obtain ⟨fuel,rfl⟩:∃f,fuel=f+1:=⟨fuel - 1,aa⟩
  unfold cp at h
  refine vv c1 an fun x l=>?_
  simp only[List.mem_cons,List.not_mem_nil,or_false] at l
  rcases l with rfl|rfl
  .exact nN ho hF (fun go a F hF h=>j7 d p fuel _ go a F hF aa c4 h) h.1
  .exact nN m hF (fun go a F hF h=>j7 d q fuel _ go a F hF aa e h) h.2
 | .three i p j q k r,fuel,L,go,a,F,hF,c,b,h=>by
  simp only[cx.ok,Bool.and_eq_true,decide_eq_true_eq] at b
  obtain ⟨⟨⟨⟨⟨⟨c1,c2⟩,c3⟩,c4⟩,e⟩,C⟩,D⟩:=b
  obtain ⟨o,ho⟩:=Option.isSome_iff_exists.1 c2
  obtain ⟨o',m⟩:=Option.isSome_iff_exists.1 c3
  obtain ⟨jL,w⟩:=Option.isSome_iff_exists.1 c4
  have g:cx.opers ops (.three i p j q k r)= .three o (p.opers ops) o' (q.opers ops) jL (r.opers ops):=by simp only[cx.opers,ho,m,w]
  rw[g] at h
  simp only[cx.len] at c
  obtain ⟨fuel,rfl⟩:∃f,fuel=f+1:=⟨fuel - 1,aa⟩
  unfold cp at h
  refine vv c1 an fun x l=>?_
  simp only[List.mem_cons,List.not_mem_nil,or_false] at l
  rcases l with rfl|rfl|rfl
  .exact nN ho hF (fun go a F hF h=>j7 d p fuel _ go a F hF aa e h) h.1
  .exact nN m hF (fun go a F hF h=>j7 d q fuel _ go a F hF aa C h) h.2.1
  .exact nN w hF (fun go a F hF h=>j7 d r fuel _ go a F hF aa D h) h.2.2
 | .last i p,fuel,L,go,a,F,hF,c,b,h=>vz d (.last i p) fuel L go a F (by simp only[cx.ok,Bool.and_eq_true] at b;exact b.1.1.2) c b h
 | .pure i p,fuel,L,go,a,F,hF,c,b,h=>by
  simp only[cx.len] at c
  obtain ⟨fuel,rfl⟩:∃f,fuel=f+1:=⟨fuel - 1,aa⟩
  exact Ab d b (fun go v a c4 hv=>j7 d p fuel _ go _ F hF aa c4 hv) h
theorem ey {Q:Ex->Act->af->Prop}(hJ:Closed P main J)(d:P.follows .mixedOrders=true)(cg:List Nat)(p:cx){id:Nat}{a:Act}{F:af}(F0:af)(hF:Knows F0 F)
  (c:(Region.noSelect ops&&decide (p.len<=ops.size)&&p.ok ops cg (Array.replicate ops.size false))=true)
  (h:cp P J ops F0 (Q .normal) (p.opers ops) true a F):Wp J (.region id ops true) Q a F:=by
 simp only[Bool.and_eq_true,decide_eq_true_eq] at c
 obtain ⟨⟨e,f⟩,g⟩:=c
 intro b k cs hb i
 refine hJ.step fun w hw=>?_
 refine ⟨_,_,_,F,uz,.drawn _ _ _,hw.drawn _,an,?_⟩
 refine rG (K:=Q .normal) hJ (uH hb) (fun j F' h'=>i .normal j F' h') _ _ _ ?_
 simp only[Region.schedule,d,Bool.true_or,if_true]
 exact E8 ops.size _ _ a F (j7 (cg:=cg) e p ops.size _ true a F hF f g h)
end
theorem Fc {P:Program}{J:Goroutine->af->Prop}{ops:Array Oper}{F0:af}{Q:Act->af->Prop}{go:Bool}{a:Act}{F:af}:cp P J ops F0 Q .done go a F=Q a F:=rfl
theorem Fe {P:Program}{J:Goroutine->af->Prop}{ops:Array Oper}{F0:af}{Q:Act->af->Prop}{o:Oper}{p:gf}{a:Act}{F:af}:cp P J ops F0 Q (.rd o p) true a F=match cJ ops o a with
  |some false=>cp P J ops F0 Q p true (bC a o.dst undef) F
  |some true=>match o.op with
   | .load t x=>match ev a x with
    | .pointer (some ad)=>match ga P F0 t ad with
     |some v=>cp P J ops F0 Q p true (bC a o.dst v) F
     |none=>False
    |_=>False
   | .call {callee:=.value x,args, ..}=>match ev a x with
    | .func (.func fn) first captured=>aI P fn=true/\∃v,Plain P J F0 fn (first++args.map (ev a)++captured) v/\cp P J ops F0 Q p false (bC a o.dst v) F
    |_=>False
   |_=>match jd P o a with
    |some v=>cp P J ops F0 Q p true (bC a o.dst v) F
    |none=>False
  |none=>False:=(Eq.refl _).trans (Eq.refl _)
theorem Ac {P:Program}{J:Goroutine->af->Prop}{ops:Array Oper}{F0:af}{Q:Act->af->Prop}{o:Oper}{p:gf}{a:Act}{F:af}:cp P J ops F0 Q (.one o p) true a F=match cJ ops o a with
  |some true=>dc P J o (fun v F'=>Knows F0 F'/\cp P J ops F0 Q p (!Oper.calls o) (bC a o.dst v) F') a F
  |some false=>cp P J ops F0 Q p true (bC a o.dst undef) F
  |none=>False:=(Eq.refl _).trans (Eq.refl _)
theorem vA {P:Program}{J:Goroutine->af->Prop}{ops:Array Oper}{F0:af}{Q:Act->af->Prop}{o o':Oper}{p q:gf}{go:Bool}{a:Act}{F:af}(b:cp P J ops F0 Q (.one o p) true a F)(c:cp P J ops F0 Q (.one o' q) true a F):cp P J ops F0 Q (.two o p o' q) go a F:=by
 rw[Ac] at b c;unfold cp;exact ⟨b,c⟩
theorem Ff {P:Program}{J:Goroutine->af->Prop}{ops:Array Oper}{F0:af}{Q:Act->af->Prop}{o:Oper}{p:gf}{a:Act}{F:af}:cp P J ops F0 Q (.last o p) true a F=match cJ ops o a with
  |some true=>dc P J o (fun v F'=>cp P J ops F0 Q p (!Oper.calls o) (bC a o.dst v) F') a F
  |_=>False:=(Eq.refl _).trans (Eq.refl _)
theorem Fg {P:Program}{J:Goroutine->af->Prop}{ops:Array Oper}{F0:af}{Q:Act->af->Prop}{o:Oper}{p:gf}{a:Act}{F:af}:cp P J ops F0 Q (.pure o p) true a F=match cJ ops o a with
  |some false=>cp P J ops F0 Q p true (bC a o.dst undef) F
  |some true=>match jd P o a with
   |some v=>cp P J ops F0 Q p true (bC a o.dst v) F
   |none=>False
  |none=>False:=(Eq.refl _).trans (Eq.refl _)
theorem gT {P:Program}{J:Goroutine->af->Prop}{ops:Array Oper}{F0:af}{Q:Act->af->Prop}:∀{p:gf} {go:Bool} {a:Act} {F:af},cp P J ops F0 Q p true a F->cp P J ops F0 Q p go a F
 | .done,_,_,_,h=>h
 | .bad,_,_,_,h=>h
 | .rd ..,_,_,_,h=>h
 | .one ..,_,_,_,h=>h
 | .two ..,_,_,_,h=>h
 | .three ..,_,_,_,h=>h
 | .last ..,_,_,_,h=>h
 | .pure ..,_,_,_,h=>h
attribute [irreducible] cp
attribute [go_sem] Fc Fe Ac Ff Fg cx.opers
end Go.Sep
end

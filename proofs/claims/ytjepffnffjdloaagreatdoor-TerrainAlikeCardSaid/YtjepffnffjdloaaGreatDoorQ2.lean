/- A part of the proof of a row and its tied card: Q2. -/
import Derived.Test.YtjepffnffjdloaaGreatDoorQ1
import Derived.WalkKit
import Derived.IntWalk
import Derived.NoCompilerSame
import Derived.Test.YtjepffnffjdloaaGreatDoorProg
import Derived.KernelRfl
set_option linter.all false
section
namespace Go.Sep
open Go Go.Conc
section
variable {α β : Type} {P : Program} {Q : α → af → Prop} {F : af}
@[go_sem] theorem bC (a:α):aT P (Pure.pure a) Q F=Q a F:=rfl
@[go_sem] theorem KG (a:α):aT P (Sem.pure a) Q F=Q a F:=rfl
@[go_sem] theorem bq {R:β->af->Prop}(x:Sem α)(f:α->Sem β):aT P (x>>= f) R F=aT P x (fun a G=>aT P (f a) R G) F:=propext (yp x F)
@[go_sem] theorem KH {R:β->af->Prop}(x:Sem α)(f:α->β):aT P (Functor.map f x) R F=aT P x (fun a G=>R (f a) G) F:=propext (yp x F)
@[go_sem] theorem de (c:Prop)[Decidable c](x y:Sem α):aT P (if c then x else y) Q F=if c then aT P x Q F else aT P y Q F:=by split<;>rfl
@[go_sem] theorem yT {Q:Value->af->Prop}(a:Addr):aT P (load a) Q F=∃v,F.get a=some v/\Q v F:=by simp[load,aT]
@[go_sem] theorem De {Q:Unit->af->Prop}(a:Addr)(v:Value):aT P (store a v) Q F=∃F',F.lE a v=some F'/\Q () F':=by simp[store,aT]
@[go_sem] theorem oI {Q:Nat->af->Prop}(o:Obj):aT P (newObj o) Q F=(o.isChan=false/\∀b,dK F b->Q b (F.push b o)):=rfl
@[go_sem] theorem jN {Q:Program->af->Prop}:aT P program Q F=Q P F:=rfl
@[go_sem] theorem ua {Q:Nat->af->Prop}(q:Question):aT P (choose q) Q F=if q.forced then Q 0 F else ∀t,Q (q.cut t) F:=rfl
@[go_sem] theorem mT {Q:Obj->af->Prop}(r:Nat):aT P (getObj r) Q F=∃o,F.eT r=some o/\Q o F:=rfl
@[go_sem] theorem lH {Q:Unit->af->Prop}(r:Nat)(o:Obj):aT P (Go.setObj r o) Q F=(o.isChan=false/\(F.eT r).isSome=true/\Q () (F.put r o)):=rfl
@[go_sem] theorem KI (s:String):aT P (stuck s:Sem α) Q F=False:=rfl
@[go_sem] theorem KJ {Q:Unit->af->Prop}(m:Mark):aT P (mark m) Q F=(oC m=true/\Q () F):=rfl
@[go_sem] theorem dj {Q:TypeDesc->af->Prop}(t:TypeId):aT P (underlying t) Q F=match P.underlying t with|some d=>Q d F|none=>False:=by
 simp only[underlying,bq,jN];cases P.underlying t<;>rfl
@[go_sem] theorem oJ {Q:TypeInfo->af->Prop}(t:TypeId):aT P (typeInfo t) Q F=match P.info? t with|some d=>Q d F|none=>False:=by
 simp only[typeInfo,bq,jN];cases P.info? t<;>rfl
def bW (P:Program)(t:TypeId):Option Nat:=(P.info? t).map (·.size)
def zeroOf (P:Program)(t:TypeId):Option Value:=(P.info? t).bind (·.zero)
def bytesOf (P:Program)(t:TypeId):Option Nat:=(P.info? t).map (·.bytes)
@[go_sem] theorem eE {Q:Nat->af->Prop}(t:TypeId):aT P (sizeOf t) Q F=match bW P t with|some n=>Q n F|none=>False:=by
 simp only[sizeOf,bq,oJ,bW];cases P.info? t<;>rfl
@[go_sem] theorem lI {Q:Value->af->Prop}(t:TypeId):aT P (zeroValue t) Q F=match zeroOf P t with|some n=>Q n F|none=>False:=by
 simp only[zeroValue,bq,oJ,zeroOf]
 cases P.info? t with
 |none=>rfl
 |some i=>simp only[Option.bind_some];cases i.zero<;>rfl
def cA (P:Program)(t:TypeId):Option Bool:=(P.underlying t).map fun| .struct _=>true| .array _ _=>true|_=>false
@[go_sem] theorem lJ {Q:Bool->af->Prop}(t:TypeId):aT P (isAgg t) Q F=match cA P t with|some n=>Q n F|none=>False:=by
 simp only[isAgg,bq,dj,cA]
 cases P.underlying t with
 |none=>rfl
 |some d=>cases d<;>rfl
def af.lK (F:af)(a:Addr):Nat->List Value->Prop
 |_,[]=>True
 |i,v::b=>F.get (a.add i)=some v/\F.lK a (i+1) b
theorem uf {Q:Array Value->af->Prop}(a:Addr):∀(b:List Value) (i:Nat) (acc:Array Value),F.lK a i b->Q (acc++b.toArray) F->aT P (loadCellsFrom a i b.length acc) Q F
 |[],i,acc,_,h=>by simpa [loadCellsFrom,bC] using h
 |v::b,i,acc,hg,h=>by
  simp only[List.length_cons,loadCellsFrom,bq,yT]
  refine ⟨v,hg.1,uf a b (i+1) (acc.push v) hg.2 ?_⟩
  simpa using h
theorem Df {Q:Value->af->Prop}{t:TypeId}{a:Addr}(b:List Value)(ht:cA P t=some true)(hs:bW P t=some b.length)(hg:F.lK a 0 b)(h:Q (.agg b.toArray) F):aT P (loadVar t a) Q F:=by
 simp only[loadVar,bq,lJ,ht,de,if_true,eE,hs,loadCells]
 exact uf a b 0 #[] hg (by simpa [bC] using h)
theorem Dg {Q:Value->af->Prop}{t:TypeId}{a:Addr}(v:Value)(ht:cA P t=some false)(hg:F.get a=some v)(h:Q v F):aT P (loadVar t a) Q F:=by
 simp only[loadVar,bq,lJ,ht,de,yT]
 exact ⟨v,hg,h⟩
def af.jf (F:af)(a:Addr):Nat->List Value->Option af
 |_,[]=>some F
 |i,v::b=>match F.lE (a.add i) v with
  |some F'=>F'.jf a (i+1) b
  |none=>none
theorem qE {Q:Unit->af->Prop}(a:Addr):∀(b:List Value) (i:Nat) (F F':af),F.jf a i b=some F'->Q () F'->aT P (storeCells a b i) Q F
 |[],i,F,F',hg,h=>by simp only[af.jf,Option.some.injEq] at hg;subst hg;simpa [storeCells,bC] using h
 |v::b,i,F,F',hg,h=>by
  simp only[storeCells,bq,De]
  unfold af.jf at hg
  split at hg
  ·rename_i c d
   exact ⟨c,d,qE a b (i+1) c F' hg h⟩
  ·cases hg
theorem Dh {Q:Unit->af->Prop}{t:TypeId}{a:Addr}{v:Value}(F':af)(hs:bW P t=some v.cells.size)(hg:F.jf a 0 v.cells.toList=some F')(h:Q () F'):aT P (storeVar t a v) Q F:=by
 simp only[storeVar,bq,eE,hs,ne_eq,not_true_eq_false,if_false]
 exact qE a _ 0 F F' hg h
@[go_sem] theorem yU {Q:Addr->af->Prop}(t:TypeId)(v:Value):aT P (newVar t v) Q F=∀b,dK F b->Q ⟨b,0,none⟩ (F.push b (.cells v.cells t)):=by
 simp only[newVar,newRow,bq,oI,bC]
 simp[Obj.isChan]
@[go_sem] theorem qF {Q:Addr->af->Prop}(t:TypeId)(v:Array Value):aT P (newRow t v) Q F=∀b,dK F b->Q ⟨b,0,none⟩ (F.push b (.cells v t)):=by
 simp only[newRow,bq,oI,bC]
 simp[Obj.isChan]
@[go_sem] theorem qG {Q:Addr->af->Prop}(a:Addr):aT P (Instr.sureAddr (.pointer (some a))) Q F=Q a F:=rfl
@[go_sem] theorem kI {Q:IntKind×Int->af->Prop}(k:IntKind)(n:Int):aT P (asIntOf (.int k n)) Q F=Q (k,n) F:=rfl
@[go_sem] theorem yV {Q:Int->af->Prop}(k:IntKind)(n:Int):aT P (asInt (.int k n)) Q F=Q n F:=rfl
@[go_sem] theorem Di {Q:Bool->af->Prop}(b:Bool):aT P (asBool (.bool b)) Q F=Q b F:=rfl
@[go_sem] theorem Dj {Q:Array Value->af->Prop}(b:Array Value):aT P (asAgg (.agg b)) Q F=Q b F:=rfl
end
def slot (a:Act)(i:Nat):Value:=a.tmps.getD i undef
def sz (a:Act):Nat:=a.tmps.size
def aZ (a:Act)(d:Option Tmp)(v:Value):Act:=a.put d v
def ev (a:Act)(x:Operand):Value:=a.eval x
@[go_sem] theorem KL (a:Act)(t:Nat):ev a (.tmp t)=slot a t:=rfl
@[go_sem] theorem KM (a:Act)(v:Value):ev a (.const v)=v:=rfl
@[go_sem] theorem KN (a:Act)(g:Nat):ev a (.global g)= .pointer (some ⟨g,0,none⟩):=rfl
@[go_sem] theorem KO (a:Act)(f:Nat):ev a (.func f)= .func (.func f) #[] #[]:=rfl
@[go_sem] theorem KP (a:Act)(v:Value):aZ a none v=a:=rfl
@[go_sem] theorem yW (a:Act)(d:Option Tmp)(v:Value):sz (aZ a d v)=sz a:=by cases d<;>simp[sz,aZ,Act.put]
theorem Dk (a:Act)(d:Nat)(v:Value)(h:d<sz a):slot (aZ a (some d) v) d=v:=by
 simp only[sz] at h
 simp[slot,aZ,Act.put,h]
theorem ug (a:Act)(d i:Nat)(v:Value)(h:¬d=i):slot (aZ a (some d) v) i=slot a i:=by
 simp[slot,aZ,Act.put,Array.getElem?_setIfInBounds_ne h]
@[go_sem] theorem KQ (a:Act)(d i:Nat)(v:Value)(h:d<sz a):slot (aZ a (some d) v) i=if d=i then v else slot a i:=by
 split
 ·rename_i e;subst e;exact Dk a d v h
 ·rename_i e;exact ug a d i v e
@[go_sem] theorem yX (a:Act)(d:Option Tmp)(v:Value):(aZ a d v).defers=a.defers:=by cases d<;>rfl
theorem aC.start {P:Program}{f:FuncId}{fn:Func}{c:Code}{n:Nat}{args:Array Value}{F:af}{R:Value->af->Prop}(a:P.funcs[f]?=some fn)(hb:fn.body=some c)(hn:fn.ntmps=n)(b:args.size<=n)
  (h:∀main J,Closed P main J->∀A:Act,sz A=n->A.defers=[]->(∀i,slot A i=args.getD i undef)->Wp J c (qB P fn R) A F):aC P f args F R:=
 aC.of_wp a hb fun main J hJ=>h main J hJ _ (by simp[sz,hn];omega) rfl fun i=>by
  simp only[slot,hn,Array.getD_eq_getD_getElem?]
  rcases Nat.lt_or_ge i args.size with hi|hi
  ·rw[Array.getElem?_append_left hi]
  ·rw[Array.getElem?_append_right hi,Array.getElem?_replicate,Array.getElem?_eq_none hi]
   split<;>rfl
def cX (P:Program)(t:TypeId):Option TypeId:=match P.underlying t with|some (.slice e)=>some e|_=>none
def mU (P:Program)(t:TypeId):Option (Nat×TypeId):=match P.underlying t with|some (.array n e)=>some (n,e)|_=>none
def cI (P:Program)(t:TypeId)(n:Nat):Option Nat:=
 match P.underlying t with
 |some (.struct a)=>match a[n]? with
  |some f=>match bW P f.type with
   |some (_+1)=>some f.offset
   |_=>none
  |none=>none
 |_=>none
def uh (P:Program)(t:TypeId)(n:Nat):Option (Nat×Nat×Bool):=
 match P.underlying t with
 |some (.struct a)=>match a[n]? with
  |some f=>match bW P f.type,cA P f.type with
   |some s,some g=>some (f.offset,s,g)
   |_,_=>none
  |none=>none
 |_=>none
def placesOf (P:Program)(t:TypeId):Option (List (Nat×Nat)):=
 match P.underlying t with
 |some (.struct a)=>a.toList.mapM fun f=>(bW P f.type).map fun s=>(f.offset,s)
 |_=>none
def aI (P:Program)(f:FuncId):Bool:=match P.funcs[f]? with|some fn=>!(fn.body.isNone||fn.name== "runtime.NumGoroutine")|none=>false
def af.dg (F:af)(a:Addr):Nat->Nat->Option (List Value)
 |_,0=>some []
 |i,n+1=>match F.get (a.add i) with
  |some v=>match F.dg a (i+1) n with
   |some b=>some (v::b)
   |none=>none
  |none=>none
theorem uj (F:af)(a:Addr):∀(n i:Nat) (b:List Value),F.dg a i n=some b->F.lK a i b/\b.length=n
 |0,i,b,h=>by simp only[af.dg,Option.some.injEq] at h;subst h;exact ⟨trivial,rfl⟩
 |n+1,i,b,h=>by
  unfold af.dg at h
  split at h
  ·rename_i v c
   split at h
   ·rename_i ws d
    cases h
    obtain ⟨h1,h2⟩:=uj F a n (i+1) ws d
    exact ⟨⟨c,h1⟩,by simp[h2]⟩
   ·cases h
  ·cases h
def e4 (P:Program)(F:af)(t:TypeId)(ad:Addr):Option Value:=
 match cA P t with
 |some false=>F.get ad
 |some true=>match bW P t with
  |some n=>match F.dg ad 0 n with
   |some a=>some (.agg a.toArray)
   |none=>none
  |none=>none
 |none=>none
def qH (P:Program)(F:af)(t:TypeId)(ad:Addr)(v:Value):Option af:=
 match bW P t with
 |some n=>if n=v.cells.size then F.jf ad 0 v.cells.toList else none
 |none=>none
theorem yY {P:Program}{F:af}{t:TypeId}{ad:Addr}{v:Value}{Q:Value->af->Prop}(h:e4 P F t ad=some v)(a:Q v F):aT P (loadVar t ad) Q F:=by
 unfold e4 at h
 split at h
 ·rename_i hg;exact Dg v hg h a
 ·rename_i hg
  split at h
  ·rename_i n hn
   split at h
   ·rename_i b c
    cases h
    obtain ⟨h1,h2⟩:=uj F ad n 0 b c
    exact Df b hg (by rw[hn,h2]) h1 a
   ·cases h
  ·cases h
 ·cases h
theorem Dl {P:Program}{F F':af}{t:TypeId}{ad:Addr}{v:Value}{Q:Unit->af->Prop}(h:qH P F t ad v=some F')(a:Q () F'):aT P (storeVar t ad v) Q F:=by
 unfold qH at h
 split at h
 ·rename_i n hn
  split at h
  ·rename_i e;exact Dh F' (by rw[hn,e]) h a
  ·cases h
 ·cases h
def mV (op:BinOp):Value->Value->Option Value
 | .int k a,.int c b=>if k=c then match op with
   | .add=>some (.int k (k.wrap (a+b)))
   | .sub=>some (.int k (k.wrap (a - b)))
   | .mul=>some (.int k (k.wrap (a*b)))
   | .quo=>if b=0 then none else some (.int k (k.wrap (a.tdiv b)))
   | .rem=>if b=0 then none else some (.int k (a.tmod b))
   | .eql=>some (.bool (a==b))
   | .neq=>some (.bool (a != b))
   | .lss=>some (.bool (decide (a<b)))
   | .leq=>some (.bool (decide (a<=b)))
   | .gtr=>some (.bool (decide (a>b)))
   | .geq=>some (.bool (decide (a≥b)))
   | .shl=>if b<0 then none else some (.int k (k.wrap (a*2 ^ min b.toNat k.bits)))
   | .shr=>if b<0 then none else some (.int k (a.fdiv (2 ^ min b.toNat k.bits)))
   | .and=>some (.int k (k.wrap (BitVec.ofInt k.bits a&&& BitVec.ofInt k.bits b).toNat))
   | .or=>some (.int k (k.wrap (BitVec.ofInt k.bits a|||BitVec.ofInt k.bits b).toNat))
   | .andNot=>some (.int k (k.wrap (BitVec.ofInt k.bits a&&& ~~~(BitVec.ofInt k.bits b)).toNat))
   |_=>none
  else none
 |_,_=>none
theorem iB {P:Program}{s:Sem Value}{Q:Next->af->Prop}{F:af}:aT P (do pure (Next.value (<-s)):Sem Next) Q F=aT P s (fun v G=>Q (.value v) G) F:=by
 simp only[bq,bC]
theorem yZ {P:Program}(op:BinOp)(t:TypeId)(x y:Operand)(k c:IntKind)(a b:Int){Q:Unit->af->Prop}{F:af}(h:Q () F):aT P (eqGuard op t x y (.int k a) (.int c b)) Q F:=by
 unfold eqGuard
 cases op<;>simp<;>exact h
theorem Dm {P:Program}{op:BinOp}{t:TypeId}{x y:Operand}{u v w:Value}{Q:Value->af->Prop}{F:af}(h:mV op u v=some w)(c:Q w F):aT P (do eqGuard op t x y u v;binOp op t u v) Q F:=by
 unfold mV at h
 split at h
 case h_2=>cases h
 rename_i k a d b
 split at h
 case isFalse=>cases h
 rename_i hk
 subst hk
 rw[bq]
 refine yZ op t x y k k a b ?_
 cases op<;>simp only[binOp,ne_eq,not_true_eq_false,if_false,Op.intArith,Op.intDiv,Op.intCmp,Op.intBits,Op.shift,de] at h ⊢<;>first
  |(cases h;done)
  |(cases h;exact c)
  |(split at h
    ·cases h
    ·rename_i hb;rw[if_neg hb];cases h;exact c)
def lM (op:UnOp):Value->Option Value
 | .int k a=>match op with
  | .neg=>some (.int k (k.wrap (0 - a)))
  |_=>none
 | .bool b=>match op with
  | .not=>some (.bool (!b))
  |_=>none
 |_=>none
theorem Dn {P:Program}{op:UnOp}{u w:Value}{Q:Value->af->Prop}{F:af}(h:lM op u=some w)(a:Q w F):aT P (Op.unary op u) Q F:=by
 cases u<;>cases op<;>simp only[lM] at h<;>first|(cases h;done)|(cases h;exact a)
def qI:Value->Value->Option Value
 | .int k x,.int _ y=>some (.int k (if y>x then y else x))
 |_,_=>none
def qJ:Value->Value->Option Value
 | .int k x,.int _ y=>some (.int k (if y<x then y else x))
 |_,_=>none
def oK (P:Program)(t:TypeId):Value->Value->Option Value
 | .slice (some ad) len _,.int _ i=>match cX P t with
  |some e=>match bW P e with
   |some n=>if 0<=i/\i<(len:Int) then some (.pointer (some (ad.add (i.toNat*n)))) else none
   |none=>none
  |none=>none
 | .pointer (some ad),.int _ i=>match mU P t with
  |some (len,e)=>match bW P e with
   |some n=>if 0<=i/\i<(len:Int) then some (.pointer (some (ad.add (i.toNat*n)))) else none
   |none=>none
  |none=>none
 |_,_=>none
theorem Dp {P:Program}{t:TypeId}{u v w:Value}{Q:Value->af->Prop}{F:af}(h:oK P t u v=some w)(b:Q w F):aT P (Instr.indexAt t u v) Q F:=by
 unfold oK at h
 split at h
 ·rename_i ad len cap k i
  split at h
  case h_2=>cases h
  rename_i e he
  split at h
  case h_2=>cases h
  rename_i n hn
  split at h
  case isFalse=>cases h
  rename_i hi
  cases h
  have hu:P.underlying t=some (.slice e):=by
   unfold cX at he
   split at he
   ·rename_i c a;cases he;exact a
   ·cases he
  simp only[Instr.indexAt,bq,kI,dj,hu,bC,de,if_pos hi,eE,hn]
  exact b
 ·rename_i ad k i
  split at h
  case h_2=>cases h
  rename_i len e he
  split at h
  case h_2=>cases h
  rename_i n hn
  split at h
  case isFalse=>cases h
  rename_i hi
  cases h
  have hu:P.underlying t=some (.array len e):=by
   unfold mU at he
   split at he
   ·rename_i d c a;cases he;exact a
   ·cases he
  simp only[Instr.indexAt,bq,kI,dj,hu,bC,qG,de,if_pos hi,eE,hn]
  exact b
 ·cases h
def mW (P:Program)(t:TypeId)(x:Value)(lo hi:Option Value):Option Value:=
 match x,cX P t with
 | .slice ad len cap,some e=>match bW P e with
  |some n=>
   match (match lo with|none=>some 0|some (.int _ i)=>if 0<=i then some i.toNat else none|_=>none),(match hi with|none=>some len|some (.int _ i)=>if 0<=i then some i.toNat else none|_=>none) with
   |some l,some h=>if l<=h/\h<=cap then some (.slice (if cap=l then ad else ad.map (·.add (l*n))) (h - l) (cap - l)) else none
   |_,_=>none
  |none=>none
 |_,_=>none
theorem Dq {P:Program}{t:TypeId}{x w:Value}{lo hi:Option Value}{Q:Value->af->Prop}{F:af}(hlen:∀ad len cap,x= .slice ad len cap->len<=cap)(h:mW P t x lo hi=some w)(c:Q w F):aT P (Instr.sliceAt t x lo hi none) Q F:=by
 unfold mW at h
 split at h
 case h_2=>cases h
 rename_i ad len cap e he
 have f:=hlen ad len cap rfl
 have hu:P.underlying t=some (.slice e):=by
  unfold cX at he
  split at he
  ·rename_i g d;cases he;exact d
  ·cases he
 split at h
 case h_2=>cases h
 rename_i n hn
 split at h
 case h_2=>cases h
 rename_i l m a b
 split at h
 case isFalse=>cases h
 rename_i hb
 cases h
 simp only[Instr.sliceAt,bq,dj,hu,Instr.slice,Instr.sliceBounds,bC]
 cases hi with
 |none=>
  simp only[Option.some.injEq] at b
  subst b
  simp only[bC]
  cases lo with
  |none=>
   simp only[Option.some.injEq] at a
   subst a
   simp only[bC,eE,hn]
   exact c
  |some v=>
   cases v<;>simp only[reduceCtorEq] at a
   rename_i k i
   split at a
   case isFalse=>cases a
   rename_i h0
   cases a
   have:0<=i/\i<=(len:Int):=⟨h0,by omega⟩
   simp only[Instr.sliceBound,bq,kI,de,if_pos this,bC,eE,hn]
   exact c
 |some v=>
  cases v<;>simp only[reduceCtorEq] at b
  rename_i k i
  split at b
  case isFalse=>cases b
  rename_i h0
  cases b
  have h1:0<=i/\i<=(cap:Int):=⟨h0,by omega⟩
  simp only[Instr.sliceBound,bq,kI,de,if_pos h1,bC]
  cases lo with
  |none=>
   simp only[Option.some.injEq] at a
   subst a
   simp only[bC,eE,hn]
   exact c
  |some v=>
   cases v<;>simp only[reduceCtorEq] at a
   rename_i o j
   split at a
   case isFalse=>cases a
   rename_i h2
   cases a
   have h3:0<=j/\j<=((i.toNat:Nat):Int):=⟨h2,by omega⟩
   simp only[bq,kI,de,if_pos h3,bC,eE,hn]
   exact c
def gi:List Value->List Value->Option Bool
 |[],[]=>some true
 | .int k a::xs,.int c b::ys=>if k=c then match gi xs ys with
   |some r=>some (a==b&&r)
   |none=>none
  else none
 | .bool a::xs,.bool b::ys=>match gi xs ys with
   |some r=>some (a==b&&r)
   |none=>none
 |_,_=>none
theorem qK:∀{xs ys:List Value} {us b:List Value} {r:Bool},xs.length=ys.length->gi (xs++us) (ys++b)=some r->∃r1 r2,gi xs ys=some r1/\gi us b=some r2/\r=(r1&&r2)
 |[],[],us,b,r,_,h=>⟨true,r,rfl,h,by simp⟩
 |[],y::ys,_,_,_,a,_=>by simp at a
 |x::xs,[],_,_,_,a,_=>by simp at a
 |x::xs,y::ys,us,b,r,a,h=>by
  have d:xs.length=ys.length:=by simpa using a
  cases x<;>cases y<;>simp only[List.cons_append,gi,reduceCtorEq] at h ⊢
  ·split at h
   ·rename_i e c
    obtain ⟨r1,r2,h1,h2,rfl⟩:=qK d c
    cases h
    exact ⟨_,r2,by rw[h1],h2,by rw[Bool.and_assoc]⟩
   ·cases h
  ·split at h
   ·rename_i hk
    split at h
    ·rename_i e c
     obtain ⟨r1,r2,h1,h2,rfl⟩:=qK d c
     cases h
     exact ⟨_,r2,by rw[if_pos hk,h1],h2,by rw[Bool.and_assoc]⟩
    ·cases h
   ·cases h
def Kd:List Bool->List Value->Prop
 |[],[]=>True
 |true::ks,.int _ _::xs=>Kd ks xs
 |false::ks,.bool _::xs=>Kd ks xs
 |_,_=>False
theorem Kd.length:∀{ks:List Bool} {xs:List Value},Kd ks xs->xs.length=ks.length
 |[],[],_=>rfl
 |[],x::xs,h=>by simp[Kd] at h
 |k::ks,[],h=>by cases k<;>simp[Kd] at h
 |k::ks,x::xs,h=>by
  have:Kd ks xs:=by cases k<;>cases x<;>simp only[Kd] at h<;>exact h
  simp[Kd.length this]
theorem Kd.split:∀{ks:List Bool} {ls:List Bool} {xs:List Value},Kd (ks++ls) xs->Kd ks (xs.take ks.length)/\Kd ls (xs.drop ks.length)
 |[],_,_,h=>⟨by simp[Kd],by simpa using h⟩
 |k::ks,ls,[],h=>by cases k<;>simp[Kd] at h
 |k::ks,ls,x::xs,h=>by
  cases k<;>cases x<;>simp only[List.cons_append,Kd] at h
  all_goals
   obtain ⟨h1,h2⟩:=Kd.split h
   exact ⟨by simpa [Kd] using h1,by simpa using h2⟩
def oL (P:Program)(g:TypeId->Option (List Bool)):List Field->Nat->Option (List Bool)
 |[],_=>some []
 |f::a,off=>if f.name≠ "_"/\f.offset=off then match g f.type with
   |some ks=>if bW P f.type=some ks.length then match oL P g a (off+ks.length) with
     |some ls=>some (ks++ls)
     |none=>none
    else none
   |none=>none
  else none
def jO (P:Program):Nat->TypeId->Option (List Bool)
 |0,_=>none
 |d+1,t=>match P.underlying t with
  |some .bool=>if cA P t=some false then some [false] else none
  |some (.int _)=>if cA P t=some false then some [true] else none
  |some (.struct a)=>if cA P t=some true/\P.stoodInHeld t=false then oL P (jO P d) a.toList 0 else none
  |some (.array n e)=>if cA P t=some true then match jO P d e with
    |some ks=>if bW P e=some ks.length then some (List.replicate n ks).flatten else none
    |none=>none
   else none
  |_=>none
def Sc (v:Value):Prop:=(∃k a,v= .int k a)\/∃b,v= .bool b
theorem Kd.sc:∀{ks:List Bool} {xs:List Value},Kd ks xs->∀x∈xs,Sc x
 |[],[],_=>by simp
 |[],x::xs,h=>by simp[Kd] at h
 |k::ks,[],h=>by simp
 |k::ks,x::xs,h=>by
  have:Sc x/\Kd ks xs:=by cases k<;>cases x<;>simp only[Kd] at h<;>first|exact ⟨.inl ⟨_,_,rfl⟩,h⟩|exact ⟨.inr ⟨_,rfl⟩,h⟩
  simpa using ⟨this.1,Kd.sc this.2⟩
theorem Sc.cells {v:Value}(h:Sc v):v.cells=#[v]:=by
 rcases h with ⟨k,a,rfl⟩|⟨b,rfl⟩<;>rfl
def Shape (P:Program)(t:TypeId)(v:Value):Prop:=(cA P t=some true->∃xs,v= .agg xs)/\(cA P t=some false->Sc v)
section
variable {P : Program}
theorem qL {t:TypeId}{xs:Array Value}{off m:Nat}{g:Bool}{Q:Value->af->Prop}{F:af}(hg:cA P t=some g)(hs:bW P t=some m)(hm:g=false->m=1)(e:off+m<=xs.size)
  (d:∀x∈xs.toList,Sc x) (h:∀v,v.cells.toList=(xs.toList.drop off).take m->Shape P t v->Q v F):aT P (part t xs off) Q F:=by
 simp only[part,bq,lJ,hg,de]
 cases g with
 |true=>
  simp only[if_true,bq,eE,hs,bC]
  refine h _ ?_ ⟨fun _=>⟨_,rfl⟩,fun a=>by rw[hg] at a;cases a⟩
  simp only[Value.cells,Array.toList_extract,List.extract_eq_take_drop]
  congr 1;omega
 |false=>
  have:=hm rfl
  subst this
  have b:off<xs.size:=by omega
  simp only[Bool.false_eq_true,if_false,Array.getElem?_eq_getElem b,bC]
  have c:=d xs[off] (by simp)
  refine h _ ?_ ⟨fun a=>(by rw[hg] at a;cases a),fun _=>c⟩
  rw[c.cells]
  have:off<xs.toList.length:=by simpa using b
  rw[List.drop_eq_getElem_cons this]
  simp
def uk (P:Program)(d:Nat)(t:TypeId)(ks:List Bool):Prop:=
 ∀(u v:Value) (r:Bool) (Q:Bool->af->Prop) (F:af),Shape P t u->Shape P t v->Kd ks u.cells.toList->Kd ks v.cells.toList->gi u.cells.toList v.cells.toList=some r->Q r F->aT P (Op.equalIn d t u v) Q F
theorem y2 {d t:Nat}{ks:List Bool}(h:jO P d t=some ks):∃g,cA P t=some g/\(g=false->ks.length=1):=by
 cases d with
 |zero=>cases h
 |succ d=>
  unfold jO at h
  split at h
  ·split at h
   ·rename_i hg;cases h;exact ⟨_,hg,fun _=>rfl⟩
   ·cases h
  ·split at h
   ·rename_i hg;cases h;exact ⟨_,hg,fun _=>rfl⟩
   ·cases h
  ·split at h
   ·rename_i hg;exact ⟨true,hg.1,fun x=>by cases x⟩
   ·cases h
  ·split at h
   ·rename_i hg;exact ⟨true,hg,fun x=>by cases x⟩
   ·cases h
  ·cases h
theorem y3 {d:Nat}(ih:∀t ks,jO P d t=some ks->uk P d t ks){xs ys:Array Value}{Q:Bool->af->Prop}{F:af}(j:∀x∈xs.toList,Sc x)(l:∀x∈ys.toList,Sc x):
  ∀(c:List Field) (off:Nat) (ks:List Bool) (r:Bool),oL P (jO P d) c off=some ks->Kd ks (xs.toList.drop off)->Kd ks (ys.toList.drop off)->gi (xs.toList.drop off) (ys.toList.drop off)=some r->off<=xs.size->off<=ys.size->Q r F->
  aT P (do
   let x<-forIn c ((none,()):Option Bool×Unit) fun f _=>do
    if f.name≠ "_" then
     if (!(<-Op.equalIn d f.type (<-part f.type xs f.offset) (<-part f.type ys f.offset)))=true then pure (ForInStep.done (some false,())) else pure (ForInStep.yield (none,()))
    else pure (ForInStep.yield (none,()))
   match x.fst with
    |some a=>pure a
    |none=>pure true:Sem Bool) Q F
 |[],off,ks,r,b,e,h,he,_,_,i=>by
  simp only[oL,Option.some.injEq] at b
  subst b
  have h1:=e.length
  have h2:=h.length
  rw[List.eq_nil_of_length_eq_zero h1,List.eq_nil_of_length_eq_zero h2] at he
  cases he
  simp only[List.forIn_nil,bq,bC]
  exact i
 |f::c,off,ks,r,b,e,h,he,B,C,i=>by
  unfold oL at b
  split at b
  case isFalse=>cases b
  rename_i hn
  obtain ⟨hn,rfl⟩:=hn
  split at b
  case h_2=>cases b
  rename_i k hk
  split at b
  case isFalse=>cases b
  rename_i hs
  split at b
  case h_2=>cases b
  rename_i ls q
  cases b
  obtain ⟨g,hg,m⟩:=y2 hk
  have s:=e.length
  have w:=h.length
  simp only[List.length_drop,Array.length_toList,List.length_append] at s w
  obtain ⟨y,n⟩:=e.split
  obtain ⟨z,o⟩:=h.split
  rw[List.drop_drop] at n o
  have e1:xs.toList.drop f.offset=(xs.toList.drop f.offset).take k.length++xs.toList.drop (f.offset+k.length):=by
   rw[<-List.drop_drop,List.take_append_drop]
  have e2:ys.toList.drop f.offset=(ys.toList.drop f.offset).take k.length++ys.toList.drop (f.offset+k.length):=by
   rw[<-List.drop_drop,List.take_append_drop]
  rw[e1,e2] at he
  obtain ⟨r1,r2,h1,h2,rfl⟩:=qK (by simp;omega) he
  simp only[List.forIn_cons,bq,if_pos hn]
  refine qL hg hs m (by omega) j fun u hu A=>?_
  refine qL hg hs m (by omega) l fun v p sv=>?_
  refine ih _ _ hk u v r1 _ F A sv (by rw[hu];exact y) (by rw[p];exact z) (by rw[hu,p];exact h1) ?_
  cases r1 with
  |false=>simpa [bC,de] using i
  |true=>
   have:=y3 ih j l c (f.offset+k.length) ls r2 q n o h2 (by omega) (by omega) (Q:=Q) (F:=F) (by simpa using i)
   simpa [bC,de,bq] using this
theorem y4 {d e k:Nat}{ks:List Bool}{g:Bool}(hk:uk P d e ks)(h:ks.length=k)(hg:cA P e=some g)(j:g=false->ks.length=1)(hs:bW P e=some ks.length){xs ys:Array Value}{Q:Bool->af->Prop}{F:af}(q:∀x∈xs.toList,Sc x)(s:∀x∈ys.toList,Sc x):
  ∀(n i:Nat) (r:Bool),Kd (List.replicate n ks).flatten (xs.toList.drop (i*k))->Kd (List.replicate n ks).flatten (ys.toList.drop (i*k))->gi (xs.toList.drop (i*k)) (ys.toList.drop (i*k))=some r->i*k<=xs.size->i*k<=ys.size->Q r F->
  aT P (do
   let x<-forIn (List.range' i n) ((none,()):Option Bool×Unit) fun i _=>do
    if (!(<-Op.equalIn d e (<-part e xs (i*k)) (<-part e ys (i*k))))=true then pure (ForInStep.done (some false,())) else pure (ForInStep.yield (none,()))
   match x.fst with
    |some a=>pure a
    |none=>pure true:Sem Bool) Q F
 |0,i,r,b,c,he,_,_,f=>by
  have h1:=b.length
  have h2:=c.length
  rw[List.eq_nil_of_length_eq_zero h1,List.eq_nil_of_length_eq_zero h2] at he
  cases he
  simp only[List.range'_zero,List.forIn_nil,bq,bC]
  exact f
 |n+1,i,r,b,c,he,B,C,f=>by
  have l:(i+1)*k=i*k+k:=by simp only[Nat.add_mul,Nat.one_mul]
  have y:=b.length
  have z:=c.length
  simp only[List.replicate_succ,List.flatten_cons,List.length_drop,Array.length_toList,List.length_append] at y z
  simp only[List.replicate_succ,List.flatten_cons] at b c
  obtain ⟨t,m⟩:=b.split
  obtain ⟨w,o⟩:=c.split
  rw[h] at t m w o
  rw[List.drop_drop,<-l] at m o
  have e1:xs.toList.drop (i*k)=(xs.toList.drop (i*k)).take k++xs.toList.drop ((i+1)*k):=by
   rw[l,<-List.drop_drop,List.take_append_drop]
  have e2:ys.toList.drop (i*k)=(ys.toList.drop (i*k)).take k++ys.toList.drop ((i+1)*k):=by
   rw[l,<-List.drop_drop,List.take_append_drop]
  rw[e1,e2] at he
  obtain ⟨r1,r2,h1,h2,rfl⟩:=qK (by simp;omega) he
  simp only[List.range'_succ,List.forIn_cons,bq]
  refine qL hg hs j (by omega) q fun u hu A=>?_
  refine qL hg hs j (by omega) s fun v p sv=>?_
  rw[h] at hu p
  refine hk u v r1 _ F A sv (by rw[hu];exact t) (by rw[p];exact w) (by rw[hu,p];exact h1) ?_
  cases r1 with
  |false=>simpa [bC,de] using f
  |true=>
   have:=y4 hk h hg j hs q s n (i+1) r2 m o h2 (by omega) (by omega) (Q:=Q) (F:=F) (by simpa using f)
   simpa [bC,de,bq] using this
theorem um:∀(d t:Nat) (ks:List Bool),jO P d t=some ks->uk P d t ks
 |0,_,_,h=>by cases h
 |d+1,t,ks,h=>by
  intro u v r Q F i sv hu c he j
  unfold jO at h
  split at h
  ·rename_i f
   split at h
   case isFalse=>cases h
   rename_i hg
   cases h
   have a1:=i.2 hg
   have a2:=sv.2 hg
   rw[a1.cells] at he hu
   rw[a2.cells] at he c
   simp only[Op.equalIn,bq,dj,f]
   rcases a1 with ⟨k,a,rfl⟩|⟨a,rfl⟩<;>rcases a2 with ⟨l,b,rfl⟩|⟨b,rfl⟩<;>simp[Kd] at hu c
   simp[gi] at he
   subst he
   simpa [bC] using j
  ·rename_i f
   split at h
   case isFalse=>cases h
   rename_i hg
   cases h
   have a1:=i.2 hg
   have a2:=sv.2 hg
   rw[a1.cells] at he hu
   rw[a2.cells] at he c
   simp only[Op.equalIn,bq,dj,f]
   rcases a1 with ⟨k,a,rfl⟩|⟨a,rfl⟩<;>rcases a2 with ⟨l,b,rfl⟩|⟨b,rfl⟩<;>simp[Kd] at hu c
   simp[gi] at he
   obtain ⟨hk,rfl⟩:=he
   simpa [bC,de,hk] using j
  ·rename_i m f
   split at h
   case isFalse=>cases h
   rename_i hg
   obtain ⟨hg,o⟩:=hg
   obtain ⟨xs,rfl⟩:=i.1 hg
   obtain ⟨ys,rfl⟩:=sv.1 hg
   simp only[Op.equalIn,bq,dj,f,jN,o,Bool.false_eq_true,if_false,de,bC]
   have:=y3 (P:=P) (d:=d) (fun t ks p=>um d t ks p) (xs:=xs) (ys:=ys) (Q:=Q) (F:=F) hu.sc c.sc m.toList 0 ks r h (by simpa [Value.cells] using hu) (by simpa [Value.cells] using c) (by simpa [Value.cells] using he) (by omega) (by omega) j
   rw[<-Array.forIn_toList]
   simp[bq] at this ⊢
   exact gH (fun a G h=>by rcases a with ⟨_|_,_⟩<;>exact h) _ _ this
  ·rename_i n e f
   split at h
   case isFalse=>cases h
   rename_i hg
   split at h
   case h_2=>cases h
   rename_i k hk
   split at h
   case isFalse=>cases h
   rename_i hs
   cases h
   obtain ⟨xs,rfl⟩:=i.1 hg
   obtain ⟨ys,rfl⟩:=sv.1 hg
   obtain ⟨g,q,s⟩:=y2 hk
   simp only[Op.equalIn,bq,dj,f,eE,hs]
   have:=y4 (P:=P) (d:=d) (um d e k hk) rfl q s hs (xs:=xs) (ys:=ys) (Q:=Q) (F:=F) hu.sc c.sc n 0 r (by simpa [Value.cells] using hu) (by simpa [Value.cells] using c) (by simpa [Value.cells] using he) (by simp) (by simp) j
   simp only[Std.Legacy.Range.forIn_eq_forIn_range',Std.Legacy.Range.size,Nat.sub_zero,Nat.add_one_sub_one,Nat.div_one]
   simp[bq] at this ⊢
   exact gH (fun a G h=>by rcases a with ⟨_|_,_⟩<;>exact h) _ _ this
  ·cases h
def iC:List Bool->List Value->Bool
 |[],[]=>true
 |true::ks,.int _ _::xs=>iC ks xs
 |false::ks,.bool _::xs=>iC ks xs
 |_,_=>false
theorem uo:∀{ks:List Bool} {xs:List Value},iC ks xs=true->Kd ks xs
 |[],[],_=>trivial
 |[],x::xs,h=>by simp[iC] at h
 |k::ks,[],h=>by cases k<;>simp[iC] at h
 |k::ks,x::xs,h=>by
  cases k<;>cases x<;>first
   |(simp only[iC,reduceCtorEq,Bool.false_eq_true] at h;done)
   |exact uo (ks:=ks) (xs:=xs) (by simpa only[iC] using h)
def mX (P:Program)(t:TypeId):Option (List Bool):=if P.eqGuardType P.depth t=false/\cA P t=some true then jO P Op.maxDepth t else none
def lN (P:Program)(t:TypeId):Value->Value->Option Bool
 | .agg xs,.agg ys=>match mX P t with
  |some ks=>if iC ks xs.toList&&iC ks ys.toList then gi xs.toList ys.toList else none
  |none=>none
 |_,_=>none
theorem uq {t:TypeId}{u v:Value}{r:Bool}{Q:Bool->af->Prop}{F:af}(h:lN P t u v=some r)(b:Q r F):aT P (Op.equal t u v) Q F/\P.eqGuardType P.depth t=false/\(∃xs,u= .agg xs)/\∃ys,v= .agg ys:=by
 unfold lN at h
 split at h
 case h_2=>cases h
 rename_i xs ys
 split at h
 case h_2=>cases h
 rename_i ks hk
 split at h
 case isFalse=>cases h
 rename_i a
 simp only[Bool.and_eq_true] at a
 unfold mX at hk
 split at hk
 case isFalse=>cases hk
 rename_i hg
 refine ⟨?_,hg.1,⟨_,rfl⟩,_,rfl⟩
 exact um _ _ _ hk _ _ r Q F ⟨fun _=>⟨_,rfl⟩,fun x=>by rw[hg.2] at x;cases x⟩ ⟨fun _=>⟨_,rfl⟩,fun x=>by rw[hg.2] at x;cases x⟩ (uo a.1) (uo a.2) h b
def uu (P:Program)(t:TypeId):Bool:=match P.underlying t with|some .bool=>true|_=>false
def jP (P:Program)(t:TypeId):Bool:=match P.underlying t with|some (.slice _)=>true|_=>false
def oM (P:Program)(t:TypeId):Value->Value->Option Bool
 | .bool a,.bool b=>if uu P t=true then some (a==b) else none
 | .slice none _ _,.slice b _ _=>if jP P t=true then some b.isNone else none
 | .slice (some _) _ _,.slice none _ _=>if jP P t=true then some false else none
 |_,_=>none
theorem y5 {t:TypeId}{u v:Value}{r:Bool}{Q:Bool->af->Prop}{F:af}(h:oM P t u v=some r)(e:Q r F):aT P (Op.equal t u v) Q F/\((∃a b,u= .bool a/\v= .bool b)\/∃a n c b m d,u= .slice a n c/\v= .slice b m d):=by
 obtain ⟨d,hd⟩:∃d,Op.maxDepth=d+1:=⟨_,rfl⟩
 unfold oM at h
 split at h
 ·split at h
  ·rename_i hb
   cases h
   unfold uu at hb
   split at hb
   ·rename_i hu
    refine ⟨?_,.inl ⟨_,_,rfl,rfl⟩⟩
    unfold Op.equal
    rw[hd]
    simp only[Op.equalIn,bq,dj,hu,bC]
    exact e
   ·cases hb
  ·cases h
 ·split at h
  ·rename_i hb
   cases h
   unfold jP at hb
   split at hb
   ·rename_i hu
    refine ⟨?_,.inr ⟨_,_,_,_,_,_,rfl,rfl⟩⟩
    unfold Op.equal
    rw[hd]
    simp only[Op.equalIn,bq,dj,hu,bC]
    exact e
   ·cases hb
  ·cases h
 ·split at h
  ·rename_i hb
   cases h
   unfold jP at hb
   split at hb
   ·rename_i hu
    refine ⟨?_,.inr ⟨_,_,_,_,_,_,rfl,rfl⟩⟩
    unfold Op.equal
    rw[hd]
    simp only[Op.equalIn,bq,dj,hu,bC]
    exact e
   ·cases hb
  ·cases h
 ·cases h
def oN (P:Program)(op:BinOp)(t:TypeId)(u v:Value):Option Value:=
 match mV op u v with
 |some w=>some w
 |none=>match op with
  | .eql=>match lN P t u v with
   |some r=>some (.bool r)
   |none=>match oM P t u v with
    |some r=>some (.bool r)
    |none=>none
  | .neq=>match lN P t u v with
   |some r=>some (.bool (!r))
   |none=>match oM P t u v with
    |some r=>some (.bool (!r))
    |none=>none
  | .shr=>match u,v with
   | .int k a,.int _ b=>if b<0 then none else some (.int k (a.fdiv (2 ^ min b.toNat k.bits)))
   |_,_=>none
  |_=>none
theorem Dr {op:BinOp}{t:TypeId}{x y:Operand}{u v w:Value}{Q:Value->af->Prop}{F:af}(h:oN P op t u v=some w)(f:Q w F):aT P (do eqGuard op t x y u v;binOp op t u v) Q F:=by
 unfold oN at h
 split at h
 ·rename_i w' hw;cases h;exact Dm hw f
 ·split at h
  ·split at h
   ·rename_i r e
    cases h
    obtain ⟨h1,h2,⟨xs,rfl⟩,ys,rfl⟩:=uq (Q:=fun r G=>Q (.bool r) G) e f
    simp only[bq,eqGuard,binOp,jN,h2,de,bC]
    simpa using h1
   ·split at h
    ·rename_i r e
     cases h
     obtain ⟨h1,h2⟩:=y5 (Q:=fun r G=>Q (.bool r) G) e f
     rcases h2 with ⟨a,b,rfl,rfl⟩|⟨a,n,c,b,m,d,rfl,rfl⟩<;>
     ·simp only[bq,eqGuard,binOp,jN,de,bC]
      simpa using h1
    ·cases h
  ·split at h
   ·rename_i r e
    cases h
    obtain ⟨h1,h2,⟨xs,rfl⟩,ys,rfl⟩:=uq (Q:=fun r G=>Q (.bool (!r)) G) e f
    simp only[bq,eqGuard,binOp,jN,h2,de,bC]
    simpa using h1
   ·split at h
    ·rename_i r e
     cases h
     obtain ⟨h1,h2⟩:=y5 (Q:=fun r G=>Q (.bool (!r)) G) e f
     rcases h2 with ⟨a,b,rfl,rfl⟩|⟨a,n,c,b,m,d,rfl,rfl⟩<;>
     ·simp only[bq,eqGuard,binOp,jN,de,bC]
      simpa using h1
    ·cases h
  ·split at h
   ·split at h
    ·cases h
    ·rename_i hb
     cases h
     rw[bq]
     refine yZ .shr t x y _ _ _ _ ?_
     simp only[binOp,Op.shift,de]
     rw[if_neg hb]
     exact f
   ·cases h
  ·cases h
end
theorem uv {P:Program}{t e:TypeId}(h:cX P t=some e):P.underlying t=some (.slice e):=by
 unfold cX at h
 split at h
 ·rename_i a he;cases h;exact he
 ·cases h
theorem y6 (n:Nat):∀(r c:Nat),Builtin.growBy n r c<=2 ^ r*(c+768)
 |0,c=>by simp[Builtin.growBy]
 |r+1,c=>by
  unfold Builtin.growBy
  split
  ·have:1<=2 ^ (r+1):=Nat.one_le_two_pow
   have:=Nat.mul_le_mul_right (c+768) this
   omega
  ·have h:=y6 n r (c+(c+768)/4)
   refine Nat.le_trans h ?_
   rw[Nat.pow_succ,Nat.mul_assoc]
   refine Nat.mul_le_mul_left _ ?_
   omega
theorem nextslicecap_le {n c:Nat}(h:c<n)(hn:n<=1000000):Builtin.nextslicecap n c<=20000000:=by
 unfold Builtin.nextslicecap
 split
 ·omega
 ·split
  ·omega
  ·have a:=y6 n 4 c
   have e:(2:Nat) ^ 4=16:=by decide
   rw[e] at a
   refine Nat.le_trans a ?_
   omega
section
variable {P : Program}
theorem Ds {Q:Array Value->af->Prop}{F:af}(a:Addr){n:Nat}{b:List Value}(h:F.dg a 0 n=some b)(c:Q b.toArray F):aT P (loadCells a n) Q F:=by
 obtain ⟨h1,h2⟩:=uj F a n 0 b h
 subst h2
 exact uf a b 0 #[] h1 (by simpa using c)
def fQ (F:af)(size:Nat):Value->Option (List Value)
 | .slice (some a) n _=>F.dg a 0 (n*size)
 | .slice none 0 _=>some []
 |_=>none
theorem uw {Q:Array Value->af->Prop}{F:af}{size n:Nat}{ad:Option Addr}{c:Nat}{b:List Value}(h:fQ F size (.slice ad n c)=some b)(d:Q b.toArray F):aT P (Builtin.firstCells size n (.slice ad n c)) Q F:=by
 cases ad with
 |none=>
  cases n with
  |zero=>simp only[fQ,Option.some.injEq] at h;subst h;exact d
  |succ n=>simp[fQ] at h
 |some a=>exact Ds a h d
theorem uy {Q:Unit->af->Prop}{F:af}(n:Nat)(h:Q () F):aT P (askRoom n) Q F:=by
 unfold askRoom
 rw[de]
 split
 ·exact ⟨rfl,h⟩
 ·exact h
theorem uz {F:af}{Q:Value->af->Prop}{argTypes:Array TypeId}{ty i j e p:TypeId}{size d len cap n c:Nat}{base l:Option Addr}{z:Value}{old new:List Value}
  (h0:argTypes[0]?=some i) (h1:argTypes[1]?=some j) (he:cX P i=some e) (q:cX P j=some p) (hs:bW P e=some size) (r:zeroOf P e=some z) (hb:bytesOf P e=some d)
  (y:0<d) (s:d<=10000) (u:len+n<=1000000) (hold:fQ F size (.slice base len cap)=some old) (m:fQ F size (.slice l n c)=some new)
  (f:len+n<=cap->(∃a F',base=some a/\F.jf (a.add (len*size)) 0 new=some F'/\Q (.slice base (len+n) cap) F')\/(base=none/\Q (.slice base (len+n) cap) F))
  (v:cap<len+n->∀k b,len+n<=k->dK F b->Q (.slice (some ⟨b,0,none⟩) (len+n) k) (F.push b (.cells (old.toArray++new.toArray++Builtin.zeroCells z.cells (k - (len+n))) e))):
  aT P (Builtin.append_ argTypes ty #[.slice base len cap,.slice l n c]) Q F:=by
 have hu:=uv he
 have w:=uv q
 unfold bytesOf at hb
 obtain ⟨info,hi,rfl⟩:=Option.map_eq_some_iff.1 hb
 simp only[Builtin.append_,h0,h1,List.getElem?_toArray,List.getElem?_cons_zero,List.getElem?_cons_succ,bq,dj,hu,w,eE,hs,bC,Builtin.lenOf,Bool.false_eq_true,if_false,de,Bool.not_false,if_true,oJ,hi]
 split
 ·rename_i hle
  have f:=f hle
  refine uw m ?_
  rcases f with ⟨a,F',rfl,x,g⟩|⟨rfl,g⟩
  ·simp only[bq]
   refine qE _ _ 0 F F' (by simpa using x) ?_
   exact g
  ·exact g
 ·rename_i A
  have hk:=nextslicecap_le (n:=len+n) (c:=cap) (by omega) u
  have e1:¬(((len+n:Nat):Int)>IntKind.i64.max/\(false=true\/info.bytes=0)):=by
   rintro ⟨_,h|h⟩
   ·cases h
   ·omega
  have e2:¬(Builtin.nextslicecap (len+n) cap*info.bytes>2 ^ 48):=by
   have:Builtin.nextslicecap (len+n) cap*info.bytes<=20000000*10000:=Nat.mul_le_mul hk s
   omega
  rw[if_neg (by simpa using e1),if_neg e2]
  rw[ua]
  rw[if_neg (by simp[Question.forced])]
  intro t
  have o:len+n<=(Question.appendCap (len+n) cap e).cut t:=Nat.le_add_right _ _
  generalize (Question.appendCap (len+n) cap e).cut t=k at o ⊢
  refine uy _ ?_
  refine uw hold ?_
  refine uw m ?_
  simp only[bq,lI,r,qF,bC]
  exact fun b hb=>v (by omega) k b o hb
end
theorem uA:∀{pre:List (Nat×Obj)} {b:Nat} {o:Obj},au pre b->lk (pre++[(b,o)]) b=some o
 |[],b,o,_=>by simp[lk]
 |(c,x)::pre,b,o,h=>by
  have a:¬c=b:=fun e=>h.1 e.symm
  simp[lk,a,uA h.2]
def dO (arr:Array Value)(k:Nat):List Value->Array Value
 |[]=>arr
 |v::a=>dO (arr.setIfInBounds k v) (k+1) a
theorem qM:∀(a:List Value) (arr:Array Value) (k:Nat),(dO arr k a).size=arr.size
 |[],_,_=>rfl
 |v::a,arr,k=>by rw[dO,qM a];simp
theorem qN:∀(a:List Value) (arr:Array Value) (k:Nat),k+a.length<=arr.size->(dO arr k a).toList=arr.toList.take k++a++arr.toList.drop (k+a.length)
 |[],arr,k,_=>by simp[dO]
 |v::a,arr,k,h=>by
  simp only[List.length_cons] at h
  rw[dO,qN a _ _ (by simp;omega)]
  have hk:k<arr.toList.length:=by simp;omega
  rw[Array.toList_setIfInBounds]
  have e1:(arr.toList.set k v).take (k+1)=arr.toList.take k++[v]:=by
   rw[List.take_succ_eq_append_getElem (by simpa using hk),List.take_set_of_le (Nat.le_refl _)]
   simp
  have e2:(arr.toList.set k v).drop (k+1+a.length)=arr.toList.drop (k+(v::a).length):=by
   rw[List.drop_set_of_lt (by omega)]
   congr 1
   simp;omega
  rw[e1,e2]
  simp
def Gr (ro:Addr->Option Value)(e:TypeId)(size:Nat)(v:Value)(l:List (List Value))(aS:List (Nat×Obj)):Prop:=
 (v= .slice none 0 0/\l=[]/\aS=[])\/
 ∃b arr cap,v= .slice (some ⟨b,0,none⟩) l.length cap/\aS=[(b,.cells arr e)]/\arr.size=cap*size/\l.length<=cap/\arr.toList.take (l.length*size)=l.flatten/\(∀x∈l,x.length=size)/\∀off sp,ro ⟨b,off,sp⟩=none
theorem gX {size:Nat}:∀{l:List (List Value)},(∀x∈l,x.length=size)->l.flatten.length=l.length*size
 |[],_=>by simp
 |x::l,h=>by
  have ih:l.flatten.length=l.length*size:=gX (fun y a=>h y (List.mem_cons_of_mem _ a))
  simp only[List.flatten_cons,List.length_append,List.length_cons,h x (by simp),ih,Nat.add_mul,Nat.one_mul]
  omega
theorem y7 {ro:Addr->Option Value}{pre:List (Nat×Obj)}{b:Nat}{e:TypeId}{arr:Array Value}(a:au pre b)(c:∀off sp,ro ⟨b,off,sp⟩=none):∀(n i:Nat),i+n<=arr.size->
  af.dg ⟨ro,pre++[(b,.cells arr e)]⟩ ⟨b,0,none⟩ i n=some ((arr.toList.drop i).take n)
 |0,i,_=>by simp[af.dg]
 |n+1,i,h=>by
  have f:(⟨b,0,none⟩:Addr).add i=⟨b,i,none⟩:=by
   unfold Addr.add
   split
   ·rename_i hi;subst hi;rfl
   ·simp
  have d:i<arr.size:=by omega
  unfold af.dg
  have ih:=y7 (e:=e) (arr:=arr) a c n (i+1) (by omega)
  simp only[af.get,f,c,if_true,uA a,Option.bind_some,cellOf,Array.getElem?_eq_getElem d,ih]
  have g:i<arr.toList.length:=by simpa using d
  rw[List.drop_eq_getElem_cons g,List.take_succ_cons]
  simp
theorem Gr.fQ {ro:Addr->Option Value}{e:TypeId}{size:Nat}{v:Value}{l:List (List Value)}{aS pre:List (Nat×Obj)}(h:Gr ro e size v l aS)(a:∀k∈keys aS,au pre k):
  Go.Sep.fQ ⟨ro,pre++aS⟩ size v=some l.flatten:=by
 rcases h with ⟨rfl,rfl,rfl⟩|⟨b,arr,cap,rfl,rfl,hs,c,ht,f,d⟩
 ·rfl
 ·simp only[Go.Sep.fQ]
  have hle:l.length*size<=arr.size:=by rw[hs];exact Nat.mul_le_mul_right _ c
  rw[y7 (a b (by simp[keys])) d _ _ (by omega)]
  simp[ht]
section
variable {P : Program}
end
def oO (P:Program)(t:TypeId)(parts:List (Nat×Value)):Option Value:=
 match zeroOf P t,placesOf P t with
 |some z,some pl=>match Instr.fill (fun i=>pl[i]?) z.cells parts with
  |some cs=>some (.agg cs)
  |none=>none
 |_,_=>none
theorem y8 {P:Program}{Q:Array (Nat×Nat)->af->Prop}{F:af}:∀(a:List Field) (pl:List (Nat×Nat)) (acc:Array (Nat×Nat)),(a.mapM fun f=>(bW P f.type).map fun s=>(f.offset,s))=some pl->
  Q (acc++pl.toArray) F->aT P (a.foldlM (fun (b:Array (Nat×Nat)) f=>do let s<-sizeOf f.type;pure (b.push (f.offset,s))) acc) Q F
 |[],pl,acc,h,c=>by
  simp at h;subst h
  simpa [bC] using c
 |f::a,pl,acc,h,c=>by
  simp only[List.mapM_cons] at h
  cases hs:bW P f.type with
  |none=>simp[hs] at h
  |some s=>
   cases d:(a.mapM fun f=>(bW P f.type).map fun s=>(f.offset,s)) with
   |none=>simp[hs,d] at h
   |some e=>
    simp[hs,d] at h
    subst h
    simp only[List.foldlM_cons,bq,eE,hs,bC]
    exact y8 a e _ d (by simpa using c)
theorem Dt {P:Program}{Q:Array (Nat×Nat)->af->Prop}{F:af}(a:Array Field)(pl:List (Nat×Nat))(h:(a.toList.mapM fun f=>(bW P f.type).map fun s=>(f.offset,s))=some pl)
  (b:Q pl.toArray F):aT P (a.mapM fun f=>do let s<-sizeOf f.type;pure (f.offset,s)) Q F:=by
 rw[Array.mapM_eq_foldlM,<-Array.foldlM_toList]
 have:=y8 (Q:=Q) (F:=F) a.toList pl #[] h (by simpa using b)
 simpa using this
theorem Du {P:Program}{t:TypeId}{parts:Array (Nat×Value)}{w:Value}{Q:Value->af->Prop}{F:af}(h:oO P t parts.toList=some w)(b:Q w F):aT P (Instr.build t parts) Q F:=by
 unfold oO at h
 split at h
 case h_2=>cases h
 rename_i z pl c a
 split at h
 case h_2=>cases h
 rename_i cs d
 cases h
 unfold placesOf at a
 split at a
 case h_2=>cases a
 rename_i e f
 simp only[Instr.build,bq,lI,c,dj,f]
 refine Dt e pl a ?_
 simp only[List.getElem?_toArray,d,bC]
 exact b
def qO (P:Program)(t:TypeId)(len:Nat)(parts:List (Nat×Value)):Option (TypeId×Array Value):=
 match cX P t with
 |some e=>match bW P e,zeroOf P e with
  |some size,some z=>if len*size<=2 ^ 24/\0<len*size then
    match Instr.fill (fun i=>some (i*size,size)) ((Array.range (len*size)).map (z.cells[· % z.cells.size]!)) parts with
    |some cs=>some (e,cs)
    |none=>none
   else if len*size=0/\parts.isEmpty=true then some (e,#[]) else none
  |_,_=>none
 |none=>none
theorem Dv {P:Program}{t:TypeId}{len:Nat}{parts:Array (Nat×Value)}{e:TypeId}{cs:Array Value}{Q:Value->af->Prop}{F:af}(h:qO P t len parts.toList=some (e,cs))
  (c:∀b,dK F b->Q (.slice (some ⟨b,0,none⟩) len len) (F.push b (.cells cs e))):aT P (Instr.buildSlice t len parts) Q F:=by
 unfold qO at h
 split at h
 case h_2=>cases h
 rename_i d he
 split at h
 case h_2=>cases h
 rename_i size z hs f
 split at h
 case isFalse=>
  split at h
  case isFalse=>cases h
  rename_i hb
  cases h
  have hu:P.underlying t=some (.slice e):=by
   unfold cX at he
   split at he
   ·rename_i d a;cases he;exact a
   ·cases he
  have h1:¬(len*size>2 ^ 24):=by rw[hb.1];decide
  have g:parts.toList=[]:=List.isEmpty_iff.1 hb.2
  simp only[Instr.buildSlice,bq,dj,hu,eE,hs,de,if_neg h1,if_pos hb.1,bC,g]
  rw[hb.1]
  have e0:Array.range 0=#[]:=rfl
  simp only[e0,Array.map_empty,Instr.fill,bq,qF,bC]
  exact c
 rename_i hb
 split at h
 case h_2=>cases h
 rename_i cs' i
 cases h
 have hu:P.underlying t=some (.slice e):=by
  unfold cX at he
  split at he
  ·rename_i d a;cases he;exact a
  ·cases he
 have h1:¬(len*size>2 ^ 24):=by omega
 have h2:¬(len*size=0):=by omega
 simp only[Instr.buildSlice,bq,dj,hu,eE,hs,de,if_neg h1,if_neg h2,lI,f,bC,i,qF]
 exact c
def oP (P:Program)(t:TypeId)(n:Nat):Value->Option Value
 | .agg cs=>match uh P t n with
  |some (off,s,true)=>some (.agg (cs.extract off (off+s)))
  |some (off,_,false)=>cs[off]?
  |none=>none
 |_=>none
theorem Dw {P:Program}{t:TypeId}{n:Nat}{u w:Value}{Q:Value->af->Prop}{F:af}(h:oP P t n u=some w)(b:Q w F):aT P (Instr.field t u n) Q F:=by
 cases u<;>simp only[oP,reduceCtorEq] at h
 rename_i cs
 unfold uh at h
 cases hu:P.underlying t with
 |none=>simp[hu] at h
 |some d=>
  cases d<;>simp only[hu,reduceCtorEq] at h
  rename_i c
  cases a:c[n]? with
  |none=>simp[a] at h
  |some f=>
   simp only[a] at h
   cases hs:bW P f.type with
   |none=>simp[hs] at h
   |some s=>
    cases hg:cA P f.type with
    |none=>simp[hs,hg] at h
    |some g=>
     simp only[hs,hg] at h
     simp only[Instr.field,bq,dj,hu,a,Dj,part,lJ,hg,de]
     cases g with
     |true=>simp only[Option.some.injEq] at h;subst h;simpa [eE,hs,bC] using b
     |false=>
      simp only at h
      simp only[Bool.false_eq_true,if_false,h]
      exact b
def qP (n:Nat):Value->Option Value
 | .tuple a=>a[n]?
 |_=>none
def lO (P:Program)(src dst:TypeId):Value->Option Value
 | .int _ n=>match P.underlying src,P.underlying dst with
  |some (.int _),some (.int k)=>some (.int k (k.wrap n))
  |_,_=>none
 |_=>none
theorem Dx {P:Program}{src dst:TypeId}{u w:Value}{Q:Value->af->Prop}{F:af}(h:lO P src dst u=some w)(a:Q w F):aT P (convert src dst u) Q F:=by
 cases u<;>simp only[lO,reduceCtorEq] at h
 rename_i k n
 split at h
 ·rename_i k1 b h1 h2
  cases h
  simp only[convert,bq,dj,h1,h2,Conv.intToInt,bC]
  exact a
 ·cases h
def qQ (P:Program)(t:TypeId):Value->Option Value
 | .slice _ n _=>match cX P t with
  |some _=>some (.int .i64 n)
  |none=>none
 |_=>none
def oQ (P:Program)(t:TypeId):Value->Value->Option Value
 | .agg cs,.int _ i=>match mU P t with
  |some (len,e)=>match bW P e,cA P e with
   |some s,some true=>if 0<=i/\i<(len:Int) then some (.agg (cs.extract (i.toNat*s) (i.toNat*s+s))) else none
   |some s,some false=>if 0<=i/\i<(len:Int) then cs[i.toNat*s]? else none
   |_,_=>none
  |none=>none
 | .string s,.int _ i=>match P.underlying t with
  |some .string=>if 0<=i then (s[i.toNat]?).map fun b=>.int .u8 b.toNat else none
  |_=>none
 |_,_=>none
theorem Dy {P:Program}{t:TypeId}{u v w:Value}{Q:Value->af->Prop}{F:af}(h:oQ P t u v=some w)(a:Q w F):aT P (Instr.index t u v) Q F:=by
 unfold oQ at h
 split at h
 case h_3=>cases h
 case h_2=>
  rename_i s k i
  split at h
  case h_2=>cases h
  rename_i hu
  split at h
  case isFalse=>cases h
  rename_i hi
  obtain ⟨b,hb,rfl⟩:=Option.map_eq_some_iff.1 h
  simp only[Instr.index,bq,kI,dj,hu,if_pos hi,hb,bC]
  exact a
 rename_i cs k i
 split at h
 case h_2=>cases h
 rename_i len e he
 have hu:P.underlying t=some (.array len e):=by
  unfold mU at he
  split at he
  ·rename_i d f c;cases he;exact c
  ·cases he
 split at h
 ·rename_i s hs hg
  split at h
  case isFalse=>cases h
  rename_i hi
  cases h
  simp only[Instr.index,bq,kI,dj,hu,de,if_pos hi,eE,hs,part,lJ,hg,if_true,bC]
  exact a
 ·rename_i s hs hg
  split at h
  case isFalse=>cases h
  rename_i hi
  simp only[Instr.index,bq,kI,dj,hu,de,if_pos hi,eE,hs,part,lJ,hg,Bool.false_eq_true,if_false,h,bC]
  exact a
 ·cases h
def lP (P:Program)(argTypes:Array TypeId)(s x:Value)(R:Value->af->Prop)(F:af):Prop:=
 ∀ty,aT P (Builtin.append_ argTypes ty #[s,x]) (fun v F=>∃F0,Le F0 F/\R v F0) F
def Oper.mY (o:Oper):Bool:=match o.op with| .call {callee:=.builtin .append, ..}=>true|_=>false
def gj (P:Program)(J:Goroutine->af->Prop)(y:Value)(args:Array Value)(F:af)(R:Value->af->Prop):Prop:=
 match y with
 | .func (.func fn) first captured=>aI P fn=true/\cK P J fn (first++args++captured) F R
 | .func (.yield l) first captured=>first=#[]/\captured=#[]/\∃r,F.eT l=some (.loop r)/\args.size=r.params.size/\jc J l r.fn ((r.params.zip args).foldl (fun tmps (t,a)=>tmps.setIfInBounds t a) r.tmps) r.assign r.body F R
 |_=>False
theorem gj.mono {P:Program}{J:Goroutine->af->Prop}{y:Value}{args:Array Value}{F:af}{R a:Value->af->Prop}(h:gj P J y args F R)(b:∀v F',R v F'->a v F'):gj P J y args F a:=by
 unfold gj at h ⊢
 split at h
 ·exact ⟨h.1,h.2.mono b⟩
 ·obtain ⟨e1,e2,r,h1,h2,h3⟩:=h;exact ⟨e1,e2,r,h1,h2,h3.mono b⟩
 ·exact h.elim
theorem Dz {P:Program}{J:Goroutine->af->Prop}{fn:FuncId}{first captured args:Array Value}{F:af}{R:Value->af->Prop}:gj P J (.func (.func fn) first captured) args F R=(aI P fn=true/\cK P J fn (first++args++captured) F R):=rfl
def eL (P:Program)(m:Sem Value)(R:Value->af->Prop)(F:af):Prop:=aT P m R F
def cG (P:Program)(J:Goroutine->af->Prop)(o:Oper)(R:Value->af->Prop)(a:Act)(F:af):Prop:=
 match o.op with
 | .move x| .assign x=>R (ev a x) F
 | .nilCheck x=>match ev a x with
  | .pointer (some _)=>R (ev a x) F
  |_=>False
 | .pick c x y=>match ev a c with
  | .bool b=>R (if b then ev a x else ev a y) F
  |_=>False
 | .alloc t=>match zeroOf P t with
  |some z=>∀b,dK F b->R (.pointer (some ⟨b,0,none⟩)) (F.push b (.cells z.cells t))
  |none=>False
 | .box t x=>∀b,dK F b->R (.pointer (some ⟨b,0,none⟩)) (F.push b (.cells (ev a x).cells t))
 | .build t parts=>match oO P t (parts.map fun (i,x)=>(i,ev a x)).toList with
  |some v=>R v F
  |none=>False
 | .buildSlice t len parts=>match qO P t len (parts.map fun (i,x)=>(i,ev a x)).toList with
  |some (e,cs)=>∀b,dK F b->R (.slice (some ⟨b,0,none⟩) len len) (F.push b (.cells cs e))
  |none=>False
 | .load t x=>match ev a x with
  | .pointer (some ad)=>match e4 P F t ad with
   |some v=>R v F
   |none=>False
  |_=>False
 | .store t x y=>match ev a x with
  | .pointer (some ad)=>match qH P F t ad (ev a y) with
   |some F'=>R undef F'
   |none=>False
  |_=>False
 | .binOp op t x y _=>match oN P op t (ev a x) (ev a y) with
  |some v=>R v F
  |none=>False
 | .unOp op _ x=>match lM op (ev a x) with
  |some v=>R v F
  |none=>False
 | .convert src dst x=>match lO P src dst (ev a x) with
  |some v=>R v F
  |none=>False
 | .makeFunc fn first captured=>R (.func fn (first.map (ev a)) (captured.map (ev a))) F
 | .slice t x lo hi none=>(match ev a x with| .slice _ len cap=>len<=cap|_=>False)/\match mW P t (ev a x) (lo.map (ev a)) (hi.map (ev a)) with
  |some v=>R v F
  |none=>False
 | .fieldAddr s x n=>match ev a x with
  | .pointer (some ad)=>match cI P s n with
   |some k=>R (.pointer (some (ad.add k))) F
   |none=>False
  |_=>False
 | .field s x n=>match oP P s n (ev a x) with
  |some v=>R v F
  |none=>False
 | .indexAddr t x i=>match oK P t (ev a x) (ev a i) with
  |some v=>R v F
  |none=>False
 | .index t x i=>match oQ P t (ev a x) (ev a i) with
  |some v=>R v F
  |none=>False
 | .extract x n=>match qP n (ev a x) with
  |some v=>R v F
  |none=>False
 | .call {callee:=.value x,args, ..}=>gj P J (ev a x) (args.map (ev a)) F R
 | .call {callee:=.builtin .len,args,argTypes}=>match argTypes[0]?,args[0]? with
  |some t,some x=>match qQ P t (ev a x) with
   |some v=>R v F
   |none=>eL P (Builtin.len_ argTypes o.type (args.map (ev a))) R F
  |_,_=>False
 | .makeMap t r=>eL P (Instr.makeMap t (r.map (ev a))) R F
 | .makeSlice t l c=>eL P (Instr.makeSlice t (ev a l) (ev a c)) R F
 | .mapUpdate t m k x=>eL P (Instr.mapUpdate t (ev a m) (ev a k) (ev a x)>>= fun _=>pure undef) R F
 | .call {callee:=.builtin .clear,args,argTypes}=>eL P (Builtin.clear_ argTypes o.type (args.map (ev a))) R F
 | .call {callee:=.builtin .cap,args,argTypes}=>eL P (Builtin.cap_ argTypes o.type (args.map (ev a))) R F
 | .call {callee:=.builtin .copy,args,argTypes}=>eL P (Builtin.copy_ argTypes o.type (args.map (ev a))) R F
 | .call {callee:=.builtin .append,args,argTypes}=>match args.toList with
  |[x,y]=>lP P argTypes (ev a x) (ev a y) R F
  |_=>False
 | .call {callee:=.builtin .max,args, ..}=>match args.toList with
  |[x,y]=>match qI (ev a x) (ev a y) with
   |some v=>R v F
   |none=>False
  |_=>False
 | .call {callee:=.builtin .min,args, ..}=>match args.toList with
  |[x,y]=>match qJ (ev a x) (ev a y) with
   |some v=>R v F
   |none=>False
  |_=>False
 |_=>False
theorem er (a:Act):a.eval=ev a:=rfl
theorem y9 {P:Program}{J:Goroutine->af->Prop}{o:Oper}{R:Value->af->Prop}{D:Deferred->af->Prop}{a:Act}{F:af}(A:Oper.mY o=false)(h:cG P J o R a F):aT P (execOp a.eval o) (fj P J R D) F:=by
 obtain ⟨dst,op,type,pos,after,guard⟩:=o
 unfold execOp
 simp only[er]
 unfold cG at h
 simp only at h
 cases op<;>simp only at h ⊢
 case move x=>exact h
 case assign x=>exact h
 case nilCheck x=>
  split at h
  ·rename_i ad g
   simp only[g,bC,fj]
   rw[g] at h
   exact h
  ·exact h.elim
 case pick c x y=>
  split at h
  ·rename_i b hb
   simp only[bq,hb,Di,bC,fj]
   exact h
  ·exact h.elim
 case alloc t=>
  split at h
  ·rename_i z B
   simp only[Instr.alloc,bq,lI,B,yU,bC,fj]
   exact h
  ·exact h.elim
 case box t x=>
  simp only[Instr.box,bq,yU,bC,fj]
  exact h
 case build t parts=>
  split at h
  ·rename_i v d
   simp only[bq,bC]
   exact Du d h
  ·exact h.elim
 case buildSlice t len parts=>
  split at h
  ·rename_i e cs d
   simp only[bq,bC]
   exact Dv d h
  ·exact h.elim
 case load t x=>
  split at h
  case h_2=>exact h.elim
  rename_i ad p
  split at h
  case h_2=>exact h.elim
  rename_i v d
  simp only[Instr.loadAt,bq,p,qG,bC]
  exact yY d h
 case store t x y=>
  split at h
  case h_2=>exact h.elim
  rename_i ad p
  split at h
  case h_2=>exact h.elim
  rename_i F' C
  simp only[Instr.storeAt,bq,p,qG,bC]
  exact Dl C h
 case binOp op t x y T=>
  split at h
  case h_2=>exact h.elim
  rename_i v d
  rw[iB]
  exact Dr d h
 case unOp op t x=>
  split at h
  case h_2=>exact h.elim
  rename_i v d
  rw[iB]
  exact Dn d h
 case convert src dst x=>
  split at h
  case h_2=>exact h.elim
  rename_i v d
  rw[iB]
  exact Dx d h
 case makeFunc fn first captured=>
  simp only[Instr.makeFunc,bq,bC,fj]
  exact h
 case slice t x lo hi E=>
  cases E with
  |some m=>exact h.elim
  |none=>
   simp only at h
   obtain ⟨h1,h⟩:=h
   split at h
   case h_2=>exact h.elim
   rename_i v d
   rw[iB]
   exact Dq (fun ad len cap e=>by rw[e] at h1;exact h1) d h
 case fieldAddr s x n=>
  split at h
  case h_2=>exact h.elim
  rename_i ad p
  split at h
  case h_2=>exact h.elim
  rename_i k hk
  unfold cI at hk
  split at hk
  case h_2=>cases hk
  rename_i U G
  split at hk
  case h_2=>cases hk
  rename_i f q
  split at hk
  case h_2=>cases hk
  rename_i m hm
  cases hk
  rw[iB]
  simp only[Instr.fieldAt,bq,dj,G,q,p,qG,fieldPlace,eE,hm]
  simpa [bC,fj] using h
 case field s x n=>
  split at h
  case h_2=>exact h.elim
  rename_i v d
  rw[iB]
  exact Dw d h
 case indexAddr t x i=>
  split at h
  case h_2=>exact h.elim
  rename_i v d
  rw[iB]
  exact Dp d h
 case index t x i=>
  split at h
  case h_2=>exact h.elim
  rename_i v d
  rw[iB]
  exact Dy d h
 case extract x n=>
  split at h
  case h_2=>exact h.elim
  rename_i v d
  rw[iB]
  unfold qP at d
  split at d
  ·rename_i V H
   simp only[H,Instr.extract,d]
   exact h
  ·cases d
 case makeMap t r=>
  rw[iB]
  exact h
 case makeSlice t l c=>
  rw[iB]
  exact h
 case mapUpdate t m k x=>
  unfold eL at h
  rw[bq] at h
  rw[bq]
  exact h
 case call c=>
  obtain ⟨callee,args,argTypes⟩:=c
  cases callee with
  |value x=>
   simp only at h
   unfold gj at h
   split at h
   case h_3=>exact h.elim
   ·rename_i fn first captured g
    obtain ⟨j,I⟩:=h
    unfold aI at j
    split at j
    case h_2=>cases j
    rename_i f q
    simp only[Bool.not_eq_true',Bool.or_eq_false_iff] at j
    simp only[resolve,g,Deferred.ofValue,bq,bC,invoke,callFunc,jN,q,j.1,j.2,Bool.false_eq_true,if_false,fj]
    exact I
   ·rename_i l first captured g
    obtain ⟨rfl,rfl,r,h1,h2,h3⟩:=h
    simp only[resolve,g,Deferred.ofValue,bq,bC,invoke,Instr.yield,Instr.getLoop,Array.append_empty,Array.empty_append,Array.map_map]
    refine ⟨_,h1,?_⟩
    have K:∀{α:Type} (x:α) (Q:α->af->Prop) (F:af),aT P (Sem.pure x) Q F=Q x F:=fun _ _ _=>rfl
    simp only[bq,K,bC,de,ne_eq,h2,not_true_eq_false,if_false,fj]
    exact h3
  |invoke r m=>exact h.elim
  |builtin b=>
   cases b<;>simp only at h
   case append=>simp[Oper.mY] at A
   case clear=>
    simp only[resolve,bq,bC,invoke,builtin]
    exact h
   case cap=>
    simp only[resolve,bq,bC,invoke,builtin]
    exact h
   case copy=>
    simp only[resolve,bq,bC,invoke,builtin]
    exact h
   case len=>
    split at h
    case h_2=>exact h.elim
    rename_i t x ht g
    split at h
    case h_2=>
     simp only[resolve,bq,bC,invoke,builtin]
     exact h
    rename_i v d
    unfold qQ at d
    split at d
    case h_2=>cases d
    rename_i ad n cap L
    split at d
    case h_2=>cases d
    rename_i e M
    have he:=uv M
    cases d
    have N:(args.map (ev a))[0]?=some (.slice ad n cap):=by simp[g,L]
    simp only[resolve,bq,bC,invoke,builtin,Builtin.len_,ht,N,dj,he]
    exact h
   case max=>
    split at h
    case h_2=>exact h.elim
    rename_i x y u
    split at h
    case h_2=>exact h.elim
    rename_i v d
    unfold qI at d
    split at d
    case h_2=>cases d
    rename_i k O S y' g w
    cases d
    simp only[resolve,bq,bC,invoke,builtin,Builtin.max_,Array.toList_map,u,List.map_cons,List.map_nil,List.foldlM_cons,List.foldlM_nil,g,w,Builtin.max2,fj]
    exact h
   case min=>
    split at h
    case h_2=>exact h.elim
    rename_i x y u
    split at h
    case h_2=>exact h.elim
    rename_i v d
    unfold qJ at d
    split at d
    case h_2=>cases d
    rename_i k O S y' g w
    cases d
    simp only[resolve,bq,bC,invoke,builtin,Builtin.min_,Array.toList_map,u,List.map_cons,List.map_nil,List.foldlM_cons,List.foldlM_nil,g,w,Builtin.min2,fj]
    exact h
theorem kJ {P:Program}{J:Goroutine->af->Prop}{o:Oper}{R:Value->af->Prop}{D:Deferred->af->Prop}{a:Act}{F:af}(h:cG P J o R a F):aT P (execOp a.eval o) (jL P J R D) F:=
by
 cases b:Oper.mY o with
 |false=>exact gH C4 _ _ (y9 b h)
 |true=>
  obtain ⟨dst,op,type,pos,after,guard⟩:=o
  unfold Oper.mY at b
  split at b
  ·rename_i callee args argTypes c
   simp only at c
   subst c
   unfold cG at h
   simp only at h
   split at h
   case h_2=>exact h.elim
   rename_i x y d
   have e:args=#[x,y]:=by rw[<-Array.toList_inj];simpa using d
   subst e
   unfold execOp
   simp only[er,resolve,bq,bC,invoke,builtin]
   have:=h type
   simpa [jL,fj,bq,bC] using this
  ·cases b
def cz (ops:Array Oper)(o:Oper)(a:Act):Option Bool:=
 match o.guard with
 |none=>some true
 |some (j,want)=>match (ops[j]?).bind (·.dst) with
  |some d=>match slot a d with
   | .bool b=>some (b==want)
   | .tuple _=>some false
   |_=>none
  |none=>none
theorem cj {ops:Array Oper}{o:Oper}{a:Act}{t:Bool}(h:cz ops o a=some t):Region.wanted o (yielded ops a.tmps)=t:=by
 unfold cz at h
 unfold Region.wanted
 split at h
 ·rename_i hg;rw[hg];cases h;rfl
 ·rename_i j want hg
  rw[hg]
  split at h
  ·rename_i d hd
   split at h
   ·rename_i b hb
    cases h
    have ht:a.tmps[d]?=some (.bool b):=by
     unfold slot at hb
     rw[Array.getD_eq_getD_getElem?] at hb
     cases c:a.tmps[d]? with
     |none=>rw[c] at hb;simp[undef] at hb
     |some v=>rw[c] at hb;simpa using hb
    simp only[yielded,hd,Option.bind_some,ht]
    cases b<;>cases want<;>rfl
   ·rename_i b hb
    cases h
    simp only[yielded,hd,Option.bind_some]
    unfold slot at hb
    rw[Array.getD_eq_getD_getElem?] at hb
    cases c:a.tmps[d]? with
    |none=>rfl
    |some v=>
     rw[c] at hb
     simp at hb
     subst hb
     rfl
   ·cases h
  ·cases h
def Oper.calls (o:Oper):Bool:=match o.op with| .call {callee:=.value _, ..}=>true| .call {callee:=.builtin .append, ..}=>true| .call {callee:=.builtin .clear, ..}=>true| .call {callee:=.builtin .cap, ..}=>true| .call {callee:=.builtin .copy, ..}=>true| .makeMap ..=>true| .makeSlice ..=>true| .mapUpdate ..=>true|_=>false
def fy (P:Program)(J:Goroutine->af->Prop)(ops:Array Oper)(K:Act->af->Prop):List Oper->Bool->Act->af->Prop
 |[],_,a,F=>K a F
 |o::rest,_,a,F=>match cz ops o a with
  |some true=>cG P J o (fun v F'=>fy P J ops K rest (!Oper.calls o) (aZ a o.dst v) F') a F
  |some false=>fy P J ops K rest true (aZ a o.dst undef) F
  |none=>False
theorem za {P:Program}{J:Goroutine->af->Prop}{ops:Array Oper}{K:Act->af->Prop}{go:Bool}{a:Act}{F:af}:fy P J ops K [] go a F=K a F:=rfl
theorem zb {P:Program}{J:Goroutine->af->Prop}{ops:Array Oper}{K:Act->af->Prop}{o:Oper}{rest:List Oper}{a:Act}{F:af}:fy P J ops K (o::rest) true a F=match cz ops o a with
  |some true=>cG P J o (fun v F'=>fy P J ops K rest (!Oper.calls o) (aZ a o.dst v) F') a F
  |some false=>fy P J ops K rest true (aZ a o.dst undef) F
  |none=>False:=(Eq.refl _).trans (Eq.refl _)
theorem aD {P:Program}{J:Goroutine->af->Prop}{ops:Array Oper}{K:Act->af->Prop}:∀{l:List Oper} {go:Bool} {a:Act} {F:af},fy P J ops K l true a F->fy P J ops K l go a F
 |[],_,_,_,h=>h
 |_::_,_,_,_,h=>h
theorem uB {P:Program}{J:Goroutine->af->Prop}{ops:Array Oper}{K:Act->af->Prop}:∀(l:List Oper) (k:Nat) (go:Bool) (a:Act) (F:af),ops.toList.drop k=l->fy P J ops K l go a F->
  fF P J ops K (List.range' k l.length) a F
 |[],k,_,a,F,_,h=>h
 |o::rest,k,_,a,F,b,h=>by
  have d:ops[k]?=some o:=by
   have:=congrArg List.head? b
   simpa [List.head?_drop] using this
  have c:ops.toList.drop (k+1)=rest:=by
   have:=congrArg List.tail b
   simpa [List.tail_drop] using this
  simp only[List.length_cons,List.range'_succ]
  show dG P J ops k (fF P J ops K (List.range' (k+1) rest.length)) a F
  unfold dG
  simp only[d]
  unfold fy at h
  split at h
  ·rename_i hg
   rw[if_pos (cj hg)]
   exact gH (oE (fun v F' e=>uB rest (k+1) _ _ F' c e) (fun _ _ x=>x)) _ _ (kJ h)
  ·rename_i hg
   rw[if_neg (by rw[cj hg];simp)]
   exact uB rest (k+1) _ _ F c h
  ·exact h.elim
theorem ag {P:Program}{main:Bool}{J:Goroutine->af->Prop}{Q:Ex->Act->af->Prop}{a:Act}{F:af}(hJ:Closed P main J){id:Nat}{ops:Array Oper}(h:fy P J ops (Q .normal) ops.toList true a F):Wp J (.region id ops false) Q a F:=by
 refine Db hJ ?_
 have:=uB ops.toList 0 true a F (by simp) h
 simpa [List.range_eq_range'] using this
attribute [irreducible] fy
theorem mZ {P:Program}{J:Goroutine->af->Prop}{ops:Array Oper}{Q:Act->af->Prop}{S:af->Prop}(i:Nat){b:Oper}(v:Value){fuel:Nat}{listed:Array Bool}{a:Act}{F:af}(hi:ops[i]?=some b)
  (d:(Region.noSelect ops&&Region.free .any ops listed i&&(Region.ready .any ops listed).contains i)=true)
  (hg:cz ops b a=some true) (e:∀F R,S F->R v F->cG P J b R a F) (c:S F)
  (h:dH P J ops Q S fuel (listed.setIfInBounds i true) (aZ a b.dst v) F):dH P J ops Q S (fuel+1) listed a F:=
 yH i v hi d (.inl ⟨cj hg,fun F R c f=>kJ (e F R c f)⟩) c h
theorem zd {P:Program}{J:Goroutine->af->Prop}{ops:Array Oper}{Q:Act->af->Prop}{S:af->Prop}(i:Nat){b:Oper}{fuel:Nat}{listed:Array Bool}{a:Act}{F:af}(hi:ops[i]?=some b)
  (c:(Region.noSelect ops&&Region.free .any ops listed i&&(Region.ready .any ops listed).contains i)=true)
  (hg:cz ops b a=some false) (d:S F)
  (h:dH P J ops Q S fuel (listed.setIfInBounds i true) (aZ a b.dst undef) F):dH P J ops Q S (fuel+1) listed a F:=
 yH i undef hi c (.inr ⟨cj hg,rfl⟩) d h
theorem ze {P:Program}{J:Goroutine->af->Prop}{ops:Array Oper}{Q:Act->af->Prop}{S:af->Prop}(i:Nat){b:Oper}{fuel:Nat}{listed:Array Bool}{a:Act}{F:af}(hi:ops[i]?=some b)
  (c:Region.ready .any ops listed=[i]) (hg:cz ops b a=some true)
  (h:cG P J b (fun v F'=>S F'/\dH P J ops Q S fuel (listed.setIfInBounds i true) (aZ a b.dst v) F') a F):dH P J ops Q S (fuel+1) listed a F:=by
 refine C8 i c ?_
 unfold dG
 simp only[hi]
 rw[if_pos (cj hg)]
 exact kJ h
attribute [go_sem] List.isEmpty_nil List.isEmpty_cons undef za zb Oper.calls Bool.not_true Bool.not_false cz cG af.push af.get af.put lk iz cellOf e4 qH af.dg af.jf af.lE bx frozenAt oN lN oM Option.isNone_none Option.isNone_some gi iC mV lM qI qJ oK oQ mW oP qP lO qQ oO qO
theorem add_zero' (a:Addr):a.add 0=a:=rfl
theorem kK (a:Addr)(m n:Nat):(a.add m).add n=a.add (m+n):=by
 unfold Addr.add
 by_cases hm:m=0
 ·subst hm;simp
 ·by_cases hn:n=0
  ·subst hn;simp[hm]
  ·have:¬m+n=0:=by omega
   simp[hm,hn,this,Nat.add_assoc]
theorem kL (b o n:Nat):(⟨b,o,none⟩:Addr).add n=⟨b,o+n,none⟩:=by
 unfold Addr.add
 by_cases hn:n=0
 ·subst hn;simp
 ·simp[hn]
attribute [go_sem] add_zero' kK kL Nat.add_assoc Int.reduceLE Int.reduceLT Int.reduceToNat Int.toNat_zero Int.le_refl
attribute [go_sem] Value.cells Instr.fill qB gW tU yL Dz
attribute [go_sem] and_true true_and Array.getD_eq_getD_getElem? List.getElem?_toArray List.getElem?_cons_zero List.getElem?_cons_succ List.getElem?_nil Option.getD_some Option.getD_none Option.bind_some Option.bind_none Option.map_some Option.map_none
attribute [go_sem] Nat.reduceLT Nat.reduceEqDiff Nat.reduceAdd Nat.reduceMul Nat.reduceSub if_true if_false reduceIte reduceCtorEq List.setIfInBounds_toArray List.set_cons_zero List.set_cons_succ
attribute [go_sem] List.map_toArray List.map_cons List.map_nil List.append_toArray List.cons_append List.nil_append List.append_nil Array.append_empty Array.empty_append List.toList_toArray List.length_cons List.length_nil List.size_toArray ne_eq not_true_eq_false not_false_eq_true forall_const
theorem eB {ro:Addr->Option Value}{own:List (Nat×Obj)}{b:Nat}(h:dK ⟨ro,own⟩ b):∀off sp,ro ⟨b,off,sp⟩=none:=h.ro
theorem fz {ro:Addr->Option Value}{own:List (Nat×Obj)}{b:Nat}(h:dK ⟨ro,own⟩ b):au own b:=h.own
def oR (P:Program)(F:af)(a:Act):ResultVar->Option Value
 | .tmp t=>some (slot a t)
 | .cell ad t=>match slot a ad with
  | .pointer (some p)=>e4 P F t p
  |_=>none
def lQ (P:Program)(F:af)(a:Act):List ResultVar->Option (List Value)
 |[]=>some []
 |r::rs=>match oR P F a r with
  |some v=>match lQ P F a rs with
   |some b=>some (v::b)
   |none=>none
  |none=>none
def lR (P:Program)(F:af)(a:Act)(rs:List ResultVar):Option Value:=
 match lQ P F a rs with
 |some [v]=>some v
 |some b=>some (.tuple b.toArray)
 |none=>none
attribute [go_sem] oR lQ lR
theorem uC {P:Program}{F:af}{a:Act}{Q:Array Value->af->Prop}:∀(rs:List ResultVar) (d:List Value) (acc:Array Value),lQ P F a rs=some d->Q (acc++d.toArray) F->
  aT P (rs.foldlM (fun (b:Array Value) r=>do let x<-(match r with| .tmp t=>pure (a.tmps.getD t undef)| .cell ad t=>do loadVar t (<-asAddr (a.tmps.getD ad undef)):Sem Value);pure (b.push x)) acc) Q F
 |[],d,acc,h,e=>by
  simp only[lQ,Option.some.injEq] at h;subst h
  simpa [bC] using e
 |r::rs,d,acc,h,e=>by
  unfold lQ at h
  split at h
  case h_2=>cases h
  rename_i v c
  split at h
  case h_2=>cases h
  rename_i ws i
  cases h
  have f:=uC rs ws (acc.push v) i (Q:=Q) (by simpa using e)
  simp only[List.foldlM_cons,bq]
  cases r with
  |tmp t=>
   simp only[oR,Option.some.injEq,slot] at c
   subst c
   simpa only[bC] using f
  |cell ad t=>
   simp only[oR] at c
   split at c
   ·rename_i p g
    unfold slot at g
    simp only[bq,g,asAddr,bC]
    exact yY c f
   ·cases c
theorem qR {P:Program}{fn:Func}{rs:List ResultVar}{F:af}{a:Act}{v:Value}{R:Value->af->Prop}(d:fn.results=rs.toArray)(h:lR P F a rs=some v)(c:R v F):aT P (results fn a.tmps) R F:=by
 unfold results
 rw[d,bq,Array.mapM_eq_foldlM,<-Array.foldlM_toList]
 unfold lR at h
 split at h
 case h_3=>cases h
 ·rename_i x b
  cases h
  exact uC rs [v] #[] b (by simpa [bC] using c)
 ·rename_i e f b
  cases h
  refine uC rs e #[] b ?_
  simp only[Array.empty_append,bC]
  split
  ·rename_i hs
   simp at hs
   obtain ⟨v,rfl⟩:=List.length_eq_one_iff.1 hs
   exact absurd rfl (f v)
  ·exact c
def gk (P:Program)(rs:List ResultVar)(R:Value->af->Prop):Ex->Act->af->Prop
 | .exit _,_,_=>False
 |_,a,F=>a.defers=[]/\match lR P F a rs with|some v=>R v F|none=>False
attribute [go_sem] gk
theorem aC.go {P:Program}{f:FuncId}{fn:Func}{c:Code}{n:Nat}{rs:List ResultVar}{args:Array Value}{F:af}{R:Value->af->Prop}(g:P.funcs[f]?=some fn)(hb:fn.body=some c)(hn:fn.ntmps=n)(j:fn.results=rs.toArray)(k:args.size<=n)
  (h:∀main J,Closed P main J->∀A:Act,sz A=n->A.defers=[]->(∀i,slot A i=args.getD i undef)->Wp J c (gk P rs R) A F):aC P f args F R:=
 aC.start g hb hn k fun main J hJ A h1 h2 h3=>(h main J hJ A h1 h2 h3).mono fun e a F d=>by
  cases e with
  |exit i=>exact d
  |_=>
   obtain ⟨hd,b⟩:=d
   split at b
   ·rename_i v l
    show gW P a.defers _ F
    rw[hd]
    exact qR j l b
   ·exact b.elim
def cL (n m:Nat):Array Bool:=(Array.range n).map fun i=>decide (i<m)
def oS (ops:Array Oper)(m:Nat):Bool:=
 Region.noSelect ops&&decide (m<=ops.size)&&((List.range m).all fun i=>Region.free .any ops (cL ops.size i) i&&(Region.ready .any ops (cL ops.size i)).contains i)&&
 ((List.range (ops.size - m)).all fun j=>decide (Region.ready .any ops (cL ops.size (m+j))=[m+j]))&&decide (Region.ready .any ops (cL ops.size ops.size)=[])
def DC (D:List Nat)(L:List (List Nat))(x y:Nat):Bool:=RegionTabs.apart ⟨#[],D.toArray,L.toArray⟩ x y
def uD (A:List (List Nat))(D:List Nat)(L:List (List Nat))(n m:Nat):Bool:=
 decide (m<=n)&&((List.range m).all fun k=>(A.getD k []).all (fun x=>decide (x<k))&&(List.range n).all fun j=>decide (j<=k)||(A.getD j []).contains k||DC D L k j)&&
 ((List.range (n - m)).all fun t=>(A.getD (m+t) []).all (fun x=>decide (x<m+t))&&(List.range (n - (m+t+1))).all fun u=>!(A.getD (m+t+1+u) []).all (fun x=>decide (x<m+t)))
section
variable {ops : Array Oper}
theorem zf {n k i:Nat}(h:i<n):(cL n k).getD i true=decide (i<k):=by
 simp[cL,Array.getD_eq_getD_getElem?,h]
theorem DD {n k i:Nat}(hk:k<=n):(cL n k).getD i false=decide (i<k):=by
 rcases Nat.lt_or_ge i n with h|h
 ·simp[cL,Array.getD_eq_getD_getElem?,h]
 ·have:¬i<k:=by omega
  simp[cL,Array.getD_eq_getD_getElem?,Array.getElem?_eq_none,h,this]
theorem uE {A:List (List Nat)}{k:Nat}(a:Region.tabAfter .any ops=A)(hk:k<=ops.size):
  Region.ready .any ops (cL ops.size k)=(List.range ops.size).filter fun i=>!decide (i<k)&&(A.getD i []).all fun x=>decide (x<k):=by
 have hlen:A.length=ops.size:=by rw[<-a];simp[Region.tabAfter]
 rw[<-RegionTabs.ready_eq]
 unfold RegionTabs.ready RegionTabs.of
 simp only[a,List.size_toArray,hlen]
 apply List.filter_congr
 intro i hi
 have b:i<ops.size:=List.mem_range.1 hi
 rw[zf b]
 congr 1
 rw[List.getElem?_toArray,List.getD_eq_getElem?_getD,List.getElem?_eq_getElem (by omega)]
 simp only[Option.map_some,Option.getD_some]
 congr 1
 funext x
 exact DD hk
theorem filter_one {k:Nat}{p:Nat->Bool}(b:p k=true):∀(n:Nat),k<n->(∀i,i<n->i≠k->p i=false)->(List.range n).filter p=[k]
 |0,hk,_=>by omega
 |n+1,hk,a=>by
  rw[List.range_succ,List.filter_append]
  by_cases e:k=n
  ·subst e
   have:(List.range k).filter p=[]:=by
    rw[List.filter_eq_nil_iff]
    intro i hi
    have c:=List.mem_range.1 hi
    rw[a i (by omega) (by omega)];simp
   rw[this];simp[b]
  ·rw[filter_one b n (by omega) fun i hi=>a i (by omega)]
   simp[a n (by omega) (fun x=>e x.symm)]
theorem DF {m n:Nat}(A:List (List Nat))(D:List Nat)(L:List (List Nat))(hs:Region.noSelect ops=true)(hn:ops.size=n)(a:Region.tabAfter .any ops=A)(c:Region.tabDst ops=D)(d:Region.tabLooks ops=L)(h:uD A D L n m=true):oS ops m=true:=by
 subst hn
 have hlen:A.length=ops.size:=by rw[<-a];simp[Region.tabAfter]
 simp only[uD,Bool.and_eq_true,decide_eq_true_eq,List.all_eq_true,List.mem_range] at h
 obtain ⟨⟨hm,h1⟩,h2⟩:=h
 simp only[oS,Bool.and_eq_true,decide_eq_true_eq,List.all_eq_true,List.mem_range]
 refine ⟨⟨⟨⟨hs,hm⟩,fun i hi=>⟨?_,?_⟩⟩,fun j b=>?_⟩,?_⟩
 ·rw[<-RegionTabs.free_eq]
  unfold RegionTabs.free
  have e1:(RegionTabs.of .any ops).after=A.toArray:=by simp[RegionTabs.of,a]
  rw[e1,List.size_toArray,hlen]
  simp only[Bool.and_eq_true,decide_eq_true_eq,List.all_eq_true,List.mem_range]
  refine ⟨by omega,fun j b=>?_⟩
  have:=(h1 i hi).2 j b
  simp only[Bool.or_eq_true,decide_eq_true_eq] at this
  simp only[Bool.or_eq_true]
  rcases this with (hle|f)|g
  ·rcases Nat.lt_or_eq_of_le hle with x|x
   ·left;left;right
    rw[zf (by omega)];simpa using x
   ·left;left;left;simpa using x
  ·left;right
   simpa [Array.getD_eq_getD_getElem?,List.getD_eq_getElem?_getD] using f
  ·right
   have e:RegionTabs.of .any ops=⟨A.toArray,D.toArray,L.toArray⟩:=by simp[RegionTabs.of,a,c,d]
   rw[e]
   exact g
 ·rw[uE a (by omega)]
  rw[List.contains_iff_mem,List.mem_filter]
  refine ⟨List.mem_range.2 (by omega),?_⟩
  have:=(h1 i hi).1
  simpa [List.all_eq_true] using this
 ·have hk:m+j<ops.size:=by omega
  rw[uE a (by omega)]
  refine filter_one ?_ _ hk fun i hi k=>?_
  ·have:=(h2 j b).1
   simpa [List.all_eq_true] using this
  ·rcases Nat.lt_or_ge i (m+j) with x|x
   ·simp[x]
   ·have:=(h2 j b).2 (i - (m+j+1)) (by omega)
    rw[show m+j+1+(i - (m+j+1))=i by omega] at this
    simp only[Bool.not_eq_true'] at this
    simp only[this,Bool.and_false]
 ·rw[uE a (Nat.le_refl _)]
  rw[List.filter_eq_nil_iff]
  intro i hi
  have:=List.mem_range.1 hi
  simp[this]
def uF (n:Nat)(k:Nat->Bool):Bool:=Nat.casesOn n (k 0) fun m=>k (m+1)
def oT:List Nat->(List Nat->Bool)->Bool
 |[],k=>k []
 |x::xs,k=>uF x fun y=>oT xs fun ys=>k (y::ys)
def oU:List (List Nat)->(List (List Nat)->Bool)->Bool
 |[],k=>k []
 |x::xs,k=>oT x fun y=>oU xs fun ys=>k (y::ys)
theorem zg (n:Nat)(k:Nat->Bool):uF n k=k n:=by cases n<;>rfl
theorem uG:∀(l:List Nat) (k:List Nat->Bool),oT l k=k l
 |[],_=>rfl
 |x::xs,k=>by rw[oT,zg,uG xs]
theorem zh:∀(l:List (List Nat)) (k:List (List Nat)->Bool),oU l k=k l
 |[],_=>rfl
 |x::xs,k=>by rw[oU,uG,zh xs]
def m0 (ops:Array Oper)(m:Nat):Bool:=Region.noSelect ops&&oU (Region.tabAfter .any ops) fun A=>oT (Region.tabDst ops) fun D=>oU (Region.tabLooks ops) fun L=>uF ops.size fun n=>uD A D L n m
theorem zi {m:Nat}(h:m0 ops m=true):oS ops m=true:=by
 simp only[m0,Bool.and_eq_true,zh,uG,zg] at h
 exact DF _ _ _ h.1 rfl rfl rfl rfl h.2
end
def iD:List (Nat×Obj)->List (Nat×Obj)->Prop
 |[],_=>True
 |(b,o)::l,own=>lk own b=some o/\iD l own
def Knows (F0 F:af):Prop:=(∀a v,F0.ro a=some v->F.ro a=some v)/\(∀a,a.block∈keys F0.own->F0.ro a=none->F.ro a=none)/\iD F0.own F.own
theorem iD.lk:∀{l own:List (Nat×Obj)} {b:Nat} {o:Obj},iD l own->lk l b=some o->Go.Sep.lk own b=some o
 |[],_,_,_,_,h=>by cases h
 |(c,x)::l,own,b,o,hk,h=>by
  unfold Go.Sep.lk at h
  split at h
  ·rename_i e;cases h;exact e▸hk.1
  ·exact iD.lk hk.2 h
theorem Knows.get {F0 F:af}(h:Knows F0 F){a:Addr}{v:Value}(hg:F0.get a=some v):F.get a=some v:=by
 unfold af.get at hg ⊢
 cases b:F0.ro a with
 |some x=>rw[b] at hg;rw[h.1 a x b];exact hg
 |none=>
  rw[b] at hg
  simp only at hg
  split at hg
  ·rename_i hs
   obtain ⟨o,c,d⟩:=Option.bind_eq_some_iff.1 hg
   rw[h.2.1 a (eK (gE c)) b]
   simp only
   rw[if_pos hs,h.2.2.lk c]
   exact d
  ·cases hg
theorem DG {ro:Addr->Option Value}{l own:List (Nat×Obj)}:Knows ⟨ro,l⟩ ⟨ro,own⟩=iD l own:=
 propext ⟨fun h=>h.2.2,fun h=>⟨fun _ _ x=>x,fun _ _ x=>x,h⟩⟩
theorem DH {ro aL:Addr->Option Value}{l own:List (Nat×Obj)}(c:∀a v,ro a=some v->aL a=some v)(hn:∀b∈keys l,∀off sp,aL ⟨b,off,sp⟩=none)(h:iD l own):Knows ⟨ro,l⟩ ⟨aL,own⟩:=
 ⟨c,fun a d _=>hn a.block d a.off a.spot,h⟩
theorem Knows.lK {F0 F:af}(h:Knows F0 F){a:Addr}:∀{n i:Nat} {b:List Value},F0.dg a i n=some b->F.dg a i n=some b
 |0,_,_,hg=>hg
 |n+1,i,b,hg=>by
  unfold af.dg at hg ⊢
  split at hg
  case h_2=>cases hg
  rename_i v c
  split at hg
  case h_2=>cases hg
  rename_i ws d
  rw[h.get c,h.lK d]
  exact hg
theorem Knows.e4 {P:Program}{F0 F:af}(h:Knows F0 F){t:TypeId}{ad:Addr}{v:Value}(hg:e4 P F0 t ad=some v):Go.Sep.e4 P F t ad=some v:=by
 unfold Go.Sep.e4 at hg ⊢
 split at hg
 ·exact h.get hg
 ·split at hg
  case h_2=>cases hg
  rename_i n hn
  split at hg
  case h_2=>cases hg
  rename_i b a
  rw[h.lK a]
  exact hg
 ·cases hg
def iE (P:Program)(o:Oper)(a:Act):Option Value:=
 match o.op with
 | .move x| .assign x=>some (ev a x)
 | .pick c x y=>match ev a c with
  | .bool b=>some (if b then ev a x else ev a y)
  |_=>none
 | .build t parts=>oO P t (parts.map fun (i,x)=>(i,ev a x)).toList
 | .binOp op t x y _=>oN P op t (ev a x) (ev a y)
 | .unOp op _ x=>lM op (ev a x)
 | .convert src dst x=>lO P src dst (ev a x)
 | .makeFunc fn first captured=>some (.func fn (first.map (ev a)) (captured.map (ev a)))
 | .slice t x lo hi none=>match ev a x with
  | .slice ad len cap=>if len<=cap then mW P t (.slice ad len cap) (lo.map (ev a)) (hi.map (ev a)) else none
  |_=>none
 | .fieldAddr s x n=>match ev a x with
  | .pointer (some ad)=>match cI P s n with
   |some k=>some (.pointer (some (ad.add k)))
   |none=>none
  |_=>none
 | .field s x n=>oP P s n (ev a x)
 | .indexAddr t x i=>oK P t (ev a x) (ev a i)
 | .index t x i=>oQ P t (ev a x) (ev a i)
 | .extract x n=>qP n (ev a x)
 | .call {callee:=.builtin .len,args,argTypes}=>match argTypes[0]?,args[0]? with
  |some t,some x=>qQ P t (ev a x)
  |_,_=>none
 | .call {callee:=.builtin .max,args, ..}=>match args.toList with
  |[x,y]=>qI (ev a x) (ev a y)
  |_=>none
 | .call {callee:=.builtin .min,args, ..}=>match args.toList with
  |[x,y]=>qJ (ev a x) (ev a y)
  |_=>none
 |_=>none
theorem qS {P:Program}{J:Goroutine->af->Prop}{o:Oper}{a:Act}{v:Value}{R:Value->af->Prop}{F:af}(h:iE P o a=some v)(d:R v F):cG P J o R a F:=by
 obtain ⟨dst,op,type,pos,after,guard⟩:=o
 unfold iE at h
 unfold cG
 cases op<;>simp only[reduceCtorEq] at h ⊢
 case move x=>cases h;exact d
 case assign x=>cases h;exact d
 case pick c x y=>
  split at h
  ·rename_i b hb;cases h;try rw[hb]
   exact d
  ·cases h
 case build t parts=>rw[h];exact d
 case binOp=>rw[h];exact d
 case unOp=>rw[h];exact d
 case convert=>rw[h];exact d
 case makeFunc=>cases h;exact d
 case slice t x lo hi g=>
  cases g with
  |some m=>cases h
  |none=>
   simp only at h ⊢
   split at h
   case h_2=>cases h
   rename_i ad len cap e
   split at h
   case isFalse=>cases h
   rename_i i
   rw[e]
   exact ⟨i,by rw[h];exact d⟩
 case fieldAddr s x n=>
  split at h
  case h_2=>cases h
  rename_i ad e
  split at h
  case h_2=>cases h
  rename_i k hk
  cases h
  try rw[e]
  try simp only[hk]
  exact d
 case field=>rw[h];exact d
 case indexAddr=>rw[h];exact d
 case index=>rw[h];exact d
 case extract=>rw[h];exact d
 case call c=>
  obtain ⟨callee,args,argTypes⟩:=c
  cases callee with
  |value x=>cases h
  |invoke r m=>cases h
  |builtin b=>
   cases b<;>simp only[reduceCtorEq] at h ⊢
   case len=>
    split at h
    case h_2=>cases h
    rename_i t x ht e
    simp only[ht,e,h];exact d
   case max=>
    split at h
    case h_2=>cases h
    rename_i x y f
    simp only[f,h];exact d
   case min=>
    split at h
    case h_2=>cases h
    rename_i x y f
    simp only[f,h];exact d
def Plain (P:Program)(J:Goroutine->af->Prop)(F0:af)(f:FuncId)(args:Array Value)(v:Value):Prop:=
 ∀F,Knows F0 F->cK P J f args F (fun a F'=>a=v/\F'=F)
def dV (P:Program)(J:Goroutine->af->Prop)(ops:Array Oper)(F0:af)(K:Act->Prop):List Oper->Bool->Act->Prop
 |[],_,a=>K a
 |o::rest,_,a=>match cz ops o a with
  |some false=>dV P J ops F0 K rest true (aZ a o.dst undef)
  |some true=>match o.op with
   | .load t x=>match ev a x with
    | .pointer (some ad)=>match e4 P F0 t ad with
     |some v=>dV P J ops F0 K rest true (aZ a o.dst v)
     |none=>False
    |_=>False
   | .call {callee:=.value x,args, ..}=>match ev a x with
    | .func (.func fn) first captured=>aI P fn=true/\∃v,Plain P J F0 fn (first++args.map (ev a)++captured) v/\dV P J ops F0 K rest false (aZ a o.dst v)
    |_=>False
   |_=>match iE P o a with
    |some v=>dV P J ops F0 K rest true (aZ a o.dst v)
    |none=>False
  |none=>False
theorem DI {P:Program}{J:Goroutine->af->Prop}{ops:Array Oper}{F0:af}{K:Act->Prop}{go:Bool}{a:Act}:dV P J ops F0 K [] go a=K a:=rfl
theorem DJ {P:Program}{J:Goroutine->af->Prop}{ops:Array Oper}{F0:af}{K:Act->Prop}{o:Oper}{rest:List Oper}{a:Act}:dV P J ops F0 K (o::rest) true a=match cz ops o a with
  |some false=>dV P J ops F0 K rest true (aZ a o.dst undef)
  |some true=>match o.op with
   | .load t x=>match ev a x with
    | .pointer (some ad)=>match e4 P F0 t ad with
     |some v=>dV P J ops F0 K rest true (aZ a o.dst v)
     |none=>False
    |_=>False
   | .call {callee:=.value x,args, ..}=>match ev a x with
    | .func (.func fn) first captured=>aI P fn=true/\∃v,Plain P J F0 fn (first++args.map (ev a)++captured) v/\dV P J ops F0 K rest false (aZ a o.dst v)
    |_=>False
   |_=>match iE P o a with
    |some v=>dV P J ops F0 K rest true (aZ a o.dst v)
    |none=>False
  |none=>False:=(Eq.refl _).trans (Eq.refl _)
theorem bV {P:Program}{J:Goroutine->af->Prop}{ops:Array Oper}{F0:af}{K:Act->Prop}:∀{l:List Oper} {go:Bool} {a:Act},dV P J ops F0 K l true a->dV P J ops F0 K l go a
 |[],_,_,h=>h
 |_::_,_,_,h=>h
theorem qT {n m:Nat}(h:m<n):(cL n m).setIfInBounds m true=cL n (m+1):=by
 apply Array.ext
 ·simp[cL]
 ·intro i h1 h2
  simp[cL] at h1 h2
  rw[Array.getElem_setIfInBounds (by simp[cL];omega)]
  by_cases e:m=i
  ·subst e;simp[cL]
  ·simp only[if_neg e,cL,Array.getElem_map,Array.getElem_range]
   rw[decide_eq_decide]
   omega
theorem zj (n:Nat):cL n 0=Array.replicate n false:=by
 apply Array.ext
 ·simp[cL]
 ·intro i h1 h2;simp[cL]
section
variable {P : Program} {main : Bool} {J : Goroutine → af → Prop} {ops : Array Oper} {Q : Act → af → Prop} {F0 : af}
theorem qU {K:Act->Prop}(m:Nat)(hm:m<=ops.size)(r:Region.noSelect ops=true)(s:∀i,i<m->(Region.free .any ops (cL ops.size i) i&&(Region.ready .any ops (cL ops.size i)).contains i)=true)
  {F:af} (b:Knows F0 F) (u:∀a,K a->dH P J ops Q (Knows F0) (ops.size - m) (cL ops.size m) a F):
  ∀(l:List Oper) (k:Nat) (go:Bool) (a:Act),(ops.toList.take m).drop k=l->k<=m->dV P J ops F0 K l go a->dH P J ops Q (Knows F0) (ops.size - k) (cL ops.size k) a F
 |[],k,_,a,c,A,h=>by
  have:k=m:=by
   have:=congrArg List.length c
   simp at this
   omega
  subst this
  exact u a h
 |o::rest,k,_,a,c,A,h=>by
  have g:k<m:=by
   rcases Nat.lt_or_ge k m with x|x
   ·exact x
   ·rw[List.drop_eq_nil_of_le (by simp;omega)] at c;cases c
  have j:ops[k]?=some o:=by
   have:=congrArg List.head? c
   rw[List.head?_drop,List.getElem?_take_of_lt g] at this
   simpa using this
  have y:(ops.toList.take m).drop (k+1)=rest:=by
   have:=congrArg List.tail c
   simpa [List.tail_drop] using this
  have B:=s k g
  have e:ops.size - k=(ops.size - (k+1))+1:=by omega
  have z:=qT (n:=ops.size) (m:=k) (by omega)
  have p:(Region.noSelect ops&&Region.free .any ops (cL ops.size k) k&&(Region.ready .any ops (cL ops.size k)).contains k)=true:=by
   rw[r,Bool.true_and];exact B
  rw[e]
  unfold dV at h
  split at h
  ·rename_i hg
   exact zd k j p hg b (by rw[z];exact qU m hm r s b u rest (k+1) _ _ y g h)
  ·rename_i hg
   have next:∀go v,dV P J ops F0 K rest go (aZ a o.dst v)->dH P J ops Q (Knows F0) (ops.size - (k+1)) ((cL ops.size k).setIfInBounds k true) (aZ a o.dst v) F:=fun go v d=>by
    rw[z];exact qU m hm r s b u rest (k+1) _ _ y g d
   split at h
   ·rename_i t x w
    split at h
    case h_2=>exact h.elim
    rename_i ad C
    split at h
    case h_2=>exact h.elim
    rename_i v d
    refine mZ k v j p hg (fun F R q f=>?_) b (next _ v h)
    unfold cG
    simp only[w,C,q.e4 d]
    exact f
   ·rename_i x args argTypes w
    split at h
    case h_2=>exact h.elim
    rename_i fn first captured D
    obtain ⟨E,v,G,h⟩:=h
    refine mZ k v j p hg (fun F R q f=>?_) b (next _ v h)
    unfold cG
    simp only[w,D]
    exact ⟨E,(G F q).mono fun I F' H=>by obtain ⟨rfl,rfl⟩:=H;exact f⟩
   ·split at h
    case h_2=>exact h.elim
    rename_i v d
    exact mZ k v j p hg (fun F R q f=>qS d f) b (next _ v h)
  ·exact h.elim
def eC (P:Program)(J:Goroutine->af->Prop)(ops:Array Oper)(F0:af)(Q:Act->af->Prop):List Oper->Bool->Act->af->Prop
 |[],_,a,F=>Q a F
 |o::rest,_,a,F=>match cz ops o a with
  |some true=>cG P J o (fun v F'=>Knows F0 F'/\eC P J ops F0 Q rest (!Oper.calls o) (aZ a o.dst v) F') a F
  |_=>False
theorem DK {P:Program}{J:Goroutine->af->Prop}{ops:Array Oper}{F0:af}{Q:Act->af->Prop}{go:Bool}{a:Act}{F:af}:eC P J ops F0 Q [] go a F=Q a F:=rfl
theorem DL {P:Program}{J:Goroutine->af->Prop}{ops:Array Oper}{F0:af}{Q:Act->af->Prop}{o:Oper}{rest:List Oper}{a:Act}{F:af}:eC P J ops F0 Q (o::rest) true a F=match cz ops o a with
  |some true=>cG P J o (fun v F'=>Knows F0 F'/\eC P J ops F0 Q rest (!Oper.calls o) (aZ a o.dst v) F') a F
  |_=>False:=(Eq.refl _).trans (Eq.refl _)
theorem kM {P:Program}{J:Goroutine->af->Prop}{ops:Array Oper}{F0:af}{Q:Act->af->Prop}:∀{l:List Oper} {go:Bool} {a:Act} {F:af},eC P J ops F0 Q l true a F->eC P J ops F0 Q l go a F
 |[],_,_,_,h=>h
 |_::_,_,_,_,h=>h
theorem lS (m:Nat)(g:∀j,j<ops.size - m->Region.ready .any ops (cL ops.size (m+j))=[m+j])(i:Region.ready .any ops (cL ops.size ops.size)=[]):
  ∀(l:List Oper) (k:Nat) (go:Bool) (a:Act) (F:af),m<=k->k<=ops.size->ops.toList.drop k=l->eC P J ops F0 Q l go a F->dH P J ops Q (Knows F0) (ops.size - k) (cL ops.size k) a F
 |[],k,_,a,F,q,s,f,h=>by
  have:k=ops.size:=by
   have:=congrArg List.length f
   simp at this
   omega
  subst this
  exact yI i h _
 |o::rest,k,_,a,F,q,s,f,h=>by
  have u:k<ops.size:=by
   rcases Nat.lt_or_ge k ops.size with x|x
   ·exact x
   ·rw[List.drop_eq_nil_of_le (by simpa using x)] at f;cases f
  have w:ops[k]?=some o:=by
   have:=congrArg List.head? f
   simpa [List.head?_drop] using this
  have y:ops.toList.drop (k+1)=rest:=by
   have:=congrArg List.tail f
   simpa [List.tail_drop] using this
  have e:ops.size - k=(ops.size - (k+1))+1:=by omega
  have n:=g (k - m) (by omega)
  rw[show m+(k - m)=k by omega] at n
  rw[e]
  unfold eC at h
  split at h
  ·rename_i hg
   refine ze k w n hg ?_
   refine qV ?_ h
   rintro v F' ⟨h1,h2⟩
   refine ⟨h1,?_⟩
   rw[qT u]
   exact lS m g i rest (k+1) _ _ F' (by omega) (by omega) y h2
  ·exact h.elim
where
 qV {o:Oper} {a:Act} {F:af} {R p:Value->af->Prop} (d:∀v F,R v F->p v F) (h:cG P J o R a F):cG P J o p a F:=by
  obtain ⟨dst,op,type,pos,after,guard⟩:=o
  unfold cG at h ⊢
  cases op<;>simp only at h ⊢<;>first
   |exact h.elim
   |exact d _ _ h
   |exact fun b hb=>d _ _ (h b hb)
   |exact gH (fun v F h=>d v F h) _ _ h
   |(split at h<;>first
     |exact h.elim
     |exact d _ _ h
     |exact fun b hb=>d _ _ (h b hb)
     |(split at h<;>first|exact h.elim|exact d _ _ h|exact fun b hb=>d _ _ (h b hb)))
   |skip
  case slice t x lo hi z=>
   cases z with
   |some m=>exact h.elim
   |none=>
    refine ⟨h.1,?_⟩
    have h2:=h.2
    revert h2
    cases mW P t (ev a x) (lo.map (ev a)) (hi.map (ev a)) with
    |some v=>exact fun x=>d _ _ x
    |none=>exact fun x=>x
  case call c=>
   obtain ⟨callee,args,argTypes⟩:=c
   cases callee with
   |value x=>
    exact gj.mono h d
   |invoke r m=>exact h.elim
   |builtin b=>
    cases b<;>simp only at h ⊢<;>first
     |exact h.elim
     |(split at h<;>first|exact h.elim|exact fun ty=>gH (fun v F ⟨F0,hle,h⟩=>⟨F0,hle,d _ _ h⟩) _ _ (h ty))
     |exact gH (fun v F h=>d v F h) _ _ h
     |(split at h<;>first|exact h.elim|(split at h<;>first|exact h.elim|exact d _ _ h|exact gH (fun v F h=>d v F h) _ _ h))
theorem eM {Q:Ex->Act->af->Prop}(hJ:Closed P main J)(c:P.follows .mixedOrders=true)(m:Nat){id:Nat}{a:Act}{F:af}(F0:af)(d:Knows F0 F)(e:m0 ops m=true)
  (h:dV P J ops F0 (fun a'=>eC P J ops F0 (Q .normal) (ops.toList.drop m) true a' F) (ops.toList.take m) true a):Wp J (.region id ops true) Q a F:=by
 have b:=zi e
 simp only[oS,Bool.and_eq_true,decide_eq_true_eq,List.all_eq_true,List.mem_range] at b
 obtain ⟨⟨⟨⟨h1,h2⟩,h3⟩,f⟩,g⟩:=b
 refine tX hJ (Knows F0) c ?_
 rw[<-zj]
 have:=qU (P:=P) (J:=J) (Q:=Q .normal) m h2 h1 (fun i hi=>by have:=h3 i hi;simpa using this) d (fun a' j=>lS m f g _ m _ a' F (Nat.le_refl _) h2 rfl j) _ 0 true a (by simp) (Nat.zero_le _) h
 simpa using this
theorem bA (hJ:Closed P main J){F0:af}{f:FuncId}{args:Array Value}{v:Value}(h:∀F,Knows F0 F->aC P f args F.cr (fun a _=>a=v)):Plain P J F0 f args v:=
 fun F b=>oH (h F b) main J hJ
end
attribute [irreducible] dV eC
attribute [go_sem] iD DG iE DI DJ DK DL qA List.take_succ_cons List.take_zero List.drop_succ_cons List.drop_zero Array.zipIdx_toArray List.zipIdx_cons List.zipIdx_nil List.foldl_toArray List.foldl_toArray' decide_eq_true_eq Bool.and_false Bool.false_and Bool.and_self Bool.true_and Bool.and_true List.foldl_cons List.foldl_nil decide_false decide_true Bool.or_false Bool.false_or Bool.or_self Bool.or_true Bool.true_or gt_iff_lt Nat.reduceGT Nat.lt_irrefl Bool.false_eq_true Nat.zero_add Nat.add_zero Nat.not_lt_zero
section
variable {P : Program} {main : Bool} {J : Goroutine → af → Prop} {Q : Ex → Act → af → Prop} {a : Act} {F : af}
theorem aR (hJ:Closed P main J){f:FuncId}{args:Array Value}{F:af}{K:Value->af->Prop}(v:Value)(h:aC P f args F.cr (fun a _=>a=v))(hk:K v F):cK P J f args F K:=
 (oH h main J hJ).mono fun a F' b=>by obtain ⟨rfl,rfl⟩:=b;exact hk
theorem bM (hJ:Closed P main J){c:Operand}{x y:Code}(b:ev a c= .bool true)(h:Wp J x Q a F):Wp J (.cond c x y) Q a F:=tT hJ true b h
theorem bJ (hJ:Closed P main J){c:Operand}{x y:Code}(b:ev a c= .bool false)(h:Wp J y Q a F):Wp J (.cond c x y) Q a F:=tT hJ false b h
theorem DN (hJ:Closed P main J){c:Operand}{x y:Code}(b:Bool)(d:ev a c= .bool b)(h1:b=true->Wp J x Q a F)(h2:b=false->Wp J y Q a F):Wp J (.cond c x y) Q a F:=by
 refine tT hJ b d ?_
 cases b
 ·exact h2 rfl
 ·exact h1 rfl
theorem cu (hJ:Closed P main J){c:Code}{F':af}(hle:Le F F')(h:Wp J c Q a F):Wp J c Q a F':=h.le (hJ:=hJ) hle
theorem Le.sub {ro:Addr->Option Value}{l l':List (Nat×Obj)}(h:l.Sublist l'):Le ⟨ro,l⟩ ⟨ro,l'⟩:=by
 have hk:(keys l).Sublist (keys l'):=h.map _
 exact ⟨fun w hw=>⟨hw.ro,fun b o hb=>hw.own b o (h.subset hb),hk.nodup hw.nodup,fun a v c hm=>hw.apart a v c (hk.subset hm)⟩,fun b hb=>hk.subset hb,fun a d=>.inl d⟩
theorem uH (hJ:Closed P main J){c:Code}(I:Nat->Act->af->Prop)(n:Nat)(h0:I n a F)(hs:∀n a F,I n a F->Wp J c (qA (fun m a F=>∃F0,Le F0 F/\I m a F0) n Q) a F):Wp J (.loop c) Q a F:=
 yM hJ (fun m a F=>∃F0,Le F0 F/\I m a F0) n ⟨F,Le.refl F,h0⟩ fun n a F ⟨F0,hle,b⟩=>cu hJ hle (hs n a F0 b)
end
def jQ:List Nat->Nat->Bool
 |[],_=>false
 |w::ws,i=>i==w||jQ ws i
abbrev In (ws:List Nat)(i:Nat):Prop:=jQ ws i=true
structure dD (ws:List Nat)(a a0:Act):Prop where
 size:sz a=sz a0
 defers:a.defers=a0.defers
 e5:∀i,¬In ws i->slot a i=slot a0 i
theorem dD.refl (ws:List Nat)(a:Act):dD ws a a:=⟨rfl,rfl,fun _ _=>rfl⟩
theorem dD.trans {ws:List Nat}{a b c:Act}(h:dD ws a b)(k:dD ws b c):dD ws a c:=⟨h.size.trans k.size,h.defers.trans k.defers,fun i hi=>(h.e5 i hi).trans (k.e5 i hi)⟩
theorem dD.sub {ws c:List Nat}{a b:Act}(hs:∀i,In ws i->In c i)(h:dD ws a b):dD c a b:=⟨h.size,h.defers,fun i hi=>h.e5 i fun x=>hi (hs i x)⟩
theorem DO {ws:List Nat}{a:Act}:dD ws a a=True:=eq_true (dD.refl ws a)
theorem DQ {ws:List Nat}{a a0:Act}{d:Nat}{v:Value}(h:jQ ws d=true):dD ws (aZ a (some d) v) a0=dD ws a a0:=by
 apply propext
 constructor
 ·intro k
  refine ⟨by rw[<-k.size,yW],by rw[<-k.defers,yX],fun i hi=>?_⟩
  rw[<-k.e5 i hi,ug _ _ _ _ (fun e=>hi (by subst e;exact h))]
 ·intro k
  refine ⟨by rw[<-k.size,yW],by rw[<-k.defers,yX],fun i hi=>?_⟩
  rw[<-k.e5 i hi,ug _ _ _ _ (fun e=>hi (by subst e;exact h))]
def jg (ws a:List Nat):Bool:=ws.all fun w=>jQ a w
theorem zk:∀{ws:List Nat} {i:Nat},jQ ws i=true->i∈ws
 |[],_,h=>by cases h
 |w::ws,i,h=>by
  simp only[jQ,Bool.or_eq_true,beq_iff_eq] at h
  rcases h with h|h
  ·rw[h];exact List.mem_cons_self
  ·exact List.mem_cons_of_mem _ (zk h)
theorem dD.jg {ws c:List Nat}{a b:Act}(h:dD ws a b)(hs:Sep.jg ws c=true):dD c a b:=h.sub fun i hi=>by
 have:=zk hi
 exact List.all_eq_true.1 hs i this
attribute [go_sem] jQ DO DQ or_true true_or or_false false_or Nat.reduceBEq
section
variable {P : Program} {main : Bool} {J : Goroutine → af → Prop} {Q : Ex → Act → af → Prop} {a : Act} {F : af}
theorem cc (hJ:Closed P main J){c:Code}(ws:List Nat)(I:Nat->Act->af->Prop)(n:Nat)(h0:I n a F)
  (hs:∀n a' F',dD ws a' a->I n a' F'->Wp J c (qA (fun m a2 b=>dD ws a2 a'/\∃F0,Le F0 b/\I m a2 F0) n Q) a' F'):Wp J (.loop c) Q a F:=
 yM hJ (fun m a2 b=>dD ws a2 a/\∃F0,Le F0 b/\I m a2 F0) n ⟨.refl ws a,F,Le.refl F,h0⟩ fun n a' F' ⟨f,F0,hle,g⟩=>
  cu hJ hle ((hs n a' F0 f g).mono fun e a2 b d=>by
   cases e with
   |normal=>obtain ⟨m,hm,h1,h2⟩:=d;exact ⟨m,hm,h1.trans f,h2⟩
   |exit i=>exact d
   |ret=>exact d)
end
def Ext (ro aL:Addr->Option Value):Prop:=∀a v,ro a=some v->aL a=some v
theorem Ext.refl (ro:Addr->Option Value):Ext ro ro:=fun _ _ h=>h
theorem Ext.trans {r s t:Addr->Option Value}(h:Ext r s)(k:Ext s t):Ext r t:=fun a v x=>k a v (h a v x)
def bN (ro:Addr->Option Value)(b:Nat)(o:Obj):Addr->Option Value:=fun a=>match ro a with
 |some v=>some v
 |none=>if a.block=b/\a.spot=none then cellOf o a.off else none
theorem fR (ro:Addr->Option Value)(b:Nat)(o:Obj):Ext ro (bN ro b o):=fun a v h=>by simp[bN,h]
theorem iF {ro:Addr->Option Value}{b off:Nat}{o:Obj}(h:∀off sp,ro ⟨b,off,sp⟩=none):bN ro b o ⟨b,off,none⟩=cellOf o off:=by simp[bN,h]
theorem jR {ro:Addr->Option Value}{own e:List (Nat×Obj)}{b:Nat}{o:Obj}(g:lk own b=some o)(hs:e.Sublist own)(hb:au e b):Le ⟨bN ro b o,e⟩ ⟨ro,own⟩:=by
 have hk:(keys e).Sublist (keys own):=hs.map _
 have hm:=gE g
 have hn:b∉keys e:=by
  clear g hs hk hm
  induction e with
  |nil=>simp[keys]
  |cons x l ih=>
   simp only[keys,List.map_cons,List.mem_cons,not_or]
   exact ⟨hb.1,ih hb.2⟩
 refine ⟨fun w hw=>⟨fun a v h=>?_,fun c x d=>hw.own c x (hs.subset d),hk.nodup hw.nodup,fun a v h d=>?_⟩,fun c d=>hk.subset d,fun a i=>?_⟩
 ·replace h:bN ro b o a=some v:=h
  unfold bN at h
  split at h
  ·rename_i x f;cases h;exact hw.ro _ _ f
  ·split at h
   ·rename_i d
    have:=hw.own b o hm
    rw[<-d.1] at this
    cases o<;>simp only[cellOf,reduceCtorEq] at h
    simp[World.cell?,this,d.2,h]
   ·cases h
 ·replace h:bN ro b o a=some v:=h
  unfold bN at h
  split at h
  ·rename_i x f;exact hw.apart a x f (hk.subset d)
  ·split at h
   ·rename_i j;rw[j.1] at d;exact hn d
   ·cases h
 ·obtain ⟨v,h⟩:=Option.isSome_iff_exists.1 i
  replace h:bN ro b o a=some v:=h
  unfold bN at h
  split at h
  ·rename_i x f;exact .inl (by simp[f])
  ·split at h
   ·rename_i d;exact .inr (by rw[d.1];exact eK hm)
   ·cases h
def eu (P:Program)(f:FuncId)(args:Array Value)(ro:Addr->Option Value)(R:Value->(Addr->Option Value)->Prop):Prop:=
 aC P f args ⟨ro,[]⟩ (fun v G=>∃aL,Ext ro aL/\Le ⟨aL,[]⟩ G/\R v aL)
def lT (F G:af):Prop:=∀a,(G.ro a).isSome=true->a.block∉keys F.own
def uI (J:Goroutine->af->Prop)(F:af)(g:Goroutine)(G:af):Prop:=Fits F G->lT F G->J g (G.star F)
theorem zl {P:Program}{main:Bool}{J:Goroutine->af->Prop}(hJ:Closed P main J)(F:af):Closed P main (uI J F) where
 mono {g G E} hle h c hn:=by
  have l:=c.le hle
  have s:lT F G:=fun a d=>(hle.ro a d).elim (hn a) (c.own _)
  refine hJ.mono ⟨fun w hw=>l.both (hle.has w (c.right hw)) (c.left hw),fun b hb=>?_,fun a d=>?_⟩ (h l s)
  ·simp only[af.star,cm,List.mem_append] at hb ⊢
   exact hb.imp (hle.own b) id
  ·rcases jM d with x|x
   ·exact (gh (.inl x)).imp id (fun y=>by simp only[af.star,cm,List.mem_append];exact .inr y)
   ·rcases hle.ro a x with y|y
    ·exact (gh (.inr y)).imp id (fun z=>by simp only[af.star,cm,List.mem_append];exact .inr z)
    ·exact .inr (by simp only[af.star,cm,List.mem_append];exact .inl y)
 step {fr cs G} h c hn:=by
  refine hJ.step fun w hw=>?_
  have t:=c.right hw
  have f:=c.left hw
  obtain ⟨g',w',es,j,hgo,hu,n,u,A⟩:=h w t
  have p:Has F w':=by
   refine ⟨fun a v k=>?_,fun b o hb=>?_,f.nodup,f.apart⟩
   ·have h0:=f.ro a v k
    have B:=f.gG (a:=a) (by simp[k])
    unfold World.cell? at h0 ⊢
    rw[hu.frame _ B (c.ro a (by simp[k]))]
    exact h0
   ·rw[hu.frame b (f.lt (eK hb)) (fun hm=>c.own b hm (eK hb))]
    exact f.own b o hb
  have q:Fits F j:=by
   refine ⟨⟨w',n,p⟩,fun b hb hm=>?_,fun a d hm=>?_⟩
   ·rcases hu.own b hb with x|x
    ·exact c.own b x hm
    ·have:=f.lt hm;omega
   ·rcases hu.own _ hm with x|x
    ·exact c.ro a d x
    ·have:=f.gG d;omega
  have C:lT F j:=fun a d hm=>by
   rcases hu.ro a d with x|x|x
   ·exact hn a x hm
   ·exact c.own _ x hm
   ·have:=f.lt hm;omega
  refine ⟨g',w',es,j.star F,hgo,⟨hu.os,hu.tape,hu.output,hu.size,fun b hb hn=>hu.frame b hb fun hm=>hn ?_,fun a d=>?_,fun b hb=>?_⟩,q.both n p,fun e he=>?_,A q C⟩
  ·simp only[af.star,cm,List.mem_append];exact .inl hm
  ·rcases jM d with x|x
   ·exact (gh (.inl x)).imp id (fun y=>.inl (by simp only[af.star,cm,List.mem_append];exact .inr y))
   ·rcases hu.ro a x with y|y|y
    ·exact (gh (.inr y)).imp id (fun z=>.inl (by simp only[af.star,cm,List.mem_append];exact .inr z))
    ·exact .inr (.inl (by simp only[af.star,cm,List.mem_append];exact .inl y))
    ·exact .inr (.inr y)
  ·simp only[af.star,cm,List.mem_append] at hb ⊢
   rcases hb with hb|hb
   ·exact (hu.own b hb).imp .inl id
   ·exact .inl (.inr hb)
  ·have hk:∀b,gF G w.heap.size w'.heap.size b->gF (G.star F) w.heap.size w'.heap.size b:=fun b hb=>hb.imp (fun x=>by simp only[af.star,cm,List.mem_append];exact .inl x) id
   rcases u e he with ⟨a,wr,rfl,i|⟨D,i⟩⟩|⟨r,wr,rfl,i⟩|⟨m,rfl,hm⟩
   ·exact .inl ⟨a,wr,rfl,.inl (hk _ i)⟩
   ·rcases gh (F:=F) (.inr i) with y|y
    ·exact .inl ⟨a,wr,rfl,.inr ⟨D,y⟩⟩
    ·exact .inl ⟨a,wr,rfl,.inl (.inl (by simp only[af.star,cm,List.mem_append];exact .inr y))⟩
   ·exact .inr (.inl ⟨r,wr,rfl,hk _ i⟩)
   ·exact .inr (.inr ⟨m,rfl,hm⟩)
section
variable {P : Program} {main : Bool} {J : Goroutine → af → Prop}
theorem uJ (hJ:Closed P main J){f:FuncId}{args:Array Value}{ro:Addr->Option Value}{own:List (Nat×Obj)}{K:Value->af->Prop}(R:Value->(Addr->Option Value)->Prop)(h:eu P f args ro R)
  (hk:∀v aL,Ext ro aL->(∀b∈keys own,∀off sp,aL ⟨b,off,sp⟩=none)->R v aL->K v ⟨aL,own⟩):cK P J f args ⟨ro,own⟩ K:=by
 intro c cs r
 by_cases hw:∃w,Has ⟨ro,own⟩ w
 ·obtain ⟨i,j⟩:=hw
  let F:af:=⟨fun _=>none,own⟩
  have m:∀w,Has ⟨ro,own⟩ w->Has F w:=fun w hw=>⟨fun a v h=>(by cases h),hw.own,hw.nodup,fun a v h=>(by cases h)⟩
  have n:∀w,Has ⟨ro,own⟩ w->Has ⟨ro,[]⟩ w:=fun w hw=>⟨hw.ro,fun b o hb=>(by cases hb),List.nodup_nil,fun a v e hm=>(by cases hm)⟩
  have p:Fits F ⟨ro,[]⟩:=⟨⟨i,n i j,m i j⟩,fun b hb=>(by cases hb),fun a d hm=>(by cases hm)⟩
  have s:lT F ⟨ro,[]⟩:=fun a d hm=>by
   obtain ⟨v,t⟩:=Option.isSome_iff_exists.1 d
   exact j.apart a v t hm
  have u:uI J F (G (Frame.enter P f args .normal) (c::cs)) ⟨ro,[]⟩:=by
   refine h main _ (zl hJ F) c cs fun v G k l hn=>?_
   obtain ⟨aL,y,hle,k⟩:=k
   have q:∀a,(aL a).isSome=true->a.block∉keys own:=fun a d=>(hle.ro a d).elim (hn a) (l.own _)
   refine hJ.mono (F:=⟨aL,own⟩) ⟨fun w hw=>?_,fun b hb=>?_,fun a d=>?_⟩ (r v ⟨aL,own⟩ (hk v aL y (fun b hb off sp=>?_) k))
   ·have A:=hle.has w (l.right hw)
    have g:=l.left hw
    exact ⟨A.ro,g.own,g.nodup,fun a v e=>q a (by simp only at e;simp[e])⟩
   ·simp only[af.star,cm,List.mem_append];exact .inr hb
   ·rcases hle.ro a d with x|x
    ·exact (gh (.inr x)).imp id (fun z=>by simp only[af.star,cm,List.mem_append];exact .inr z)
    ·exact .inr (by simp only[af.star,cm,List.mem_append];exact .inl x)
   ·cases e:aL ⟨b,off,sp⟩ with
    |none=>rfl
    |some v=>exact absurd hb (q ⟨b,off,sp⟩ (by simp[e]))
  refine hJ.mono ⟨fun w hw=>p.both (n w hw) (m w hw),fun b hb=>?_,fun a d=>?_⟩ (u p s)
  ·simpa [af.star,F] using hb
  ·rcases jM d with x|x
   ·cases x
   ·exact .inl x
 ·exact hJ.step fun w g=>absurd ⟨w,g⟩ hw
end
attribute [go_sem] beq_self_eq_true beq_iff_eq beq_true beq_false Int.toNat_natCast Int.natCast_nonneg Int.ofNat_lt Nat.zero_mul Nat.mul_one List.length_map Bool.not_eq_true Bool.not_not decide_not
inductive Fl (σ ρ:Type) where
 |nx (s:σ)
 |bk (s:σ)
 |br (k:Nat) (s:σ)
 |rt (r:ρ)
def ah {α β:Type}(x:Option α)(f:α->Option β):Option β:=match x with
 |some a=>f a
 |none=>none
theorem fG {α β:Type}{x:Option α}{f:α->Option β}{r:β}(h:ah x f=some r):∃a,x=some a/\f a=some r:=by
 cases x with
 |none=>cases h
 |some a=>exact ⟨a,rfl,h⟩
theorem iG {α:Type}{b:Bool}{x y:Option α}{r:α}(h:cond b x y=some r):(b=true/\x=some r)\/(b=false/\y=some r):=by
 cases b
 ·exact .inr ⟨rfl,h⟩
 ·exact .inl ⟨rfl,h⟩
def aO {σ ρ τ:Type}(o:Fl σ ρ)(f:σ->Option τ)(g:Nat->σ->Option τ)(h:ρ->Option τ):Option τ:=match o with
 | .nx s=>f s
 | .bk s=>f s
 | .br k s=>g k s
 | .rt r=>h r
def bD {σ ρ:Type}(f:σ->Option (Fl σ ρ)):Nat->σ->Option (Fl σ ρ)
 |0,_=>none
 |n+1,s=>ah (f s) fun o=>match o with
  | .nx s'=>bD f n s'
  | .bk s'=>some (.nx s')
  | .br k s'=>some (.br k s')
  | .rt r=>some (.rt r)
def bE {α σ ρ:Type}(f:Nat->α->σ->Option (Fl σ ρ)):Nat->List α->σ->Option (Fl σ ρ)
 |_,[],s=>some (.nx s)
 |i,x::l,s=>ah (f i x s) fun o=>match o with
  | .nx s'=>bE f (i+1) l s'
  | .bk s'=>some (.nx s')
  | .br k s'=>some (.br k s')
  | .rt r=>some (.rt r)
def fu:Nat:=1000000000000000000
def bK {α:Type}(l:List α)(i:Int):Option α:=if 0<=i then l[i.toNat]? else none
theorem cM {α:Type}{l:List α}{i:Int}{x:α}(h:bK l i=some x):0<=i/\i<l.length/\l[i.toNat]?=some x:=by
 unfold bK at h
 split at h
 ·rename_i h0
  obtain ⟨hi,_⟩:=List.getElem?_eq_some_iff.1 h
  exact ⟨h0,by omega,h⟩
 ·cases h
def cZ {α:Type}(l xs:List α):Option (List α):=if l.length+xs.length<=1000000 then some (l++xs) else none
theorem c5 {α:Type}{l xs r:List α}(h:cZ l xs=some r):l.length+xs.length<=1000000/\r=l++xs:=by
 unfold cZ at h
 split at h
 ·rename_i h0;cases h;exact ⟨h0,rfl⟩
 ·cases h
def gI {α:Type}(l:List α)(lo hi:Int):Option (List α):=if 0<=lo/\lo<=hi/\hi<=l.length then some ((l.take hi.toNat).drop lo.toNat) else none
theorem oV {α:Type}{l r:List α}{lo hi:Int}(h:gI l lo hi=some r):0<=lo/\lo<=hi/\hi<=l.length/\r=(l.take hi.toNat).drop lo.toNat:=by
 unfold gI at h
 split at h
 ·rename_i h0;cases h;exact ⟨h0.1,h0.2.1,h0.2.2,rfl⟩
 ·cases h
def gm (a b:Int):Option Int:=if b=0 then none else some (IntKind.i64.wrap (a.tdiv b))
theorem m3 {a b r:Int}(h:gm a b=some r):¬b=0/\IntKind.i64.wrap (a.tdiv b)=r:=by
 unfold gm at h
 split at h
 ·cases h
 ·rename_i h0;cases h;exact ⟨h0,rfl⟩
def eU (a b:Int):Option Int:=if b=0 then none else some (a.tmod b)
theorem jS {a b r:Int}(h:eU a b=some r):¬b=0/\a.tmod b=r:=by
 unfold eU at h
 split at h
 ·cases h
 ·rename_i h0;cases h;exact ⟨h0,rfl⟩
def uK (a b:Int):Option Int:=if b<0 then none else some (IntKind.i64.wrap (a*2 ^ min b.toNat 64))
theorem DR {a b r:Int}(h:uK a b=some r):¬b<0/\IntKind.i64.wrap (a*2 ^ min b.toNat 64)=r:=by
 unfold uK at h
 split at h
 ·cases h
 ·rename_i h0;cases h;exact ⟨h0,rfl⟩
def uL (a b:Int):Option Int:=if b<0 then none else some (a.fdiv (2 ^ min b.toNat 64))
theorem DS {a b r:Int}(h:uL a b=some r):¬b<0/\a.fdiv (2 ^ min b.toNat 64)=r:=by
 unfold uL at h
 split at h
 ·cases h
 ·rename_i h0;cases h;exact ⟨h0,rfl⟩
def zm (a b:Int):Int:=IntKind.i64.wrap (BitVec.ofInt 64 a&&& BitVec.ofInt 64 b).toNat
theorem DT (a b:Int):IntKind.i64.wrap (BitVec.ofInt IntKind.i64.bits a&&& BitVec.ofInt IntKind.i64.bits b).toNat=zm a b:=rfl
attribute [go_sem ↓] DT
def DU (a b:Int):Int:=IntKind.u8.wrap (BitVec.ofInt 8 a&&& BitVec.ofInt 8 b).toNat
theorem DV (a b:Int):IntKind.u8.wrap (BitVec.ofInt IntKind.u8.bits a&&& BitVec.ofInt IntKind.u8.bits b).toNat=DU a b:=rfl
attribute [go_sem ↓] DV
theorem cq {n:Nat}(h:n<1000000000000000):IntKind.i64.wrap ((n:Int)+1)=((n+1:Nat):Int):=by
 simp only[IntKind.wrap,IntKind.bits,IntKind.signed]
 simp
 omega
theorem c7 {α:Type}{l:List α}{i:Nat}{x:α}(h:l[i]?=some x):l.drop i=x::l.drop (i+1):=by
 obtain ⟨hi,rfl⟩:=List.getElem?_eq_some_iff.1 h
 exact List.drop_eq_getElem_cons hi
theorem cast_zero:((0:Nat):Int)=0:=rfl
attribute [go_sem] cast_zero
theorem DW (l:List Value)(i j:Nat):(l.toArray).extract i j=((l.drop i).take (j - i)).toArray:=by
 apply Array.ext'
 simp[List.extract_eq_drop_take]
attribute [go_sem] DW
structure b9 (T:Type) where
 n:Nat
 rel:(Addr->Option Value)->T->List Value->Prop
 mono:∀{ro aL:Addr->Option Value} {x:T} {cs:List Value},Ext ro aL->rel ro x cs->rel aL x cs
 len:∀{ro:Addr->Option Value} {x:T} {cs:List Value},rel ro x cs->cs.length=n
 one:∀{ro:Addr->Option Value} {x:T} {cs:List Value},rel ro x cs->∀v∈cs,bx v=true
def gY {T:Type}(n:Nat)(c:T->List Value)(h:∀x,(c x).length=n)(h1:∀x,∀v∈c x,bx v=true):b9 T:=
 ⟨n,fun _ x cs=>cs=c x,fun _ h=>h,fun e=>by rw[e];exact h _,fun e=>by rw[e];exact h1 _⟩
def rI:b9 Int:=gY 1 (fun n=>[.int .i64 n]) (fun _=>rfl) (fun _ v a=>by simp at a;subst a;rfl)
def rB:b9 Bool:=gY 1 (fun n=>[.bool n]) (fun _=>rfl) (fun _ v a=>by simp at a;subst a;rfl)
def aA {T:Type}(r:b9 T)(ro:Addr->Option Value)(s:Value)(l:List T):Prop:=
 ∃ad cap,s= .slice ad l.length cap/\l.length<=cap/\l.length<=1000000000000000/\∀i x,l[i]?=some x->∃p cs,ad=some p/\r.rel ro x cs/\∀j v,cs[j]?=some v->ro ((p.add (i*r.n)).add j)=some v
theorem aA.mono {T:Type}{r:b9 T}{ro aL:Addr->Option Value}{s:Value}{l:List T}(h:aA r ro s l)(a:Ext ro aL):aA r aL s l:=by
 obtain ⟨ad,cap,h1,h2,b,h3⟩:=h
 refine ⟨ad,cap,h1,h2,b,fun i x hi=>?_⟩
 obtain ⟨p,cs,c,d,hm⟩:=h3 i x hi
 exact ⟨p,cs,c,r.mono a d,fun j v e=>a _ _ (hm j v e)⟩
theorem aA.nil {T:Type}(r:b9 T)(ro:Addr->Option Value):aA r ro (.slice none 0 0) []:=⟨none,0,rfl,Nat.le_refl _,by simp,fun i x h=>by simp at h⟩
def rL {T:Type}(r:b9 T):b9 (List T):=
 ⟨1,fun ro l cs=>∃s,cs=[s]/\aA r ro s l,fun b ⟨s,h1,h2⟩=>⟨s,h1,h2.mono b⟩,fun ⟨s,h1,_⟩=>by rw[h1];rfl,fun ⟨s,h1,ad,cap,h2,_⟩ v a=>by rw[h1] at a;simp at a;subst a;rw[h2];rfl⟩
theorem aA.part {T:Type}{r:b9 T}{ro:Addr->Option Value}{ad:Option Addr}{cap:Nat}{l:List T}(h:aA r ro (.slice ad l.length cap) l)(lo hi:Nat)(h1:lo<=hi)(h2:hi<=l.length):
  aA r ro (.slice (if cap=lo then ad else ad.map (·.add (lo*r.n))) (hi - lo) (cap - lo)) ((l.take hi).drop lo):=by
 obtain ⟨k,m,e,h3,o,b⟩:=h
 cases e
 have hlen:((l.take hi).drop lo).length=hi - lo:=by simp;omega
 refine ⟨_,cap - lo,by rw[hlen],by rw[hlen];omega,by rw[hlen];omega,fun i x a=>?_⟩
 rw[List.getElem?_drop,List.getElem?_take] at a
 split at a
 case isFalse=>cases a
 obtain ⟨p,cs,c,d,hm⟩:=b _ x a
 have q:lo+i<l.length:=(List.getElem?_eq_some_iff.1 a).1
 refine ⟨p.add (lo*r.n),cs,?_,d,fun j v f=>?_⟩
 ·have g:¬cap=lo:=by omega
  rw[if_neg g,c];rfl
 ·have:=hm j v f
  rw[kK] at this
  rw[kK,kK]
  rw[show lo*r.n+(i*r.n+j)=(lo+i)*r.n+j by rw[Nat.add_mul];omega]
  exact this
def Apart (ks:List Nat)(aS:List (Nat×Obj)):Prop:=∀k∈keys aS,k∉ks
theorem Apart.nil (ks:List Nat):Apart ks []:=fun k h=>(by cases h)
theorem kN:∀{l:List (Nat×Obj)} {b:Nat},au l b->b∉keys l
 |[],_,_=>by simp[keys]
 |(c,o)::l,b,h=>by simp only[keys,List.map_cons,List.mem_cons,not_or];exact ⟨h.1,kN h.2⟩
theorem lU:∀{l:List (Nat×Obj)} {b:Nat},b∉keys l->au l b
 |[],_,_=>trivial
 |(c,o)::l,b,h=>by simp only[keys,List.map_cons,List.mem_cons,not_or] at h;exact ⟨h.1,lU h.2⟩
theorem Apart.push {ks:List Nat}{aS:List (Nat×Obj)}{b:Nat}(h:Apart ks aS)(hb:au aS b):Apart (b::ks) aS:=fun k hk=>by
 simp only[List.mem_cons,not_or]
 exact ⟨fun e=>kN hb (e▸hk),h k hk⟩
theorem Apart.drop {ks:List Nat}{aS:List (Nat×Obj)}{b:Nat}(h:Apart (b::ks) aS):Apart ks aS:=fun k hk=>(by have:=h k hk;simp only[List.mem_cons,not_or] at this;exact this.2)
def aV {T:Type}(r:b9 T)(ro:Addr->Option Value)(e:TypeId)(v:Value)(l:List T)(aS:List (Nat×Obj)):Prop:=
 ∃ls:List (List Value),Gr ro e r.n v ls aS/\ls.length=l.length/\l.length<=1000000/\∀(i:Nat) (x:T),l[i]?=some x->∃cs:List Value,ls[i]?=some cs/\r.rel ro x cs
theorem aV.nil {T:Type}(r:b9 T)(ro:Addr->Option Value)(e:TypeId):aV r ro e (.slice none 0 0) [] []:=⟨[],.inl ⟨rfl,rfl,rfl⟩,rfl,by simp,fun i x h=>by simp at h⟩
theorem aV.len {T:Type}{r:b9 T}{ro:Addr->Option Value}{e:TypeId}{v:Value}{l:List T}{aS:List (Nat×Obj)}(h:aV r ro e v l aS):∃ad cap,v= .slice ad l.length cap/\l.length<=cap:=by
 obtain ⟨ls,hg,a,-⟩:=h
 rcases hg with ⟨rfl,rfl,rfl⟩|⟨b,arr,cap,rfl,rfl,hs,hle,-⟩
 ·exact ⟨none,0,by rw[<-a];rfl,by rw[<-a];exact Nat.le_refl _⟩
 ·exact ⟨_,cap,by rw[a],by omega⟩
def ay (ro:Addr->Option Value)(own:List (Nat×Obj)):Prop:=∀b∈keys own,∀off sp,ro ⟨b,off,sp⟩=none
theorem aV.mono {T:Type}{r:b9 T}{ro aL:Addr->Option Value}{e:TypeId}{v:Value}{l:List T}{aS:List (Nat×Obj)}(h:aV r ro e v l aS)(a:Ext ro aL)(hn:ay aL aS):aV r aL e v l aS:=by
 obtain ⟨ls,hg,c,hm,d⟩:=h
 refine ⟨ls,?_,c,hm,fun i x hi=>?_⟩
 ·rcases hg with h|⟨b,arr,cap,h1,h2,h3,f,g,j,k⟩
  ·exact .inl h
  ·exact .inr ⟨b,arr,cap,h1,h2,h3,f,g,j,hn b (by rw[h2];simp[keys])⟩
 ·obtain ⟨cs,h1,h2⟩:=d i x hi
  exact ⟨cs,h1,r.mono a h2⟩
theorem Apart.fresh {pre aS:List (Nat×Obj)}{ks:List Nat}(h:Apart ks aS)(hk:keys pre=ks):∀k∈keys aS,au pre k:=fun k a=>lU (by rw[hk];exact h k a)
theorem oW {n:Nat}:∀(ls:List (List Value)) (i:Nat) (cs:List Value),(∀x∈ls,x.length=n)->ls[i]?=some cs->∀j v,cs[j]?=some v->ls.flatten[i*n+j]?=some v
 |[],i,cs,_,h,_,_,_=>by simp at h
 |y::ls,0,cs,hn,h,j,v,a=>by
  simp at h;subst h
  have:j<y.length:=(List.getElem?_eq_some_iff.1 a).1
  simp only[Nat.zero_mul,Nat.zero_add,List.flatten_cons]
  rw[List.getElem?_append_left this]
  exact a
 |y::ls,i+1,cs,hn,h,j,v,a=>by
  simp at h
  have ih:=oW ls i cs (fun x c=>hn x (by simp[c])) h j v a
  have b:=hn y (by simp)
  simp only[List.flatten_cons]
  rw[List.getElem?_append_right (by rw[b,Nat.add_mul];omega)]
  rw[show (i+1)*n+j - y.length=i*n+j by rw[b,Nat.add_mul];omega]
  exact ih
theorem aV.zn {T:Type}{r:b9 T}{ro:Addr->Option Value}{e:TypeId}{v:Value}{l:List T}{aS:List (Nat×Obj)}{ks:List Nat}(h:aV r ro e v l aS)(pre:List (Nat×Obj))(k:Apart ks aS)(m:keys pre=ks)(hn:ay ro pre):
  ∃aL,Ext ro aL/\ay aL pre/\aA r aL v l/\Le ⟨aL,pre⟩ ⟨ro,pre++aS⟩:=by
 obtain ⟨ls,hg,d,hm,o⟩:=h
 rcases hg with ⟨rfl,rfl,rfl⟩|⟨b,arr,cap,rfl,rfl,hs,hle,ht,f,p⟩
 ·have:l=[]:=List.eq_nil_of_length_eq_zero (by simpa using d.symm)
  subst this
  exact ⟨ro,Ext.refl ro,hn,aA.nil r ro,by rw[List.append_nil];exact Le.refl _⟩
 ·have hb:b∉keys pre:=by rw[m];exact k b (by simp[keys])
  refine ⟨bN ro b (.cells arr e),fR _ _ _,fun c g off sp=>?_,⟨some ⟨b,0,none⟩,cap,by rw[d],by omega,by omega,fun i x hi=>?_⟩,jR ?_ (List.sublist_append_left _ _) (lU hb)⟩
  ·have q:¬c=b:=fun e=>hb (e▸g)
   simp[bN,hn c g,q]
  ·obtain ⟨cs,h1,h2⟩:=o i x hi
   refine ⟨_,cs,rfl,r.mono (fR _ _ _) h2,fun j v s=>?_⟩
   have a:=oW ls i cs f h1 j v s
   rw[kK,kL,Nat.zero_add,iF p]
   have t:i*r.n+j<ls.length*r.n:=by
    have:=(List.getElem?_eq_some_iff.1 a).1
    rw[gX f] at this
    exact this
   rw[<-ht,List.getElem?_take_of_lt t] at a
   simpa [cellOf] using a
  ·have:∀(pre:List (Nat×Obj)),b∉keys pre->lk (pre++[(b,Obj.cells arr e)]) b=some (.cells arr e):=fun pre h=>uA (lU h)
   exact this pre hb
theorem aV.elem {T:Type}{r:b9 T}{ro:Addr->Option Value}{e:TypeId}{v:Value}{l:List T}{aS:List (Nat×Obj)}(h:aV r ro e v l aS){i:Nat}{x:T}(hi:l[i]?=some x):
  ∃b arr cap cs,v= .slice (some ⟨b,0,none⟩) l.length cap/\aS=[(b,.cells arr e)]/\(∀off sp,ro ⟨b,off,sp⟩=none)/\r.rel ro x cs/\∀j v,cs[j]?=some v->arr[i*r.n+j]?=some v:=by
 obtain ⟨ls,hg,d,hm,f⟩:=h
 obtain ⟨cs,h1,h2⟩:=f i x hi
 rcases hg with ⟨rfl,rfl,rfl⟩|⟨b,arr,cap,rfl,rfl,hs,hle,ht,c,g⟩
 ·simp at h1
 ·refine ⟨b,arr,cap,cs,by rw[d],rfl,g,h2,fun j v k=>?_⟩
  have a:=oW ls i cs c h1 j v k
  have m:i*r.n+j<ls.length*r.n:=by
   have:=(List.getElem?_eq_some_iff.1 a).1
   rw[gX c] at this
   exact this
  rw[<-ht,List.getElem?_take_of_lt m] at a
  simpa using a
theorem aJ {ro:Addr->Option Value}{own:List (Nat×Obj)}:Ext ro (af.cr ⟨ro,own⟩).ro:=fun a v h=>by simp[af.cr,af.get,h]
theorem bX {ro:Addr->Option Value}{own:List (Nat×Obj)}{F:af}(h:Knows ⟨ro,own⟩ F):Ext ro F.cr.ro:=fun a v b=>by
 have:F.ro a=some v:=h.1 a v b
 simp[af.cr,af.get,this]
theorem aA.oX {T:Type}{r:b9 T}{ro:Addr->Option Value}{ad:Option Addr}{cap:Nat}{l x:List T}(h:aA r ro (.slice ad l.length cap) l)(lo hi:Nat)(h1:lo<=hi)(h2:hi<=l.length)(b:x=(l.take hi).drop lo):
  ∃a,(if cap=lo then ad else ad.map (·.add (lo*r.n)))=a/\hi - lo=x.length/\aA r ro (.slice a x.length (cap - lo)) x:=by
 subst b
 have hlen:((l.take hi).drop lo).length=hi - lo:=by simp;omega
 refine ⟨_,rfl,hlen.symm,?_⟩
 rw[hlen]
 exact h.part lo hi h1 h2
theorem aA.one {T:Type}{r:b9 T}{ro:Addr->Option Value}{own:List (Nat×Obj)}{b:Nat}{x:T}{cs:Array Value}{e:TypeId}(a:∀off sp,ro ⟨b,off,sp⟩=none)(d:lk own b=some (.cells cs e))(h:r.rel ro x cs.toList):
  aA r (bN ro b (.cells cs e)) (.slice (some ⟨b,0,none⟩) 1 1) [x]:=by
 refine ⟨some ⟨b,0,none⟩,1,rfl,Nat.le_refl _,by simp,fun i y hi=>?_⟩
 have:i=0/\y=x:=by
  cases i with
  |zero=>simp at hi;exact ⟨rfl,hi.symm⟩
  |succ i=>simp at hi
 obtain ⟨rfl,rfl⟩:=this
 refine ⟨_,_,rfl,r.mono (fR _ _ _) h,fun j v c=>?_⟩
 rw[Nat.zero_mul,add_zero',kL,Nat.zero_add,iF a]
 simpa [cellOf] using c
theorem aA.flat {T:Type}{r:b9 T}{ro:Addr->Option Value}{b:Nat}{cs:Array Value}{e:TypeId}(c:T->List Value)(l:List T)(a:∀x,r.rel ro x (c x))(d:∀off sp,ro ⟨b,off,sp⟩=none)(f:cs.toList=(l.map c).flatten)(hlen:l.length<=1000000000000000):
  aA r (bN ro b (.cells cs e)) (.slice (some ⟨b,0,none⟩) l.length l.length) l:=by
 refine ⟨some ⟨b,0,none⟩,l.length,rfl,Nat.le_refl _,hlen,fun i x hi=>⟨_,c x,rfl,r.mono (fR _ _ _) (a x),fun j v g=>?_⟩⟩
 have h1:(l.map c)[i]?=some (c x):=by rw[List.getElem?_map,hi];rfl
 have hn:∀y∈l.map c,y.length=r.n:=fun y h=>by
  obtain ⟨z,_,rfl⟩:=List.mem_map.1 h
  exact r.len (a z)
 have:=oW (l.map c) i (c x) hn h1 j v g
 rw[kL,kL,Nat.zero_add,iF d]
 rw[<-f] at this
 simpa [cellOf] using this
theorem jT {ro:Addr->Option Value}{own:List (Nat×Obj)}{b:Nat}{o:Obj}(e:lk own b=some o):Ext (bN ro b o) (af.cr ⟨ro,own⟩).ro:=fun a v h=>by
 unfold bN at h
 simp only[af.cr,af.get]
 split at h
 ·rename_i x c;rw[c];exact h
 ·rename_i c
  split at h
  ·rename_i d
   rw[c]
   simp only
   rw[if_pos d.2,d.1,e]
   exact h
  ·cases h
section
variable {P : Program} {main : Bool} {J : Goroutine → af → Prop}
theorem fS (hJ:Closed P main J){f:FuncId}{args:Array Value}{F F':af}{K:Value->af->Prop}(hle:Le F F')(h:cK P J f args F K):cK P J f args F' K:=fun c cs k=>hJ.mono hle (h c cs k)
end
theorem aV.bd {T:Type}{r:b9 T}{ro:Addr->Option Value}{e:TypeId}{v:Value}{l:List T}{aS:List (Nat×Obj)}(h:aV r ro e v l aS):l.length<=1000000:=by
 obtain ⟨ls,_,_,hm,_⟩:=h
 exact hm
theorem aC.zn {P:Program}{f:FuncId}{args:Array Value}{ro:Addr->Option Value}{R:Value->Prop}(h:aC P f args ⟨ro,[]⟩ (fun v _=>R v)):aC P f args ⟨ro,[]⟩ (fun v G=>R v/\G=⟨ro,[]⟩):=by
 intro main J hJ c cs b
 exact oH (F:=⟨ro,[]⟩) (R:=R) (by
  have e:af.cr ⟨ro,[]⟩=⟨ro,[]⟩:=by
   simp only[af.cr,af.mk.injEq,and_true]
   funext a
   simp only[af.get]
   cases ro a with
   |none=>simp[lk]
   |some v=>rfl
  rw[e];exact h) main J hJ c cs b
end Go.Sep
end
section
namespace Go.Sep
open Go Go.Conc Go.ConcM
open Go.ConcN (sumTo upd sumTo_upd upd_ne upd_same)
def dm (P:Program)(Φ:Goroutine->af->Prop)(g:Goroutine)(F:af):Prop:=
 ∀(bt:Loc->Prop) (gs:Array Goroutine) (w:World) (sl:Option (Nat×Nat)) (t:Trace) (q:Nat->Nat),jd P bt g F gs w t q->
  ∃(N:Nat) (bT:Array Goroutine) (w':World) (c:Option (Nat×Nat)) (a:Trace) (d:Nat->Nat) (g':Goroutine) (F':af) (b:Loc->Prop),
   runNT P N (crowd gs w sl) t=(.next (crowd bT w' c),a)/\jd P b g' F' bT w' a d/\eZ F F' w w'/\(∀l,b l->bt l\/¬l.low w.heap.size)/\Φ g' F'
theorem dm.done {P:Program}{Φ:Goroutine->af->Prop}{g:Goroutine}{F:af}(h:Φ g F):dm P Φ g F:=
 fun bt gs w sl t q a=>⟨0,gs,w,sl,t,q,g,F,bt,rfl,a,.refl _ _,fun _ h=>.inl h,h⟩
theorem oY (P:Program)(Φ:Goroutine->af->Prop):Closed P true (dm P Φ) where
 mono hle h bt gs w sl t q b:=by
  obtain ⟨N,bT,w',u,v,z,g',F',A,g,B,hu,C,D⟩:=h bt gs w sl t q ⟨b.g0,b.lv,b.fq,hle.has w b.has,fun l hs E=>b.apart l hs (hle.gf E),b.low⟩
  exact ⟨N,bT,w',u,v,z,g',F',A,g,B,hu.le hle,C,D⟩
 step {fr cs F} h bt gs w sl t q b:=by
  obtain ⟨N,k,d,d',a0,m,t1,H,g,a2,h0,o,I,J⟩:=qC (P:=P) (a:=G fr cs) rfl _ gs w sl t q (Nat.le_refl _) b.g0 b.lv b.fq
  obtain ⟨g',w',es,F',hgo,hu,K,L,hJ⟩:=h (w.at d') (b.has.at d')
  have c:dJ F F' w w':=⟨hu.os,hu.tape,hu.output,hu.size,hu.frame,hu.ro,hu.own⟩
  have M:=runT_crowd_go (P:=P) (sl:=m) (i:=0) h0 (show stepG P (0==0) (G fr cs) (w.at d')=_ from hgo)
  have O:0<k.size:=(Array.getElem?_eq_some_iff.1 h0).1
  have p:=jd.next (P:=P) b.apart b.low c
  obtain ⟨Q,R,w2,S,t2,T,U,V,W,X,Y,Z,ab,ad⟩:=hJ bt ((k.map (woken P (G fr cs) g' w')).setIfInBounds 0 g') w' m (t1++MemOp.ofEvents 0 (G fr cs).frame.fn (G fr cs).frame.place es) H
   {g0:=by simp[O]
    lv:=⟨fun j x f r=>by
     have ae:0≠j:=by omega
     rw[Array.getElem?_setIfInBounds_ne ae,Array.getElem?_map] at r
     obtain ⟨y,al,rfl⟩:=Option.map_eq_some_iff.1 r
     have s:=o.old j y f al
     rw[woken_quitsD s,Deaf_other t1 (by omega) _ (fun op n=>by obtain ⟨e,_,rfl⟩:=Go.Conc.mem_ofEvents n;rfl)]
     exact s,fun j f=>by
     rw[Deaf_other t1 (g':=0) (by simp at f;omega) _ (fun op n=>by obtain ⟨e,_,rfl⟩:=Go.Conc.mem_ofEvents n;rfl)]
     exact o.above j (by simpa using f)⟩
    fq:=(I.mono c.size).own fun e he=>yN b.has c.size b.apart b.low (L e he)
    has:=K
    apart:=p.1
    low:=p.2}
  refine ⟨N+1+Q,R,w2,S,t2,T,U,V,W,?_,Y,(eZ.oG c).trans Z,fun l ao=>(ab l ao).imp id fun hn ar=>hn (Loc.low_mono c.size ar),ad⟩
  have:runNT P (N+1) (crowd gs w sl) t=(.next (crowd ((k.map (woken P (G fr cs) g' w')).setIfInBounds 0 g') w' m),t1++MemOp.ofEvents 0 (G fr cs).frame.fn (G fr cs).frame.place es):=by
   rw[runNT_add,g]
   simp only[runNT,J,M]
  rw[je this]
  exact X
def fA (P:Program)(f:FuncId)(args:Array Value)(F:af)(R:Value->af->Prop):Prop:=∀Φ,cK P (dm P Φ) f args F R
theorem zo {P:Program}{f:FuncId}{args:Array Value}{ro:Addr->Option Value}{own:List (Nat×Obj)}{R:Value->af->Prop}(h:fA P f args ⟨ro,[]⟩ R):
  fA P f args ⟨ro,own⟩ (fun v F'=>∃G,R v G/\F'=G.star ⟨ro,own⟩/\Fits ⟨ro,own⟩ G/\lT ⟨ro,own⟩ G):=by
 intro Φ c cs E bt gs w sl t q d
 let Fr:af:=⟨ro,own⟩
 have F:jd P bt (G (Frame.enter P f args .normal) (c::cs)) ⟨ro,[]⟩ gs w t q:=
  ⟨d.g0,d.lv,d.fq,⟨d.has.ro,fun b o hb=>(by cases hb),List.nodup_nil,fun a v j hm=>(by cases hm)⟩,fun l hs i=>d.apart l hs (by
   cases l with
   |cell a=>exact i.elim (fun x=>by cases x) .inr
   |obj r=>cases i
   |_=>exact i),d.low⟩
 obtain ⟨N,bT,w',H,s,u,g',F',A,j,g,hu,n,v,rfl,p⟩:=h (fun g' F'=>∃v,g'=G (c.finish v) cs/\R v F') c cs (fun v F' p=>dm.done ⟨v,rfl,p⟩) bt gs w sl t q F
 have B:Has Fr w':=⟨fun a v j=>by
  have h0:=d.has.ro a v j
  have I:=d.has.gG (a:=a) (by rw[j];rfl)
  unfold World.cell? at h0 ⊢
  rw[hu.frame _ I (fun hm=>by cases hm)]
  exact h0,fun b o hb=>by
  rw[hu.frame b (d.has.lt (eK hb)) (fun hm=>by cases hm)]
  exact d.has.own b o hb,d.has.nodup,d.has.apart⟩
 have C:Fits Fr F':=⟨⟨w',g.has,B⟩,fun b hb hm=>by
  rcases hu.own b hb with x|x
  ·cases x
  ·have:=d.has.lt (b:=b) hm;omega,fun a k hm=>by
  rcases hu.own _ hm with x|x
  ·cases x
  ·have:=d.has.gG (a:=a) k;omega⟩
 have J:lT Fr F':=fun a k hm=>by
  rcases hu.ro a k with x|x|x
  ·obtain ⟨y,K⟩:=Option.isSome_iff_exists.1 x
   exact d.has.apart a y K hm
  ·cases x
  ·have:=d.has.lt (b:=a.block) hm;omega
 have L:jd P A (G (c.finish v) cs) (F'.star Fr) bT w' s u:=by
  refine ⟨g.g0,g.lv,g.fq,C.both g.has B,fun l hs i=>?_,g.low⟩
  have D:∀b,b∈keys own->(l= .obj b\/∃a,l= .cell a/\a.block=b)->False:=fun b hb m=>by
   rcases n l hs with x|x
   ·refine d.apart l x ?_
    rcases m with rfl|⟨a,rfl,e⟩
    ·exact hb
    ·exact .inl (e▸hb)
   ·refine x ?_
    have:=d.has.lt (b:=b) hb
    rcases m with rfl|⟨a,rfl,e⟩
    ·exact this
    ·show a.block<_;rw[e];exact this
  cases l with
  |cell a=>
   rcases i with x|x
   ·simp only[af.star,cm,List.mem_append] at x
    rcases x with x|x
    ·exact g.apart _ hs (.inl x)
    ·exact D _ x (.inr ⟨a,rfl,rfl⟩)
   ·rcases jM x with y|y
    ·rcases n _ hs with z|z
     ·exact d.apart _ z (.inr y)
     ·exact z (d.has.gG (a:=a) y)
    ·exact g.apart _ hs (.inr y)
  |obj r=>
   simp only[af.gf,af.star,cm,List.mem_append] at i
   rcases i with x|x
   ·exact g.apart _ hs x
   ·exact D _ x (.inl rfl)
  |_=>exact i
 obtain ⟨M,O,w2,Q,t2,S,T,U,V,W,X,Y,Z,ab⟩:=E v (F'.star Fr) ⟨F',p,rfl,C,J⟩ A bT w' H s u L
 have ad:eZ ⟨ro,own⟩ (F'.star Fr) w w':=⟨hu.os,hu.tape,hu.output,hu.size,fun b hb hn=>hu.frame b hb (fun x=>by cases x),fun a k=>by
  rcases jM k with y|y
  ·exact .inl y
  ·rcases hu.ro a y with z|z|z
   ·exact .inl z
   ·cases z
   ·exact .inr (.inr z),fun b hb=>by
  simp only[af.star,cm,List.mem_append] at hb
  rcases hb with x|x
  ·rcases hu.own b x with y|y
   ·cases y
   ·exact .inr y
  ·exact .inl x⟩
 exact ⟨N+M,O,w2,Q,t2,S,T,U,V,by rw[je j];exact W,X,ad.trans Y,fun l m=>(Z l m).elim (n l) fun hn=>.inr fun ae=>hn (Loc.low_mono hu.size ae),ab⟩
theorem fA.go {P:Program}{f:FuncId}{fn:Func}{c:Code}{n:Nat}{rs:List ResultVar}{args:Array Value}{F:af}{R:Value->af->Prop}(g:P.funcs[f]?=some fn)(hb:fn.body=some c)(hn:fn.ntmps=n)(j:fn.results=rs.toArray)(l:args.size<=n)
  (h:∀Φ,Closed P true (dm P Φ)->∀A:Act,sz A=n->A.defers=[]->(∀i,slot A i=args.getD i undef)->Wp (dm P Φ) c (gk P rs R) A F):fA P f args F R:=fun Φ=>by
 refine cK.of_wp (oY P Φ) g hb ?_
 refine (h Φ (oY P Φ) _ (by simp[sz,hn];omega) rfl fun i=>?_).mono fun e a F d=>?_
 ·simp only[slot,hn,Array.getD_eq_getD_getElem?]
  rcases Nat.lt_or_ge i args.size with hi|hi
  ·rw[Array.getElem?_append_left hi]
  ·rw[Array.getElem?_append_right hi,Array.getElem?_replicate,Array.getElem?_eq_none hi]
   split<;>rfl
 ·cases e with
  |exit i=>exact d
  |_=>
   obtain ⟨hd,b⟩:=d
   split at b
   ·rename_i v k
    show gW P a.defers _ F
    rw[hd]
    exact qR j k b
   ·exact b.elim
def oZ (P:Program)(f:FuncId)(args:Array Value)(ro:Addr->Option Value)(R:Value->(Addr->Option Value)->Prop):Prop:=
 fA P f args ⟨ro,[]⟩ (fun v G=>∃aL,Ext ro aL/\Le ⟨aL,[]⟩ G/\R v aL)
theorem DX {P:Program}{Φ:Goroutine->af->Prop}{f:FuncId}{args:Array Value}{ro:Addr->Option Value}{own:List (Nat×Obj)}{K:Value->af->Prop}(R:Value->(Addr->Option Value)->Prop)
  (h:oZ P f args ro R) (hk:∀v aL,Ext ro aL->(∀b∈keys own,∀off sp,aL ⟨b,off,sp⟩=none)->R v aL->K v ⟨aL,own⟩):cK P (dm P Φ) f args ⟨ro,own⟩ K:=by
 intro c cs k
 refine zo (own:=own) h Φ c cs fun v F' l=>?_
 obtain ⟨G,⟨aL,m,hle,n⟩,rfl,e,hn⟩:=l
 have i:∀a,(aL a).isSome=true->a.block∉keys own:=fun a g=>(hle.ro a g).elim (hn a) (e.own _)
 refine (oY P Φ).mono (F:=⟨aL,own⟩) ⟨fun w hw=>?_,fun b hb=>?_,fun a g=>?_⟩ (k v ⟨aL,own⟩ (hk v aL m (fun b hb off sp=>?_) n))
 ·have o:=hle.has w (e.right hw)
  have j:=e.left hw
  exact ⟨o.ro,j.own,j.nodup,fun a v d=>i a (by simp only at d;simp[d])⟩
 ·simp only[af.star,cm,List.mem_append];exact .inr hb
 ·rcases hle.ro a g with x|x
  ·exact (gh (.inr x)).imp id (fun z=>by simp only[af.star,cm,List.mem_append];exact .inr z)
  ·exact .inr (by simp only[af.star,cm,List.mem_append];exact .inl x)
 ·cases d:aL ⟨b,off,sp⟩ with
  |none=>rfl
  |some v=>exact absurd hb (i ⟨b,off,sp⟩ (by simp[d]))
theorem jh {P:Program}{Φ:Goroutine->af->Prop}{f:FuncId}{args:Array Value}{ro:Addr->Option Value}{own:List (Nat×Obj)}{K:Value->af->Prop}(v:Value)
  (h:fA P f args ⟨ro,[]⟩ (fun d _=>d=v)) (hk:K v ⟨ro,own⟩):cK P (dm P Φ) f args ⟨ro,own⟩ K:=by
 intro c cs e
 refine zo (own:=own) h Φ c cs fun d F' g=>?_
 obtain ⟨G,rfl,rfl,i,hn⟩:=g
 refine (oY P Φ).mono (F:=⟨ro,own⟩) ⟨fun w hw=>i.left hw,fun b hb=>?_,fun a j=>?_⟩ (e d ⟨ro,own⟩ hk)
 ·simp only[af.star,cm,List.mem_append];exact .inr hb
 ·exact (gh (.inl j)).imp id (fun z=>by simp only[af.star,cm,List.mem_append];exact .inr z)
end Go.Sep
end
section
namespace Go.Sep
open Go Go.Conc Go.ConcM
def zp (P:Program)(R:Value->af->Prop)(g:Goroutine)(F:af):Prop:=
 ∃(fr:Frame) (fn:Func) (t:Nat) (v:Value),g=G fr []/\fr.kind= .normal/\P.inits.idxOf? fr.fn=none/\fr.mode= .returning/\fr.defers=[]/\P.funcs[fr.fn]?=some fn/\fn.results=#[.tmp t]/\fr.tmps.getD t undef=v/\R v F
def ji (P:Program)(f:FuncId)(args:Array Value)(F:af)(R:Value->af->Prop):Prop:=
 ∀Φ:Goroutine->af->Prop,(∀g F',zp P R g F'->Φ g F')->dm P Φ (G (Frame.enter P f args .normal) []) F
theorem ji.go {P:Program}{f:FuncId}{fn:Func}{c:Code}{n t:Nat}{args:Array Value}{F:af}{R:Value->af->Prop}(g:P.funcs[f]?=some fn)(hb:fn.body=some c)(hn:fn.ntmps=n)(k:fn.results=[.tmp t].toArray)(q:args.size<=n)(hi:P.inits.idxOf? f=none)
  (h:∀Φ,Closed P true (dm P Φ)->∀A:Act,sz A=n->A.defers=[]->(∀i,slot A i=args.getD i undef)->Wp (dm P Φ) c (gk P [.tmp t] R) A F):ji P f args F R:=by
 intro Φ l
 have hJ:=oY P Φ
 let b:Frame:={(default:Frame) with fn:=f,kind:=.normal}
 have m:Frame.enter P f args .normal=on b {tmps:=args++Array.replicate (fn.ntmps - args.size) undef,defers:=[]} [.code c]:=by
  simp[Frame.enter,on,g,hb,b]
  rfl
 rw[m]
 have j:∀(a:Act) (F':af) (fr:Frame),fr.kind= .normal->fr.mode= .returning->fr.defers=a.defers->fr.fn=f->fr.tmps=a.tmps->gk P [.tmp t] R .normal a F'->dm P Φ (G fr []) F':=by
  intro a F' fr h0 h1 h2 h3 o d
  obtain ⟨hd,p⟩:=d
  refine dm.done (l _ _ ⟨fr,fn,t,_,rfl,h0,by rw[h3];exact hi,h1,by rw[h2,hd],by rw[h3];exact g,k,rfl,?_⟩)
  rw[o]
  simpa [lR,lQ,oR,slot] using p
 refine h Φ hJ _ (by simp[sz,hn];omega) rfl (fun i=>?_) b [] [] ⟨by simp[b],.inl rfl⟩ fun e a' F' d=>?_
 ·simp only[slot,hn,Array.getD_eq_getD_getElem?]
  rcases Nat.lt_or_ge i args.size with hi|hi
  ·rw[Array.getElem?_append_left hi]
  ·rw[Array.getElem?_append_right hi,Array.getElem?_replicate,Array.getElem?_eq_none hi]
   split<;>rfl
 ·cases e with
  |normal=>exact hJ.move (fun _=>lG rfl) (j a' F' _ rfl rfl rfl rfl rfl d)
  |exit i=>exact d.elim
  |ret=>exact fun r=>hJ.move (fun _=>stepG_ret' rfl) (j a' F' _ rfl rfl rfl rfl rfl d)
theorem ji.ends {P:Program}{f:FuncId}{args:Array Value}{F:af}{R:Value->af->Prop}(h:ji P f args F R){W:World}(i:Has F W){a:Value->World->Prop}
  (j:∀v F' w',R v F'->eZ F F' W w'->a v w'):
  ∃M last o w' b,runNT P (M+1) (solo (G (Frame.enter P f args .normal) []) W) #[]=(.ended o w',b)/\runN P M (solo (G (Frame.enter P f args .normal) []) W)= .next last/\step P last= .ended o w'/\Go.Conc.Good P a last o w' b:=by
 obtain ⟨N,bT,w',k,b,w,g',F',l,g,c,hu,_,fr,fn,t,v,rfl,hk,hi,h1,h2,h3,m,n,p⟩:=h (zp P R) (fun _ _ x=>x) (fun _=>False) #[G (Frame.enter P f args .normal) []] W none #[] (fun _=>0)
  ⟨rfl,leavers_one P _,past_nil.mono (Nat.zero_le _),i,fun _ x=>x.elim,fun _ x=>x.elim⟩
 have hg:Goes P true AtRel (fun _ _ _=>False) (AtEnd P l w'.heap.size a) 0 (G fr []) w':=by
  refine Goes.stop fun y ⟨d,hd⟩=>?_
  subst hd
  refine ⟨rfl,v,seen P fr.fn #[],?_,fun e he=>?_,j v F' _ p ⟨hu.os,hu.tape,hu.output,hu.size,hu.frame,hu.ro,hu.own⟩⟩
  ·have q:fr.tmps[t]?.getD undef=v:=by rw[<-n,Array.getD_eq_getD_getElem?]
   simp[G,stepG,unwind,h1,h2,h3,results,m,q,doReturn,GStep.after,Sem.runT,hk,hi]
  ·exact absurd (mem_seen he) (by simp)
 obtain ⟨r,last,o,w2,t2,e1,e2,s,u⟩:=beside_ends (sl:=k) (fun _ _ _ x=>x.elim) c.g0 c.lv c.fq hg
 refine ⟨N+r,last,o,w2,t2,?_,?_,s,u⟩
 ·rw[solo_eq_crowd,Nat.add_assoc,je g,e1]
 ·rw[solo_eq_crowd,runN_add]
  have:=runNT_fst P N (crowd #[G (Frame.enter P f args .normal) []] W none) #[]
  rw[g] at this
  rw[<-this]
  exact e2
end Go.Sep
end
section
namespace Go.Proofs.YtjepffnffjdloaaGreatDoor
open Go Go.Sep Go.Proofs
set_option maxRecDepth 100000
theorem mixed:Tryz.prog.follows .mixedOrders=true:=by kernel_rfl
@[go_sem] theorem KR:cA Tryz.prog 3=some false:=by kernel_rfl
@[go_sem] theorem kO:bW Tryz.prog 3=some 1:=by kernel_rfl
theorem kP:bytesOf Tryz.prog 3=some 8:=by kernel_rfl
@[go_sem] theorem kQ:zeroOf Tryz.prog 3=some (.int .i64 0):=by kernel_rfl
@[go_sem] theorem KS:cA Tryz.prog 4=some false:=by kernel_rfl
@[go_sem] theorem zq:bW Tryz.prog 4=some 1:=by kernel_rfl
@[go_sem] theorem DY:zeroOf Tryz.prog 4=some (.bool false):=by kernel_rfl
@[go_sem] theorem KT:uu Tryz.prog 4=true:=by kernel_rfl
@[go_sem] theorem KU:cA Tryz.prog 23=some true:=by kernel_rfl
@[go_sem] theorem DZ:bW Tryz.prog 23=some 2:=by kernel_rfl
theorem D1:bytesOf Tryz.prog 23=some 16:=by kernel_rfl
@[go_sem] theorem zu:zeroOf Tryz.prog 23=some (.agg #[.int .i64 0,.int .i64 0]):=by kernel_rfl
@[go_sem] theorem KV:mX Tryz.prog 23=some [true,true]:=by kernel_rfl
@[go_sem] theorem KW:cI Tryz.prog 23 0=some 0:=by kernel_rfl
@[go_sem] theorem KX:cI Tryz.prog 23 1=some 1:=by kernel_rfl
@[go_sem] theorem KY:placesOf Tryz.prog 23=some [(0,1),(1,1)]:=by kernel_rfl
@[go_sem] theorem KZ:cA Tryz.prog 24=some false:=by kernel_rfl
@[go_sem] theorem K0:bW Tryz.prog 24=some 1:=by kernel_rfl
@[go_sem] theorem K1:jP Tryz.prog 24=true:=by kernel_rfl
@[go_sem] theorem m4:cX Tryz.prog 24=some 45:=by kernel_rfl
@[go_sem] theorem K2:cA Tryz.prog 25=some false:=by kernel_rfl
@[go_sem] theorem K3:bW Tryz.prog 25=some 1:=by kernel_rfl
@[go_sem] theorem K4:jP Tryz.prog 25=true:=by kernel_rfl
@[go_sem] theorem jj:cX Tryz.prog 25=some 132:=by kernel_rfl
@[go_sem] theorem K5:cA Tryz.prog 26=some false:=by kernel_rfl
@[go_sem] theorem K6:bW Tryz.prog 26=some 1:=by kernel_rfl
@[go_sem] theorem K7:jP Tryz.prog 26=true:=by kernel_rfl
@[go_sem] theorem qW:cX Tryz.prog 26=some 130:=by kernel_rfl
@[go_sem] theorem K8:cA Tryz.prog 27=some false:=by kernel_rfl
@[go_sem] theorem K9:bW Tryz.prog 27=some 1:=by kernel_rfl
@[go_sem] theorem La:jP Tryz.prog 27=true:=by kernel_rfl
@[go_sem] theorem ei:cX Tryz.prog 27=some 91:=by kernel_rfl
@[go_sem] theorem Lb:cA Tryz.prog 29=some true:=by kernel_rfl
@[go_sem] theorem Lc:bW Tryz.prog 29=some 8:=by kernel_rfl
@[go_sem] theorem Ld:zeroOf Tryz.prog 29=some (.agg #[.int .i64 0,.int .i64 0,.int .i64 0,.int .i64 0,.slice none 0 0,.slice none 0 0,.slice none 0 0,.slice none 0 0]):=by kernel_rfl
@[go_sem] theorem Lf:cI Tryz.prog 29 0=some 0:=by kernel_rfl
@[go_sem] theorem Lh:cI Tryz.prog 29 1=some 1:=by kernel_rfl
@[go_sem] theorem Li:cI Tryz.prog 29 2=some 2:=by kernel_rfl
@[go_sem] theorem Lj:cI Tryz.prog 29 3=some 4:=by kernel_rfl
@[go_sem] theorem Ll:cI Tryz.prog 29 4=some 5:=by kernel_rfl
@[go_sem] theorem Lm:cI Tryz.prog 29 5=some 6:=by kernel_rfl
@[go_sem] theorem Ln:cI Tryz.prog 29 6=some 7:=by kernel_rfl
@[go_sem] theorem Lo:placesOf Tryz.prog 29=some [(0,1),(1,1),(2,2),(4,1),(5,1),(6,1),(7,1)]:=by kernel_rfl
@[go_sem] theorem Lp:cA Tryz.prog 33=some true:=by kernel_rfl
@[go_sem] theorem Lq:bW Tryz.prog 33=some 2:=by kernel_rfl
@[go_sem] theorem Lr:zeroOf Tryz.prog 33=some (.agg #[.int .i64 0,.int .i64 0]):=by kernel_rfl
@[go_sem] theorem Ls:cI Tryz.prog 33 0=some 0:=by kernel_rfl
@[go_sem] theorem Lt:cI Tryz.prog 33 1=some 1:=by kernel_rfl
@[go_sem] theorem Lu:placesOf Tryz.prog 33=some [(0,1),(1,1)]:=by kernel_rfl
@[go_sem] theorem Lv:cA Tryz.prog 45=some true:=by kernel_rfl
@[go_sem] theorem uM:bW Tryz.prog 45=some 2:=by kernel_rfl
theorem uN:bytesOf Tryz.prog 45=some 16:=by kernel_rfl
@[go_sem] theorem qX:zeroOf Tryz.prog 45=some (.agg #[.int .i64 0,.int .i64 0]):=by kernel_rfl
@[go_sem] theorem Lx:cI Tryz.prog 45 0=some 0:=by kernel_rfl
@[go_sem] theorem Ly:cI Tryz.prog 45 1=some 1:=by kernel_rfl
@[go_sem] theorem Lz:placesOf Tryz.prog 45=some [(0,1),(1,1)]:=by kernel_rfl
@[go_sem] theorem LA:cA Tryz.prog 64=some false:=by kernel_rfl
@[go_sem] theorem qY:bW Tryz.prog 64=some 1:=by kernel_rfl
theorem qZ:bytesOf Tryz.prog 64=some 24:=by kernel_rfl
@[go_sem] theorem q2:zeroOf Tryz.prog 64=some (.slice none 0 0):=by kernel_rfl
@[go_sem] theorem LB:jP Tryz.prog 64=true:=by kernel_rfl
@[go_sem] theorem fH:cX Tryz.prog 64=some 3:=by kernel_rfl
@[go_sem] theorem LC:cA Tryz.prog 91=some true:=by kernel_rfl
@[go_sem] theorem gZ:bW Tryz.prog 91=some 2:=by kernel_rfl
theorem g5:bytesOf Tryz.prog 91=some 16:=by kernel_rfl
@[go_sem] theorem g6:zeroOf Tryz.prog 91=some (.agg #[.int .i64 0,.bool false]):=by kernel_rfl
@[go_sem] theorem LD:cI Tryz.prog 91 0=some 0:=by kernel_rfl
@[go_sem] theorem LF:cI Tryz.prog 91 1=some 1:=by kernel_rfl
@[go_sem] theorem LG:placesOf Tryz.prog 91=some [(0,1),(1,1)]:=by kernel_rfl
@[go_sem] theorem LH:cA Tryz.prog 95=some true:=by kernel_rfl
@[go_sem] theorem LI:bW Tryz.prog 95=some 2:=by kernel_rfl
@[go_sem] theorem LJ:zeroOf Tryz.prog 95=some (.agg #[.int .i64 0,.int .i64 0]):=by kernel_rfl
@[go_sem] theorem LK:cI Tryz.prog 95 0=some 0:=by kernel_rfl
@[go_sem] theorem LL:cI Tryz.prog 95 1=some 1:=by kernel_rfl
@[go_sem] theorem LM:placesOf Tryz.prog 95=some [(0,1),(1,1)]:=by kernel_rfl
@[go_sem] theorem LN:cA Tryz.prog 99=some true:=by kernel_rfl
@[go_sem] theorem LO:bW Tryz.prog 99=some 8:=by kernel_rfl
@[go_sem] theorem LP:zeroOf Tryz.prog 99=some (.agg #[.int .i64 0,.int .i64 0,.int .i64 0,.int .i64 0,.slice none 0 0,.slice none 0 0,.slice none 0 0,.slice none 0 0]):=by kernel_rfl
@[go_sem] theorem LQ:cI Tryz.prog 99 0=some 0:=by kernel_rfl
@[go_sem] theorem LR:placesOf Tryz.prog 99=some [(0,8)]:=by kernel_rfl
@[go_sem] theorem LS:cA Tryz.prog 102=some false:=by kernel_rfl
@[go_sem] theorem LU:bW Tryz.prog 102=some 1:=by kernel_rfl
@[go_sem] theorem LV:zeroOf Tryz.prog 102=some .nilFunc:=by kernel_rfl
@[go_sem] theorem LW:cA Tryz.prog 103=some true:=by kernel_rfl
@[go_sem] theorem D2:bW Tryz.prog 103=some 2:=by kernel_rfl
theorem D3:bytesOf Tryz.prog 103=some 16:=by kernel_rfl
@[go_sem] theorem D4:zeroOf Tryz.prog 103=some (.agg #[.int .i64 0,.int .i64 0]):=by kernel_rfl
@[go_sem] theorem LX:mX Tryz.prog 103=some [true,true]:=by kernel_rfl
@[go_sem] theorem LY:cI Tryz.prog 103 0=some 0:=by kernel_rfl
@[go_sem] theorem LZ:cI Tryz.prog 103 1=some 1:=by kernel_rfl
@[go_sem] theorem L0:placesOf Tryz.prog 103=some [(0,1),(1,1)]:=by kernel_rfl
@[go_sem] theorem L1:cA Tryz.prog 105=some true:=by kernel_rfl
@[go_sem] theorem L2:bW Tryz.prog 105=some 3:=by kernel_rfl
@[go_sem] theorem L3:zeroOf Tryz.prog 105=some (.agg #[.int .i64 0,.int .i64 0,.int .i64 0]):=by kernel_rfl
@[go_sem] theorem L4:mX Tryz.prog 105=some [true,true,true]:=by kernel_rfl
@[go_sem] theorem L5:cI Tryz.prog 105 0=some 0:=by kernel_rfl
@[go_sem] theorem L6:cI Tryz.prog 105 1=some 1:=by kernel_rfl
@[go_sem] theorem L7:placesOf Tryz.prog 105=some [(0,1),(1,2)]:=by kernel_rfl
@[go_sem] theorem L8:cA Tryz.prog 107=some true:=by kernel_rfl
@[go_sem] theorem uO:bW Tryz.prog 107=some 6:=by kernel_rfl
theorem uP:bytesOf Tryz.prog 107=some 48:=by kernel_rfl
@[go_sem] theorem uQ:zeroOf Tryz.prog 107=some (.agg #[.int .i64 0,.int .i64 0,.int .i64 0,.int .i64 0,.int .i64 0,.int .i64 0]):=by kernel_rfl
@[go_sem] theorem L9:cI Tryz.prog 107 0=some 0:=by kernel_rfl
@[go_sem] theorem Ma:cI Tryz.prog 107 1=some 3:=by kernel_rfl
@[go_sem] theorem Mb:cI Tryz.prog 107 2=some 4:=by kernel_rfl
@[go_sem] theorem Mc:uh Tryz.prog 107 2=some (4,2,true):=by kernel_rfl
@[go_sem] theorem Md:placesOf Tryz.prog 107=some [(0,3),(3,1),(4,2)]:=by kernel_rfl
@[go_sem] theorem m5:cX Tryz.prog 112=some 107:=by kernel_rfl
@[go_sem] theorem Me:cA Tryz.prog 117=some false:=by kernel_rfl
@[go_sem] theorem Mf:bW Tryz.prog 117=some 1:=by kernel_rfl
@[go_sem] theorem Mg:zeroOf Tryz.prog 117=some (.map none):=by kernel_rfl
@[go_sem] theorem Mh:cA Tryz.prog 120=some true:=by kernel_rfl
@[go_sem] theorem D5:bW Tryz.prog 120=some 3:=by kernel_rfl
theorem D6:bytesOf Tryz.prog 120=some 24:=by kernel_rfl
@[go_sem] theorem D7:zeroOf Tryz.prog 120=some (.agg #[.int .i64 0,.int .i64 0,.int .i64 0]):=by kernel_rfl
@[go_sem] theorem Mi:mU Tryz.prog 120=some (3,3):=by kernel_rfl
@[go_sem] theorem Mj:cA Tryz.prog 121=some false:=by kernel_rfl
@[go_sem] theorem Mk:bW Tryz.prog 121=some 1:=by kernel_rfl
@[go_sem] theorem zv:cX Tryz.prog 121=some 120:=by kernel_rfl
@[go_sem] theorem Ml:cA Tryz.prog 123=some true:=by kernel_rfl
@[go_sem] theorem Mm:bW Tryz.prog 123=some 9:=by kernel_rfl
@[go_sem] theorem Mn:zeroOf Tryz.prog 123=some (.agg #[.int .i64 0,.int .i64 0,.int .i64 0,.int .i64 0,.slice none 0 0,.slice none 0 0,.slice none 0 0,.slice none 0 0,.slice none 0 0]):=by kernel_rfl
@[go_sem] theorem Mo:cI Tryz.prog 123 0=some 0:=by kernel_rfl
@[go_sem] theorem Mq:cI Tryz.prog 123 1=some 8:=by kernel_rfl
@[go_sem] theorem Mr:placesOf Tryz.prog 123=some [(0,8),(8,1)]:=by kernel_rfl
@[go_sem] theorem Ms:cA Tryz.prog 128=some false:=by kernel_rfl
@[go_sem] theorem Mt:cA Tryz.prog 130=some true:=by kernel_rfl
@[go_sem] theorem zw:bW Tryz.prog 130=some 3:=by kernel_rfl
theorem zx:bytesOf Tryz.prog 130=some 24:=by kernel_rfl
@[go_sem] theorem zy:zeroOf Tryz.prog 130=some (.agg #[.int .i64 0,.int .i64 0,.int .i64 0]):=by kernel_rfl
@[go_sem] theorem Mv:cI Tryz.prog 130 0=some 0:=by kernel_rfl
@[go_sem] theorem Mw:cI Tryz.prog 130 1=some 1:=by kernel_rfl
@[go_sem] theorem Mx:placesOf Tryz.prog 130=some [(0,1),(1,2)]:=by kernel_rfl
@[go_sem] theorem My:cA Tryz.prog 132=some true:=by kernel_rfl
@[go_sem] theorem o3:bW Tryz.prog 132=some 2:=by kernel_rfl
theorem o5:bytesOf Tryz.prog 132=some 16:=by kernel_rfl
@[go_sem] theorem o6:zeroOf Tryz.prog 132=some (.agg #[.int .i64 0,.int .i64 0]):=by kernel_rfl
@[go_sem] theorem Mz:cI Tryz.prog 132 0=some 0:=by kernel_rfl
@[go_sem] theorem MA:cI Tryz.prog 132 1=some 1:=by kernel_rfl
@[go_sem] theorem MB:placesOf Tryz.prog 132=some [(0,1),(1,1)]:=by kernel_rfl
@[go_sem] theorem kR:cX Tryz.prog 133=some 64:=by kernel_rfl
@[go_sem] theorem zz:cX Tryz.prog 138=some 23:=by kernel_rfl
@[go_sem] theorem MC:cA Tryz.prog 140=some false:=by kernel_rfl
@[go_sem] theorem MD:bW Tryz.prog 140=some 1:=by kernel_rfl
@[go_sem] theorem ME:zeroOf Tryz.prog 140=some (.slice none 0 0):=by kernel_rfl
@[go_sem] theorem zA:cX Tryz.prog 140=some 103:=by kernel_rfl
@[go_sem] theorem MF:cX Tryz.prog 150=some 102:=by kernel_rfl
@[go_sem] theorem MG:cA Tryz.prog 152=some false:=by kernel_rfl
@[go_sem] theorem MH:bW Tryz.prog 152=some 1:=by kernel_rfl
@[go_sem] theorem MI:zeroOf Tryz.prog 152=some .nilFunc:=by kernel_rfl
@[go_sem] theorem MJ:cA Tryz.prog 159=some false:=by kernel_rfl
@[go_sem] theorem MK:bW Tryz.prog 159=some 1:=by kernel_rfl
@[go_sem] theorem ML:zeroOf Tryz.prog 159=some (.slice none 0 0):=by kernel_rfl
@[go_sem] theorem MM:cX Tryz.prog 159=some 4:=by kernel_rfl
@[go_sem] theorem MN:cI Tryz.prog 164 0=some 0:=by kernel_rfl
@[go_sem] theorem MO:cI Tryz.prog 164 1=some 1:=by kernel_rfl
@[go_sem] theorem MP:zeroOf Tryz.prog 166=some (.agg #[.int .i32 0,.int .u32 0]):=by kernel_rfl
@[go_sem] theorem MQ:cI Tryz.prog 166 1=some 0:=by kernel_rfl
@[go_sem] theorem MR:cI Tryz.prog 171 2=some 0:=by kernel_rfl
@[go_sem] theorem MS:zeroOf Tryz.prog 173=some (.agg #[.int .u64 0,.int .u32 0]):=by kernel_rfl
@[go_sem] theorem MT:cI Tryz.prog 173 1=some 0:=by kernel_rfl
@[go_sem] theorem MU:cI Tryz.prog 173 2=some 1:=by kernel_rfl
@[go_sem] theorem MV:cA Tryz.prog 177=some true:=by kernel_rfl
@[go_sem] theorem MW:bW Tryz.prog 177=some 5:=by kernel_rfl
@[go_sem] theorem MX:mU Tryz.prog 177=some (5,102):=by kernel_rfl
@[go_sem] theorem MY:aI Tryz.prog 2=true:=by kernel_rfl
@[go_sem] theorem MZ:aI Tryz.prog 3=true:=by kernel_rfl
@[go_sem] theorem M0:aI Tryz.prog 4=true:=by kernel_rfl
@[go_sem] theorem M1:aI Tryz.prog 5=true:=by kernel_rfl
@[go_sem] theorem M3:aI Tryz.prog 6=true:=by kernel_rfl
@[go_sem] theorem M4:aI Tryz.prog 7=true:=by kernel_rfl
@[go_sem] theorem M5:aI Tryz.prog 8=true:=by kernel_rfl
@[go_sem] theorem M6:aI Tryz.prog 9=true:=by kernel_rfl
@[go_sem] theorem M7:aI Tryz.prog 10=true:=by kernel_rfl
@[go_sem] theorem M8:aI Tryz.prog 11=true:=by kernel_rfl
@[go_sem] theorem M9:aI Tryz.prog 12=true:=by kernel_rfl
@[go_sem] theorem Na:aI Tryz.prog 13=true:=by kernel_rfl
@[go_sem] theorem Nb:aI Tryz.prog 14=true:=by kernel_rfl
@[go_sem] theorem Nc:aI Tryz.prog 15=true:=by kernel_rfl
@[go_sem] theorem Nf:aI Tryz.prog 16=true:=by kernel_rfl
@[go_sem] theorem Ng:aI Tryz.prog 17=true:=by kernel_rfl
@[go_sem] theorem Nh:aI Tryz.prog 18=true:=by kernel_rfl
@[go_sem] theorem Ni:aI Tryz.prog 19=true:=by kernel_rfl
@[go_sem] theorem Nj:aI Tryz.prog 20=true:=by kernel_rfl
@[go_sem] theorem Nk:aI Tryz.prog 21=true:=by kernel_rfl
@[go_sem] theorem Nl:aI Tryz.prog 22=true:=by kernel_rfl
@[go_sem] theorem Nm:aI Tryz.prog 23=true:=by kernel_rfl
@[go_sem] theorem Nn:aI Tryz.prog 24=true:=by kernel_rfl
@[go_sem] theorem No:aI Tryz.prog 25=true:=by kernel_rfl
@[go_sem] theorem Np:aI Tryz.prog 26=true:=by kernel_rfl
@[go_sem] theorem Nq:aI Tryz.prog 27=true:=by kernel_rfl
@[go_sem] theorem Nr:aI Tryz.prog 28=true:=by kernel_rfl
@[go_sem] theorem Ns:aI Tryz.prog 29=true:=by kernel_rfl
@[go_sem] theorem Nt:aI Tryz.prog 30=true:=by kernel_rfl
@[go_sem] theorem Nu:aI Tryz.prog 31=true:=by kernel_rfl
@[go_sem] theorem Nv:aI Tryz.prog 32=true:=by kernel_rfl
@[go_sem] theorem Nw:aI Tryz.prog 33=true:=by kernel_rfl
@[go_sem] theorem Ny:aI Tryz.prog 34=true:=by kernel_rfl
@[go_sem] theorem Nz:aI Tryz.prog 35=true:=by kernel_rfl
@[go_sem] theorem NA:aI Tryz.prog 36=true:=by kernel_rfl
@[go_sem] theorem NB:aI Tryz.prog 37=true:=by kernel_rfl
@[go_sem] theorem NC:aI Tryz.prog 38=true:=by kernel_rfl
@[go_sem] theorem ND:aI Tryz.prog 39=true:=by kernel_rfl
@[go_sem] theorem NF:aI Tryz.prog 40=true:=by kernel_rfl
@[go_sem] theorem NG:aI Tryz.prog 41=true:=by kernel_rfl
@[go_sem] theorem NH:aI Tryz.prog 42=true:=by kernel_rfl
@[go_sem] theorem NI:aI Tryz.prog 43=true:=by kernel_rfl
@[go_sem] theorem NJ:aI Tryz.prog 44=true:=by kernel_rfl
@[go_sem] theorem NK:aI Tryz.prog 45=true:=by kernel_rfl
@[go_sem] theorem NL:aI Tryz.prog 46=true:=by kernel_rfl
@[go_sem] theorem NM:aI Tryz.prog 47=true:=by kernel_rfl
@[go_sem] theorem NN:aI Tryz.prog 48=true:=by kernel_rfl
@[go_sem] theorem NO:aI Tryz.prog 49=true:=by kernel_rfl
@[go_sem] theorem NP:aI Tryz.prog 50=true:=by kernel_rfl
@[go_sem] theorem NQ:aI Tryz.prog 51=true:=by kernel_rfl
@[go_sem] theorem NR:aI Tryz.prog 52=true:=by kernel_rfl
@[go_sem] theorem NS:aI Tryz.prog 53=true:=by kernel_rfl
@[go_sem] theorem NT:aI Tryz.prog 54=true:=by kernel_rfl
@[go_sem] theorem NU:aI Tryz.prog 55=true:=by kernel_rfl
@[go_sem] theorem NV:aI Tryz.prog 56=true:=by kernel_rfl
@[go_sem] theorem NW:aI Tryz.prog 57=true:=by kernel_rfl
@[go_sem] theorem NX:aI Tryz.prog 58=true:=by kernel_rfl
@[go_sem] theorem NY:aI Tryz.prog 59=true:=by kernel_rfl
@[go_sem] theorem NZ:aI Tryz.prog 60=true:=by kernel_rfl
@[go_sem] theorem N0:aI Tryz.prog 61=true:=by kernel_rfl
@[go_sem] theorem N1:aI Tryz.prog 62=true:=by kernel_rfl
@[go_sem] theorem N2:aI Tryz.prog 63=true:=by kernel_rfl
@[go_sem] theorem N3:aI Tryz.prog 64=true:=by kernel_rfl
@[go_sem] theorem N4:aI Tryz.prog 65=true:=by kernel_rfl
@[go_sem] theorem N5:aI Tryz.prog 66=true:=by kernel_rfl
@[go_sem] theorem N6:aI Tryz.prog 67=true:=by kernel_rfl
@[go_sem] theorem N7:aI Tryz.prog 68=true:=by kernel_rfl
@[go_sem] theorem N8:aI Tryz.prog 69=true:=by kernel_rfl
@[go_sem] theorem N9:aI Tryz.prog 70=true:=by kernel_rfl
@[go_sem] theorem Oa:aI Tryz.prog 71=true:=by kernel_rfl
@[go_sem] theorem Ob:aI Tryz.prog 72=true:=by kernel_rfl
@[go_sem] theorem Oc:aI Tryz.prog 73=true:=by kernel_rfl
@[go_sem] theorem Od:aI Tryz.prog 74=true:=by kernel_rfl
@[go_sem] theorem Oe:aI Tryz.prog 75=true:=by kernel_rfl
@[go_sem] theorem Of:aI Tryz.prog 76=true:=by kernel_rfl
@[go_sem] theorem Og:aI Tryz.prog 77=true:=by kernel_rfl
@[go_sem] theorem Oh:aI Tryz.prog 78=true:=by kernel_rfl
@[go_sem] theorem Oi:aI Tryz.prog 79=true:=by kernel_rfl
@[go_sem] theorem Oj:aI Tryz.prog 80=true:=by kernel_rfl
@[go_sem] theorem Ok:aI Tryz.prog 81=true:=by kernel_rfl
@[go_sem] theorem Ol:aI Tryz.prog 82=true:=by kernel_rfl
@[go_sem] theorem Om:aI Tryz.prog 83=true:=by kernel_rfl
@[go_sem] theorem On:aI Tryz.prog 84=true:=by kernel_rfl
@[go_sem] theorem Oo:aI Tryz.prog 85=true:=by kernel_rfl
@[go_sem] theorem Oq:aI Tryz.prog 86=true:=by kernel_rfl
@[go_sem] theorem Ot:aI Tryz.prog 87=true:=by kernel_rfl
@[go_sem] theorem Ou:aI Tryz.prog 88=true:=by kernel_rfl
@[go_sem] theorem Ov:aI Tryz.prog 89=true:=by kernel_rfl
@[go_sem] theorem Ow:aI Tryz.prog 90=true:=by kernel_rfl
@[go_sem] theorem Ox:aI Tryz.prog 91=true:=by kernel_rfl
@[go_sem] theorem Oy:aI Tryz.prog 92=true:=by kernel_rfl
@[go_sem] theorem Oz:aI Tryz.prog 93=true:=by kernel_rfl
@[go_sem] theorem OA:aI Tryz.prog 94=true:=by kernel_rfl
@[go_sem] theorem OB:aI Tryz.prog 95=true:=by kernel_rfl
@[go_sem] theorem OC:aI Tryz.prog 96=true:=by kernel_rfl
@[go_sem] theorem OD:aI Tryz.prog 97=true:=by kernel_rfl
@[go_sem] theorem OE:aI Tryz.prog 98=true:=by kernel_rfl
@[go_sem] theorem OF:aI Tryz.prog 99=true:=by kernel_rfl
@[go_sem] theorem OG:aI Tryz.prog 100=true:=by kernel_rfl
@[go_sem] theorem OH:aI Tryz.prog 101=true:=by kernel_rfl
@[go_sem] theorem OI:aI Tryz.prog 102=true:=by kernel_rfl
@[go_sem] theorem OJ:aI Tryz.prog 103=true:=by kernel_rfl
@[go_sem] theorem OK:aI Tryz.prog 104=true:=by kernel_rfl
@[go_sem] theorem OL:aI Tryz.prog 105=true:=by kernel_rfl
@[go_sem] theorem OM:aI Tryz.prog 106=true:=by kernel_rfl
@[go_sem] theorem ON:aI Tryz.prog 107=true:=by kernel_rfl
@[go_sem] theorem OO:aI Tryz.prog 108=true:=by kernel_rfl
@[go_sem] theorem OP:aI Tryz.prog 109=true:=by kernel_rfl
@[go_sem] theorem OQ:aI Tryz.prog 110=true:=by kernel_rfl
@[go_sem] theorem OR:aI Tryz.prog 111=true:=by kernel_rfl
@[go_sem] theorem OS:aI Tryz.prog 112=true:=by kernel_rfl
@[go_sem] theorem OT:aI Tryz.prog 113=true:=by kernel_rfl
@[go_sem] theorem OU:aI Tryz.prog 114=true:=by kernel_rfl
@[go_sem] theorem zB:aI Tryz.prog 115=true:=by kernel_rfl
@[go_sem] theorem OV:aI Tryz.prog 116=true:=by kernel_rfl
@[go_sem] theorem OW:aI Tryz.prog 117=true:=by kernel_rfl
@[go_sem] theorem OX:aI Tryz.prog 118=true:=by kernel_rfl
@[go_sem] theorem OY:aI Tryz.prog 119=true:=by kernel_rfl
@[go_sem] theorem D8:aI Tryz.prog 120=true:=by kernel_rfl
@[go_sem] theorem D9:aI Tryz.prog 121=true:=by kernel_rfl
@[go_sem] theorem Ea:aI Tryz.prog 122=true:=by kernel_rfl
@[go_sem] theorem OZ:aI Tryz.prog 123=true:=by kernel_rfl
@[go_sem] theorem O0:aI Tryz.prog 124=true:=by kernel_rfl
@[go_sem] theorem O1:aI Tryz.prog 125=true:=by kernel_rfl
@[go_sem] theorem O2:aI Tryz.prog 126=true:=by kernel_rfl
@[go_sem] theorem O3:aI Tryz.prog 127=true:=by kernel_rfl
@[go_sem] theorem O4:aI Tryz.prog 128=true:=by kernel_rfl
@[go_sem] theorem O5:aI Tryz.prog 129=true:=by kernel_rfl
@[go_sem] theorem O6:aI Tryz.prog 130=true:=by kernel_rfl
@[go_sem] theorem O7:aI Tryz.prog 131=true:=by kernel_rfl
@[go_sem] theorem O8:aI Tryz.prog 132=true:=by kernel_rfl
@[go_sem] theorem O9:aI Tryz.prog 139=true:=by kernel_rfl
@[go_sem] theorem zC:aI Tryz.prog 140=true:=by kernel_rfl
@[go_sem] theorem uR:aI Tryz.prog 142=true:=by kernel_rfl
@[go_sem] theorem Eb:aI Tryz.prog 143=true:=by kernel_rfl
@[go_sem] theorem Pa:aI Tryz.prog 146=true:=by kernel_rfl
@[go_sem] theorem Ec:aI Tryz.prog 147=true:=by kernel_rfl
@[go_sem] theorem Ed:aI Tryz.prog 148=true:=by kernel_rfl
@[go_sem] theorem Ee:aI Tryz.prog 151=true:=by kernel_rfl
@[go_sem] theorem Pb:aI Tryz.prog 154=true:=by kernel_rfl
@[go_sem] theorem Pd:aI Tryz.prog 155=true:=by kernel_rfl
@[go_sem] theorem Pe:aI Tryz.prog 156=true:=by kernel_rfl
@[go_sem] theorem Pf:aI Tryz.prog 157=true:=by kernel_rfl
@[go_sem] theorem Pg:aI Tryz.prog 158=true:=by kernel_rfl
@[go_sem] theorem Pj:aI Tryz.prog 159=true:=by kernel_rfl
@[go_sem] theorem Pk:aI Tryz.prog 160=true:=by kernel_rfl
@[go_sem] theorem Pm:aI Tryz.prog 161=true:=by kernel_rfl
@[go_sem] theorem Pn:aI Tryz.prog 162=true:=by kernel_rfl
@[go_sem] theorem Po:aI Tryz.prog 163=true:=by kernel_rfl
@[go_sem] theorem Pp:aI Tryz.prog 164=true:=by kernel_rfl
@[go_sem] theorem Pq:aI Tryz.prog 165=true:=by kernel_rfl
@[go_sem] theorem Pu:aI Tryz.prog 170=true:=by kernel_rfl
@[go_sem] theorem Ef:aI Tryz.prog 172=true:=by kernel_rfl
@[go_sem] theorem Eg:aI Tryz.prog 174=true:=by kernel_rfl
@[go_sem] theorem Pv:aI Tryz.prog 176=true:=by kernel_rfl
@[go_sem] theorem Pw:aI Tryz.prog 177=true:=by kernel_rfl
@[go_sem] theorem Px:aI Tryz.prog 178=true:=by kernel_rfl
@[go_sem] theorem Py:aI Tryz.prog 179=true:=by kernel_rfl
@[go_sem] theorem Pz:aI Tryz.prog 180=true:=by kernel_rfl
@[go_sem] theorem PA:aI Tryz.prog 188=true:=by kernel_rfl
@[go_sem] theorem PB:aI Tryz.prog 205=true:=by kernel_rfl
@[go_sem] theorem PC:aI Tryz.prog 206=true:=by kernel_rfl
@[go_sem] theorem PD:aI Tryz.prog 207=true:=by kernel_rfl
@[go_sem] theorem PE:aI Tryz.prog 208=true:=by kernel_rfl
@[go_sem] theorem PF:aI Tryz.prog 209=true:=by kernel_rfl
@[go_sem] theorem PG:aI Tryz.prog 213=true:=by kernel_rfl
end Go.Proofs.YtjepffnffjdloaaGreatDoor
end
section
namespace Go.Sep
open Go Go.Conc
def jU (o:Oper):Option (TypeId×Nat):=match o.op,o.dst,o.guard with
 | .alloc t,some d,none=>some (t,d)
 |_,_,_=>none
def zD (ops:Array Oper)(m:Nat):Bool:=
 m0 ops (m+1)&&decide (m+2<=ops.size)&&
 (match (ops[m]?).bind jU,(ops[m+1]?).bind jU with|some (_,d),some (_,d')=>!(d==d')|_,_=>false)&&
 decide (Region.ready .any ops (cL ops.size m)=[m,m+1])&&decide (Region.ready .any ops ((cL ops.size m).setIfInBounds (m+1) true)=[m])
theorem zE {ro:Addr->Option Value}{x y:Nat×Obj}{l:List (Nat×Obj)}:Le ⟨ro,x::y::l⟩ ⟨ro,y::x::l⟩:=by
 have hk:∀b,b∈keys (x::y::l)↔b∈keys (y::x::l):=fun b=>by
  simp only[keys,List.map_cons,List.mem_cons]
  exact ⟨fun h=>by rcases h with h|h|h;exact .inr (.inl h);exact .inl h;exact .inr (.inr h),fun h=>by rcases h with h|h|h;exact .inr (.inl h);exact .inl h;exact .inr (.inr h)⟩
 refine ⟨fun w hw=>⟨hw.ro,fun b o hb=>hw.own b o ?_,?_,fun a v h hm=>hw.apart a v h ((hk _).1 hm)⟩,fun b hb=>(hk b).1 hb,fun a c=>.inl c⟩
 ·rcases List.mem_cons.1 hb with h|h
  ·exact List.mem_cons_of_mem _ (h▸List.mem_cons_self)
  ·rcases List.mem_cons.1 h with h|h
   ·exact h▸List.mem_cons_self
   ·exact List.mem_cons_of_mem _ (List.mem_cons_of_mem _ h)
 ·have:=hw.nodup
  simp only[keys,List.map_cons,List.nodup_cons,List.mem_cons,not_or] at this ⊢
  exact ⟨⟨fun e=>this.1.1 e.symm,this.2.1⟩,this.1.2,this.2.2⟩
section
variable {P : Program} {main : Bool} {J : Goroutine → af → Prop} {ops : Array Oper} {Q : Act → af → Prop} {F0 : af}
theorem zF {o:Oper}{t:TypeId}{d:Nat}(h:jU o=some (t,d)):o.op= .alloc t/\o.dst=some d/\o.guard=none:=by
 unfold jU at h
 split at h
 ·rename_i h1 h2 h3;cases h;exact ⟨h1,h2,h3⟩
 ·cases h
theorem o7 {o:Oper}{a:Act}(h:o.guard=none):cz ops o a=some true:=by unfold cz;rw[h]
theorem uS {o:Oper}{t:TypeId}{a:Act}{F:af}{z:Value}{R:Value->af->Prop}{D:Deferred->af->Prop}(d:o.op= .alloc t)(e:zeroOf P t=some z)
  (h:∀b,dK F b->∃c,Le c (F.push b (.cells z.cells t))/\R (.pointer (some ⟨b,0,none⟩)) c):aT P (execOp a.eval o) (jL P J R D) F:=by
 have:Oper.mY o=false:=by unfold Oper.mY;rw[d]
 refine y9 (R:=fun v F=>∃c,Le c F/\R v c) this ?_
 unfold cG
 rw[d]
 simp only[e]
 exact h
theorem Eh (m:Nat){o1 o2:Oper}{rest:List Oper}{t1 t2 d1 d2:Nat}(hm:m+2<=ops.size)(u:ops[m]?=some o1)(v:ops[m+1]?=some o2)(I:jU o1=some (t1,d1))(K:jU o2=some (t2,d2)){p:Value}(w:zeroOf P t2=some p)(hd:¬d1=d2)
  (y:ops.toList.drop (m+2)=rest) (A:Region.ready .any ops (cL ops.size m)=[m,m+1]) (B:Region.ready .any ops ((cL ops.size m).setIfInBounds (m+1) true)=[m])
  (C:∀j,j<ops.size - (m+1)->Region.ready .any ops (cL ops.size (m+1+j))=[m+1+j]) (D:Region.ready .any ops (cL ops.size ops.size)=[])
  {a:Act} {F:af} (q:Knows F0 F) (h:eC P J ops F0 Q (o1::o2::rest) true a F):dH P J ops Q (Knows F0) (ops.size - m) (cL ops.size m) a F:=by
 obtain ⟨e1,r,s⟩:=zF I
 obtain ⟨e2,E,G⟩:=zF K
 have L:ops.size - m=(ops.size - (m+1))+1:=by omega
 have M:ops.size - (m+1)=(ops.size - (m+2))+1:=by omega
 unfold eC at h
 rw[o7 s] at h
 simp only at h
 have k:∃z,zeroOf P t1=some z:=by
  unfold cG at h
  rw[e1] at h
  simp only at h
  split at h
  ·rename_i z N;exact ⟨z,N⟩
  ·exact h.elim
 obtain ⟨g,k⟩:=k
 have h1:∀b,dK F b->Knows F0 (F.push b (.cells g.cells t1))/\eC P J ops F0 Q (o2::rest) (!Oper.calls o1) (aZ a (some d1) (.pointer (some ⟨b,0,none⟩))) (F.push b (.cells g.cells t1)):=by
  unfold cG at h
  rw[e1] at h
  simp only[k,r] at h
  exact h
 have h2:∀b,dK F b->∀f,dK (F.push b (.cells g.cells t1)) f->Knows F0 ((F.push b (.cells g.cells t1)).push f (.cells p.cells t2))/\
   eC P J ops F0 Q rest (!Oper.calls o2) (aZ (aZ a (some d1) (.pointer (some ⟨b,0,none⟩))) (some d2) (.pointer (some ⟨f,0,none⟩))) ((F.push b (.cells g.cells t1)).push f (.cells p.cells t2)):=by
  intro b hb
  have:=(h1 b hb).2
  unfold eC at this
  rw[o7 G] at this
  simp only at this
  unfold cG at this
  rw[e2] at this
  simp only[w,E] at this
  exact this
 have H:=qT (n:=ops.size) (m:=m) (by omega)
 have O:=qT (n:=ops.size) (m:=m+1) (by omega)
 rw[L]
 refine ⟨fun h0=>(by rw[A] at h0;cases h0),fun i hi=>?_⟩
 rw[A] at hi
 simp only[List.mem_cons,List.not_mem_nil,or_false] at hi
 rcases hi with hi|hi
 ·subst hi
  unfold dG
  simp only[u]
  rw[if_pos (cj (o7 s))]
  refine uS e1 k fun b hb=>⟨_,Le.refl _,(h1 b hb).1,?_⟩
  rw[H,r]
  exact lS (i+1) C D (o2::rest) (i+1) _ _ _ (Nat.le_refl _) (by omega) (by
   have:=List.drop_eq_getElem_cons (l:=ops.toList) (i:=i+1) (by simp;omega)
   rw[this,y]
   obtain ⟨_,he⟩:=Array.getElem?_eq_some_iff.1 v
   simp[he]) (h1 b hb).2
 ·subst hi
  unfold dG
  simp only[v]
  rw[if_pos (cj (o7 G))]
  refine uS e2 w fun f t=>⟨_,Le.refl _,?_,?_⟩
  ·refine ⟨q.1,q.2.1,?_⟩
   have R:∀(l own:List (Nat×Obj)),au own f->iD l own->iD l ((f,.cells p.cells t2)::own):=fun l own S hk=>by
    induction l with
    |nil=>trivial
    |cons x l ih=>
     obtain ⟨c,o⟩:=x
     refine ⟨?_,ih hk.2⟩
     have T:¬f=c:=fun e=>kN S (e▸eK (gE hk.1))
     simp only[lk,if_neg T]
     exact hk.1
   exact R _ _ t.own q.2.2
  ·rw[M]
   refine ⟨fun h0=>(by rw[B] at h0;cases h0),fun i hi=>?_⟩
   rw[B] at hi
   simp only[List.mem_cons,List.not_mem_nil,or_false] at hi
   subst hi
   unfold dG
   simp only[u]
   rw[if_pos (cj (o7 s))]
   refine uS e1 k fun b hb=>?_
   have U:dK F b:=⟨hb.ro,hb.own.2⟩
   have V:¬f=b:=fun e=>hb.own.1 e.symm
   have W:dK (F.push b (.cells g.cells t1)) f:=⟨t.ro,⟨V,t.own⟩⟩
   obtain ⟨X,Y⟩:=h2 b U f W
   refine ⟨_,zE,X,?_⟩
   have Z:aZ (aZ a o2.dst (.pointer (some ⟨f,0,none⟩))) o1.dst (.pointer (some ⟨b,0,none⟩))=aZ (aZ a (some d1) (.pointer (some ⟨b,0,none⟩))) (some d2) (.pointer (some ⟨f,0,none⟩)):=by
    rw[r,E]
    exact Act.put_comm a _ _ (fun d ab=>by cases ab;intro e;cases e;exact hd rfl)
   have hs:((cL ops.size i).setIfInBounds (i+1) true).setIfInBounds i true=cL ops.size (i+2):=by
    rw[Array.setIfInBounds_comm _ _ (by omega:i+1≠i),H,O]
   show dH P J ops Q (Knows F0) (ops.size - (i+2)) _ (aZ (aZ a o2.dst _) o1.dst _) _
   rw[hs,Z]
   exact lS (i+1) C D rest (i+2) _ _ _ (by omega) hm y Y
theorem zG {Q:Ex->Act->af->Prop}(hJ:Closed P main J)(n:P.follows .mixedOrders=true)(m:Nat){id:Nat}{a:Act}{F:af}(F0:af)(e:Knows F0 F)(f:zD ops m=true)(t2:TypeId){o:Value}(g:((ops[m+1]?).bind jU).map (·.1)=some t2)(p:zeroOf P t2=some o)
  (h:dV P J ops F0 (fun a'=>eC P J ops F0 (Q .normal) (ops.toList.drop m) true a' F) (ops.toList.take m) true a):Wp J (.region id ops true) Q a F:=by
 simp only[zD,Bool.and_eq_true,decide_eq_true_eq] at f
 obtain ⟨⟨⟨⟨q,hm⟩,b⟩,r⟩,s⟩:=f
 have j:=zi q
 simp only[oS,Bool.and_eq_true,decide_eq_true_eq,List.all_eq_true,List.mem_range] at j
 obtain ⟨⟨⟨⟨h1,h2⟩,h3⟩,t⟩,u⟩:=j
 cases c:(ops[m]?).bind jU with
 |none=>rw[c] at b;cases b
 |some v=>
  cases d:(ops[m+1]?).bind jU with
  |none=>rw[c,d] at b;cases b
  |some w=>
   obtain ⟨t1,d1⟩:=v
   obtain ⟨x,d2⟩:=w
   rw[d] at g
   obtain rfl:x=t2:=by simpa using g
   rw[c,d] at b
   obtain ⟨o1,e1,a1⟩:=Option.bind_eq_some_iff.1 c
   obtain ⟨o2,e2,a2⟩:=Option.bind_eq_some_iff.1 d
   have hd:¬d1=d2:=by simpa using b
   have y:ops.toList.drop m=o1::o2::ops.toList.drop (m+2):=by
    obtain ⟨z,c1⟩:=Array.getElem?_eq_some_iff.1 e1
    obtain ⟨b2,c2⟩:=Array.getElem?_eq_some_iff.1 e2
    rw[List.drop_eq_getElem_cons (l:=ops.toList) (i:=m) (by simpa using z),List.drop_eq_getElem_cons (l:=ops.toList) (i:=m+1) (by simpa using b2)]
    simp[c1,c2]
   refine tX hJ (Knows F0) n ?_
   rw[<-zj]
   have:=qU (P:=P) (J:=J) (Q:=Q .normal) m (by omega) h1 (fun i hi=>by have:=h3 i (by omega);simpa using this) e (fun a' k=>by
    rw[y] at k
    exact Eh (F0:=F0) m hm e1 e2 a1 a2 p hd rfl r s t u e k) _ 0 true a (by simp) (Nat.zero_le _) h
   simpa using this
end
def pick (ops:Array Oper):List Nat->List Oper
 |[]=>[]
 |i::is=>match ops[i]? with
  |some o=>o::pick ops is
  |none=>pick ops is
def uT:List Nat->Array Bool->Array Bool
 |[],L=>L
 |i::is,L=>uT is (L.setIfInBounds i true)
def q3 (ops:Array Oper):List Nat->Array Bool->Bool
 |[],_=>true
 |i::is,L=>Region.free .any ops L i&&(Region.ready .any ops L).contains i&&(ops[i]?).isSome&&q3 ops is (L.setIfInBounds i true)
def o8 (ops:Array Oper):List Nat->Array Bool->Bool
 |[],L=>decide (Region.ready .any ops L=[])
 |i::is,L=>decide (Region.ready .any ops L=[i])&&(ops[i]?).isSome&&o8 ops is (L.setIfInBounds i true)
def zH (ops:Array Oper)(is a:List Nat):Bool:=
 Region.noSelect ops&&q3 ops is (Array.replicate ops.size false)&&o8 ops a (uT is (Array.replicate ops.size false))&&decide (is.length+a.length=ops.size)
section
variable {P : Program} {main : Bool} {J : Goroutine → af → Prop} {ops : Array Oper} {Q : Act → af → Prop} {F0 : af}
theorem zI {K:Act->Prop}(m:Region.noSelect ops=true){F:af}(b:Knows F0 F)(fuel:Nat):
  ∀(is:List Nat) (L:Array Bool) (go:Bool) (a:Act),q3 ops is L=true->dV P J ops F0 K (pick ops is) go a->(∀a',K a'->dH P J ops Q (Knows F0) fuel (uT is L) a' F)->
   dH P J ops Q (Knows F0) (fuel+is.length) L a F
 |[],L,go,a,_,h,k=>by unfold pick dV at h;exact k a h
 |i::is,L,go,a,n,h,k=>by
  simp only[q3,Bool.and_eq_true] at n
  obtain ⟨⟨⟨c1,c2⟩,c3⟩,c4⟩:=n
  obtain ⟨o,c⟩:=Option.isSome_iff_exists.1 c3
  have g:(Region.noSelect ops&&Region.free .any ops L i&&(Region.ready .any ops L).contains i)=true:=by rw[m,c1,c2];rfl
  have p:pick ops (i::is)=o::pick ops is:=by simp only[pick,c]
  rw[p] at h
  have e:fuel+(i::is).length=(fuel+is.length)+1:=by simp only[List.length_cons];omega
  rw[e]
  have next:∀go v,dV P J ops F0 K (pick ops is) go (aZ a o.dst v)->dH P J ops Q (Knows F0) (fuel+is.length) (L.setIfInBounds i true) (aZ a o.dst v) F:=fun go v d=>
   zI m b fuel is _ go _ c4 d k
  unfold dV at h
  split at h
  ·rename_i hg
   exact zd i c g hg b (next true undef h)
  ·rename_i hg
   split at h
   ·rename_i t x l
    split at h
    case h_2=>exact h.elim
    rename_i ad q
    split at h
    case h_2=>exact h.elim
    rename_i v d
    refine mZ i v c g hg (fun F R j f=>?_) b (next _ v h)
    unfold cG
    simp only[l,q,j.e4 d]
    exact f
   ·rename_i x args argTypes l
    split at h
    case h_2=>exact h.elim
    rename_i fn first captured r
    obtain ⟨s,v,u,h⟩:=h
    refine mZ i v c g hg (fun F R j f=>?_) b (next _ v h)
    unfold cG
    simp only[l,r]
    exact ⟨s,(u F j).mono fun y F' w=>by obtain ⟨rfl,rfl⟩:=w;exact f⟩
   ·split at h
    case h_2=>exact h.elim
    rename_i v d
    exact mZ i v c g hg (fun F R j f=>qS d f) b (next _ v h)
  ·exact h.elim
theorem zJ:∀(b:List Nat) (L:Array Bool) (go:Bool) (a:Act) (F:af),o8 ops b L=true->eC P J ops F0 Q (pick ops b) go a F->dH P J ops Q (Knows F0) b.length L a F
 |[],L,go,a,F,c,h=>by
  simp only[o8,decide_eq_true_eq] at c
  unfold pick eC at h
  exact yI c h _
 |j::b,L,go,a,F,c,h=>by
  simp only[o8,Bool.and_eq_true,decide_eq_true_eq] at c
  obtain ⟨⟨c1,c3⟩,c4⟩:=c
  obtain ⟨o,d⟩:=Option.isSome_iff_exists.1 c3
  have e:pick ops (j::b)=o::pick ops b:=by simp only[pick,d]
  rw[e] at h
  unfold eC at h
  split at h
  ·rename_i hg
   refine ze j d c1 hg ?_
   refine lS.qV ?_ h
   rintro v F' ⟨h1,h2⟩
   exact ⟨h1,zJ b _ _ _ F' c4 h2⟩
  ·exact h.elim
theorem Ei {Q:Ex->Act->af->Prop}(hJ:Closed P main J)(d:P.follows .mixedOrders=true)(is b:List Nat){id:Nat}{a:Act}{F:af}(F0:af)(e:Knows F0 F)(c:zH ops is b=true)
  (h:dV P J ops F0 (fun a'=>eC P J ops F0 (Q .normal) (pick ops b) true a' F) (pick ops is) true a):Wp J (.region id ops true) Q a F:=by
 simp only[zH,Bool.and_eq_true,decide_eq_true_eq] at c
 obtain ⟨⟨⟨h1,h2⟩,h3⟩,g⟩:=c
 refine tX hJ (Knows F0) d ?_
 have:=zI (P:=P) (J:=J) (Q:=Q .normal) h1 e b.length is _ true a h2 h (fun a' f=>zJ b _ true a' F h3 f)
 rwa [show b.length+is.length=ops.size by omega] at this
end
attribute [go_sem] pick
inductive jV where
 |done
 |rd (i:Nat) (p:jV)
 |one (i:Nat) (p:jV)
 |two (i:Nat) (p:jV) (j:Nat) (q:jV)
inductive kS where
 |done
 |rd (o:Oper) (p:kS)
 |one (o:Oper) (p:kS)
 |two (o:Oper) (p:kS) (o':Oper) (q:kS)
 |bad
def jV.opers (ops:Array Oper):jV->kS
 | .done=>.done
 | .rd i p=>match ops[i]? with
  |some o=>.rd o (p.opers ops)
  |none=>.bad
 | .one i p=>match ops[i]? with
  |some o=>.one o (p.opers ops)
  |none=>.bad
 | .two i p j q=>match ops[i]?,ops[j]? with
  |some o,some o'=>.two o (p.opers ops) o' (q.opers ops)
  |_,_=>.bad
def jV.len:jV->Nat
 | .done=>0
 | .rd _ p=>p.len+1
 | .one _ p=>p.len+1
 | .two _ p _ q=>max p.len q.len+1
def fI (P:Program)(J:Goroutine->af->Prop)(ops:Array Oper)(F0:af)(Q:Act->af->Prop):kS->Bool->Act->af->Prop
 | .done,_,a,F=>Q a F
 | .bad,_,_,_=>False
 | .rd o p,_,a,F=>match cz ops o a with
  |some false=>fI P J ops F0 Q p true (aZ a o.dst undef) F
  |some true=>match o.op with
   | .load t x=>match ev a x with
    | .pointer (some ad)=>match e4 P F0 t ad with
     |some v=>fI P J ops F0 Q p true (aZ a o.dst v) F
     |none=>False
    |_=>False
   | .call {callee:=.value x,args, ..}=>match ev a x with
    | .func (.func fn) first captured=>aI P fn=true/\∃v,Plain P J F0 fn (first++args.map (ev a)++captured) v/\fI P J ops F0 Q p false (aZ a o.dst v) F
    |_=>False
   |_=>match iE P o a with
    |some v=>fI P J ops F0 Q p true (aZ a o.dst v) F
    |none=>False
  |none=>False
 | .one o p,_,a,F=>match cz ops o a with
  |some true=>cG P J o (fun v F'=>Knows F0 F'/\fI P J ops F0 Q p (!Oper.calls o) (aZ a o.dst v) F') a F
  |_=>False
 | .two o p o' q,_,a,F=>(match cz ops o a with
  |some true=>cG P J o (fun v F'=>Knows F0 F'/\fI P J ops F0 Q p (!Oper.calls o) (aZ a o.dst v) F') a F
  |_=>False)/\(match cz ops o' a with
  |some true=>cG P J o' (fun v F'=>Knows F0 F'/\fI P J ops F0 Q q (!Oper.calls o') (aZ a o'.dst v) F') a F
  |_=>False)
section
variable {P : Program} {main : Bool} {J : Goroutine → af → Prop} {ops : Array Oper} {Q : Act → af → Prop} {F0 : af}
end
theorem Ej {P:Program}{J:Goroutine->af->Prop}{ops:Array Oper}{F0:af}{Q:Act->af->Prop}{go:Bool}{a:Act}{F:af}:fI P J ops F0 Q .done go a F=Q a F:=rfl
theorem Ek {P:Program}{J:Goroutine->af->Prop}{ops:Array Oper}{F0:af}{Q:Act->af->Prop}{o:Oper}{p:kS}{a:Act}{F:af}:fI P J ops F0 Q (.rd o p) true a F=match cz ops o a with
  |some false=>fI P J ops F0 Q p true (aZ a o.dst undef) F
  |some true=>match o.op with
   | .load t x=>match ev a x with
    | .pointer (some ad)=>match e4 P F0 t ad with
     |some v=>fI P J ops F0 Q p true (aZ a o.dst v) F
     |none=>False
    |_=>False
   | .call {callee:=.value x,args, ..}=>match ev a x with
    | .func (.func fn) first captured=>aI P fn=true/\∃v,Plain P J F0 fn (first++args.map (ev a)++captured) v/\fI P J ops F0 Q p false (aZ a o.dst v) F
    |_=>False
   |_=>match iE P o a with
    |some v=>fI P J ops F0 Q p true (aZ a o.dst v) F
    |none=>False
  |none=>False:=(Eq.refl _).trans (Eq.refl _)
theorem El {P:Program}{J:Goroutine->af->Prop}{ops:Array Oper}{F0:af}{Q:Act->af->Prop}{o:Oper}{p:kS}{a:Act}{F:af}:fI P J ops F0 Q (.one o p) true a F=match cz ops o a with
  |some true=>cG P J o (fun v F'=>Knows F0 F'/\fI P J ops F0 Q p (!Oper.calls o) (aZ a o.dst v) F') a F
  |_=>False:=(Eq.refl _).trans (Eq.refl _)
attribute [irreducible] fI
attribute [go_sem] Ej Ek El jV.opers
theorem zK {F:af}{a:Addr}:∀(cs:List Value) (i:Nat),(∀j v,cs[j]?=some v->F.get (a.add (i+j))=some v)->F.dg a i cs.length=some cs
 |[],i,_=>rfl
 |v::cs,i,h=>by
  have h0:=h 0 v rfl
  rw[Nat.add_zero] at h0
  have ih:=zK cs (i+1) (fun j w hw=>by
   have:=h (j+1) w (by simpa using hw)
   rwa [show i+(j+1)=i+1+j by omega] at this)
  simp only[List.length_cons,af.dg,h0,ih]
theorem zL {F:af}{a:Addr}:∀(m i k:Nat) (c b:List Value),F.dg a i m=some c->F.dg a (i+m) k=some b->F.dg a i (m+k)=some (c++b)
 |0,i,k,c,b,h1,h2=>by
  simp only[af.dg,Option.some.injEq] at h1
  subst h1
  rw[Nat.zero_add]
  simpa using h2
 |m+1,i,k,c,b,h1,h2=>by
  unfold af.dg at h1
  split at h1
  case h_2=>cases h1
  rename_i v d
  split at h1
  case h_2=>cases h1
  rename_i e f
  cases h1
  have ih:=zL m (i+1) k e b f (by rwa [show i+1+m=i+(m+1) by omega])
  rw[show m+1+k=(m+k)+1 by omega]
  simp only[af.dg,d,ih,List.cons_append]
theorem aA.cells {T:Type}{r:b9 T}{ro:Addr->Option Value}{ad:Option Addr}{c:Nat}{l:List T}(h:aA r ro (.slice ad l.length c) l)(F:af)(s:∀a v,ro a=some v->F.get a=some v):
  ∃b:List (List Value),b.length=l.length/\(∀x∈b,x.length=r.n/\∀v∈x,bx v=true)/\(∀(i:Nat) (x:T),l[i]?=some x->∃cs,b[i]?=some cs/\r.rel ro x cs)/\fQ F r.n (.slice ad l.length c)=some b.flatten:=by
 obtain ⟨B,C,e,_,_,he⟩:=h
 cases e
 cases f:l with
 |nil=>subst f;refine ⟨[],rfl,by simp,by simp,?_⟩;cases ad<;>simp[fQ,af.dg]
 |cons t l0=>
  obtain ⟨p,D,u,-,-⟩:=he 0 t (by rw[f];rfl)
  subst u
  rw[<-f]
  have key:∀k,k<=l.length->∃b:List (List Value),b.length=k/\(∀x∈b,x.length=r.n/\∀v∈x,bx v=true)/\(∀(i:Nat) (x:T),i<k->l[i]?=some x->∃cs,b[i]?=some cs/\r.rel ro x cs)/\F.dg p 0 (k*r.n)=some b.flatten:=by
   intro k
   induction k with
   |zero=>intro _;exact ⟨[],rfl,by simp,by simp,by simp[af.dg]⟩
   |succ k ih=>
    intro hk
    obtain ⟨b,h1,h2,h3,m⟩:=ih (by omega)
    have d:l[k]?=some l[k]:=List.getElem?_eq_getElem (by omega)
    obtain ⟨E,cs,w,o,hm⟩:=he k _ d
    cases w
    have hn:=r.len o
    refine ⟨b++[cs],by simp[h1],fun y z=>?_,fun i x hi q=>?_,?_⟩
    ·rcases List.mem_append.1 z with h|h
     ·exact h2 y h
     ·simp only[List.mem_singleton] at h;subst h;exact ⟨hn,r.one o⟩
    ·rcases Nat.lt_or_ge i k with h|h
     ·obtain ⟨cs',a1,a2⟩:=h3 i x h q
      exact ⟨cs',by rw[List.getElem?_append_left (by omega)];exact a1,a2⟩
     ·have:i=k:=by omega
      subst this
      rw[d] at q
      obtain rfl:=Option.some.inj q
      exact ⟨cs,by rw[List.getElem?_append_right (by omega)];simp[h1],o⟩
    ·rw[Nat.succ_mul]
     have g:=zK (F:=F) (a:=p) cs (k*r.n) (fun j v A=>s _ _ (by have:=hm j v A;rwa [kK] at this))
     rw[hn] at g
     have:=zL (k*r.n) 0 r.n b.flatten cs m (by rw[Nat.zero_add];exact g)
     rw[this]
     simp
  obtain ⟨b,h1,h2,h3,m⟩:=key l.length (Nat.le_refl _)
  exact ⟨b,h1,h2,fun i x d=>h3 i x (List.getElem?_eq_some_iff.1 d).1 d,m⟩
theorem aV.empty {T:Type}{r:b9 T}{ro:Addr->Option Value}{e:TypeId}{b:Nat}(a:∀off sp,ro ⟨b,off,sp⟩=none):aV r ro e (.slice (some ⟨b,0,none⟩) 0 0) [] [(b,.cells #[] e)]:=
 ⟨[],.inr ⟨b,#[],0,rfl,rfl,by simp,Nat.le_refl _,by simp,by simp,a⟩,rfl,by simp,fun i x h=>by simp at h⟩
theorem zM {ro:Addr->Option Value}{x:Nat×Obj}{l:List (Nat×Obj)}:Le ⟨ro,l++[x]⟩ ⟨ro,x::l⟩:=by
 have hk:∀b,b∈keys (l++[x])↔b∈keys (x::l):=fun b=>by
  simp only[keys,List.map_append,List.map_cons,List.map_nil,List.mem_append,List.mem_cons,List.not_mem_nil,or_false]
  exact Or.comm
 refine ⟨fun w hw=>⟨hw.ro,fun b o hb=>hw.own b o ?_,?_,fun a v h hm=>hw.apart a v h ((hk _).1 hm)⟩,fun b hb=>(hk b).1 hb,fun a c=>.inl c⟩
 ·rcases List.mem_append.1 hb with h|h
  ·exact List.mem_cons_of_mem _ h
  ·simp only[List.mem_singleton] at h;rw[h];exact List.mem_cons_self
 ·have:=hw.nodup
  simp only[keys,List.map_cons,List.nodup_cons] at this
  simp only[keys,List.map_append,List.map_cons,List.map_nil]
  rw[List.nodup_append]
  refine ⟨this.2,by simp,fun a c b hb e=>?_⟩
  simp only[List.mem_singleton] at hb
  subst hb
  exact this.1 (e▸c)
theorem o9 {P:Program}{T:Type}{r:b9 T}{ro:Addr->Option Value}{rest:List (Nat×Obj)}{ks:List Nat}{R:Value->af->Prop}{argTypes:Array TypeId}{l m e w:TypeId}{f b c:Nat}{ad:Option Addr}{z:Value}{xs:List T}
  (y:∀off sp,ro ⟨b,off,sp⟩=none) (A:au rest b) (o:keys rest=ks) (hlen:xs.length<=1000000) (B:aA r ro (.slice ad xs.length c) xs)
  (h0:argTypes[0]?=some l) (h1:argTypes[1]?=some m) (he:cX P l=some e) (C:cX P m=some w) (hs:bW P e=some r.n) (D:zeroOf P e=some z) (E:z.cells.size=r.n) (hb:bytesOf P e=some f)
  (F:0<f) (G:f<=10000)
  (p:∀v g,aV r ro e v xs g->Apart ks g->R v ⟨ro,rest++g⟩):lP P argTypes (.slice (some ⟨b,0,none⟩) 0 0) (.slice ad xs.length c) R ⟨ro,(b,.cells #[] e)::rest⟩:=by
 intro ty
 obtain ⟨d,k1,H,I,J⟩:=B.cells ⟨ro,(b,.cells #[] e)::rest⟩ (fun a v h=>by simp[af.get,h])
 have q:∀x∈d,x.length=r.n:=fun x h=>(H x h).1
 have i:=gX q
 refine uz (old:=[]) h0 h1 he C hs D hb F G (by simpa using hlen) (by simp[fQ,af.dg]) J (fun K=>?_) (fun K k s hk t=>?_)
 ·have hn:xs.length=0:=by omega
  have L:xs=[]:=List.eq_nil_of_length_eq_zero hn
  have M:d=[]:=List.eq_nil_of_length_eq_zero (by omega)
  subst L M
  refine .inl ⟨_,_,rfl,rfl,⟨ro,rest++[(b,.cells #[] e)]⟩,zM,p _ _ (aV.empty y) fun k hk=>?_⟩
  simp only[keys,List.map_cons,List.map_nil,List.mem_singleton] at hk
  subst hk
  rw[<-o]
  exact kN A
 ·refine ⟨⟨ro,rest++[(s,.cells (([]:List Value).toArray++d.flatten.toArray++Builtin.zeroCells z.cells (k - (0+xs.length))) e)]⟩,zM.trans (Le.sub (.cons₂ _ (.cons _ (List.Sublist.refl _)))),p _ _ ?_ fun j u=>?_⟩
  ·refine ⟨d,.inr ⟨s,_,k,by rw[k1,Nat.zero_add],rfl,?_,by omega,?_,q,t.ro⟩,k1,hlen,I⟩
   ·simp only[List.nil_append,Array.size_append,List.size_toArray,List.length_nil,Builtin.zeroCells,Array.size_map,Array.size_range,i,E,k1]
    rw[Nat.zero_add,<-Nat.add_mul]
    congr 1;omega
   ·simp only[Array.toList_append,List.nil_append]
    rw[List.take_append_of_le_length (by simp[i])]
    rw[List.take_of_length_le (by simp[i])]
  ·simp only[keys,List.map_cons,List.map_nil,List.mem_singleton] at u
   subst u
   rw[<-o]
   exact kN t.own.2
theorem q4:∀{pre bf:List (Nat×Obj)} {b:Nat} {o:Obj},au pre b->lk (pre++((b,o)::bf)) b=some o
 |[],bf,b,o,_=>by simp[lk]
 |(c,x)::pre,bf,b,o,h=>by
  have a:¬c=b:=fun e=>h.1 e.symm
  simp[lk,a,q4 h.2]
theorem zN:∀{pre bf:List (Nat×Obj)} {b:Nat} {o x:Obj},au pre b->iz (pre++((b,o)::bf)) b x=pre++((b,x)::bf)
 |[],bf,b,o,x,_=>by simp[iz]
 |(c,y)::pre,bf,b,o,x,h=>by
  have a:¬c=b:=fun e=>h.1 e.symm
  simp[iz,a,zN h.2]
theorem uU {ro:Addr->Option Value}{pre bf:List (Nat×Obj)}{b:Nat}{e:TypeId}(c:au pre b)(o:Nat):∀(a:List Value) (arr:Array Value) (i:Nat),(∀v∈a,bx v=true)->o+i+a.length<=arr.size->
  af.jf ⟨ro,pre++((b,.cells arr e)::bf)⟩ ⟨b,o,none⟩ i a=some ⟨ro,pre++((b,.cells (dO arr (o+i) a) e)::bf)⟩
 |[],arr,i,_,_=>rfl
 |v::a,arr,i,h1,h=>by
  simp only[List.length_cons] at h
  have d:(⟨b,o,none⟩:Addr).add i=⟨b,o+i,none⟩:=by
   unfold Addr.add
   split
   ·rename_i hi;subst hi;rfl
   ·rfl
  unfold af.jf
  have:af.lE ⟨ro,pre++((b,.cells arr e)::bf)⟩ ((⟨b,o,none⟩:Addr).add i) v=some ⟨ro,pre++((b,.cells (arr.setIfInBounds (o+i) v) e)::bf)⟩:=by
   have f:o+i<arr.size:=by omega
   simp[af.lE,d,q4 c,h1 v (by simp),f,frozenAt,af.put,zN c]
  rw[this]
  simp only
  rw[uU c o a _ (i+1) (fun x g=>h1 x (by simp[g])) (by simp;omega)]
  rw[dO]
  congr 1
theorem zO {ro:Addr->Option Value}{pre bf:List (Nat×Obj)}{b:Nat}{e:TypeId}{arr:Array Value}(a:au pre b)(c:∀off sp,ro ⟨b,off,sp⟩=none):∀(n i:Nat),i+n<=arr.size->
  af.dg ⟨ro,pre++((b,.cells arr e)::bf)⟩ ⟨b,0,none⟩ i n=some ((arr.toList.drop i).take n)
 |0,i,_=>by simp[af.dg]
 |n+1,i,h=>by
  have f:(⟨b,0,none⟩:Addr).add i=⟨b,i,none⟩:=by
   unfold Addr.add
   split
   ·rename_i hi;subst hi;rfl
   ·simp
  have d:i<arr.size:=by omega
  unfold af.dg
  have ih:=zO (e:=e) (arr:=arr) (bf:=bf) a c n (i+1) (by omega)
  simp only[af.get,f,c,if_true,q4 a,Option.bind_some,cellOf,Array.getElem?_eq_getElem d,ih]
  have g:i<arr.toList.length:=by simpa using d
  rw[List.drop_eq_getElem_cons g,List.take_succ_cons]
  simp
theorem Gr.Em {ro:Addr->Option Value}{e:TypeId}{size:Nat}{v:Value}{l:List (List Value)}{aS pre bf:List (Nat×Obj)}(h:Gr ro e size v l aS)(a:∀k∈keys aS,au pre k):
  Go.Sep.fQ ⟨ro,pre++(aS++bf)⟩ size v=some l.flatten:=by
 rcases h with ⟨rfl,rfl,rfl⟩|⟨b,arr,cap,rfl,rfl,hs,c,ht,f,d⟩
 ·rfl
 ·simp only[Go.Sep.fQ,List.cons_append,List.nil_append]
  have hle:l.length*size<=arr.size:=by rw[hs];exact Nat.mul_le_mul_right _ c
  rw[zO (a b (by simp[keys])) d _ _ (by omega)]
  simp[ht]
theorem Le.ps {ro:Addr->Option Value}{l m l':List (Nat×Obj)}(d:l.Perm m)(hs:m.Sublist l'):Le ⟨ro,l⟩ ⟨ro,l'⟩:=by
 have hk:(keys m).Sublist (keys l'):=hs.map _
 have c:(keys l).Perm (keys m):=d.map _
 exact ⟨fun w hw=>⟨hw.ro,fun b o hb=>hw.own b o (hs.subset (d.subset hb)),c.nodup_iff.2 (hk.nodup hw.nodup),fun a v e hm=>hw.apart a v e (hk.subset (c.subset hm))⟩,fun b hb=>hk.subset (c.subset hb),fun a f=>.inl f⟩
structure aM (ks:List Nat):Prop where
 nd:ks.Nodup
abbrev Nd (l:List (Nat×Obj)):Prop:=(keys l).Nodup
theorem Nd.fresh {pre aS bf:List (Nat×Obj)}(h:Nd (pre++(aS++bf))):∀k∈keys aS,au pre k:=fun k hk=>by
 refine lU fun hm=>?_
 simp only[Nd,cm] at h
 exact (List.nodup_append.1 h).2.2 k hm k (List.mem_append_left _ hk) rfl
theorem Nd.push {l:List (Nat×Obj)}{b:Nat}{o:Obj}(h:Nd l)(hb:au l b):Nd ((b,o)::l):=by
 simp only[Nd,keys,List.map_cons,List.nodup_cons]
 exact ⟨kN hb,h⟩
theorem Nd.drop {pre aS bf:List (Nat×Obj)}(h:Nd (pre++(aS++bf))):Nd (pre++bf):=
 ((List.Sublist.append_left (List.sublist_append_right aS bf) pre).map _).nodup h
theorem Nd.ins {pre aS bf:List (Nat×Obj)}{b:Nat}{o:Obj}(h:Nd (pre++(aS++bf)))(hb:au (pre++(aS++bf)) b):Nd (pre++([(b,o)]++bf)):=by
 have h2:Nd ((b,o)::(pre++bf)):=h.drop.push (lU fun hm=>kN hb (((List.Sublist.append_left (List.sublist_append_right aS bf) pre).map _).subset hm))
 have:(pre++([(b,o)]++bf)).Perm ((b,o)::(pre++bf)):=List.perm_middle
 exact (this.map _).nodup_iff.2 h2
section
variable {P : Program}
theorem zP {ro:Addr->Option Value}{pre aS bf:List (Nat×Obj)}{R:Value->af->Prop}{argTypes:Array TypeId}{ty A B e M:TypeId}{size o n c:Nat}{C:Option Addr}{s z:Value}{l xs:List (List Value)}
  (h0:argTypes[0]?=some A) (h1:argTypes[1]?=some B) (he:cX P A=some e) (d:cX P B=some M) (hs:bW P e=some size) (D:zeroOf P e=some z) (N:z.cells.size=size) (hb:bytesOf P e=some o)
  (E:0<o) (G:o<=10000) (hg:Gr ro e size s l aS) (i:Nd (pre++(aS++bf))) (hn:n=xs.length) (H:∀x∈xs,x.length=size/\∀v∈x,bx v=true) (I:fQ ⟨ro,pre++(aS++bf)⟩ size (.slice C n c)=some xs.flatten)
  (J:l.length+xs.length<=1000000)
  (p:∀v q,Gr ro e size v (l++xs) q->Nd (pre++(q++bf))->∃F0,Le F0 ⟨ro,pre++(q++bf)⟩/\R v F0):
  aT P (Builtin.append_ argTypes ty #[s,.slice C n c]) (fun v F=>∃F0,Le F0 F/\R v F0) ⟨ro,pre++(aS++bf)⟩:=by
 subst hn
 have K:=i.fresh
 have hold:=hg.Em (bf:=bf) K
 have r:∀x∈xs,x.length=size:=fun x h=>(H x h).1
 have a:=gX r
 have out:∀(k b:Nat) (old:List Value),old=l.flatten->(∀x∈l,x.length=size)->l.length+xs.length<=k->dK ⟨ro,pre++(aS++bf)⟩ b->
   ∃F0,Le F0 (af.push ⟨ro,pre++(aS++bf)⟩ b (.cells (old.toArray++xs.flatten.toArray++Builtin.zeroCells z.cells (k - (l.length+xs.length))) e))/\R (.slice (some ⟨b,0,none⟩) (l.length+xs.length) k) F0:=by
  intro k b old O t hk f
  subst O
  have u:=gX t
  have w:=p (.slice (some ⟨b,0,none⟩) (l.length+xs.length) k) [(b,.cells (l.flatten.toArray++xs.flatten.toArray++Builtin.zeroCells z.cells (k - (l.length+xs.length))) e)] (.inr ⟨b,_,k,by simp,rfl,?_,by simpa using hk,?_,?_,f.ro⟩) (i.ins f.own)
  ·obtain ⟨F0,hle,w⟩:=w
   refine ⟨F0,hle.trans ?_,w⟩
   exact Le.ps (m:=(b,.cells (l.flatten.toArray++xs.flatten.toArray++Builtin.zeroCells z.cells (k - (l.length+xs.length))) e)::(pre++bf)) List.perm_middle (.cons₂ _ (List.Sublist.append_left (List.sublist_append_right aS bf) pre))
  ·simp only[Array.size_append,List.size_toArray,Builtin.zeroCells,Array.size_map,Array.size_range,u,a,N]
   rw[<-Nat.add_mul,<-Nat.add_mul]
   congr 1;omega
  ·simp only[Array.toList_append,List.length_append,List.flatten_append]
   rw[List.take_append_of_le_length (by simp[u,a,Nat.add_mul])]
   rw[List.take_of_length_le (by simp[u,a,Nat.add_mul])]
  ·intro x d
   rcases List.mem_append.1 d with h|h
   ·exact t x h
   ·exact r x h
 rcases id hg with ⟨rfl,rfl,rfl⟩|⟨b,arr,cap,rfl,rfl,y,t,ht,j,Q⟩
 ·refine uz h0 h1 he d hs D hb E G (by simpa using J) hold I (fun g=>.inr ⟨rfl,?_⟩) (fun g k b hk f=>?_)
  ·have:xs=[]:=List.eq_nil_of_length_eq_zero (by omega)
   subst this
   exact p _ _ (.inl ⟨rfl,rfl,rfl⟩) i
  ·have:=out k b [] rfl (by simp) (by simpa using hk) f
   simpa using this
 ·refine uz h0 h1 he d hs D hb E G J hold I (fun g=>.inl ⟨_,⟨ro,pre++([(b,.cells (dO arr (l.length*size) xs.flatten) e)]++bf)⟩,rfl,?_,?_⟩) (fun g k S hk f=>out k S _ rfl j hk f)
  ·have T:(⟨b,0,none⟩:Addr).add (l.length*size)=⟨b,l.length*size,none⟩:=by
    unfold Addr.add
    split
    ·rename_i hi;rw[hi]
    ·simp
   rw[T]
   have L:l.length*size+xs.length*size<=arr.size:=by rw[y,<-Nat.add_mul];exact Nat.mul_le_mul_right _ g
   have:=uU (ro:=ro) (e:=e) (bf:=bf) (K b (by simp[keys])) (l.length*size) xs.flatten arr 0 (fun v U=>by
    obtain ⟨x,V,W⟩:=List.mem_flatten.1 U
    exact (H x V).2 v W) (by rw[a];omega)
   simpa using this
  ·refine p _ _ (.inr ⟨b,_,cap,by simp,rfl,by rw[qM];exact y,by simpa using g,?_,?_,Q⟩) (by simpa [Nd,keys] using i)
   ·have L:l.length*size+xs.length*size<=arr.size:=by rw[y,<-Nat.add_mul];exact Nat.mul_le_mul_right _ g
    rw[qN _ _ _ (by rw[a];exact L),ht,List.length_append,List.flatten_append,a]
    rw[List.take_append_of_le_length (by simp[gX j,a,Nat.add_mul])]
    rw[List.take_of_length_le (by simp[gX j,a,Nat.add_mul])]
   ·intro x d
    rcases List.mem_append.1 d with h|h
    ·exact j x h
    ·exact r x h
theorem zQ:∀{pre own:List (Nat×Obj)} {b:Nat} {o:Obj},lk pre b=some o->lk (pre++own) b=some o
 |(c,x)::pre,own,b,o,h=>by
  simp only[List.cons_append,lk] at h ⊢
  split
  ·rename_i a;rw[if_pos a] at h;exact h
  ·rename_i a;rw[if_neg a] at h;exact zQ h
theorem zR {ro:Addr->Option Value}{own:List (Nat×Obj)}{b:Nat}{cs:Array Value}{e:TypeId}(a:lk own b=some (.cells cs e))(c:∀off sp,ro ⟨b,off,sp⟩=none):∀n i,i+n<=cs.toList.length->af.dg ⟨ro,own⟩ ⟨b,0,none⟩ i n=some ((cs.toList.drop i).take n)
 |0,i,_=>by simp[af.dg]
 |n+1,i,hi=>by
  have d:i<cs.toList.length:=by omega
  unfold af.dg
  have f:(⟨b,0,none⟩:Addr).add i=⟨b,i,none⟩:=by
   unfold Addr.add
   split
   ·rename_i hi;subst hi;rfl
   ·simp
  have g:i<cs.size:=by simpa using d
  simp only[af.get,f,c,if_true,a,Option.bind_some,cellOf,Array.getElem?_eq_getElem g,zR a c n (i+1) (by omega)]
  rw[List.drop_eq_getElem_cons d,List.take_succ_cons]
  simp
theorem aV.more {T:Type}{r:b9 T}{ro:Addr->Option Value}{e:TypeId}{l xs:List T}{ls ys:List (List Value)}{v:Value}{a:List (Nat×Obj)}(hg:Gr ro e r.n v (ls++ys) a)(b:ls.length=l.length)(c:ys.length=xs.length)
  (d:∀(i:Nat) (x:T),l[i]?=some x->∃cs:List Value,ls[i]?=some cs/\r.rel ro x cs) (f:∀(i:Nat) (x:T),xs[i]?=some x->∃cs:List Value,ys[i]?=some cs/\r.rel ro x cs) (hn:l.length+xs.length<=1000000):aV r ro e v (l++xs) a:=by
 refine ⟨_,hg,by simp[b,c],by simpa using hn,fun i y hi=>?_⟩
 rcases Nat.lt_or_ge i l.length with h|h
 ·rw[List.getElem?_append_left h] at hi
  rw[List.getElem?_append_left (by omega)]
  exact d i y hi
 ·rw[List.getElem?_append_right h] at hi
  rw[List.getElem?_append_right (by omega),b]
  exact f _ y hi
theorem zS {T:Type}{r:b9 T}{ro:Addr->Option Value}{aS:List (Nat×Obj)}{R:Value->af->Prop}{argTypes:Array TypeId}{g h e p e2:TypeId}{b c:Nat}{s z:Value}{l:List T}{x:T}{cs:Array Value}{own:List (Nat×Obj)}(pre bf:List (Nat×Obj))(q:own=pre++(aS++bf))
  (hg:aV r ro e s l aS) (t:aM (keys own)) (j:l.length+[x].length<=1000000) (d:r.rel ro x cs.toList) (u:lk pre c=some (.cells cs e2)) (w:∀off sp,ro ⟨c,off,sp⟩=none)
  (h0:argTypes[0]?=some g) (h1:argTypes[1]?=some h) (he:cX P g=some e) (A:cX P h=some p) (hs:bW P e=some r.n) (B:zeroOf P e=some z) (C:z.cells.size=r.n) (hb:bytesOf P e=some b)
  (D:0<b) (E:b<=10000)
  (F:∀v a,aV r ro e v (l++[x]) a->∀f,f=pre++(a++bf)->aM (keys f)->∃F0,Le F0 ⟨ro,f⟩/\R v F0):lP P argTypes s (.slice (some ⟨c,0,none⟩) 1 1) R ⟨ro,own⟩:=by
 subst q
 obtain ⟨ls,G,k,hm,H⟩:=hg
 have I:=t.nd
 intro ty
 have hlen:cs.toList.length=r.n:=r.len d
 refine zP (xs:=[cs.toList]) (e:=e) (size:=r.n) (z:=z) (l:=ls) h0 h1 he A hs B C hb D E G I rfl (fun y o=>?_) ?_ (by simpa [k] using j) (fun v a J K=>F v a (aV.more J k rfl H (fun i y hi=>?_) j) _ rfl ⟨K⟩)
 ·simp only[List.mem_singleton] at o;subst o;exact ⟨hlen,r.one d⟩
 ·simp only[fQ,Nat.one_mul]
  rw[zR (zQ u) w _ _ (by omega)]
  rw[List.drop_zero,List.take_of_length_le (by omega)]
  simp
 ·cases i with
  |zero=>simp at hi;subst hi;exact ⟨cs.toList,rfl,d⟩
  |succ m=>simp at hi
theorem En {T:Type}{r:b9 T}{ro:Addr->Option Value}{aS:List (Nat×Obj)}{R:Value->af->Prop}{argTypes:Array TypeId}{g i e m:TypeId}{d c:Nat}{ad:Option Addr}{s z:Value}{l xs:List T}{own:List (Nat×Obj)}(pre bf:List (Nat×Obj))(o:own=pre++(aS++bf))
  (hg:aV r ro e s l aS) (p:aM (keys own)) (j:l.length+xs.length<=1000000) (q:aA r ro (.slice ad xs.length c) xs)
  (h0:argTypes[0]?=some g) (h1:argTypes[1]?=some i) (he:cX P g=some e) (t:cX P i=some m) (hs:bW P e=some r.n) (u:zeroOf P e=some z) (w:z.cells.size=r.n) (hb:bytesOf P e=some d)
  (x:0<d) (y:d<=10000)
  (A:∀v b,aV r ro e v (l++xs) b->∀f,f=pre++(b++bf)->aM (keys f)->∃F0,Le F0 ⟨ro,f⟩/\R v F0):lP P argTypes s (.slice ad xs.length c) R ⟨ro,own⟩:=by
 subst o
 obtain ⟨ls,B,k,hm,C⟩:=hg
 have D:=p.nd
 intro ty
 obtain ⟨E,k1,F,G,H⟩:=q.cells ⟨ro,pre++(aS++bf)⟩ (fun a v h=>by simp[af.get,h])
 exact zP (xs:=E) (e:=e) (size:=r.n) (z:=z) (l:=ls) h0 h1 he t hs u w hb x y B D k1.symm F H (by rw[k,k1];exact j) (fun v b I J=>A v b (aV.more I k k1 C G j) _ rfl ⟨J⟩)
theorem aV.g7 {T:Type}{r:b9 T}{ro:Addr->Option Value}{e:TypeId}{v:Value}{l:List T}{aS:List (Nat×Obj)}(h:aV r ro e v l aS){own:List (Nat×Obj)}(a pre bf:List (Nat×Obj))(d:own=pre++(aS++bf))(f:a=pre++bf)(g:aM (keys own))(hn:ay ro a):
  ∃aL,Ext ro aL/\ay aL a/\aA r aL v l/\Le ⟨aL,a⟩ ⟨ro,own⟩:=by
 subst d f
 have b:Nd (pre++(aS++bf)):=g.nd
 have i:Apart (keys (pre++bf)) aS:=fun k c hm=>by
  simp only[Nd,cm] at b
  have h2:=List.nodup_append.1 b
  simp only[cm,List.mem_append] at hm
  rcases hm with hm|hm
  ·exact h2.2.2 k hm k (List.mem_append_left _ c) rfl
  ·exact (List.nodup_append.1 h2.2.1).2.2 k c k hm rfl
 obtain ⟨aL,h1,h2,h3,j⟩:=h.zn (pre++bf) i rfl hn
 refine ⟨aL,h1,h2,h3,j.trans ?_⟩
 have m:((pre++bf)++aS).Perm (pre++(aS++bf)):=by
  rw[List.append_assoc]
  exact List.Perm.append_left pre List.perm_append_comm
 exact Le.ps m (List.Sublist.refl _)
theorem aV.setAt {T:Type}{r:b9 T}{ro:Addr->Option Value}{e:TypeId}{l:List T}{b n cap:Nat}{arr:Array Value}(h:aV r ro e (.slice (some ⟨b,0,none⟩) n cap) l [(b,.cells arr e)]){i:Nat}{x y:T}(hi:l[i]?=some x){cs:List Value}(m:r.rel ro y cs):
  aV r ro e (.slice (some ⟨b,0,none⟩) n cap) (l.set i y) [(b,.cells (dO arr (i*r.n) cs) e)]:=by
 obtain ⟨ls,hg,o,hm,p⟩:=h
 have B:i<l.length:=(List.getElem?_eq_some_iff.1 hi).1
 have a:=r.len m
 rcases hg with ⟨k,_,_⟩|⟨C,D,q,k,s,hs,hle,ht,c,t⟩
 ·cases k
 ·cases s
  obtain ⟨rfl,rfl⟩:n=ls.length/\cap=q:=by cases k;exact ⟨rfl,rfl⟩
  have u:i*r.n+cs.length<=arr.size:=by
   rw[hs,a,<-Nat.succ_mul]
   exact Nat.mul_le_mul_right _ (by omega)
  refine ⟨ls.set i cs,.inr ⟨b,_,cap,by simp,rfl,by rw[qM];exact hs,by simpa using hle,?_,?_,t⟩,by simp[o],by simpa using hm,fun j z d=>?_⟩
  ·rw[qN _ _ _ u]
   have E:=gX c
   have f:i<ls.length:=by omega
   have e1:(ls.set i cs).flatten=(ls.take i).flatten++cs++(ls.drop (i+1)).flatten:=by
    rw[List.set_eq_take_append_cons_drop,if_pos f]
    simp
   have e2:ls.flatten=(ls.take i).flatten++(ls.drop i).flatten:=by rw[<-List.flatten_append,List.take_append_drop]
   have t1:((ls.take i).flatten).length=i*r.n:=by rw[gX (fun x h=>c x (List.mem_of_mem_take h)),List.length_take,Nat.min_eq_left (by omega)]
   have v:(ls.drop i).flatten=ls[i]++(ls.drop (i+1)).flatten:=by rw[List.drop_eq_getElem_cons f,List.flatten_cons]
   have t2:ls[i].length=r.n:=c _ (List.getElem_mem f)
   have a1:arr.toList.take (i*r.n)=(ls.take i).flatten:=by
    have:=congrArg (List.take (i*r.n)) ht
    rw[List.take_take,Nat.min_eq_left (Nat.mul_le_mul_right _ (by omega)),e2,List.take_append_of_le_length (Nat.le_of_eq t1.symm),List.take_of_length_le (Nat.le_of_eq t1)] at this
    exact this
   have a2:(arr.toList.take (ls.length*r.n)).drop (i*r.n+cs.length)=(ls.drop (i+1)).flatten:=by
    have t3:((ls.take i).flatten++ls[i]).length=i*r.n+cs.length:=by rw[List.length_append,t1,t2,a]
    rw[ht,e2,v,<-List.append_assoc,List.drop_append_of_le_length (Nat.le_of_eq t3.symm),List.drop_eq_nil_of_le (Nat.le_of_eq t3),List.nil_append]
   rw[a1,e1]
   simp only[List.length_set]
   have w:ls.length*r.n=(i*r.n+cs.length)+(ls.length*r.n - (i*r.n+cs.length)):=by
    have:i*r.n+cs.length<=ls.length*r.n:=by rw[a,<-Nat.succ_mul];exact Nat.mul_le_mul_right _ f
    omega
   rw[w,List.take_append]
   rw[List.take_of_length_le (by rw[List.length_append,t1];omega)]
   congr 1
   have:i*r.n+cs.length+(ls.length*r.n - (i*r.n+cs.length)) - ((ls.take i).flatten++cs).length=ls.length*r.n - (i*r.n+cs.length):=by simp only[List.length_append,t1];omega
   rw[this,<-a2,List.drop_take]
  ·intro z A
   rcases List.mem_or_eq_of_mem_set A with h|h
   ·exact c z h
   ·rw[h];exact a
  ·rcases Nat.decEq i j with g|g
   ·rw[List.getElem?_set_ne g] at d
    obtain ⟨cs',h1,h2⟩:=p j z d
    exact ⟨cs',by rw[List.getElem?_set_ne g];exact h1,h2⟩
   ·subst g
    rw[List.getElem?_set_self (by omega)] at d
    obtain rfl:=Option.some.inj d
    exact ⟨cs,List.getElem?_set_self (by omega),m⟩
end
section
variable {P : Program} {main : Bool} {J : Goroutine → af → Prop}
theorem aK (hJ:Closed P main J){c:Code}{Q:Ex->Act->af->Prop}{a:Act}{F:af}(h:aM (keys F.own)->Wp J c Q a F):Wp J c Q a F:=by
 intro b k cs hb hk
 by_cases hw:∃w,Has F w
 ·obtain ⟨w,hw⟩:=hw
  exact h ⟨hw.nodup⟩ b k cs hb hk
 ·exact hJ.step fun w d=>absurd ⟨w,d⟩ hw
end
theorem aM.cons {l:List (Nat×Obj)}{b:Nat}(hb:au l b)(h:aM (keys l)):aM (b::keys l):=⟨List.nodup_cons.2 ⟨kN hb,h.nd⟩⟩
theorem ay.nil (ro:Addr->Option Value):ay ro []:=fun b h=>by cases h
theorem ay.cons {ro:Addr->Option Value}{b:Nat}{o:Obj}{l:List (Nat×Obj)}(hb:∀off sp,ro ⟨b,off,sp⟩=none)(h:ay ro l):ay ro ((b,o)::l):=fun c a=>by
 simp only[keys,List.map_cons,List.mem_cons] at a
 rcases a with rfl|a
 ·exact hb
 ·exact h c a
theorem ay.app {ro:Addr->Option Value}{l l':List (Nat×Obj)}(h:ay ro l)(b:ay ro l'):ay ro (l++l'):=fun c a=>by
 rw[cm] at a
 exact (List.mem_append.1 a).elim (h c) (b c)
theorem ay.hd {ro:Addr->Option Value}{b:Nat}{o:Obj}{l:List (Nat×Obj)}(h:ay ro ((b,o)::l)):∀off sp,ro ⟨b,off,sp⟩=none:=h b (by simp[keys])
theorem ay.tl {ro:Addr->Option Value}{x:Nat×Obj}{l:List (Nat×Obj)}(h:ay ro (x::l)):ay ro l:=fun c a=>h c (by simp only[keys,List.map_cons,List.mem_cons];exact .inr a)
theorem ay.l {ro:Addr->Option Value}{l l':List (Nat×Obj)}(h:ay ro (l++l')):ay ro l:=fun c a=>h c (by rw[cm];exact List.mem_append_left _ a)
theorem ay.r {ro:Addr->Option Value}{l l':List (Nat×Obj)}(h:ay ro (l++l')):ay ro l':=fun c a=>h c (by rw[cm];exact List.mem_append_right _ a)
theorem aV.g8 {T:Type}{r:b9 T}{ro:Addr->Option Value}{e:TypeId}{v:Value}{l:List T}{aS:List (Nat×Obj)}(h:aV r ro e v l aS):ay ro aS:=by
 obtain ⟨ls,hg,-⟩:=h
 rcases hg with ⟨_,_,rfl⟩|⟨b,arr,cap,_,rfl,_,_,_,_,a⟩
 ·exact ay.nil _
 ·exact ay.cons a (ay.nil _)
theorem Le.back {ro:Addr->Option Value}{l l':List (Nat×Obj)}(A B O S:List (Nat×Obj))(h1:l=A++(B++(O++S)))(h2:l'=A++(O++(B++S))):Le ⟨ro,l⟩ ⟨ro,l'⟩:=by
 subst h1 h2
 refine Le.ps (m:=A++(O++(B++S))) (List.Perm.append_left A ?_) (List.Sublist.refl _)
 rw[<-List.append_assoc,<-List.append_assoc]
 exact List.Perm.append_right S List.perm_append_comm
section
variable {P : Program} {main : Bool} {J : Goroutine → af → Prop}
def q5 (J:Goroutine->af->Prop)(jk:Frame)(F:af)(R:Value->af->Prop):Prop:=
 ∀(c:Frame) (cs:List Frame),(∀v F',R v F'->J (G (c.finish v) cs) F')->J (G jk (c::cs)) F
theorem zT (hJ:Closed P main J){jk:Frame}{ro:Addr->Option Value}{aS:List (Nat×Obj)}{K:Value->af->Prop}{own:List (Nat×Obj)}(pre bf:List (Nat×Obj))(p:own=pre++(aS++bf))(R:Value->List (Nat×Obj)->Prop)(h:∀(main:Bool) (J:Goroutine->af->Prop),Closed P main J->q5 J jk ⟨ro,aS⟩ (fun v G=>∃d,R v d/\Le ⟨ro,d⟩ G))
  (hk:∀v d,R v d->∀q,q=pre++(d++bf)->aM (keys q)->∃F0,Le F0 ⟨ro,q⟩/\K v F0):q5 J jk ⟨ro,own⟩ K:=by
 subst p
 intro c cs I
 by_cases hw:∃w,Has ⟨ro,pre++(aS++bf)⟩ w
 ·obtain ⟨r,k⟩:=hw
  let F:af:=⟨fun _=>none,pre++bf⟩
  have s:(pre++bf).Sublist (pre++(aS++bf)):=List.Sublist.append_left (List.sublist_append_right aS bf) pre
  have t:aS.Sublist (pre++(aS++bf)):=(List.sublist_append_left aS bf).trans (List.sublist_append_right pre _)
  have A:∀w,Has ⟨ro,pre++(aS++bf)⟩ w->Has F w:=fun w hw=>⟨fun a v h=>(by cases h),fun b o hb=>hw.own b o (s.subset hb),(s.map _).nodup hw.nodup,fun a v h=>(by cases h)⟩
  have B:∀w,Has ⟨ro,pre++(aS++bf)⟩ w->Has ⟨ro,aS⟩ w:=fun w hw=>⟨hw.ro,fun b o hb=>hw.own b o (t.subset hb),(t.map _).nodup hw.nodup,fun a v i hm=>hw.apart a v i ((t.map _).subset hm)⟩
  have hd:∀b,b∈keys aS->b∉keys (pre++bf):=fun b hb hm=>by
   have hn:=k.nodup
   simp only[cm] at hn
   have h2:=List.nodup_append.1 hn
   simp only[cm,List.mem_append] at hm
   rcases hm with hm|hm
   ·exact h2.2.2 b hm b (List.mem_append_left _ hb) rfl
   ·exact (List.nodup_append.1 h2.2.1).2.2 b hb b hm rfl
  have C:Fits F ⟨ro,aS⟩:=⟨⟨r,B r k,A r k⟩,hd,fun a f hm=>(by cases f)⟩
  have L:lT F ⟨ro,aS⟩:=fun a f hm=>by
   obtain ⟨v,M⟩:=Option.isSome_iff_exists.1 f
   exact k.apart a v M ((s.map _).subset hm)
  have p:uI J F (G jk (c::cs)) ⟨ro,aS⟩:=by
   refine h main _ (zl hJ F) c cs fun v D u l hn=>?_
   obtain ⟨d,u,hle⟩:=u
   have E:Le ⟨ro,pre++(d++bf)⟩ (D.star F):=by
    refine ⟨fun w hw=>?_,fun b hb=>?_,fun a f=>?_⟩
    ·have m:=hle.has w (l.right hw)
     have g:=l.left hw
     have N:∀b,b∈keys d->b∉keys (pre++bf):=fun b hb=>l.own b (hle.own b hb)
     have j:(pre++(d++bf)).Perm (d++(pre++bf)):=by
      rw[<-List.append_assoc,<-List.append_assoc]
      exact List.Perm.append_right bf List.perm_append_comm
     refine ⟨m.ro,fun b o hb=>?_,?_,fun a v i hm=>?_⟩
     ·rcases List.mem_append.1 (j.subset hb) with x|x
      ·exact m.own b o x
      ·exact g.own b o x
     ·refine (j.map _).nodup_iff.2 ?_
      rw[List.map_append]
      exact List.nodup_append.2 ⟨m.nodup,g.nodup,fun a f b hb e=>N a f (e▸hb)⟩
     ·have H:=(j.map (·.1)).subset hm
      rw[List.map_append] at H
      rcases List.mem_append.1 H with x|x
      ·exact m.apart a v i x
      ·rcases hle.ro a (by simp only at i;simp[i]) with y|y
       ·exact hn a y x
       ·exact l.own _ y x
    ·simp only[af.star,cm,List.mem_append] at hb ⊢
     rcases hb with x|x|x
     ·exact .inr (show b∈keys (pre++bf) by rw[cm];exact List.mem_append_left _ x)
     ·exact .inl (hle.own b x)
     ·exact .inr (show b∈keys (pre++bf) by rw[cm];exact List.mem_append_right _ x)
    ·rcases hle.ro a f with x|x
     ·exact (gh (.inr x)).imp id (fun z=>by simp only[af.star,cm,List.mem_append];exact .inr z)
     ·exact .inr (by simp only[af.star,cm,List.mem_append];exact .inl x)
   have O:∃fr cs',G (c.finish v) cs=G fr cs':=⟨_,_,rfl⟩
   obtain ⟨fr,cs',Q⟩:=O
   by_cases n:∃w,Has (D.star F) w
   ·obtain ⟨w1,n⟩:=n
    obtain ⟨F0,S,T⟩:=hk v d u _ rfl ⟨(E.has w1 n).nodup⟩
    exact hJ.mono (S.trans E) (I v F0 T)
   ·rw[Q]
    exact hJ.step fun w g=>absurd ⟨w,g⟩ n
  refine hJ.mono ⟨fun w hw=>C.both (B w hw) (A w hw),fun b hb=>?_,fun a f=>?_⟩ (p C L)
  ·have j:(aS++(pre++bf)).Perm (pre++(aS++bf)):=by
    rw[<-List.append_assoc,<-List.append_assoc]
    exact List.Perm.append_right bf List.perm_append_comm
   exact (j.map _).subset hb
  ·rcases jM f with x|x
   ·cases x
   ·exact .inl x
 ·exact hJ.step fun w g=>absurd ⟨w,g⟩ hw
theorem zU (hJ:Closed P main J){f:FuncId}{args:Array Value}{ro:Addr->Option Value}{aS:List (Nat×Obj)}{K:Value->af->Prop}{own:List (Nat×Obj)}(pre bf:List (Nat×Obj))(c:own=pre++(aS++bf))(R:Value->List (Nat×Obj)->Prop)(h:aC P f args ⟨ro,aS⟩ (fun v G=>∃a,R v a/\Le ⟨ro,a⟩ G))
  (hk:∀v a,R v a->∀b,b=pre++(a++bf)->aM (keys b)->∃F0,Le F0 ⟨ro,b⟩/\K v F0):cK P J f args ⟨ro,own⟩ K:=
 zT hJ (jk:=Frame.enter P f args .normal) pre bf c R h hk
end
attribute [go_sem] Array.size_setIfInBounds
theorem aA.op {T:Type}{r:b9 T}{ro:Addr->Option Value}{ad:Option Addr}{n cap:Nat}{l:List T}(h:aA r ro (.slice ad n cap) l):
  l.length<=cap/\l.length<=1000000000000000/\∀i x,l[i]?=some x->∃p cs,ad=some p/\r.rel ro x cs/\∀j v,cs[j]?=some v->ro ((p.add (i*r.n)).add j)=some v:=by
 obtain ⟨a,b,e,h1,h2,h3⟩:=h
 cases e
 exact ⟨h1,h2,h3⟩
theorem aM.sub {l l':List (Nat×Obj)}(A O S:List (Nat×Obj))(h1:l=A++S)(h2:l'=A++(O++S))(h:aM (keys l')):aM (keys l):=by
 subst h1 h2
 exact
 ⟨((List.Sublist.append_left (List.sublist_append_right O S) A).map _).nodup h.nd⟩
theorem aM.back {l l':List (Nat×Obj)}(A B O S:List (Nat×Obj))(h1:l=A++(B++(O++S)))(h2:l'=A++(O++(B++S)))(h:aM (keys l')):aM (keys l):=by
 subst h1 h2
 refine ⟨(List.Perm.map _ (List.Perm.append_left A ?_)).nodup_iff.2 h.nd⟩
 rw[<-List.append_assoc,<-List.append_assoc]
 exact List.Perm.append_right S List.perm_append_comm
theorem eV {ro:Addr->Option Value}{b:Nat}{o:Obj}(pre bf:List (Nat×Obj))(f:aM (keys (pre++((b,o)::bf))))(_hr:∀off sp,ro ⟨b,off,sp⟩=none)(hn:ay ro (pre++bf)):
  Ext ro (bN ro b o)/\ay (bN ro b o) (pre++bf)/\Le ⟨bN ro b o,pre++bf⟩ ⟨ro,pre++((b,o)::bf)⟩:=by
 have a:(pre++((b,o)::bf)).Perm ((b,o)::(pre++bf)):=List.perm_middle
 have h2:Nd ((b,o)::(pre++bf)):=(a.map _).nodup_iff.1 f.nd
 have hb:b∉keys (pre++bf):=(List.nodup_cons.1 h2).1
 refine ⟨fR _ _ _,fun c d off sp=>?_,?_⟩
 ·have g:¬c=b:=fun e=>hb (e▸d)
  simp[bN,hn c d,g]
 ·have h3:Le ⟨bN ro b o,pre++bf⟩ ⟨ro,(b,o)::(pre++bf)⟩:=jR (by simp[lk]) (.cons _ (List.Sublist.refl _)) (lU hb)
  exact h3.trans (Le.ps a.symm (List.Sublist.refl _))
section
variable {P : Program} {main : Bool} {J : Goroutine → af → Prop}
theorem e6 (hJ:Closed P main J){c:Code}{Q:Ex->Act->af->Prop}{a:Act}{F:af}(h:aM (keys F.own)->ay F.ro F.own->Wp J c Q a F):Wp J c Q a F:=by
 intro b k cs hb hk
 by_cases hw:∃w,Has F w
 ·obtain ⟨w,hw⟩:=hw
  refine h ⟨hw.nodup⟩ (fun b hb off sp=>?_) b k cs hb hk
  cases d:F.ro ⟨b,off,sp⟩ with
  |none=>rfl
  |some v=>exact absurd hb (hw.apart _ v d)
 ·exact hJ.step fun w e=>absurd ⟨w,e⟩ hw
end
theorem uV:∀(a:List Value) (arr:Array Value) (k:Nat),k+a.length<=arr.size->∀q,(dO arr k a)[q]?=if k<=q/\q<k+a.length then a[q - k]? else arr[q]?
 |[],arr,k,h,q=>by
  have:¬(k<=q/\q<k+([]:List Value).length):=by simp
  rw[if_neg this];rfl
 |v::a,arr,k,h,q=>by
  simp only[List.length_cons] at h
  rw[dO,uV a _ (k+1) (by simp;omega)]
  simp only[List.length_cons]
  by_cases h1:k=q
  ·subst h1
   rw[if_neg (by omega),if_pos (by omega),Array.getElem?_setIfInBounds_self_of_lt (by omega)]
   simp
  ·by_cases h2:k+1<=q/\q<k+1+a.length
   ·rw[if_pos h2,if_pos (by omega)]
    rw[show q - k=(q - (k+1))+1 by omega]
    simp
   ·rw[if_neg h2,if_neg (by omega),Array.getElem?_setIfInBounds_ne h1]
theorem aV.part {T:Type}{r:b9 T}{ro:Addr->Option Value}{e:TypeId}{l:List T}{b n cap:Nat}{arr:Array Value}(h:aV r ro e (.slice (some ⟨b,0,none⟩) n cap) l [(b,.cells arr e)]){i:Nat}{x y:T}(hi:l[i]?=some x)(o:Nat)(a cs cs':List Value)
  (hm:∀j v,cs[j]?=some v->arr[i*r.n+j]?=some v) (hlen:cs.length=r.n) (f:cs'=cs.take o++a++cs.drop (o+a.length)) (s:o+a.length<=cs.length) (g:r.rel ro y cs'):
  aV r ro e (.slice (some ⟨b,0,none⟩) n cap) (l.set i y) [(b,.cells (dO arr (i*r.n+o) a) e)]:=by
 have h2:=h.setAt hi g
 have d:=r.len g
 have m:i*r.n+r.n<=arr.size:=by
  rcases Nat.eq_zero_or_pos r.n with h0|t
  ·rw[h0];omega
  ·have c:r.n - 1<cs.length:=by omega
   have:=hm (r.n - 1) cs[r.n - 1] (List.getElem?_eq_getElem c)
   have:=(Array.getElem?_eq_some_iff.1 this).1
   omega
 have e1:dO arr (i*r.n) cs'=dO arr (i*r.n+o) a:=by
  apply Array.ext_getElem?
  intro q
  rw[uV cs' arr _ (by rw[d];exact m),uV a arr _ (by omega)]
  by_cases h1:i*r.n+o<=q/\q<i*r.n+o+a.length
  ·rw[if_pos h1,if_pos (by rw[d];omega),f]
   rw[List.append_assoc,List.getElem?_append_right (by simp;omega),List.getElem?_append_left (by simp;omega)]
   congr 1
   simp;omega
  ·rw[if_neg h1]
   by_cases h3:i*r.n<=q/\q<i*r.n+cs'.length
   ·rw[if_pos h3]
    rw[d] at h3
    have p:arr[q]?=cs[q - i*r.n]?:=by
     have c:q - i*r.n<cs.length:=by omega
     have:=hm (q - i*r.n) _ (List.getElem?_eq_getElem c)
     rw[show i*r.n+(q - i*r.n)=q by omega] at this
     rw[this,List.getElem?_eq_getElem c]
    rw[p,f]
    rcases Nat.lt_or_ge (q - i*r.n) o with k|k
    ·rw[List.append_assoc,List.getElem?_append_left (by simp;omega),List.getElem?_take_of_lt k]
    ·have u:o+a.length<=q - i*r.n:=by omega
     rw[List.getElem?_append_right (by simp;omega),List.getElem?_drop]
     congr 1
     simp;omega
   ·rw[if_neg h3]
 rw[e1] at h2
 exact h2
theorem aV.elemAt {T:Type}{r:b9 T}{ro:Addr->Option Value}{e:TypeId}{b n cap:Nat}{l:List T}{aS:List (Nat×Obj)}(h:aV r ro e (.slice (some ⟨b,0,none⟩) n cap) l aS){i:Nat}{x:T}(hi:l[i]?=some x):
  ∃arr cs,aS=[(b,.cells arr e)]/\(∀off sp,ro ⟨b,off,sp⟩=none)/\r.rel ro x cs/\∀j v,cs[j]?=some v->arr[i*r.n+j]?=some v:=by
 obtain ⟨g,arr,k,cs,a,c,d,f,hm⟩:=h.elem hi
 cases a
 exact ⟨arr,cs,c,d,f,hm⟩
theorem aV.zV {T:Type}{r:b9 T}{ro:Addr->Option Value}{e:TypeId}{ad:Option Addr}{n cap:Nat}{l:List T}{aS:List (Nat×Obj)}(h:aV r ro e (.slice ad n cap) l aS){i:Nat}{x:T}(hi:l[i]?=some x):
  ∃b arr cs,ad=some ⟨b,0,none⟩/\aS=[(b,.cells arr e)]/\(∀off sp,ro ⟨b,off,sp⟩=none)/\r.rel ro x cs/\∀j v,cs[j]?=some v->arr[i*r.n+j]?=some v:=by
 obtain ⟨a,arr,k,cs,c,d,f,g,hm⟩:=h.elem hi
 injection c with h1 h2 h3
 exact ⟨a,arr,cs,h1,d,f,g,hm⟩
theorem aV.kT {T:Type}{r:b9 T}{ro:Addr->Option Value}{e:TypeId}{b n cap:Nat}{l:List T}{arr:Array Value}(h:aV r ro e (.slice (some ⟨b,0,none⟩) n cap) l [(b,.cells arr e)]){i:Nat}{x:T}(hi:l[i]?=some x):
  ∃cs,r.rel ro x cs/\∀j v,cs[j]?=some v->arr[i*r.n+j]?=some v:=by
 obtain ⟨d,cs,a,f,c,hm⟩:=h.elemAt hi
 simp only[List.cons.injEq,Prod.mk.injEq,Obj.cells.injEq,true_and,and_true] at a
 subst a
 exact ⟨cs,c,hm⟩
theorem aV.uW {T:Type}{r:b9 T}{ro:Addr->Option Value}{e:TypeId}{l:List T}{b n cap:Nat}{arr:Array Value}(h:aV r ro e (.slice (some ⟨b,0,none⟩) n cap) l [(b,.cells arr e)]){i:Nat}{y:T}(hi:i<l.length){cs:List Value}(a:r.rel ro y cs):
  aV r ro e (.slice (some ⟨b,0,none⟩) n cap) (l.set i y) [(b,.cells (dO arr (i*r.n) cs) e)]:=h.setAt (List.getElem?_eq_getElem hi) a
theorem aV.uX {T:Type}{r:b9 T}{ro:Addr->Option Value}{e:TypeId}{ad:Option Addr}{n cap:Nat}{l:List T}{aS:List (Nat×Obj)}(h:aV r ro e (.slice ad n cap) l aS)(hn:l.isEmpty=false):
  ∃b arr,ad=some ⟨b,0,none⟩/\aS=[(b,.cells arr e)]/\(∀off sp,ro ⟨b,off,sp⟩=none):=by
 cases l with
 |nil=>cases hn
 |cons x l=>
  obtain ⟨b,arr,cs,h1,h2,h3,_⟩:=h.zV (i:=0) rfl
  exact ⟨b,arr,h1,h2,h3⟩
theorem aV.Eo {T:Type}{r:b9 T}{ro:Addr->Option Value}{e:TypeId}{b n cap:Nat}{l:List T}{aS:List (Nat×Obj)}(h:aV r ro e (.slice (some ⟨b,0,none⟩) n cap) l aS):∃arr,aS=[(b,.cells arr e)]:=by
 obtain ⟨ls,hg,-⟩:=h
 rcases hg with ⟨a,_,_⟩|⟨d,arr,f,a,c,_⟩
 ·cases a
 ·cases a
  exact ⟨arr,c⟩
theorem aV.count {T:Type}{r:b9 T}{ro:Addr->Option Value}{e:TypeId}{ad:Option Addr}{n cap:Nat}{l:List T}{aS:List (Nat×Obj)}(h:aV r ro e (.slice ad n cap) l aS):l.length=n:=by
 obtain ⟨b,c,a,_⟩:=h.len
 cases a
 rfl
def pe (ops:Array Oper)(bU:List Nat)(i:Nat):Bool:=bU.all fun j=>match ops[j]? with
 |some o=>o.after.any fun e=>Region.binds .any e&&e.on==i
 |none=>true
section
variable {P : Program} {main : Bool} {J : Goroutine → af → Prop} {ops : Array Oper} {Q : Act → af → Prop} {S : af → Prop} {bU : List Nat}
def dP (P:Program)(J:Goroutine->af->Prop)(ops:Array Oper)(Q:Act->af->Prop)(S:af->Prop)(bU:List Nat):Nat->Array Bool->Act->af->Prop
 |0,listed,a,F=>Region.ready .any ops listed=[]/\Q a F
 |fuel+1,listed,a,F=>(Region.ready .any ops listed=[]->Q a F)/\
  ∀i∈Region.ready .any ops listed,dG P J ops i (fun a' F'=>(¬i∈bU->S F->S F')/\dP P J ops Q S bU fuel (listed.setIfInBounds i true) a' F') a F
theorem Ep:∀(fuel t:Nat) (listed:Array Bool) (a:Act) (F:af),dP P J ops Q S bU fuel listed a F->
  fF P J ops Q (Region.linearise.go .any ops fuel t listed []) a F:=by
 intro fuel
 induction fuel with
 |zero=>intro t listed a F h;simpa [Region.linearise.go,fF] using h.2
 |succ fuel ih=>
  intro t listed a F h
  obtain ⟨b,c⟩:=h
  simp only[Region.linearise.go]
  change fF P J ops Q (match (Region.ready .any ops listed)[t % (Region.ready .any ops listed).length]? with
   |some i=>Region.linearise.go .any ops fuel (t/(Region.ready .any ops listed).length) (listed.setIfInBounds i true) [i]
   |none=>[].reverse) a F
  cases hi:(Region.ready .any ops listed)[t % (Region.ready .any ops listed).length]? with
  |none=>
   have d:Region.ready .any ops listed=[]:=by
    cases e:Region.ready .any ops listed with
    |nil=>rfl
    |cons x xs=>
     rw[e] at hi
     have f:t % (x::xs).length<(x::xs).length:=Nat.mod_lt _ (by simp)
     simp at hi
     simp at f
     omega
   simpa [fF] using b d
  |some i=>
   simp only[]
   rw[linearise_go_acc,List.reverse_singleton,List.singleton_append]
   exact oF (fun a F h=>ih _ _ a F h.2) (c i (List.mem_of_getElem? hi))
theorem Er {i:Nat}{g:Oper}{v:Value}(hi:ops[i]?=some g)(l:pe ops bU i=true)(s:∀(j:Nat) (o:Oper) cs b,ops[j]?=some o->o.op≠ .select cs b):
  ∀(fuel:Nat) (listed:Array Bool) (a:Act) (F:af),
   (∀j d,ops[j]?=some d->j≠i->listed.getD j true=false->(∀e∈d.after,Region.binds .any e=true->e.on≠i)->g.apart ops d=true)->
   i∈Region.ready .any ops listed->fl P J ops S g v a->S F->
   dP P J ops Q S bU fuel (listed.setIfInBounds i true) (a.put g.dst v) F->dP P J ops Q S bU (fuel+1) listed a F:=by
 intro fuel
 induction fuel with
 |zero=>
  intro listed a F _ f m n H
  refine ⟨fun h=>(by rw[h] at f;cases f),fun j p=>?_⟩
  by_cases c:j=i
  ·subst c;exact m.mS hi n ⟨fun _ h=>h,H⟩
  ·have:=ready_mono p c
   rw[H.1] at this
   cases this
 |succ fuel ih=>
  intro listed a F t f m n H
  refine ⟨fun h=>(by rw[h] at f;cases f),fun j p=>?_⟩
  by_cases c:j=i
  ·subst c;exact m.mS hi n ⟨fun _ h=>h,H⟩
  ·have h1:=H.2 j (ready_mono p c)
   obtain ⟨u,d,q,A⟩:=mem_ready.1 p
   have w:∀e∈d.after,Region.binds .any e=true->e.on≠i:=fun e he hb heq=>by
    have h1:=A e he hb
    have h0:=(mem_ready.1 f).1
    rw[heq] at h1
    rcases Nat.lt_or_ge i listed.size with r|r
    ·simp[r] at h0 h1;rw[h0] at h1;cases h1
    ·simp[Array.getElem?_eq_none r] at h1
   have B:¬j∈bU:=fun e=>by
    have l:=List.all_eq_true.1 l j e
    simp only[q,Array.any_eq_true,Bool.and_eq_true,beq_iff_eq] at l
    obtain ⟨x,C,h1,h2⟩:=l
    exact w _ (Array.getElem_mem C) h1 h2
   have h2:=tS q (t j d q c u w) (fun cs b=>s i g cs b hi) (fun cs b=>s j d cs b q) m h1
   have D:∀k ok,ops[k]?=some ok->k≠i->(listed.setIfInBounds j true).getD k true=false->
     (∀e∈ok.after,Region.binds .any e=true->e.on≠i)->g.apart ops ok=true:=fun k ok hk E y G=>by
    refine t k ok hk E ?_ G
    by_cases z:j=k
    ·subst z;exact u
    ·rw[getD_set_ne true z] at y;exact y
   refine oF (fun a' F' h3=>⟨h3.2.1,ih (listed.setIfInBounds j true) a' F' D (ready_mono f (Ne.symm c)) h3.1 (h3.2.1 B n) ?_⟩) h2
   rw[Array.setIfInBounds_comm _ _ c]
   exact h3.2.2
theorem Es {i:Nat}{g:Oper}{v:Value}(hi:ops[i]?=some g)(q:∀(j:Nat) (o:Oper) cs b,ops[j]?=some o->o.op≠ .select cs b):
  ∀(fuel:Nat) (listed:Array Bool) (a:Act) (F:af),
   (∀j d,ops[j]?=some d->j≠i->listed.getD j true=false->(∀e∈d.after,Region.binds .any e=true->e.on≠i)->g.apart ops d=true)->
   i∈Region.ready .any ops listed->fl P J ops (fun _=>True) g v a->
   dP P J ops Q S bU fuel (listed.setIfInBounds i true) (a.put g.dst v) F->dP P J ops Q S bU (fuel+1) listed a F:=by
 intro fuel
 induction fuel with
 |zero=>
  intro listed a F _ f l H
  refine ⟨fun h=>(by rw[h] at f;cases f),fun j m=>?_⟩
  by_cases c:j=i
  ·subst c;exact l.mS hi trivial ⟨fun _ h=>h,H⟩
  ·have:=ready_mono m c
   rw[H.1] at this
   cases this
 |succ fuel ih=>
  intro listed a F r f l H
  refine ⟨fun h=>(by rw[h] at f;cases f),fun j m=>?_⟩
  by_cases c:j=i
  ·subst c;exact l.mS hi trivial ⟨fun _ h=>h,H⟩
  ·have h1:=H.2 j (ready_mono m c)
   obtain ⟨s,d,n,w⟩:=mem_ready.1 m
   have x:∀e∈d.after,Region.binds .any e=true->e.on≠i:=fun e he hb heq=>by
    have h1:=w e he hb
    have h0:=(mem_ready.1 f).1
    rw[heq] at h1
    rcases Nat.lt_or_ge i listed.size with p|p
    ·simp[p] at h0 h1;rw[h0] at h1;cases h1
    ·simp[Array.getElem?_eq_none p] at h1
   have h2:=tS n (r j d n c s x) (fun cs b=>q i g cs b hi) (fun cs b=>q j d cs b n) l h1
   have y:∀k ok,ops[k]?=some ok->k≠i->(listed.setIfInBounds j true).getD k true=false->
     (∀e∈ok.after,Region.binds .any e=true->e.on≠i)->g.apart ops ok=true:=fun k ok hk z t A=>by
    refine r k ok hk z ?_ A
    by_cases u:j=k
    ·subst u;exact s
    ·rw[getD_set_ne true u] at t;exact t
   refine oF (fun a' F' h3=>⟨h3.2.1,ih (listed.setIfInBounds j true) a' F' y (ready_mono f (Ne.symm c)) h3.1 ?_⟩) h2
   rw[Array.setIfInBounds_comm _ _ c]
   exact h3.2.2
theorem zW (i:Nat){c:Oper}(v:Value){fuel:Nat}{listed:Array Bool}{a:Act}{F:af}(hi:ops[i]?=some c)
  (b:(Region.noSelect ops&&Region.free .any ops listed i&&(Region.ready .any ops listed).contains i)=true)
  (d:pe ops bU i=true) (e:fl P J ops S c v a) (f:S F)
  (h:dP P J ops Q S bU fuel (listed.setIfInBounds i true) (a.put c.dst v) F):dP P J ops Q S bU (fuel+1) listed a F:=by
 simp only[Bool.and_eq_true] at b
 exact Er hi d (Region.noSelect_spec b.1.1) fuel listed a F (Region.free_spec hi b.1.2) (by simpa using b.2) e f h
theorem uY {rs:List Nat}{fuel:Nat}{listed:Array Bool}{a:Act}{F:af}(b:Region.ready .any ops listed=rs)(c:rs≠[])
  (h:∀i∈rs,dG P J ops i (fun a' F'=>(¬i∈bU->S F->S F')/\dP P J ops Q S bU fuel (listed.setIfInBounds i true) a' F') a F):dP P J ops Q S bU (fuel+1) listed a F:=
 ⟨fun h0=>absurd (b▸h0) c,b▸h⟩
theorem zX (i:Nat){fuel:Nat}{listed:Array Bool}{a:Act}{F:af}(b:Region.ready .any ops listed=[i])
  (h:dG P J ops i (fun a' F'=>(¬i∈bU->S F->S F')/\dP P J ops Q S bU fuel (listed.setIfInBounds i true) a' F') a F):dP P J ops Q S bU (fuel+1) listed a F:=
 uY b (by simp) (by simpa using h)
theorem zY {listed:Array Bool}{a:Act}{F:af}(b:Region.ready .any ops listed=[])(h:Q a F):∀fuel,dP P J ops Q S bU fuel listed a F
 |0=>⟨b,h⟩
 |_+1=>⟨fun _=>h,by rw[b];simp⟩
end
theorem uZ {P:Program}{J:Goroutine->af->Prop}{ops:Array Oper}{Q:Act->af->Prop}{S:af->Prop}{bU:List Nat}(i:Nat){b:Oper}(v:Value){fuel:Nat}{listed:Array Bool}{a:Act}{F:af}(hi:ops[i]?=some b)
  (d:(Region.noSelect ops&&Region.free .any ops listed i&&(Region.ready .any ops listed).contains i)=true)
  (e:pe ops bU i=true) (hg:cz ops b a=some true) (f:∀F R,S F->R v F->cG P J b R a F) (c:S F)
  (h:dP P J ops Q S bU fuel (listed.setIfInBounds i true) (aZ a b.dst v) F):dP P J ops Q S bU (fuel+1) listed a F:=
 zW i v hi d e (.inl ⟨cj hg,fun F R c g=>kJ (f F R c g)⟩) c h
theorem Et {P:Program}{J:Goroutine->af->Prop}{ops:Array Oper}{Q:Act->af->Prop}{S:af->Prop}{bU:List Nat}(i:Nat){b:Oper}{fuel:Nat}{listed:Array Bool}{a:Act}{F:af}(hi:ops[i]?=some b)
  (c:(Region.noSelect ops&&Region.free .any ops listed i&&(Region.ready .any ops listed).contains i)=true)
  (d:pe ops bU i=true) (hg:cz ops b a=some false) (e:S F)
  (h:dP P J ops Q S bU fuel (listed.setIfInBounds i true) (aZ a b.dst undef) F):dP P J ops Q S bU (fuel+1) listed a F:=
 zW i undef hi c d (.inr ⟨cj hg,rfl⟩) e h
theorem zZ {P:Program}{J:Goroutine->af->Prop}{ops:Array Oper}{Q:Act->af->Prop}{S:af->Prop}{bU:List Nat}(i:Nat){c:Oper}(v:Value){fuel:Nat}{listed:Array Bool}{a:Act}{F:af}(hi:ops[i]?=some c)
  (b:(Region.noSelect ops&&Region.free .any ops listed i&&(Region.ready .any ops listed).contains i)=true)
  (d:fl P J ops (fun _=>True) c v a)
  (h:dP P J ops Q S bU fuel (listed.setIfInBounds i true) (aZ a c.dst v) F):dP P J ops Q S bU (fuel+1) listed a F:=by
 simp only[Bool.and_eq_true] at b
 exact Es hi (Region.noSelect_spec b.1.1) fuel listed a F (Region.free_spec hi b.1.2) (by simpa using b.2) d h
inductive ck where
 |done
 |rd (i:Nat) (p:ck)
 |one (i:Nat) (p:ck)
 |two (i:Nat) (p:ck) (j:Nat) (q:ck)
 |three (i:Nat) (p:ck) (j:Nat) (q:ck) (k:Nat) (r:ck)
 |last (i:Nat) (p:ck)
 |pure (i:Nat) (p:ck)
inductive fB where
 |done
 |rd (o:Oper) (p:fB)
 |one (o:Oper) (p:fB)
 |two (o:Oper) (p:fB) (o':Oper) (q:fB)
 |three (o:Oper) (p:fB) (o':Oper) (q:fB) (jW:Oper) (r:fB)
 |last (o:Oper) (p:fB)
 |pure (o:Oper) (p:fB)
 |bad
def ck.opers (ops:Array Oper):ck->fB
 | .done=>.done
 | .rd i p=>match ops[i]? with
  |some o=>.rd o (p.opers ops)
  |none=>.bad
 | .one i p=>match ops[i]? with
  |some o=>.one o (p.opers ops)
  |none=>.bad
 | .two i p j q=>match ops[i]?,ops[j]? with
  |some o,some o'=>.two o (p.opers ops) o' (q.opers ops)
  |_,_=>.bad
 | .three i p j q k r=>match ops[i]?,ops[j]?,ops[k]? with
  |some o,some o',some jW=>.three o (p.opers ops) o' (q.opers ops) jW (r.opers ops)
  |_,_,_=>.bad
 | .last i p=>match ops[i]? with
  |some o=>.last o (p.opers ops)
  |none=>.bad
 | .pure i p=>match ops[i]? with
  |some o=>.pure o (p.opers ops)
  |none=>.bad
def ck.tl:ck->Bool
 | .done=>true
 | .last _ p=>p.tl
 | .pure _ p=>p.tl
 |_=>false
def ck.ok (ops:Array Oper)(bU:List Nat):ck->Array Bool->Bool
 | .done,L=>decide (Region.ready .any ops L=[])
 | .rd i p,L=>Region.free .any ops L i&&(Region.ready .any ops L).contains i&&(ops[i]?).isSome&&pe ops bU i&&p.ok ops bU (L.setIfInBounds i true)
 | .one i p,L=>decide (Region.ready .any ops L=[i])&&(ops[i]?).isSome&&p.ok ops bU (L.setIfInBounds i true)
 | .two i p j q,L=>decide (Region.ready .any ops L=[i,j])&&(ops[i]?).isSome&&(ops[j]?).isSome&&p.ok ops bU (L.setIfInBounds i true)&&q.ok ops bU (L.setIfInBounds j true)
 | .three i p j q k r,L=>decide (Region.ready .any ops L=[i,j,k])&&(ops[i]?).isSome&&(ops[j]?).isSome&&(ops[k]?).isSome&&p.ok ops bU (L.setIfInBounds i true)&&q.ok ops bU (L.setIfInBounds j true)&&r.ok ops bU (L.setIfInBounds k true)
 | .pure i p,L=>Region.free .any ops L i&&(Region.ready .any ops L).contains i&&(ops[i]?).isSome&&p.ok ops bU (L.setIfInBounds i true)
 | .last i p,L=>bU.contains i&&decide (Region.ready .any ops L=[i])&&p.tl&&(ops[i]?).isSome&&p.ok ops bU (L.setIfInBounds i true)
def ck.len:ck->Nat
 | .done=>0
 | .rd _ p=>p.len+1
 | .one _ p=>p.len+1
 | .two _ p _ q=>max p.len q.len+1
 | .three _ p _ q _ r=>max p.len (max q.len r.len)+1
 | .last _ p=>p.len+1
 | .pure _ p=>p.len+1
def cv (P:Program)(J:Goroutine->af->Prop)(ops:Array Oper)(F0:af)(Q:Act->af->Prop):fB->Bool->Act->af->Prop
 | .done,_,a,F=>Q a F
 | .bad,_,_,_=>False
 | .rd o p,_,a,F=>match cz ops o a with
  |some false=>cv P J ops F0 Q p true (aZ a o.dst undef) F
  |some true=>match o.op with
   | .load t x=>match ev a x with
    | .pointer (some ad)=>match e4 P F0 t ad with
     |some v=>cv P J ops F0 Q p true (aZ a o.dst v) F
     |none=>False
    |_=>False
   | .call {callee:=.value x,args, ..}=>match ev a x with
    | .func (.func fn) first captured=>aI P fn=true/\∃v,Plain P J F0 fn (first++args.map (ev a)++captured) v/\cv P J ops F0 Q p false (aZ a o.dst v) F
    |_=>False
   |_=>match iE P o a with
    |some v=>cv P J ops F0 Q p true (aZ a o.dst v) F
    |none=>False
  |none=>False
 | .one o p,_,a,F=>match cz ops o a with
  |some true=>cG P J o (fun v F'=>Knows F0 F'/\cv P J ops F0 Q p (!Oper.calls o) (aZ a o.dst v) F') a F
  |_=>False
 | .two o p o' q,_,a,F=>(match cz ops o a with
  |some true=>cG P J o (fun v F'=>Knows F0 F'/\cv P J ops F0 Q p (!Oper.calls o) (aZ a o.dst v) F') a F
  |_=>False)/\(match cz ops o' a with
  |some true=>cG P J o' (fun v F'=>Knows F0 F'/\cv P J ops F0 Q q (!Oper.calls o') (aZ a o'.dst v) F') a F
  |_=>False)
 | .three o p o' q jW r,_,a,F=>(match cz ops o a with
  |some true=>cG P J o (fun v F'=>Knows F0 F'/\cv P J ops F0 Q p (!Oper.calls o) (aZ a o.dst v) F') a F
  |_=>False)/\(match cz ops o' a with
  |some true=>cG P J o' (fun v F'=>Knows F0 F'/\cv P J ops F0 Q q (!Oper.calls o') (aZ a o'.dst v) F') a F
  |_=>False)/\(match cz ops jW a with
  |some true=>cG P J jW (fun v F'=>Knows F0 F'/\cv P J ops F0 Q r (!Oper.calls jW) (aZ a jW.dst v) F') a F
  |_=>False)
 | .pure o p,_,a,F=>match cz ops o a with
  |some false=>cv P J ops F0 Q p true (aZ a o.dst undef) F
  |some true=>match iE P o a with
   |some v=>cv P J ops F0 Q p true (aZ a o.dst v) F
   |none=>False
  |none=>False
 | .last o p,_,a,F=>match cz ops o a with
  |some true=>cG P J o (fun v F'=>cv P J ops F0 Q p (!Oper.calls o) (aZ a o.dst v) F') a F
  |_=>False
section
variable {P : Program} {main : Bool} {J : Goroutine → af → Prop} {ops : Array Oper} {Q : Act → af → Prop} {F0 : af} {bU : List Nat}
theorem m6 {p:ck}{i:Nat}{o:Oper}{fuel:Nat}{L:Array Bool}{a:Act}{F:af}(b:ops[i]?=some o)
  (ih:∀go a F,Knows F0 F->cv P J ops F0 Q (p.opers ops) go a F->dP P J ops Q (Knows F0) bU fuel (L.setIfInBounds i true) a F)
  (h:match cz ops o a with
   |some true=>cG P J o (fun v F'=>Knows F0 F'/\cv P J ops F0 Q (p.opers ops) (!Oper.calls o) (aZ a o.dst v) F') a F
   |_=>False):dG P J ops i (fun a' F'=>(¬i∈bU->Knows F0 F->Knows F0 F')/\dP P J ops Q (Knows F0) bU fuel (L.setIfInBounds i true) a' F') a F:=by
 split at h
 ·rename_i hg
  unfold dG
  simp only[b]
  rw[if_pos (cj hg)]
  refine kJ (lS.qV ?_ h)
  rintro v F' ⟨h1,h2⟩
  exact ⟨fun _ _=>h1,ih _ _ F' h1 h2⟩
 ·exact h.elim
theorem z0 {p:ck}{i:Nat}{fuel:Nat}{L:Array Bool}{go:Bool}{a:Act}{F:af}(e:Region.noSelect ops=true)(c:(ck.pure i p).ok ops bU L=true)
  (ih:∀go v a,p.ok ops bU (L.setIfInBounds i true)=true->cv P J ops F0 Q (p.opers ops) go (aZ a ((ops[i]?).bind (·.dst)) v) F->dP P J ops Q (Knows F0) bU fuel (L.setIfInBounds i true) (aZ a ((ops[i]?).bind (·.dst)) v) F)
  (h:cv P J ops F0 Q ((ck.pure i p).opers ops) go a F):dP P J ops Q (Knows F0) bU (fuel+1) L a F:=by
 simp only[ck.ok,Bool.and_eq_true] at c
 obtain ⟨⟨⟨c1,c2⟩,c3⟩,c4⟩:=c
 obtain ⟨o,b⟩:=Option.isSome_iff_exists.1 c3
 have d:(Region.noSelect ops&&Region.free .any ops L i&&(Region.ready .any ops L).contains i)=true:=by rw[e,c1,c2];rfl
 have f:ck.opers ops (.pure i p)= .pure o (p.opers ops):=by simp only[ck.opers,b]
 rw[f] at h
 have hd:(ops[i]?).bind (·.dst)=o.dst:=by rw[b];rfl
 rw[hd] at ih
 unfold cv at h
 split at h
 ·rename_i hg
  exact zZ i undef b d (.inr ⟨cj hg,rfl⟩) (ih _ _ _ c4 h)
 ·rename_i hg
  split at h
  ·rename_i v g
   exact zZ i v b d (.inl ⟨cj hg,fun F R _ j=>kJ (qS g j)⟩) (ih _ _ _ c4 h)
  ·exact h.elim
 ·exact h.elim
theorem u5 (d:Region.noSelect ops=true):∀(p:ck) (fuel:Nat) (L:Array Bool) (go:Bool) (a:Act) (F:af),p.tl=true->p.len<=fuel->p.ok ops bU L=true->cv P J ops F0 Q (p.opers ops) go a F->dP P J ops Q (Knows F0) bU fuel L a F
 | .done,fuel,L,go,a,F,_,c,b,h=>by
  simp only[ck.ok,decide_eq_true_eq] at b
  unfold ck.opers cv at h
  exact zY b h _
 | .last i p,fuel,L,go,a,F,ht,c,b,h=>by
  simp only[ck.ok,Bool.and_eq_true,decide_eq_true_eq] at b
  obtain ⟨⟨⟨⟨c1,c2⟩,c3⟩,c4⟩,g⟩:=b
  obtain ⟨o,e⟩:=Option.isSome_iff_exists.1 c4
  have j:ck.opers ops (.last i p)= .last o (p.opers ops):=by simp only[ck.opers,e]
  rw[j] at h
  simp only[ck.len] at c
  obtain ⟨fuel,rfl⟩:∃f,fuel=f+1:=⟨fuel - 1,by omega⟩
  unfold cv at h
  refine zX i c2 ?_
  split at h
  ·rename_i hg
   unfold dG
   simp only[e]
   rw[if_pos (cj hg)]
   refine kJ (lS.qV ?_ h)
   exact fun v F' k=>⟨fun l _=>absurd (by simpa using c1) l,u5 d p fuel _ _ _ F' c3 (by omega) g k⟩
  ·exact h.elim
 | .pure i p,fuel,L,go,a,F,ht,c,b,h=>by
  simp only[ck.len] at c
  obtain ⟨fuel,rfl⟩:∃f,fuel=f+1:=⟨fuel - 1,by omega⟩
  exact z0 d b (fun go v a c4 m=>u5 d p fuel _ go _ F ht (by omega) c4 m) h
 | .rd _ _,_,_,_,_,_,ht,_,_,_=>by cases ht
 | .one _ _,_,_,_,_,_,ht,_,_,_=>by cases ht
 | .two ..,_,_,_,_,_,ht,_,_,_=>by cases ht
 | .three ..,_,_,_,_,_,ht,_,_,_=>by cases ht
theorem jX (g:Region.noSelect ops=true):∀(p:ck) (fuel:Nat) (L:Array Bool) (go:Bool) (a:Act) (F:af),Knows F0 F->p.len<=fuel->p.ok ops bU L=true->cv P J ops F0 Q (p.opers ops) go a F->dP P J ops Q (Knows F0) bU fuel L a F
 | .done,fuel,L,go,a,F,b,e,c,h=>by
  simp only[ck.ok,decide_eq_true_eq] at c
  unfold ck.opers cv at h
  exact zY c h _
 | .rd i p,fuel,L,go,a,F,b,e,c,h=>by
  simp only[ck.ok,Bool.and_eq_true] at c
  obtain ⟨⟨⟨⟨c1,c2⟩,c3⟩,l⟩,c4⟩:=c
  obtain ⟨o,d⟩:=Option.isSome_iff_exists.1 c3
  have y:(Region.noSelect ops&&Region.free .any ops L i&&(Region.ready .any ops L).contains i)=true:=by rw[g,c1,c2];rfl
  have m:ck.opers ops (.rd i p)= .rd o (p.opers ops):=by simp only[ck.opers,d]
  rw[m] at h
  simp only[ck.len] at e
  obtain ⟨fuel,rfl⟩:∃f,fuel=f+1:=⟨fuel - 1,by omega⟩
  have next:∀go v,cv P J ops F0 Q (p.opers ops) go (aZ a o.dst v) F->dP P J ops Q (Knows F0) bU fuel (L.setIfInBounds i true) (aZ a o.dst v) F:=fun go v n=>
   jX g p fuel _ go _ F b (by omega) c4 n
  unfold cv at h
  split at h
  ·rename_i hg
   exact Et i d y l hg b (next true undef h)
  ·rename_i hg
   split at h
   ·rename_i t x A
    split at h
    case h_2=>exact h.elim
    rename_i ad C
    split at h
    case h_2=>exact h.elim
    rename_i v n
    refine uZ i v d y l hg (fun F R z u=>?_) b (next _ v h)
    unfold cG
    simp only[A,C,z.e4 n]
    exact u
   ·rename_i x args argTypes A
    split at h
    case h_2=>exact h.elim
    rename_i fn first captured s
    obtain ⟨D,v,E,h⟩:=h
    refine uZ i v d y l hg (fun F R z u=>?_) b (next _ v h)
    unfold cG
    simp only[A,s]
    exact ⟨D,(E F z).mono fun K F' G=>by obtain ⟨rfl,rfl⟩:=G;exact u⟩
   ·split at h
    case h_2=>exact h.elim
    rename_i v n
    exact uZ i v d y l hg (fun F R z u=>qS n u) b (next _ v h)
  ·exact h.elim
 | .one i p,fuel,L,go,a,F,b,e,c,h=>by
  simp only[ck.ok,Bool.and_eq_true,decide_eq_true_eq] at c
  obtain ⟨⟨c1,c3⟩,c4⟩:=c
  obtain ⟨o,d⟩:=Option.isSome_iff_exists.1 c3
  have m:ck.opers ops (.one i p)= .one o (p.opers ops):=by simp only[ck.opers,d]
  rw[m] at h
  simp only[ck.len] at e
  obtain ⟨fuel,rfl⟩:∃f,fuel=f+1:=⟨fuel - 1,by omega⟩
  unfold cv at h
  exact zX i c1 (m6 d (fun go a F b h=>jX g p fuel _ go a F b (by omega) c4 h) h)
 | .two i p j q,fuel,L,go,a,F,b,e,c,h=>by
  simp only[ck.ok,Bool.and_eq_true,decide_eq_true_eq] at c
  obtain ⟨⟨⟨⟨c1,c2⟩,c3⟩,c4⟩,l⟩:=c
  obtain ⟨o,d⟩:=Option.isSome_iff_exists.1 c2
  obtain ⟨o',w⟩:=Option.isSome_iff_exists.1 c3
  have m:ck.opers ops (.two i p j q)= .two o (p.opers ops) o' (q.opers ops):=by simp only[ck.opers,d,w]
  rw[m] at h
  simp only[ck.len] at e
  obtain ⟨fuel,rfl⟩:∃f,fuel=f+1:=⟨fuel - 1,by omega⟩
  unfold cv at h
  refine uY c1 (by simp) fun x s=>?_
  simp only[List.mem_cons,List.not_mem_nil,or_false] at s
  rcases s with rfl|rfl
  ·exact m6 d (fun go a F b h=>jX g p fuel _ go a F b (by omega) c4 h) h.1
  ·exact m6 w (fun go a F b h=>jX g q fuel _ go a F b (by omega) l h) h.2
 | .three i p j q k r,fuel,L,go,a,F,b,e,c,h=>by
  simp only[ck.ok,Bool.and_eq_true,decide_eq_true_eq] at c
  obtain ⟨⟨⟨⟨⟨⟨c1,c2⟩,c3⟩,c4⟩,l⟩,H⟩,I⟩:=c
  obtain ⟨o,d⟩:=Option.isSome_iff_exists.1 c2
  obtain ⟨o',w⟩:=Option.isSome_iff_exists.1 c3
  obtain ⟨jW,B⟩:=Option.isSome_iff_exists.1 c4
  have m:ck.opers ops (.three i p j q k r)= .three o (p.opers ops) o' (q.opers ops) jW (r.opers ops):=by simp only[ck.opers,d,w,B]
  rw[m] at h
  simp only[ck.len] at e
  obtain ⟨fuel,rfl⟩:∃f,fuel=f+1:=⟨fuel - 1,by omega⟩
  unfold cv at h
  refine uY c1 (by simp) fun x s=>?_
  simp only[List.mem_cons,List.not_mem_nil,or_false] at s
  rcases s with rfl|rfl|rfl
  ·exact m6 d (fun go a F b h=>jX g p fuel _ go a F b (by omega) l h) h.1
  ·exact m6 w (fun go a F b h=>jX g q fuel _ go a F b (by omega) H h) h.2.1
  ·exact m6 B (fun go a F b h=>jX g r fuel _ go a F b (by omega) I h) h.2.2
 | .last i p,fuel,L,go,a,F,b,e,c,h=>u5 g (.last i p) fuel L go a F (by simp only[ck.ok,Bool.and_eq_true] at c;exact c.1.1.2) e c h
 | .pure i p,fuel,L,go,a,F,b,e,c,h=>by
  simp only[ck.len] at e
  obtain ⟨fuel,rfl⟩:∃f,fuel=f+1:=⟨fuel - 1,by omega⟩
  exact z0 g c (fun go v a c4 n=>jX g p fuel _ go _ F b (by omega) c4 n) h
theorem gq {Q:Ex->Act->af->Prop}(hJ:Closed P main J)(d:P.follows .mixedOrders=true)(bU:List Nat)(p:ck){id:Nat}{a:Act}{F:af}(F0:af)(e:Knows F0 F)
  (c:(Region.noSelect ops&&decide (p.len<=ops.size)&&p.ok ops bU (Array.replicate ops.size false))=true)
  (h:cv P J ops F0 (Q .normal) (p.opers ops) true a F):Wp J (.region id ops true) Q a F:=by
 simp only[Bool.and_eq_true,decide_eq_true_eq] at c
 obtain ⟨⟨h1,h2⟩,h3⟩:=c
 intro b k cs hb hk
 refine hJ.step fun w hw=>?_
 refine ⟨_,_,_,F,yC,.drawn _ _ _,hw.drawn _,by simp,?_⟩
 refine qz (K:=Q .normal) hJ (tV hb) (fun a' F' f=>hk .normal a' F' f) _ _ _ ?_
 simp only[Region.schedule,d,Bool.true_or,if_true]
 exact Ep ops.size _ _ a F (jX (bU:=bU) h1 p ops.size _ true a F e h2 h3 h)
end
theorem Eu {P:Program}{J:Goroutine->af->Prop}{ops:Array Oper}{F0:af}{Q:Act->af->Prop}{go:Bool}{a:Act}{F:af}:cv P J ops F0 Q .done go a F=Q a F:=rfl
theorem Ev {P:Program}{J:Goroutine->af->Prop}{ops:Array Oper}{F0:af}{Q:Act->af->Prop}{o:Oper}{p:fB}{a:Act}{F:af}:cv P J ops F0 Q (.rd o p) true a F=match cz ops o a with
  |some false=>cv P J ops F0 Q p true (aZ a o.dst undef) F
  |some true=>match o.op with
   | .load t x=>match ev a x with
    | .pointer (some ad)=>match e4 P F0 t ad with
     |some v=>cv P J ops F0 Q p true (aZ a o.dst v) F
     |none=>False
    |_=>False
   | .call {callee:=.value x,args, ..}=>match ev a x with
    | .func (.func fn) first captured=>aI P fn=true/\∃v,Plain P J F0 fn (first++args.map (ev a)++captured) v/\cv P J ops F0 Q p false (aZ a o.dst v) F
    |_=>False
   |_=>match iE P o a with
    |some v=>cv P J ops F0 Q p true (aZ a o.dst v) F
    |none=>False
  |none=>False:=(Eq.refl _).trans (Eq.refl _)
theorem z1 {P:Program}{J:Goroutine->af->Prop}{ops:Array Oper}{F0:af}{Q:Act->af->Prop}{o:Oper}{p:fB}{a:Act}{F:af}:cv P J ops F0 Q (.one o p) true a F=match cz ops o a with
  |some true=>cG P J o (fun v F'=>Knows F0 F'/\cv P J ops F0 Q p (!Oper.calls o) (aZ a o.dst v) F') a F
  |_=>False:=(Eq.refl _).trans (Eq.refl _)
theorem jY {P:Program}{J:Goroutine->af->Prop}{ops:Array Oper}{F0:af}{Q:Act->af->Prop}{o o':Oper}{p q:fB}{go:Bool}{a:Act}{F:af}(h1:cv P J ops F0 Q (.one o p) true a F)(h2:cv P J ops F0 Q (.one o' q) true a F):cv P J ops F0 Q (.two o p o' q) go a F:=by
 rw[z1] at h1 h2
 unfold cv
 exact ⟨h1,h2⟩
theorem Ew {P:Program}{J:Goroutine->af->Prop}{ops:Array Oper}{F0:af}{Q:Act->af->Prop}{o:Oper}{p:fB}{a:Act}{F:af}:cv P J ops F0 Q (.last o p) true a F=match cz ops o a with
  |some true=>cG P J o (fun v F'=>cv P J ops F0 Q p (!Oper.calls o) (aZ a o.dst v) F') a F
  |_=>False:=(Eq.refl _).trans (Eq.refl _)
theorem Ey {P:Program}{J:Goroutine->af->Prop}{ops:Array Oper}{F0:af}{Q:Act->af->Prop}{o:Oper}{p:fB}{a:Act}{F:af}:cv P J ops F0 Q (.pure o p) true a F=match cz ops o a with
  |some false=>cv P J ops F0 Q p true (aZ a o.dst undef) F
  |some true=>match iE P o a with
   |some v=>cv P J ops F0 Q p true (aZ a o.dst v) F
   |none=>False
  |none=>False:=(Eq.refl _).trans (Eq.refl _)
theorem bQ {P:Program}{J:Goroutine->af->Prop}{ops:Array Oper}{F0:af}{Q:Act->af->Prop}:∀{p:fB} {go:Bool} {a:Act} {F:af},cv P J ops F0 Q p true a F->cv P J ops F0 Q p go a F
 | .done,_,_,_,h=>h
 | .bad,_,_,_,h=>h
 | .rd ..,_,_,_,h=>h
 | .one ..,_,_,_,h=>h
 | .two ..,_,_,_,h=>h
 | .three ..,_,_,_,h=>h
 | .last ..,_,_,_,h=>h
 | .pure ..,_,_,_,h=>h
attribute [irreducible] cv
attribute [go_sem] Eu Ev z1 Ew Ey ck.opers
theorem eN {ro aL:Addr->Option Value}{l:List (Nat×Obj)}(a:Ext ro aL)(hn:ay aL l)(own:List (Nat×Obj)):Knows ⟨ro,l⟩ ⟨aL,own⟩=iD l own:=
 propext ⟨fun h=>h.2.2,DH a hn⟩
section
variable {P : Program} {main : Bool} {J : Goroutine → af → Prop} {a : Act} {F : af}
def lV (l:Nat)(R:Value->af->Prop)(st:LoopState)(jump:Option Code)(F:af):Prop:=
 ∃lo,F.eT l=some (.loop lo)/\R (.bool jump.isNone) (F.put l (.loop {lo with state:=st,pending:=jump}))
def q6 (l:Nat)(R:Value->af->Prop):Ex->Act->af->Prop
 | .normal,_,F=>lV l R .ready none F
 | .exit id,_,F=>lV l R .done (some (.exit id)) F
 | .ret,_,F=>lV l R .done (some .ret) F
def pg (J:Goroutine->af->Prop)(l:Nat)(body:Code)(R:Value->af->Prop):Ex->Act->af->Prop
 | .normal,a,F=>∃lo,F.eT l=some (.loop lo)/\lo.state= .ready/\Wp J body (q6 l R) a (F.put l (.loop {lo with state:=.busy}))
 |_,_,_=>False
theorem u6 {l:Nat}{R:Value->af->Prop}{st:LoopState}{jump:Option Code}(a:st=if jump.isNone then .ready else .done)(h:lV l R st jump F):aT P (Instr.endRound l jump) R F:=by
 obtain ⟨lo,h1,h2⟩:=h
 simp only[Instr.endRound,Instr.getLoop,bq,mT]
 refine ⟨_,h1,?_⟩
 simp only[bC,bq,lH,h1,Option.isSome_some,Obj.isChan,true_and]
 rw[a] at h2
 exact h2
theorem u7 (hJ:Closed P main J){l:Nat}{b:Frame}{a':Act}{todo:List Item}{jump:Option Code}{c:Frame}{cs:List Frame}(hk:b.kind= .normal)
  (hs:∀w,stepG P main (G (on b a' todo) (c::cs)) w=GStep.after (seen P b.fn ((Instr.endRound l jump).runT P w #[]).2) (match ((Instr.endRound l jump).runT P w #[]).1 with
    | .ok v w=>doReturn P main (on b a' todo) (c::cs) none v w
    | .halt _ w=>.ended (.stuck "range over a function: no such loop" ((on b a' todo).pos P)) w))
  (h:aT P (Instr.endRound l jump) (fun v F'=>J (G (c.finish v) cs) F') F):J (G (on b a' todo) (c::cs)) F:=by
 refine hJ.step fun w hw=>?_
 obtain ⟨v,w',F',es,H⟩:=kH _ F w #[] h hw
 have a:=H.run
 rw[Array.empty_append] at a
 refine ⟨G (c.finish v) cs,w',seen P b.fn es,F',?_,H.upd,H.has,fun e he=>H.gU e (mem_seen he),H.post⟩
 rw[hs w,a]
 have d:(on b a' todo).kind= .normal:=hk
 simp only[doReturn,d,GStep.after,G]
 simp
theorem jc.of_wp (hJ:Closed P main J){l:Nat}{f:FuncId}{tmps:Array Value}{assign body:Code}{R:Value->af->Prop}(hd:fo assign=true)(m:fo body=true)
  (h:Wp J assign (pg J l body R) {tmps:=tmps,defers:=[]} F):jc J l f tmps assign body F R:=by
 intro c cs d
 let b:Frame:={(default:Frame) with fn:=f,kind:=.normal,roundOf:=some l}
 have he:Frame.round l f tmps assign body .normal=on b {tmps:=tmps,defers:=[]} (.code assign::[.beginRound,.code body]):=rfl
 rw[he]
 refine h b [.beginRound,.code body] (c::cs) ⟨by simp[b],.inr hd⟩ fun e a' F' a=>?_
 cases e with
 |exit i=>exact a.elim
 |ret=>exact a.elim
 |normal=>
  obtain ⟨lo,h1,h2,h3⟩:=a
  show J (G (on b a' [.beginRound,.code body]) (c::cs)) F'
  have o:aT P (do Instr.beginRound l;pure Next.skip:Sem Next) (fun n g=>n= .skip/\g=F'.put l (.loop {lo with state:=.busy})) F':=by
   simp only[Instr.beginRound,Instr.getLoop,bq,mT]
   refine ⟨_,h1,?_⟩
   simp only[bC,bq,lH,h1,Option.isSome_some,Obj.isChan,true_and,h2]
   all_goals first|trivial|exact ⟨rfl,rfl⟩
  refine hJ.step fun w hw=>?_
  obtain ⟨n,w',g,es,H⟩:=kH _ F' w #[] o hw
  have j:=H.run
  rw[Array.empty_append] at j
  obtain ⟨rfl,rfl⟩:=H.post
  refine ⟨G (on b a' [.code body]) (c::cs),w',seen P b.fn es,_,?_,H.upd,H.has,fun e he=>H.gU e (mem_seen he),?_⟩
  ·have p:b.roundOf=some l:=rfl
   simp only[G,stepG,stepG.exec,on,p,Option.elim,stepG.apply,if_true]
   have q:(b.kind==CallKind.early)=false:=rfl
   simp only[j,q,Bool.false_eq_true,if_false,GStep.after]
   simp[Frame.finish,undef]
  ·refine h3 b [] (c::cs) ⟨by simp[b],.inr m⟩ fun e a2 g a=>?_
   cases e with
   |normal=>
    refine u7 hJ (l:=l) (jump:=none) rfl (fun w=>?_) (u6 rfl (R:=fun v F'=>J (G (c.finish v) cs) F') ?_)
    ·simp only[G,stepG,stepG.exec,on]
     rfl
    ·obtain ⟨lo,h1,h2⟩:=a
     exact ⟨lo,h1,d _ _ h2⟩
   |exit i=>
    intro k r
    refine u7 hJ (l:=l) (jump:=some (.exit i)) rfl (fun w=>?_) (u6 rfl (R:=fun v F'=>J (G (c.finish v) cs) F') ?_)
    ·have hn:exitTo i k=none:=r
     simp only[G,stepG,stepG.exec,on,hn,Option.elim]
     rfl
    ·obtain ⟨lo,h1,h2⟩:=a
     exact ⟨lo,h1,d _ _ h2⟩
   |ret=>
    intro k
    refine u7 hJ (l:=l) (jump:=some .ret) rfl (fun w=>?_) (u6 rfl (R:=fun v F'=>J (G (c.finish v) cs) F') ?_)
    ·simp only[G,stepG,stepG.exec,on]
     rfl
    ·obtain ⟨lo,h1,h2⟩:=a
     exact ⟨lo,h1,d _ _ h2⟩
def q7 (Q:Ex->Act->af->Prop)(a:Act)(F:af):Option Code->Prop
 |none=>Q .normal a F
 |some (.exit id)=>Q (.exit id) a F
 |some .ret=>Q .ret a F
 |_=>False
def m7 (b:FuncId)(a:Act)(params:Array Tmp)(assign body:Code)(d:Nat):Loop:={state:=.ready,pending:=none,fn:=b,tmps:=a.tmps,params:=params,assign:=assign,body:=body,defers:=d}
theorem Ez (hJ:Closed P main J){x:Operand}{params:Array Tmp}{assign body:Code}{Q:Ex->Act->af->Prop}{fn:FuncId}{first captured:Array Value}
  (D:ev a x= .func (.func fn) first captured) (E:aI P fn=true)
  (I:∀L d l,dK F d->dK (F.push d (.deferred (some []))) l->
   cK P J fn (first++#[.func (.yield l) #[] #[]]++captured) ((F.push d (.deferred (some []))).push l (.loop (m7 L a params assign body d)))
    (fun _ F'=>∃lo,F'.eT l=some (.loop lo)/\lo.state≠ .busy/\q7 Q {a with defers:=⟨.collected d,#[]⟩::a.defers} (F'.put l (.loop {lo with state:=.exhausted})) lo.pending)):
  Wp J (.rangeFunc x params assign body) Q a F:=by
 intro b k cs hb hk
 have s:b.roundOf=none:=hb.round.elim id fun h=>by simp[fo] at h
 obtain ⟨t,M,N,O,R,p,ar⟩:=b
 simp only at s
 subst s
 let b:Frame:=⟨t,M,N,O,R,p,none⟩
 have S:a.eval x= .func (.func fn) first captured:=D
 have i:=E
 unfold aI at i
 split at i
 case h_2=>cases i
 rename_i a0 T
 simp only[Bool.not_eq_true',Bool.or_eq_false_iff] at i
 let K:Nat×List Deferred->af->Prop:=fun r F'=>∃d l,r=(l,[⟨.collected d,#[]⟩])/\dK F d/\dK (F.push d (.deferred (some []))) l/\F'=(F.push d (.deferred (some []))).push l (.loop (m7 b.fn a params assign body d))
 have h1:aT P (Instr.enterLoop b.fn a.tmps params assign body none) K F:=by
  simp only[Instr.enterLoop,bq,oI,bC]
  exact ⟨rfl,fun d hd=>⟨rfl,fun l q=>⟨d,l,rfl,hd,q,rfl⟩⟩⟩
 refine hJ.step fun w hw=>?_
 obtain ⟨r,w1,a2,u,H1⟩:=kH _ F w #[] h1 hw
 have z:=H1.run
 rw[Array.empty_append] at z
 obtain ⟨d,l,rfl,hd,q,rfl⟩:=H1.post
 let fr':Frame:={on b a (.inRangeFunc l::k) with defers:=[⟨.collected d,#[]⟩]++a.defers}
 have U:fr'=on b {a with defers:=⟨.collected d,#[]⟩::a.defers} (.inRangeFunc l::k):=rfl
 have V:fr'.eval x= .func (.func fn) first captured:=by rw[U,tO];exact S
 have h2:aT P (do let m<-resolve fr'.eval {callee:=.value x,args:=#[.const (.func (.yield l) #[] #[])],argTypes:=#[]} 0;invoke m.target m.args:Sem Next)
   (fun n o=>n= .enter fn (first++#[.func (.yield l) #[] #[]]++captured)/\o=(F.push d (.deferred (some []))).push l (.loop (m7 b.fn a params assign body d))) ((F.push d (.deferred (some []))).push l (.loop (m7 b.fn a params assign body d))):=by
  have W:fr'.eval (.const (.func (.yield l) #[] #[]))= .func (.yield l) #[] #[]:=rfl
  simp only[resolve,V,Deferred.ofValue,bq,bC,invoke,callFunc,jN,T,i.1,i.2,Bool.false_eq_true,if_false,List.map_toArray,List.map_cons,List.map_nil,W]
  simp
 obtain ⟨n,w2,o,X,g⟩:=kH _ _ w1 #[] h2 H1.has
 have A:=g.run
 rw[Array.empty_append] at A
 obtain ⟨rfl,rfl⟩:=g.post
 refine ⟨G (Frame.enter P fn (first++#[.func (.yield l) #[] #[]]++captured) .normal) (fr'::cs),w2,seen P b.fn u++seen P b.fn X,_,?_,H1.upd.trans g.upd,g.has,fun e he=>?_,?_⟩
 ·have Y:(p==CallKind.early)=false:=by have:=hb.kind;cases p<;>simp_all
  have hs:∀e:Array Event,stepG P main (G (on b a (.code (.rangeFunc x params assign body)::k)) cs) w=GStep.after (seen P t u) (stepG.apply P true fr' cs none (do let m<-resolve fr'.eval {callee:=.value x,args:=#[.const (.func (.yield l) #[] #[])],argTypes:=#[]} 0;invoke m.target m.args) w1):=fun _=>by
   simp only[G,stepG,stepG.exec,on,b]
   rw[z]
   rfl
  show stepG P main (G (on b a (.code (.rangeFunc x params assign body)::k)) cs) w=_
  rw[hs #[]]
  unfold stepG.apply
  simp only[if_true,A]
  have Z:(fr'.kind==CallKind.early)=false:=Y
  simp only[Z,Bool.false_eq_true,if_false,GStep.after]
  rfl
 ·rcases Array.mem_append.1 he with h|h
  ·refine (H1.gU e (mem_seen h)).mono (fun _ x=>x) fun b hb=>hb.imp id fun y=>⟨y.1,Nat.lt_of_lt_of_le y.2 g.upd.size⟩
  ·refine (g.gU e (mem_seen h)).mono (fun a ab=>ab) fun b hb=>?_
   rcases hb with hb|hb
   ·rcases H1.upd.own b hb with x|x
    ·exact .inl x
    ·exact .inr ⟨x,Nat.lt_of_lt_of_le (H1.has.lt hb) g.upd.size⟩
   ·exact .inr ⟨Nat.le_trans H1.upd.size hb.1,hb.2⟩
 ·refine I b.fn d l hd q fr' cs fun v F' ad=>?_
  obtain ⟨lo,B,ae,f⟩:=ad
  have al:fr'.finish v=on b {a with defers:=⟨.collected d,#[]⟩::a.defers} (.endRangeFunc l::k):=rfl
  rw[al]
  have h3:aT P (Instr.endLoop l) (fun j o=>j=lo.pending/\o=F'.put l (.loop {lo with state:=.exhausted})) F':=by
   simp only[Instr.endLoop,Instr.getLoop,bq,mT]
   refine ⟨_,B,?_⟩
   have ao:¬(lo.state== .busy)=true:=by simpa using ae
   simp only[bC,bq,lH,B,Option.isSome_some,Obj.isChan,true_and,de,ao]
   all_goals first|trivial|exact ⟨rfl,rfl⟩
  refine hJ.step fun w hw=>?_
  obtain ⟨j,w',a3,es,H⟩:=kH _ F' w #[] h3 hw
  have C:=H.run
  rw[Array.empty_append] at C
  obtain ⟨rfl,rfl⟩:=H.post
  refine ⟨G (on b {a with defers:=⟨.collected d,#[]⟩::a.defers} ((lo.pending.map Item.code).toList++k)) cs,w',seen P b.fn es,_,?_,H.upd,H.has,fun e he=>H.gU e (mem_seen he),?_⟩
  ·simp only[G,stepG,stepG.exec,on,C,GStep.after]
   simp
  ·revert f
   cases lo.pending with
   |none=>exact fun f=>hk .normal _ _ f
   |some c=>
    intro f
    cases c<;>simp only[q7] at f<;>first
     |exact f.elim
     |exact hk (.exit _) _ _ f k rfl
     |exact hk .ret _ _ f k
end
def eW {H σ:Type}(step:σ->H->Option (Bool×σ)):List (Option H)->σ->Option (Bool×σ)
 |[],s=>some (true,s)
 |none::_,_=>none
 |some x::l,s=>match step s x with
  |some (true,s')=>eW step l s'
  |some (false,s')=>some (false,s')
  |none=>none
theorem z2 {H σ:Type}(step:σ->H->Option (Bool×σ)):∀(l l':List (Option H)) (s:σ),eW step (l++l') s=match eW step l s with
  |some (true,s')=>eW step l' s'
  |some (false,s')=>some (false,s')
  |none=>none
 |[],l',s=>rfl
 |none::l,l',s=>rfl
 |some x::l,l',s=>by
  simp only[List.cons_append,eW]
  split<;>first|rfl|exact z2 step l l' _
def iH {H σ ρ:Type}(f:H->σ->Option (Fl σ ρ)):List (Option H)->σ->Option (Fl σ ρ)
 |[],s=>some (.nx s)
 |none::_,_=>none
 |some x::l,s=>ah (f x s) fun o=>match o with
  | .nx s'=>iH f l s'
  | .bk s'=>some (.nx s')
  | .br k s'=>some (.br k s')
  | .rt _=>none
def u9 {H σ:Type}(P:Program)(y:Value)(enc:H->Value)(step:σ->H->Option (Bool×σ))(ro:Addr->Option Value)(I:σ->List (Nat×Obj)->Prop):Prop:=
 ∀s x b s',step s x=some (b,s')->∀(main:Bool) (J:Goroutine->af->Prop),Closed P main J->∀own,I s own->
  gj P J y #[enc x] ⟨ro,own⟩ (fun v F'=>∃a,Le ⟨ro,a⟩ F'/\v= .bool b/\I s' a)
def lW {H:Type}(P:Program)(f:FuncId)(first cap:Array Value)(enc:H->Value)(L:List (Option H))(ro:Addr->Option Value):Prop:=
 aI P f=true/\∀(aL:Addr->Option Value),Ext ro aL->∀(σ:Type) (step:σ->H->Option (Bool×σ)) (I:σ->List (Nat×Obj)->Prop) (a:Fn) (c d:Array Value),u9 P (.func a c d) enc step aL I->
  ∀s b s',eW step L s=some (b,s')->∀(main:Bool) (J:Goroutine->af->Prop),Closed P main J->∀own,I s own->
   cK P J f (first++#[.func a c d]++cap) ⟨aL,own⟩ (fun _ F'=>∃e,Le ⟨aL,e⟩ F'/\I s' e)
theorem lW.mono {H:Type}{P:Program}{f:FuncId}{first cap:Array Value}{enc:H->Value}{L:List (Option H)}{ro a:Addr->Option Value}(h:lW P f first cap enc L ro)(b:Ext ro a):lW P f first cap enc L a:=
 ⟨h.1,fun aL c=>h.2 aL (b.trans c)⟩
def q8:Nat:=1000000000
def lX (k:Nat):Code:=if k=q8 then .ret else .exit k
def vb (Q:Ex->Act->af->Prop)(k:Nat):Act->af->Prop:=if k=q8 then Q .ret else Q (.exit k)
def z3 {σ ρ:Type}(c:Nat)(ro:Addr->Option Value)(l d:Nat)(S:σ->List (Nat×Obj)->Prop)(lo:Loop)(b:Fl σ ρ)(v:Value)(F:af):Prop:=
 ∃a,Le ⟨ro,(l,.loop {lo with state:=(match b with| .nx _=>.ready|_=>.done),pending:=(match b with| .nx _=>none| .bk _=>some (lX c)| .br k _=>some (lX k)| .rt _=>none)})::(d,.deferred (some []))::a⟩ F/\
  match b with
  | .nx s'=>v= .bool true/\S s' a
  | .bk s'=>v= .bool false/\S s' a
  | .br _ s'=>v= .bool false/\S s' a
  | .rt _=>False
section
variable {P : Program} {main : Bool} {J : Goroutine → af → Prop} {a : Act}
theorem z4 {H σ ρ:Type}{f:H->σ->Option (Fl σ ρ)}(a:Nat):∀(L:List (Option H)) (s:σ) (o:Fl σ ρ),iH f L s=some o->
  ∃b s' pend,eW (σ:=σ×Option Nat) (fun st x=>match st with
   |(s,none)=>match f x s with
    |some (.nx s')=>some (true,(s',none))
    |some (.bk s')=>some (false,(s',some a))
    |some (.br k s')=>some (false,(s',some k))
    |_=>none
   |_=>none) L (s,none)=some (b,(s',pend))/\((o= .nx s'/\(pend=none\/pend=some a))\/∃k,o= .br k s'/\pend=some k)
 |[],s,o,h=>by
  cases h
  exact ⟨true,s,none,rfl,.inl ⟨rfl,.inl rfl⟩⟩
 |none::L,s,o,h=>by cases h
 |some x::L,s,o,h=>by
  unfold iH at h
  obtain ⟨c,h1,h2⟩:=fG h
  cases c with
  |nx s'=>
   obtain ⟨b,s2,pend,h3,d⟩:=z4 a L s' o h2
   refine ⟨b,s2,pend,?_,d⟩
   unfold eW
   simp only[h1]
   exact h3
  |bk s'=>
   cases h2
   refine ⟨false,s',some a,?_,.inl ⟨rfl,.inr rfl⟩⟩
   unfold eW
   simp only[h1]
  |br k s'=>
   cases h2
   refine ⟨false,s',some k,?_,.inr ⟨k,rfl,rfl⟩⟩
   unfold eW
   simp only[h1]
  |rt r=>cases h2
theorem z5 {ro:Addr->Option Value}{l:Nat}{o:Obj}{own:List (Nat×Obj)}(h1:Obj.oD o=false)(h2:o.isChan=false):af.eT ⟨ro,(l,o)::own⟩ l=some o:=by
 simp[af.eT,lk,h1,h2]
def pn (a:Act)(d:Nat):Act:={a with defers:=⟨.collected d,#[]⟩::a.defers}
theorem EA (a:Act)(d i:Nat):slot (pn a d) i=slot a i:=rfl
theorem EB (a:Act)(d:Nat):sz (pn a d)=sz a:=rfl
theorem EC (a:Act)(d:Nat):(pn a d).defers=⟨.collected d,#[]⟩::a.defers:=rfl
def lY (a:Act)(p:Tmp)(v:Value):Act:={tmps:=a.tmps.setIfInBounds p v,defers:=[]}
theorem m8 (a:Act)(p:Tmp)(v:Value)(i:Nat):slot (lY a p v) i=slot (aZ a (some p) v) i:=rfl
theorem vc (a:Act)(p:Tmp)(v:Value):sz (lY a p v)=sz a:=by simp[sz,lY]
theorem ve {H σ ρ:Type}(hJ:Closed P main J){x:Operand}{p:Tmp}{assign body:Code}{Q:Ex->Act->af->Prop}{fn:FuncId}{first captured:Array Value}{ro:Addr->Option Value}{own:List (Nat×Obj)}{g:Nat}
  (enc:H->Value) {L:List (Option H)} (T:ev a x= .func (.func fn) first captured) (G:lW P fn first captured enc L ro)
  (U:fo assign=true) (V:fo body=true)
  (S:σ->List (Nat×Obj)->Prop) {f:H->σ->Option (Fl σ ρ)} {z:σ} {o:Fl σ ρ} (W:iH f L z=some o) (X:S z own)
  (Y:∀(d l:Nat) (lo:Loop),lo.state= .ready->∀(s:σ) (y:H) (q:Fl σ ρ),f y s=some q->∀(main:Bool) (J:Goroutine->af->Prop),Closed P main J->∀own,S s own->
   Wp J assign (pg J l body (z3 g ro l d S lo q)) (lY a p (enc y)) ⟨ro,(l,.loop lo)::(d,.deferred (some []))::own⟩)
  (Z:¬g=q8)
  (hk:∀d l lo j s',S s' j->aM (keys ((l,.loop lo)::(d,.deferred (some []))::j))->ay ro ((l,.loop lo)::(d,.deferred (some []))::j)->(o= .nx s'->Q .normal (pn a d) ⟨ro,(l,.loop lo)::(d,.deferred (some []))::j⟩)/\
   (∀k,o= .br k s'->vb Q k (pn a d) ⟨ro,(l,.loop lo)::(d,.deferred (some []))::j⟩))
  (ab:∀k s',o= .br k s'->¬k=g):Wp J (.block g (.rangeFunc x #[p] assign body)) Q a ⟨ro,own⟩:=by
 refine aY hJ (Wp.mono (Q:=fun e a' F'=>match e with| .exit i=>if i=g then Q .normal a' F' else Q (.exit i) a' F'|e=>Q e a' F') ?_ fun e a F h=>by cases e<;>exact h)
 obtain ⟨b,s',pend,ad,ae⟩:=z4 g L z o W
 refine Ez hJ T G.1 fun A d l hd ba=>?_
 let lo:Loop:=m7 A a #[p] assign body d
 let n:Option Nat->Loop:=fun pend=>{lo with state:=(match pend with|none=>.ready|some _=>.done),pending:=pend.map lX}
 let I:σ×Option Nat->List (Nat×Obj)->Prop:=fun st al=>∃aS,al=(l,.loop (n st.2))::(d,.deferred (some []))::aS/\S st.1 aS
 have ao:u9 P (.func (.yield l) #[] #[]) enc (fun (st:σ×Option Nat) x=>match st with
   |(s,none)=>match f x s with
    |some (.nx s')=>some (true,(s',none))
    |some (.bk s')=>some (false,(s',some g))
    |some (.br k s')=>some (false,(s',some k))
    |_=>none
   |_=>none) ro I:=by
  rintro ⟨s,pend⟩ y bb ⟨s1,bc⟩ m ar K M a0 ⟨aS,rfl,a2⟩
  cases pend with
  |some k=>cases m
  |none=>
   simp only at m
   refine ⟨rfl,rfl,lo,z5 rfl rfl,rfl,?_⟩
   cases B:f y s with
   |none=>rw[B] at m;cases m
   |some q=>
    have C:=jc.of_wp M (R:=z3 g ro l d S lo q) (f:=A) U V (Y d l lo rfl s y q B ar K M aS a2)
    rw[B] at m
    have a3:(lo.params.zip #[enc y]).foldl (fun tmps (t,a)=>tmps.setIfInBounds t a) lo.tmps=a.tmps.setIfInBounds p (enc y):=by simp[lo,m7]
    show jc K l A ((lo.params.zip #[enc y]).foldl (fun tmps (t,a)=>tmps.setIfInBounds t a) lo.tmps) assign body _ _
    rw[a3]
    refine C.mono fun v F' D=>?_
    obtain ⟨j,hle,hm⟩:=D
    cases q with
    |nx s2=>
     simp only[Option.some.injEq,Prod.mk.injEq] at m
     obtain ⟨rfl,rfl,rfl⟩:=m
     exact ⟨_,hle,hm.1,j,rfl,hm.2⟩
    |bk s2=>
     simp only[Option.some.injEq,Prod.mk.injEq] at m
     obtain ⟨rfl,rfl,rfl⟩:=m
     exact ⟨_,hle,hm.1,j,rfl,hm.2⟩
    |br k s2=>
     simp only[Option.some.injEq,Prod.mk.injEq] at m
     obtain ⟨rfl,rfl,rfl⟩:=m
     exact ⟨_,hle,hm.1,j,rfl,hm.2⟩
    |rt r=>exact hm.elim
 have a4:=G.2 ro (Ext.refl ro) _ _ I _ _ _ ao (z,none) b (s',pend) ad main J hJ ((l,.loop lo)::(d,.deferred (some []))::own) ⟨own,rfl,X⟩
 intro c cs a5
 refine a4 c cs fun v F' D=>?_
 obtain ⟨a0,hle,j,rfl,a6⟩:=D
 by_cases hw:∃w,Has F' w
 case neg=>exact hJ.step fun w a7=>absurd ⟨w,a7⟩ hw
 obtain ⟨w,hw⟩:=hw
 have N:=hle.has w hw
 refine hJ.mono hle (a5 v _ ⟨n pend,z5 rfl rfl,?_,?_⟩)
 ·cases pend<;>simp[n]
 ·obtain ⟨O,a8⟩:=hk d l {n pend with state:=.exhausted} j s' a6 ⟨N.nodup⟩ (fun b hb off sp=>by
   cases C:ro ⟨b,off,sp⟩ with
   |none=>rfl
   |some v=>exact absurd hb (N.apart _ v C))
  have a9:af.put ⟨ro,(l,.loop (n pend))::(d,.deferred (some []))::j⟩ l (.loop {n pend with state:=.exhausted})=⟨ro,(l,.loop {n pend with state:=.exhausted})::(d,.deferred (some []))::j⟩:=by simp[af.put,iz]
  rw[a9]
  rcases ae with ⟨rfl,rfl|rfl⟩|⟨k,rfl,rfl⟩
  ·exact O rfl
  ·show q7 _ _ _ (some (lX g))
   have:lX g= .exit g:=if_neg Z
   rw[this]
   show (if g=g then Q .normal _ _ else Q (.exit g) _ _)
   rw[if_pos rfl]
   exact O rfl
  ·have u:=a8 k rfl
   show q7 _ _ _ (some (lX k))
   unfold vb at u
   unfold lX
   split
   ·rename_i E
    rw[if_pos E] at u
    exact u
   ·rename_i E
    rw[if_neg E] at u
    show (if k=g then Q .normal _ _ else Q (.exit k) _ _)
    rw[if_neg (ab k s' rfl)]
    exact u
theorem ED {R:List Deferred->af->Prop}{r:Nat}{F:af}:aT P (Instr.takeDeferred r) R F=match F.eT r with
  |some (.deferred (some a))=>R a (F.put r (.deferred none))
  |_=>False:=by
 unfold Instr.takeDeferred
 rw[bq,mT]
 refine propext ⟨fun ⟨o,h1,h2⟩=>?_,fun h=>?_⟩
 ·rw[h1]
  cases o<;>first|exact (show False from h2).elim|skip
  rename_i a
  cases a with
  |none=>exact (show False from h2).elim
  |some a=>
   simp only[bq,lH,bC] at h2
   exact h2.2.2
 ·split at h
  ·rename_i a b
   refine ⟨_,b,?_⟩
   simp only[bq,lH,bC]
   exact ⟨rfl,by rw[b];rfl,h⟩
  ·exact h.elim
theorem EE (hJ:Closed P main J){y:Value}{args:Array Value}{ro:Addr->Option Value}{own:List (Nat×Obj)}{R:Value->List (Nat×Obj)->Prop}(pre:List (Nat×Obj))
  (h:∀(main:Bool) (J:Goroutine->af->Prop),Closed P main J->gj P J y args ⟨ro,own⟩ (fun v F'=>∃a,Le ⟨ro,a⟩ F'/\R v a)) (i:aM (keys (pre++own))) {K:Value->af->Prop}
  (hk:∀v a,R v a->aM (keys (pre++a))->K v ⟨ro,pre++a⟩):gj P J y args ⟨ro,pre++own⟩ K:=by
 have key:∀jk:Frame,(∀(main:Bool) (J:Goroutine->af->Prop),Closed P main J->q5 J jk ⟨ro,own⟩ (fun v F'=>∃a,Le ⟨ro,a⟩ F'/\R v a))->q5 J jk ⟨ro,pre++own⟩ K:=fun jk h0=>
  zT hJ pre [] (by simp) R (fun m b d c cs j=>h0 m b d c cs fun v F' k=>j v F' (by obtain ⟨o,h1,h2⟩:=k;exact ⟨o,h2,h1⟩)) fun v n p a f hn=>by
   rw[List.append_nil] at f
   subst f
   exact ⟨_,Le.refl _,hk v n p hn⟩
 have h0:=h main J hJ
 unfold gj at h0 ⊢
 split at h0
 ·rename_i fn first captured
  refine ⟨h0.1,key _ fun m b d=>?_⟩
  have:=h m b d
  unfold gj at this
  exact this.2
 ·rename_i l first captured
  obtain ⟨e1,e2,r,h1,h2,_⟩:=h0
  refine ⟨e1,e2,r,?_,h2,key _ fun m b d=>?_⟩
  ·have hm:l∈keys own:=by
    unfold af.eT at h1
    split at h1
    ·rename_i o s;exact eK (gE s)
    ·cases h1
   have hn:l∉keys pre:=fun t=>by
    have:=i.nd
    rw[cm] at this
    exact (List.nodup_append.1 this).2.2 l t l hm rfl
   have u:∀(pre:List (Nat×Obj)),l∉keys pre->lk (pre++own) l=lk own l:=fun pre=>by
    induction pre with
    |nil=>intro _;rfl
    |cons q pre ih=>
     intro e
     simp only[keys,List.map_cons,List.mem_cons,not_or] at e
     simp only[List.cons_append,lk,if_neg (Ne.symm e.1)]
     exact ih e.2
   unfold af.eT at h1 ⊢
   simp only at h1 ⊢
   rw[u pre hn]
   exact h1
  ·have:=h m b d
   unfold gj at this
   obtain ⟨_,_,x,g,z,w⟩:=this
   rw[h1] at g
   cases g
   exact w
 ·exact h0.elim
theorem cK.less (hJ:Closed P main J){f:FuncId}{args:Array Value}{F:af}{R:Value->af->Prop}(h:cK P J f args F (fun v F'=>∃F0,Le F0 F'/\R v F0)):cK P J f args F R:=
 fun c cs a=>h c cs fun v F' ⟨F0,hle,b⟩=>hJ.mono hle (a v F0 b)
def z6 (P:Program)(rs:List ResultVar)(R:Value->af->Prop):Ex->Act->af->Prop
 | .exit _,_,_=>False
 |_,a,F=>gW P a.defers (fun F=>match lR P F a rs with|some v=>R v F|none=>False) F
theorem z7 {K b:af->Prop}(h:∀F,K F->b F):∀(a:List Deferred) (F:af),gW P a K F->gW P a b F
 |[],F,x=>h F x
 |d::a,F,⟨r,h1,h2⟩=>⟨r,h1,gH (fun calls F' c=>⟨c.1,z7 h a F' c.2⟩) _ _ h2⟩
theorem aC.vf {f:FuncId}{fn:Func}{c:Code}{n:Nat}{rs:List ResultVar}{args:Array Value}{F:af}{R:Value->af->Prop}(g:P.funcs[f]?=some fn)(hb:fn.body=some c)(hn:fn.ntmps=n)(j:fn.results=rs.toArray)(k:args.size<=n)
  (h:∀main J,Closed P main J->∀A:Act,sz A=n->A.defers=[]->(∀i,slot A i=args.getD i undef)->Wp J c (z6 P rs R) A F):aC P f args F R:=
 aC.start g hb hn k fun main J hJ A h1 h2 h3=>(h main J hJ A h1 h2 h3).mono fun e a F b=>by
  have key:gW P a.defers (fun F=>match lR P F a rs with|some v=>R v F|none=>False) F->gW P a.defers (fun F=>aT P (results fn a.tmps) R F) F:=z7 (fun F d=>by
   split at d
   ·rename_i v l;exact qR j l d
   ·exact d.elim) _ _
  cases e with
  |exit i=>exact b
  |normal=>exact key b
  |ret=>exact key b
theorem cK.go (hJ:Closed P main J){f:FuncId}{fn:Func}{c:Code}{n:Nat}{rs:List ResultVar}{args:Array Value}{F:af}{R:Value->af->Prop}(g:P.funcs[f]?=some fn)(hb:fn.body=some c)(hn:fn.ntmps=n)(j:fn.results=rs.toArray)(l:args.size<=n)
  (h:∀A:Act,sz A=n->A.defers=[]->(∀i,slot A i=args.getD i undef)->Wp J c (gk P rs R) A F):cK P J f args F R:=by
 refine cK.of_wp hJ g hb ?_
 refine (h _ (by simp[sz,hn];omega) rfl fun i=>?_).mono fun e a F d=>?_
 ·simp only[slot,hn,Array.getD_eq_getD_getElem?]
  rcases Nat.lt_or_ge i args.size with hi|hi
  ·rw[Array.getElem?_append_left hi]
  ·rw[Array.getElem?_append_right hi,Array.getElem?_replicate,Array.getElem?_eq_none hi]
   split<;>rfl
 ·cases e with
  |exit i=>exact d
  |_=>
   obtain ⟨hd,b⟩:=d
   split at b
   ·rename_i v k
    show gW P a.defers _ F
    rw[hd]
    exact qR j k b
   ·exact b.elim
theorem EF {d:Nat}{X:Nat->Prop}:(∃r,Target.collected d=Target.collected r/\X r)=X d:=propext ⟨fun ⟨r,h1,h2⟩=>by cases h1;exact h2,fun h=>⟨d,rfl,h⟩⟩
attribute [go_sem] EF EA EB EC z6 ED af.eT Obj.oD Obj.isChan
end
section
variable {P : Program}
theorem z8 {argTypes:Array TypeId}{t e ty:TypeId}{R:Value->af->Prop}{F:af}{ad:Option Addr}{n c:Nat}(ht:argTypes[0]?=some t)(hu:P.underlying t=some (.slice e))(h:R (.int .i64 c) F):eL P (Builtin.cap_ argTypes ty #[.slice ad n c]) R F:=by
 unfold eL
 simp only[Builtin.cap_,ht,List.getElem?_toArray,List.getElem?_cons_zero,bq,dj,hu,bC]
 exact h
theorem EG (z:Value)(n:Nat):(Builtin.zeroCells #[z] n).toList=List.replicate n z:=by
 simp only[Builtin.zeroCells,List.size_toArray,List.length_cons,List.length_nil,Nat.zero_add,Nat.mul_one,Nat.mod_one]
 rw[Array.toList_map,Array.toList_range]
 apply List.ext_getElem
 ·simp
 ·intro i h1 h2;simp
theorem EH {ro:Addr->Option Value}{pre bf:List (Nat×Obj)}{argTypes:Array TypeId}{t e ty:TypeId}{R:Value->af->Prop}{b off n c:Nat}{arr:Array Value}{z zc:Value}(ht:argTypes[0]?=some t)(hu:P.underlying t=some (.slice e))(a:zeroOf P e=some z)(d:z.cells=#[zc])(f:bx zc=true)
  (hn:0<n) (g:au pre b) (i:off+n<=arr.size)
  (h:R (.tuple #[]) ⟨ro,pre++((b,.cells (dO arr off (List.replicate n zc)) e)::bf)⟩):
  eL P (Builtin.clear_ argTypes ty #[.slice (some ⟨b,off,none⟩) n c]) R ⟨ro,pre++((b,.cells arr e)::bf)⟩:=by
 unfold eL
 have l:n≠0:=by omega
 obtain ⟨k,rfl⟩:∃k,n=k+1:=⟨n - 1,by omega⟩
 simp only[Builtin.clear_,ht,List.getElem?_toArray,List.getElem?_cons_zero,bq,dj,hu,lI,a,d]
 refine qE _ _ 0 _ ⟨ro,pre++((b,.cells (dO arr off (List.replicate (k+1) zc)) e)::bf)⟩ ?_ ?_
 ·rw[EG]
  have:=uU (ro:=ro) (bf:=bf) (e:=e) g off (List.replicate (k+1) zc) arr 0 (fun v j=>by rw[List.eq_of_mem_replicate j];exact f) (by simpa using i)
  simpa using this
 ·simp only[bC]
  exact h
end
theorem aV.z9 {T:Type}{r:b9 T}{ro:Addr->Option Value}{e:TypeId}{v:Value}{l:List T}{aS:List (Nat×Obj)}(h:aV r ro e v l aS){own:List (Nat×Obj)}(pre bf:List (Nat×Obj))(f:own=pre++(aS++bf))(g:aM (keys own)):aA r (af.cr ⟨ro,own⟩).ro v l:=by
 subst f
 obtain ⟨ls,hg,c,hm,k⟩:=h
 rcases hg with ⟨rfl,rfl,rfl⟩|⟨b,arr,cap,rfl,rfl,hs,hle,ht,d,m⟩
 ·have:l=[]:=List.eq_nil_of_length_eq_zero (by simpa using c.symm)
  subst this
  exact aA.nil r _
 ·have o:au pre b:=Nd.fresh g.nd b (by simp[keys])
  refine ⟨some ⟨b,0,none⟩,cap,by rw[c],by omega,by omega,fun i x hi=>?_⟩
  obtain ⟨cs,h1,h2⟩:=k i x hi
  refine ⟨_,cs,rfl,r.mono aJ h2,fun j v p=>?_⟩
  have a:=oW ls i cs d h1 j v p
  rw[kK,kL,Nat.zero_add]
  have q:i*r.n+j<ls.length*r.n:=by
   have:=(List.getElem?_eq_some_iff.1 a).1
   rw[gX d] at this
   exact this
  rw[<-ht,List.getElem?_take_of_lt q] at a
  show af.get ⟨ro,pre++([(b,Obj.cells arr e)]++bf)⟩ ⟨b,i*r.n+j,none⟩=some v
  simp only[af.get,m,if_true,List.cons_append,List.nil_append,q4 o,Option.bind_some,cellOf]
  simpa using a
theorem aA.two {T:Type}{r:b9 T}{ro:Addr->Option Value}{own:List (Nat×Obj)}{b:Nat}{x y:T}{v u:Value}{e:TypeId}(c:∀off sp,ro ⟨b,off,sp⟩=none)(d:lk own b=some (.cells #[v,u] e))(h1:r.n=1)(h:r.rel ro x [v])(k:r.rel ro y [u]):
  aA r (bN ro b (.cells #[v,u] e)) (.slice (some ⟨b,0,none⟩) 2 2) [x,y]:=by
 refine ⟨some ⟨b,0,none⟩,2,rfl,Nat.le_refl _,by simp,fun i z hi=>?_⟩
 have:(i=0/\z=x)\/(i=1/\z=y):=by
  cases i with
  |zero=>simp at hi;exact .inl ⟨rfl,hi.symm⟩
  |succ i=>cases i with
   |zero=>simp at hi;exact .inr ⟨rfl,hi.symm⟩
   |succ i=>simp at hi
 rcases this with ⟨rfl,rfl⟩|⟨rfl,rfl⟩
 ·refine ⟨_,_,rfl,r.mono (fR _ _ _) h,fun j w a=>?_⟩
  cases j with
  |zero=>
   rw[Nat.zero_mul,add_zero',kL,Nat.zero_add,iF c]
   simpa [cellOf] using a
  |succ j=>simp at a
 ·refine ⟨_,_,rfl,r.mono (fR _ _ _) k,fun j w a=>?_⟩
  cases j with
  |zero=>
   rw[h1,kK,kL,iF c]
   simpa [cellOf] using a
  |succ j=>simp at a
theorem aV.clear {ro:Addr->Option Value}{e:TypeId}{b n cap k:Nat}{x:List Int}{arr:Array Value}(h:aV rI ro e (.slice (some ⟨b,0,none⟩) n cap) x [(b,.cells arr e)])(hk:k<=x.length):
  aV rI ro e (.slice (some ⟨b,0,none⟩) k cap) (x.take k) [(b,.cells (dO arr k (List.replicate (n - k) (.int .i64 0))) e)]:=by
 obtain ⟨ls,hg,r,hm,l⟩:=h
 rcases hg with ⟨a,_,_⟩|⟨s,t,m,a,o,hs,hle,ht,f,p⟩
 ·cases a
 ·cases o
  obtain ⟨rfl,rfl⟩:n=ls.length/\cap=m:=by cases a;exact ⟨rfl,rfl⟩
  have d:rI.n=1:=rfl
  rw[d] at hs ht f
  simp only[Nat.mul_one] at hs ht
  have c:(ls.take k).length=k:=by rw[List.length_take];omega
  refine ⟨ls.take k,.inr ⟨b,_,cap,by rw[c],rfl,by rw[qM];rw[d,Nat.mul_one];exact hs,by rw[c];omega,?_,?_,p⟩,by rw[c,List.length_take];omega,by rw[List.length_take];omega,?_⟩
  ·rw[qN _ _ _ (by simp;omega),c,d,Nat.mul_one,List.append_assoc,List.take_append_of_le_length (by rw[List.length_take,Array.length_toList];omega),List.take_take,Nat.min_self]
   have e1:arr.toList.take k=(arr.toList.take ls.length).take k:=by rw[List.take_take,Nat.min_eq_left (by omega)]
   rw[e1,ht]
   have e2:ls.flatten=(ls.take k).flatten++(ls.drop k).flatten:=by rw[<-List.flatten_append,List.take_append_drop]
   have j:(ls.take k).flatten.length=k:=by rw[gX (size:=1) (fun z g=>f z (List.mem_of_mem_take g)),c,Nat.mul_one]
   rw[e2,List.take_append_of_le_length (Nat.le_of_eq j.symm),List.take_of_length_le (Nat.le_of_eq j)]
  ·intro z g
   rw[d];exact f z (List.mem_of_mem_take g)
  ·intro i v a
   obtain ⟨hi,q⟩:i<k/\x[i]?=some v:=by
    rw[List.getElem?_take] at a
    split at a
    ·exact ⟨‹_›,a⟩
    ·cases a
   obtain ⟨cs,h1,h2⟩:=l i v q
   exact ⟨cs,by rw[List.getElem?_take,if_pos hi];exact h1,h2⟩
section
variable {P : Program}
theorem EI {t:TypeId}{R:Value->af->Prop}{F:af}(h:∀b,dK F b->R (.map (some b)) (F.push b (.map #[] 0))):eL P (Instr.makeMap t none) R F:=by
 unfold eL
 simp only[Instr.makeMap,bq,oI,bC]
 exact ⟨rfl,h⟩
theorem EJ {argTypes:Array TypeId}{t a b ty:TypeId}{r:Nat}{es:Array MapEntry}{clock:Nat}{R:Value->af->Prop}{F:af}(ht:argTypes[0]?=some t)(hu:P.underlying t=some (.map a b))(c:F.eT r=some (.map es clock))(h:R (.int .i64 (es.size:Int)) F):
  eL P (Builtin.len_ argTypes ty #[.map (some r)]) R F:=by
 unfold eL
 simp only[Builtin.len_,ht,List.getElem?_toArray,List.getElem?_cons_zero,bq,dj,hu,mT]
 exact ⟨_,c,h⟩
theorem Aa {c:TypeId}{key:Value}{F:af}{Q:Option (Nat×Value)->af->Prop}:∀(l:List MapEntry) (i:Nat),
  (∀e∈l,∃b,(∀(Q:Bool->af->Prop),Q b F->aT P (Op.equal c key e.key) Q F)/\(b=true↔e.key=key))->
  (∀j e,l[j]?=some e->e.key=key->Q (some (i+j,e.val)) F)->((∀e∈l,¬e.key=key)->Q none F)->aT P (Instr.findAsking c key l i) Q F
 |[],i,_,_,h2=>h2 (by simp)
 |e::l,i,hk,h1,h2=>by
  obtain ⟨b,hb,d⟩:=hk e (by simp)
  simp only[Instr.findAsking,bq]
  refine hb _ ?_
  cases b with
  |true=>exact h1 0 e rfl (d.1 rfl)
  |false=>
   have f:¬e.key=key:=fun x=>by have:=d.2 x;cases this
   refine Aa l (i+1) (fun x a=>hk x (by simp[a])) (fun j x a he=>?_) (fun g=>h2 (by simpa [f] using g))
   have:=h1 (j+1) x (by simpa using a) he
   rwa [show i+1+j=i+(j+1) by omega]
theorem modify_keys {es:Array MapEntry}{i:Nat}{key val:Value}{e:MapEntry}(hi:es[i]?=some e)(he:e.key=key):(es.modify i fun e=>{e with key:=key,val:=val}).toList.map (·.key)=es.toList.map (·.key):=by
 apply List.ext_getElem?
 intro j
 simp only[List.getElem?_map,Array.toList_modify,List.getElem?_modify]
 by_cases a:i=j
 ·subst a
  have:es.toList[i]?=some e:=by simpa using hi
  simp[this,he]
 ·simp[a]
theorem EK {t c q f n:TypeId}{r:Nat}{es:Array MapEntry}{clock:Nat}{key val:Value}{R:Value->af->Prop}{F:af}(hu:P.underlying t=some (.map c q))(g:F.eT r=some (.map es clock))
  (s:∀Q:Unit->af->Prop,Q () F->aT P (Instr.checkKey false 10000 c key) Q F) (u:P.underlying c=some (.array n f))
  (v:∀e∈es.toList,∃b,(∀(Q:Bool->af->Prop),Q b F->aT P (Op.equal c key e.key) Q F)/\(b=true↔e.key=key))
  (h:∀d w,((key∈es.toList.map (·.key)/\d.toList.map (·.key)=es.toList.map (·.key))\/(key∉es.toList.map (·.key)/\d.toList.map (·.key)=es.toList.map (·.key)++[key]))->R undef (F.put r (.map d w))):
  eL P (Instr.mapUpdate t (.map (some r)) key val>>= fun _=>pure undef) R F:=by
 unfold eL
 simp only[Instr.mapUpdate,bq,dj,hu,mT]
 refine ⟨_,g,?_⟩
 simp only[bq]
 refine s _ ?_
 have k:(F.eT r).isSome=true:=by rw[g];rfl
 have step:aT P (Instr.findAsking c key es.toList) (fun a G=>aT P (match a with
   |some (i,_)=>do
    let key<-Instr.keyThatStays (((es[i]?).map (·.key)).getD key) key
    setObj r (.map (es.modify i fun e=>{e with key,val}) clock)
   |none=>setObj r (.map (es.push {key,val,born:=clock}) (clock+1))) (fun _ G=>aT P (pure undef) R G) G) F:=by
  refine Aa _ 0 v (fun j e m he=>?_) (fun hn=>?_)
  ·simp only[Nat.zero_add,bq]
   have o:es[j]?=some e:=by simpa using m
   rw[o]
   simp only[Option.map_some,Option.getD_some,he]
   have fin:aT P (setObj r (.map (es.modify j fun e=>{e with key:=key,val:=val}) clock)) (fun _ G=>aT P (pure undef) R G) F:=by
    simp only[lH,bC]
    refine ⟨rfl,k,h _ _ (.inl ⟨?_,modify_keys o he⟩)⟩
    rw[<-he]
    exact List.mem_map_of_mem (List.mem_of_getElem? m)
   unfold Instr.keyThatStays
   rw[de]
   split
   ·exact fin
   ·simp only[bq,ua]
    split
    ·simp only[bC,ite_self];exact fin
    ·intro t;simp only[bC,ite_self];exact fin
  ·simp only[lH,bC]
   refine ⟨rfl,k,h _ _ (.inr ⟨?_,by simp⟩)⟩
   intro hm
   obtain ⟨e,he,hk⟩:=List.mem_map.1 hm
   exact hn e he hk
 unfold Instr.findKey
 simp only[bq,dj,u]
 cases p:es.toList with
 |nil=>
  rw[p] at step
  exact step
 |cons e l=>
  have:Instr.findNow (.array n f) key (e::l) 0=none:=rfl
  rw[this]
  rw[p] at step
  exact step
end
theorem bS {α β:Type}{x:Option α}{f:α->Option β}{r:β}{G:Prop}(k:∀a,x=some a->f a=some r->G)(h:ah x f=some r):G:=by
 obtain ⟨a,h1,h2⟩:=fG h
 exact k a h1 h2
def bh:Code->Code
 | .seq _ b=>b
 |c=>c
theorem sI {α:Type}{x r:α}(h:some x=some r):x=r:=Option.some.inj h
theorem av {ro:Addr->Option Value}{own:List (Nat×Obj)}{G:Nat->Prop}(h:∀b,(∀off sp,ro ⟨b,off,sp⟩=none)->au own b->G b):∀b,dK ⟨ro,own⟩ b->G b:=fun b f=>h b (eB f) (fz f)
theorem bn:(∀(ro:Addr->Option Value) (b:Nat) (o:Obj) (l:List (Nat×Obj)),ay ro ((b,o)::l)=((∀off sp,ro ⟨b,off,sp⟩=none)/\ay ro l))/\(∀l:List (Nat×Obj),[]++l=l)/\(∀l:List (Nat×Obj),l++[]=l)/\
  (∀(x:Nat×Obj) (l m:List (Nat×Obj)),x::l++m=x::(l++m))/\∀l m n:List (Nat×Obj),l++m++n=l++(m++n):=
 ⟨fun _ _ _ _=>propext ⟨fun h=>⟨h.hd,h.tl⟩,fun h=>ay.cons h.1 h.2⟩,fun _=>rfl,List.append_nil,fun _ _ _=>rfl,List.append_assoc⟩
theorem aA.el {T:Type}{r:b9 T}{ro:Addr->Option Value}{ad:Option Addr}{n cap:Nat}{l:List T}(h:aA r ro (.slice ad n cap) l):
  ∀i x,l[i]?=some x->∃p cs,ad=some p/\r.rel ro x cs/\∀j v,cs[j]?=some v->ro ((p.add (i*r.n)).add j)=some v:=by
 obtain ⟨a,b,e,_,_,h⟩:=h
 cases e
 exact h
theorem aM.tl {b:Nat}{ks:List Nat}(h:aM (b::ks)):aM ks:=⟨(List.nodup_cons.1 h.nd).2⟩
theorem aM.cut {l:List (Nat×Obj)}(h:aM (keys l))(i n:Nat):aM (keys (l.take i++l.drop (i+n))):=
 ⟨(((List.Sublist.append_left (show (l.drop (i+n)).Sublist (l.drop i) by rw[<-List.drop_drop];exact List.drop_sublist _ _) (l.take i)).trans (by rw[List.take_append_drop];exact List.Sublist.refl _)).map _).nodup h.nd⟩
theorem aV.eX {T:Type}{r:b9 T}{ro:Addr->Option Value}{e:TypeId}{v:Value}{l:List T}{aS:List (Nat×Obj)}(h:aV r ro e v l aS){own:List (Nat×Obj)}(pre bf:List (Nat×Obj))(a:aM (keys own))(hn:ay ro (pre++bf))
  (b:own=pre++(aS++bf):=by first|rfl|simp only[List.append_nil,List.cons_append,List.nil_append,List.append_assoc]|(simp only[List.append_nil,List.cons_append,List.nil_append,List.append_assoc];rfl)):
  ∃aL,Ext ro aL/\ay aL (pre++bf)/\aA r aL v l/\Le ⟨aL,pre++bf⟩ ⟨ro,own⟩:=h.g7 _ pre bf b rfl a hn
theorem aA.oc {T:Type}{r:b9 T}{ro:Addr->Option Value}{s:Value}{l:List T}(h:aA r ro s l):bx s=true:=by
 obtain ⟨_,_,e,_⟩:=h
 rw[e];rfl
theorem EL {p:Nat->Prop}{a:Nat}{l:List Nat}:(∀i,i∈a::l->p i)=(p a/\∀i,i∈l->p i):=propext List.forall_mem_cons
theorem EM {p:Nat->Prop}:(∀i,i∈([]:List Nat)->p i)=True:=propext ⟨fun _=>trivial,fun _ _ h=>(by cases h)⟩
section
variable {P : Program} {main : Bool} {J : Goroutine → af → Prop} {Q : Ex → Act → af → Prop} {a : Act} {F : af}
theorem b8 (hJ:Closed P main J){f:FuncId}{args:Array Value}{ro:Addr->Option Value}{own:List (Nat×Obj)}{K:Value->af->Prop}(R:Value->(Addr->Option Value)->Prop)(h:eu P f args ro R)
  (hk:∀v aL,Ext ro aL->ay aL own->R v aL->K v ⟨aL,own⟩):cK P J f args ⟨ro,own⟩ K:=uJ hJ R h hk
theorem q9 {Φ:Goroutine->af->Prop}{f:FuncId}{args:Array Value}{ro:Addr->Option Value}{own:List (Nat×Obj)}{K:Value->af->Prop}(R:Value->(Addr->Option Value)->Prop)(h:oZ P f args ro R)
  (hk:∀v aL,Ext ro aL->ay aL own->R v aL->K v ⟨aL,own⟩):cK P (dm P Φ) f args ⟨ro,own⟩ K:=DX R h hk
theorem cS {α:Type}{b:Bool}{e1 e2:Option α}{r:α}{G:Prop}(h1:b=true->e1=some r->G)(h2:b=false->e2=some r->G)(h:cond b e1 e2=some r):G:=by
 rcases iG h with ⟨a,b⟩|⟨a,b⟩
 ·exact h1 a b
 ·exact h2 a b
theorem jC {α:Type}(hJ:Closed P main J){c:Operand}{x y:Code}{b:Bool}{e1 e2:Option α}{r:α}(d:ev a c= .bool b)(h1:b=true->e1=some r->Wp J x Q a F)(h2:b=false->e2=some r->Wp J y Q a F)(h:cond b e1 e2=some r):Wp J (.cond c x y) Q a F:=by
 refine DN hJ b d (fun e=>h1 e ?_) fun e=>h2 e ?_
 ·rw[e] at h;exact h
 ·rw[e] at h;exact h
structure vg (Q:Ex->Act->af->Prop)(K:Act->af->Prop):Prop where
 go:∀{a F},Q .normal a F->K a F
theorem dh (hJ:Closed P main J)(b:P.follows .mixedOrders=true)(m n:Nat){id:Nat}{ops:Array Oper}(c:Knows ⟨F.ro,F.own.take n⟩ F)(d:m0 ops m=true)
  (h:dV P J ops ⟨F.ro,F.own.take n⟩ (fun a'=>eC P J ops ⟨F.ro,F.own.take n⟩ (Q .normal) (ops.toList.drop m) true a' F) (ops.toList.take m) true a):Wp J (.region id ops true) Q a F:=eM hJ b m _ c d h
theorem pq (hJ:Closed P main J)(b:P.follows .mixedOrders=true)(m n:Nat){id:Nat}{ops:Array Oper}(c:Knows ⟨F.ro,F.own.take n⟩ F)(d:m0 ops m=true)
  (h:∀K,vg Q K->dV P J ops ⟨F.ro,F.own.take n⟩ (fun a'=>eC P J ops ⟨F.ro,F.own.take n⟩ K (ops.toList.drop m) true a' F) (ops.toList.take m) true a):Wp J (.region id ops true) Q a F:=eM hJ b m _ c d (h _ ⟨fun h=>h⟩)
theorem ej (hJ:Closed P main J){id:Nat}{ops:Array Oper}(h:∀K,vg Q K->fy P J ops K ops.toList true a F):Wp J (.region id ops false) Q a F:=ag hJ (h _ ⟨fun h=>h⟩)
theorem jZ (hJ:Closed P main J)(b:P.follows .mixedOrders=true)(bU:List Nat)(p:ck){id:Nat}{ops:Array Oper}(F0:af)(c:Knows F0 F)
  (d:(Region.noSelect ops&&decide (p.len<=ops.size)&&p.ok ops bU (Array.replicate ops.size false))=true)
  (h:∀K,vg Q K->cv P J ops F0 K (p.opers ops) true a F):Wp J (.region id ops true) Q a F:=gq hJ b bU p F0 c d (h _ ⟨fun h=>h⟩)
theorem ew {c:Code}(L:List Nat){a:Act}(h:∀A,sz A=sz a->A.defers=a.defers->(∀i∈L,slot A i=slot a i)->Wp J c Q A F):Wp J c Q a F:=h a rfl rfl fun _ _=>rfl
theorem dD.pick {ws:List Nat}{A a:Act}(h:dD ws A a)(L:List Nat)(b:(L.all fun i=>!jQ ws i)=true):sz A=sz a/\A.defers=a.defers/\∀i∈L,slot A i=slot a i:=
 ⟨h.size,h.defers,fun i hi=>h.e5 i fun x=>by
  have h1:=List.all_eq_true.1 b i hi
  have h2:jQ ws i=true:=by
   unfold In at x
   exact x
  simp[h2] at h1⟩
theorem dF {T:Type}{r:b9 T}{ro:Addr->Option Value}{aS:List (Nat×Obj)}{R:Value->af->Prop}{argTypes:Array TypeId}{d f e h e2:TypeId}{a b:Nat}{s z:Value}{l:List T}{x:T}{cs:Array Value}{own:List (Nat×Obj)}(pre bf:List (Nat×Obj))
  (hg:aV r ro e s l aS) (i:aM (keys own)) (j:l.length+[x].length<=1000000) (k:r.rel ro x cs.toList) (m:lk pre b=some (.cells cs e2)) (o:∀off sp,ro ⟨b,off,sp⟩=none)
  (h0:argTypes[0]?=some d) (h1:argTypes[1]?=some f) (he:cX P d=some e) (p:cX P f=some h) (hs:bW P e=some r.n) (q:zeroOf P e=some z) (t:z.cells.size=r.n) (hb:bytesOf P e=some a)
  (u:0<a) (w:a<=10000)
  (y:∀v g,aV r ro e v (l++[x]) g->∀c,c=pre++(g++bf)->aM (keys c)->∃F0,Le F0 ⟨ro,c⟩/\R v F0)
  (A:own=pre++(aS++bf):=by first|rfl|simp only[List.append_nil,List.cons_append,List.nil_append,List.append_assoc]|(simp only[List.append_nil,List.cons_append,List.nil_append,List.append_assoc];rfl)):lP P argTypes s (.slice (some ⟨b,0,none⟩) 1 1) R ⟨ro,own⟩:=
 zS pre bf A hg i j k m o h0 h1 he p hs q t hb u w y
theorem pz {T:Type}{r:b9 T}{ro:Addr->Option Value}{aS:List (Nat×Obj)}{R:Value->af->Prop}{argTypes:Array TypeId}{d f e h:TypeId}{a c:Nat}{ad:Option Addr}{s z:Value}{l xs:List T}{own:List (Nat×Obj)}(pre bf:List (Nat×Obj))
  (hg:aV r ro e s l aS) (i:aM (keys own)) (j:l.length+xs.length<=1000000) (k:aA r ro (.slice ad xs.length c) xs)
  (h0:argTypes[0]?=some d) (h1:argTypes[1]?=some f) (he:cX P d=some e) (m:cX P f=some h) (hs:bW P e=some r.n) (o:zeroOf P e=some z) (p:z.cells.size=r.n) (hb:bytesOf P e=some a)
  (q:0<a) (t:a<=10000)
  (u:∀v g,aV r ro e v (l++xs) g->∀b,b=pre++(g++bf)->aM (keys b)->∃F0,Le F0 ⟨ro,b⟩/\R v F0)
  (w:own=pre++(aS++bf):=by first|rfl|simp only[List.append_nil,List.cons_append,List.nil_append,List.append_assoc]|(simp only[List.append_nil,List.cons_append,List.nil_append,List.append_assoc];rfl)):lP P argTypes s (.slice ad xs.length c) R ⟨ro,own⟩:=
 En pre bf w hg i j k h0 h1 he m hs o p hb q t u
theorem gr (hJ:Closed P main J){f:FuncId}{args:Array Value}{ro:Addr->Option Value}{aS:List (Nat×Obj)}{K:Value->af->Prop}{own:List (Nat×Obj)}(pre bf:List (Nat×Obj))(R:Value->List (Nat×Obj)->Prop)(h:aC P f args ⟨ro,aS⟩ (fun v G=>∃a,R v a/\Le ⟨ro,a⟩ G))
  (hk:∀v a,R v a->∀b,b=pre++(a++bf)->aM (keys b)->∃F0,Le F0 ⟨ro,b⟩/\K v F0)
  (c:own=pre++(aS++bf):=by first|rfl|simp only[List.append_nil,List.cons_append,List.nil_append,List.append_assoc]|(simp only[List.append_nil,List.cons_append,List.nil_append,List.append_assoc];rfl)):cK P J f args ⟨ro,own⟩ K:=zU hJ pre bf c R h hk
end
end Go.Sep
end
section
namespace Go.Proofs.YtjepffnffjdloaaGreatDoor
open Go Go.Sep Go.Proofs
set_option maxRecDepth 100000
attribute [go_sem] aA.nil
theorem rf:rI.n=1:=rfl
theorem vh:rB.n=1:=rfl
theorem EN {T:Type}(r:b9 T):(rL r).n=1:=rfl
attribute [go_sem] rf vh EN
structure ak where
 num:Int
 den:Int
 deriving DecidableEq
def ak.v (x:ak):Value:=.agg #[.int .i64 x.num,.int .i64 x.den]
def ak.cells (x:ak):List Value:=[.int .i64 x.num,.int .i64 x.den]
def kU:b9 ak:=gY 2 ak.cells (fun _=>rfl) (fun _ v a=>by simp only[ak.cells,List.mem_cons,List.not_mem_nil,or_false] at a;rcases a with rfl|rfl<;>rfl)
theorem EO:kU.n=2:=rfl
attribute [go_sem] ak.v ak.cells EO
structure bF where
 ax:Int
 high:Int
 deriving DecidableEq
def bF.cells (x:bF):List Value:=[.int .i64 x.ax,.int .i64 x.high]
def ey:b9 bF:=gY 2 bF.cells (fun _=>rfl) (fun _ v a=>by simp only[bF.cells,List.mem_cons,List.not_mem_nil,or_false] at a;rcases a with rfl|rfl<;>rfl)
theorem EP:ey.n=2:=rfl
attribute [go_sem] bF.cells EP
structure bH where
 place:Int
 cn:Int
 deriving DecidableEq
def bH.cells (x:bH):List Value:=[.int .i64 x.place,.int .i64 x.cn]
def dW:b9 bH:=gY 2 bH.cells (fun _=>rfl) (fun _ v a=>by simp only[bH.cells,List.mem_cons,List.not_mem_nil,or_false] at a;rcases a with rfl|rfl<;>rfl)
theorem ER:dW.n=2:=rfl
attribute [go_sem] bH.cells ER
structure cV where
 low:Int
 high:Int
 deriving DecidableEq
def cV.v (x:cV):Value:=.agg #[.int .i64 x.low,.int .i64 x.high]
def cV.cells (x:cV):List Value:=[.int .i64 x.low,.int .i64 x.high]
def ES:b9 cV:=gY 2 cV.cells (fun _=>rfl) (fun _ v a=>by simp only[cV.cells,List.mem_cons,List.not_mem_nil,or_false] at a;rcases a with rfl|rfl<;>rfl)
theorem ET:ES.n=2:=rfl
attribute [go_sem] cV.v cV.cells ET
structure bR where
 back:Int
 high:cV
 deriving DecidableEq
def bR.cells (x:bR):List Value:=[.int .i64 x.back,.int .i64 x.high.low,.int .i64 x.high.high]
def ek:b9 bR:=gY 3 bR.cells (fun _=>rfl) (fun _ v a=>by simp only[bR.cells,List.mem_cons,List.not_mem_nil,or_false] at a;rcases a with rfl|rfl|rfl<;>rfl)
theorem EU:ek.n=3:=rfl
attribute [go_sem] bR.cells EU
structure bP where
 aW:Int
 bu:Bool
 deriving DecidableEq
def bP.v (x:bP):Value:=.agg #[.int .i64 x.aW,.bool x.bu]
def bP.cells (x:bP):List Value:=[.int .i64 x.aW,.bool x.bu]
def c8:b9 bP:=gY 2 bP.cells (fun _=>rfl) (fun _ v a=>by simp only[bP.cells,List.mem_cons,List.not_mem_nil,or_false] at a;rcases a with rfl|rfl<;>rfl)
theorem EV:c8.n=2:=rfl
attribute [go_sem] bP.v bP.cells EV
structure aj where
 aQ:Int
 aN:Int
 aE:ak
 an:(List bF)
 props:(List bH)
 aF:(List bR)
 told:(List bP)
 deriving DecidableEq
def aj.rel (ro:Addr->Option Value)(x:aj)(cs:List Value):Prop:=∃a b c d,cs=[.int .i64 x.aQ,.int .i64 x.aN,.int .i64 x.aE.num,.int .i64 x.aE.den,a,b,c,d]/\aA ey ro a x.an/\aA dW ro b x.props/\aA ek ro c x.aF/\aA c8 ro d x.told
theorem aj.pE {ro:Addr->Option Value}{x:aj}{cs:List Value}(h:aj.rel ro x cs):∀v∈cs,bx v=true:=by
 obtain ⟨b,c,d,e,rfl,⟨_,_,rfl,_⟩,⟨_,_,rfl,_⟩,⟨_,_,rfl,_⟩,⟨_,_,rfl,_⟩⟩:=h
 intro v a;simp only[List.mem_cons,List.not_mem_nil,or_false] at a;rcases a with rfl|rfl|rfl|rfl|rfl|rfl|rfl|rfl<;>rfl
def EW:b9 aj:=⟨8,aj.rel,fun a ⟨b,c,d,f,e,g,h,i,j⟩=>⟨b,c,d,f,e,g.mono a,h.mono a,i.mono a,j.mono a⟩,fun ⟨b,c,d,f,e,_⟩=>by rw[e];rfl,aj.pE⟩
theorem EX:EW.n=8:=rfl
attribute [go_sem] EX
structure aP where
 back:Int
 high:Int
 deriving DecidableEq
def aP.v (x:aP):Value:=.agg #[.int .i64 x.back,.int .i64 x.high]
def aP.cells (x:aP):List Value:=[.int .i64 x.back,.int .i64 x.high]
def iI:b9 aP:=gY 2 aP.cells (fun _=>rfl) (fun _ v a=>by simp only[aP.cells,List.mem_cons,List.not_mem_nil,or_false] at a;rcases a with rfl|rfl<;>rfl)
theorem EY:iI.n=2:=rfl
attribute [go_sem] aP.v aP.cells EY
structure gJ where
 ax:Int
 high:ak
 deriving DecidableEq
def gJ.cells (x:gJ):List Value:=[.int .i64 x.ax,.int .i64 x.high.num,.int .i64 x.high.den]
def EZ:b9 gJ:=gY 3 gJ.cells (fun _=>rfl) (fun _ v a=>by simp only[gJ.cells,List.mem_cons,List.not_mem_nil,or_false] at a;rcases a with rfl|rfl|rfl<;>rfl)
theorem E0:EZ.n=3:=rfl
attribute [go_sem] gJ.cells E0
structure bB where
 spot:gJ
 at_:Int
 high:ak
 deriving DecidableEq
def bB.v (x:bB):Value:=.agg #[.int .i64 x.spot.ax,.int .i64 x.spot.high.num,.int .i64 x.spot.high.den,.int .i64 x.at_,.int .i64 x.high.num,.int .i64 x.high.den]
def bB.cells (x:bB):List Value:=[.int .i64 x.spot.ax,.int .i64 x.spot.high.num,.int .i64 x.spot.high.den,.int .i64 x.at_,.int .i64 x.high.num,.int .i64 x.high.den]
def j0:b9 bB:=gY 6 bB.cells (fun _=>rfl) (fun _ v a=>by simp only[bB.cells,List.mem_cons,List.not_mem_nil,or_false] at a;rcases a with rfl|rfl|rfl|rfl|rfl|rfl<;>rfl)
theorem E1:j0.n=6:=rfl
attribute [go_sem] bB.v bB.cells E1
structure aX where
 e0:Int
 e1:Int
 e2:Int
 deriving DecidableEq
def aX.v (x:aX):Value:=.agg #[.int .i64 x.e0,.int .i64 x.e1,.int .i64 x.e2]
def aX.cells (x:aX):List Value:=[.int .i64 x.e0,.int .i64 x.e1,.int .i64 x.e2]
def gK:b9 aX:=gY 3 aX.cells (fun _=>rfl) (fun _ v a=>by simp only[aX.cells,List.mem_cons,List.not_mem_nil,or_false] at a;rcases a with rfl|rfl|rfl<;>rfl)
theorem E2:gK.n=3:=rfl
attribute [go_sem] aX.v aX.cells E2
def aX.get (x:aX)(i:Int):Option Int:=if i=0 then some x.e0 else if i=1 then some x.e1 else if i=2 then some x.e2 else none
theorem aX.get_some {x:aX}{i:Int}{y:Int}(h:aX.get x i=some y):0<=i/\i<((3:Nat):Int)/\([.int .i64 x.e0,.int .i64 x.e1,.int .i64 x.e2]:List Value)[i.toNat]?=some (.int .i64 y):=by
 unfold aX.get at h
 by_cases h0:i=0
 ·subst h0;simp at h;subst h;exact ⟨by omega,by omega,rfl⟩
 by_cases h1:i=1
 ·subst h1;simp at h;subst h;exact ⟨by omega,by omega,rfl⟩
 by_cases h2:i=2
 ·subst h2;simp at h;subst h;exact ⟨by omega,by omega,rfl⟩
 simp[h0,h1,h2] at h
theorem aX.E3 {ro:Addr->Option Value}{b:Nat}{x:aX}{i:Int}{y:Int}(h:aX.get x i=some y)(g0:ro ⟨b,0,none⟩=some (.int .i64 x.e0))(a:ro ⟨b,1,none⟩=some (.int .i64 x.e1))(c:ro ⟨b,2,none⟩=some (.int .i64 x.e2)):ro ⟨b,i.toNat,none⟩=some (.int .i64 y):=by
 unfold aX.get at h
 by_cases h0:i=0
 ·subst h0;simp at h;subst h;exact g0
 by_cases h1:i=1
 ·subst h1;simp at h;subst h;exact a
 by_cases h2:i=2
 ·subst h2;simp at h;subst h;exact c
 simp[h0,h1,h2] at h
structure cR where
 book:aj
 all:(List aX)
 deriving DecidableEq
def cR.rel (ro:Addr->Option Value)(x:cR)(cs:List Value):Prop:=∃a b c d e,cs=[.int .i64 x.book.aQ,.int .i64 x.book.aN,.int .i64 x.book.aE.num,.int .i64 x.book.aE.den,a,b,c,d,e]/\aA ey ro a x.book.an/\aA dW ro b x.book.props/\aA ek ro c x.book.aF/\aA c8 ro d x.book.told/\aA gK ro e x.all
theorem cR.pE {ro:Addr->Option Value}{x:cR}{cs:List Value}(h:cR.rel ro x cs):∀v∈cs,bx v=true:=by
 obtain ⟨b,c,d,e,f,rfl,⟨_,_,rfl,_⟩,⟨_,_,rfl,_⟩,⟨_,_,rfl,_⟩,⟨_,_,rfl,_⟩,⟨_,_,rfl,_⟩⟩:=h
 intro v a;simp only[List.mem_cons,List.not_mem_nil,or_false] at a;rcases a with rfl|rfl|rfl|rfl|rfl|rfl|rfl|rfl|rfl<;>rfl
def E4:b9 cR:=⟨9,cR.rel,fun a ⟨b,c,d,f,g,e,h,i,j,k,l⟩=>⟨b,c,d,f,g,e,h.mono a,i.mono a,j.mono a,k.mono a,l.mono a⟩,fun ⟨b,c,d,f,g,e,_⟩=>by rw[e];rfl,cR.pE⟩
theorem E5:E4.n=9:=rfl
attribute [go_sem] E5
def cW.rel (ro:Addr->Option Value)(g:(aj->Option Int))(cs:List Value):Prop:=∃(b:FuncId) (c d:Array Value),cs=[.func (.func b) c d]/\aI Tryz.prog b=true/\∀(aL:Addr->Option Value),Ext ro aL->∀(a:aj) (e:Value) (f:Value) (h:Value) (i:Value) (z:Int),aA ey aL e a.an->aA dW aL f a.props->aA ek aL h a.aF->aA c8 aL i a.told->g a=some z->aC Tryz.prog b (c++#[.agg #[.int .i64 a.aQ,.int .i64 a.aN,.int .i64 a.aE.num,.int .i64 a.aE.den,e,f,h,i]]++d) ⟨aL,[]⟩ (fun v _=>v= .int .i64 z)
theorem cW.E6 {ro aL:Addr->Option Value}{g:(aj->Option Int)}{cs:List Value}(b:Ext ro aL)(h:cW.rel ro g cs):cW.rel aL g cs:=by
 obtain ⟨f,a,c,e,h1,h2⟩:=h
 exact ⟨f,a,c,e,h1,fun d i=>h2 d (b.trans i)⟩
theorem cW.E7 {ro:Addr->Option Value}{g:(aj->Option Int)}{cs:List Value}(h:cW.rel ro g cs):cs.length=1:=by
 obtain ⟨f,a,c,e,_⟩:=h
 rw[e];rfl
theorem cW.pE {ro:Addr->Option Value}{g:(aj->Option Int)}{cs:List Value}(h:cW.rel ro g cs):∀v∈cs,bx v=true:=by
 obtain ⟨f,a,c,e,_⟩:=h
 intro v b;rw[e] at b;simp at b;subst b;rfl
def cW:b9 (aj->Option Int):=⟨1,cW.rel,cW.E6,cW.E7,cW.pE⟩
theorem E8:cW.n=1:=rfl
attribute [go_sem] E8
abbrev sl {T:Type}(d:Option Addr)(l:List T)(c:Nat):Value:=.slice d l.length c
abbrev bk (x:aj)(a b c d:Value):Obj:=.cells #[.int .i64 x.aQ,.int .i64 x.aN,.int .i64 x.aE.num,.int .i64 x.aE.den,a,b,c,d] 29
abbrev bl (x:aj)(a b c d:Value):Obj:=.cells #[.int .i64 x.aQ,.int .i64 x.aN,.int .i64 x.aE.num,.int .i64 x.aE.den,a,b,c,d] 99
abbrev bz (t:Nat):Obj:=.cells #[.int .i64 0,.int .i64 0,.int .i64 0,.int .i64 0,.slice none 0 0,.slice none 0 0,.slice none 0 0,.slice none 0 0] t
abbrev kn (x:cR)(a b c d e:Value):Obj:=.cells #[.int .i64 x.book.aQ,.int .i64 x.book.aN,.int .i64 x.book.aE.num,.int .i64 x.book.aE.den,a,b,c,d,e] 123
abbrev rt (a b:Int):Obj:=.cells #[.int .i64 a,.int .i64 b] 23
abbrev ic (a:Int):Obj:=.cells #[.int .i64 a] 3
abbrev bv (x:aj)(a b c d:Value):Value:=.agg #[.int .i64 x.aQ,.int .i64 x.aN,.int .i64 x.aE.num,.int .i64 x.aE.den,a,b,c,d]
attribute [go_sem] sl bk bl bz kn rt ic bv EL EM List.cons_append List.nil_append List.append_nil List.append_assoc
structure bG (ro:Addr->Option Value)(u:aj)(a b c d:Value):Prop where
 e:aA ey ro a u.an
 p:aA dW ro b u.props
 y:aA ek ro c u.aF
 t:aA c8 ro d u.told
theorem bG.oc {ro:Addr->Option Value}{u:aj}{a b c d:Value}(h:bG ro u a b c d):bx a=true/\bx b=true/\bx c=true/\bx d=true:=⟨h.e.oc,h.p.oc,h.y.oc,h.t.oc⟩
theorem bG.mono {ro aL:Addr->Option Value}{u:aj}{a b c d:Value}(h:bG ro u a b c d)(f:Ext ro aL):bG aL u a b c d:=⟨h.e.mono f,h.p.mono f,h.y.mono f,h.t.mono f⟩
end Go.Proofs.YtjepffnffjdloaaGreatDoor
end

/- A part of the proof of a row and its tied card: part 2. -/
import Derived.Test.YtipgiooobncfbaaGreatDoorQ1
import Derived.WalkKit
import Derived.IntWalk
import Derived.NoCompilerSame
import Derived.Test.YtipgiooobncfbaaGreatDoorProg
import Derived.KernelRfl
set_option linter.all false
section
namespace Go.Sep
open Go Go.Conc
section
variable {α β : Type} {P : Program} {Q : α → ag → Prop} {F : ag}
@[go_sem] theorem bC (a:α):aS P (Pure.pure a) Q F=Q a F:=rfl
@[go_sem] theorem JH (a:α):aS P (Sem.pure a) Q F=Q a F:=rfl
@[go_sem] theorem bn {R:β->ag->Prop}(x:Sem α)(f:α->Sem β):aS P (x>>= f) R F=aS P x (fun a G=>aS P (f a) R G) F:=propext (xF x F)
@[go_sem] theorem JI {R:β->ag->Prop}(x:Sem α)(f:α->β):aS P (Functor.map f x) R F=aS P x (fun a G=>R (f a) G) F:=propext (xF x F)
@[go_sem] theorem c7 (c:Prop)[Decidable c](x y:Sem α):aS P (if c then x else y) Q F=if c then aS P x Q F else aS P y Q F:=by split<;>rfl
@[go_sem] theorem x9 {Q:Value->ag->Prop}(a:Addr):aS P (load a) Q F=∃v,F.get a=some v/\Q v F:=by simp[load,aS]
@[go_sem] theorem Cp {Q:Unit->ag->Prop}(a:Addr)(v:Value):aS P (store a v) Q F=∃F',F.kR a v=some F'/\Q () F':=by simp[store,aS]
@[go_sem] theorem oz {Q:Nat->ag->Prop}(o:Obj):aS P (newObj o) Q F=(o.isChan=false/\∀b,dD F b->Q b (F.push b o)):=rfl
@[go_sem] theorem js {Q:Program->ag->Prop}:aS P program Q F=Q P F:=rfl
@[go_sem] theorem tu {Q:Nat->ag->Prop}(q:Question):aS P (choose q) Q F=if q.forced then Q 0 F else ∀t,Q (q.cut t) F:=rfl
@[go_sem] theorem mI {Q:Obj->ag->Prop}(r:Nat):aS P (getObj r) Q F=∃o,F.eJ r=some o/\Q o F:=rfl
@[go_sem] theorem kU {Q:Unit->ag->Prop}(r:Nat)(o:Obj):aS P (Go.setObj r o) Q F=(o.isChan=false/\(F.eJ r).isSome=true/\Q () (F.put r o)):=rfl
@[go_sem] theorem JJ (s:String):aS P (stuck s:Sem α) Q F=False:=rfl
@[go_sem] theorem JK {Q:Unit->ag->Prop}(m:Mark):aS P (mark m) Q F=(oo m=true/\Q () F):=rfl
@[go_sem] theorem c8 {Q:TypeDesc->ag->Prop}(t:TypeId):aS P (underlying t) Q F=match P.underlying t with|some d=>Q d F|none=>False:=by
 simp only[underlying,bn,js];cases P.underlying t<;>rfl
@[go_sem] theorem oA {Q:TypeInfo->ag->Prop}(t:TypeId):aS P (typeInfo t) Q F=match P.info? t with|some d=>Q d F|none=>False:=by
 simp only[typeInfo,bn,js];cases P.info? t<;>rfl
def bW (P:Program)(t:TypeId):Option Nat:=(P.info? t).map (·.size)
def zeroOf (P:Program)(t:TypeId):Option Value:=(P.info? t).bind (·.zero)
def bytesOf (P:Program)(t:TypeId):Option Nat:=(P.info? t).map (·.bytes)
@[go_sem] theorem ey {Q:Nat->ag->Prop}(t:TypeId):aS P (sizeOf t) Q F=match bW P t with|some n=>Q n F|none=>False:=by
 simp only[sizeOf,bn,oA,bW];cases P.info? t<;>rfl
@[go_sem] theorem kV {Q:Value->ag->Prop}(t:TypeId):aS P (zeroValue t) Q F=match zeroOf P t with|some n=>Q n F|none=>False:=by
 simp only[zeroValue,bn,oA,zeroOf]
 cases P.info? t with
 |none=>rfl
 |some i=>simp only[Option.bind_some];cases i.zero<;>rfl
def cu (P:Program)(t:TypeId):Option Bool:=(P.underlying t).map fun| .struct _=>true| .array _ _=>true|_=>false
@[go_sem] theorem kW {Q:Bool->ag->Prop}(t:TypeId):aS P (isAgg t) Q F=match cu P t with|some n=>Q n F|none=>False:=by
 simp only[isAgg,bn,c8,cu]
 cases P.underlying t with
 |none=>rfl
 |some d=>cases d<;>rfl
def ag.kX (F:ag)(a:Addr):Nat->List Value->Prop
 |_,[]=>True
 |i,v::b=>F.get (a.add i)=some v/\F.kX a (i+1) b
theorem tv {Q:Array Value->ag->Prop}(a:Addr):∀(b:List Value) (i:Nat) (acc:Array Value),F.kX a i b->Q (acc++b.toArray) F->aS P (loadCellsFrom a i b.length acc) Q F
 |[],i,acc,_,h=>by simpa [loadCellsFrom,bC] using h
 |v::b,i,acc,hg,h=>by
  simp only[List.length_cons,loadCellsFrom,bn,x9]
  refine ⟨v,hg.1,tv a b (i+1) (acc.push v) hg.2 ?_⟩
  simpa using h
theorem Cq {Q:Value->ag->Prop}{t:TypeId}{a:Addr}(b:List Value)(ht:cu P t=some true)(hs:bW P t=some b.length)(hg:F.kX a 0 b)(h:Q (.agg b.toArray) F):aS P (loadVar t a) Q F:=by
 simp only[loadVar,bn,kW,ht,c7,if_true,ey,hs,loadCells]
 exact tv a b 0 #[] hg (by simpa [bC] using h)
theorem Cr {Q:Value->ag->Prop}{t:TypeId}{a:Addr}(v:Value)(ht:cu P t=some false)(hg:F.get a=some v)(h:Q v F):aS P (loadVar t a) Q F:=by
 simp only[loadVar,bn,kW,ht,c7,x9]
 exact ⟨v,hg,h⟩
def ag.iT (F:ag)(a:Addr):Nat->List Value->Option ag
 |_,[]=>some F
 |i,v::b=>match F.kR (a.add i) v with
  |some F'=>F'.iT a (i+1) b
  |none=>none
theorem qA {Q:Unit->ag->Prop}(a:Addr):∀(b:List Value) (i:Nat) (F F':ag),F.iT a i b=some F'->Q () F'->aS P (storeCells a b i) Q F
 |[],i,F,F',hg,h=>by simp only[ag.iT,Option.some.injEq] at hg;subst hg;simpa [storeCells,bC] using h
 |v::b,i,F,F',hg,h=>by
  simp only[storeCells,bn,Cp]
  unfold ag.iT at hg
  split at hg
  ·rename_i c d
   exact ⟨c,d,qA a b (i+1) c F' hg h⟩
  ·cases hg
theorem Cs {Q:Unit->ag->Prop}{t:TypeId}{a:Addr}{v:Value}(F':ag)(hs:bW P t=some v.cells.size)(hg:F.iT a 0 v.cells.toList=some F')(h:Q () F'):aS P (storeVar t a v) Q F:=by
 simp only[storeVar,bn,ey,hs,ne_eq,not_true_eq_false,if_false]
 exact qA a _ 0 F F' hg h
@[go_sem] theorem ya {Q:Addr->ag->Prop}(t:TypeId)(v:Value):aS P (newVar t v) Q F=∀b,dD F b->Q ⟨b,0,none⟩ (F.push b (.cells v.cells t)):=by
 simp only[newVar,newRow,bn,oz,bC]
 simp[Obj.isChan]
@[go_sem] theorem qB {Q:Addr->ag->Prop}(t:TypeId)(v:Array Value):aS P (newRow t v) Q F=∀b,dD F b->Q ⟨b,0,none⟩ (F.push b (.cells v t)):=by
 simp only[newRow,bn,oz,bC]
 simp[Obj.isChan]
@[go_sem] theorem qC {Q:Addr->ag->Prop}(a:Addr):aS P (Instr.sureAddr (.pointer (some a))) Q F=Q a F:=rfl
@[go_sem] theorem j3 {Q:IntKind×Int->ag->Prop}(k:IntKind)(n:Int):aS P (asIntOf (.int k n)) Q F=Q (k,n) F:=rfl
@[go_sem] theorem yb {Q:Int->ag->Prop}(k:IntKind)(n:Int):aS P (asInt (.int k n)) Q F=Q n F:=rfl
@[go_sem] theorem Ct {Q:Bool->ag->Prop}(b:Bool):aS P (asBool (.bool b)) Q F=Q b F:=rfl
@[go_sem] theorem Cu {Q:Array Value->ag->Prop}(b:Array Value):aS P (asAgg (.agg b)) Q F=Q b F:=rfl
end
def slot (a:Act)(i:Nat):Value:=a.tmps.getD i undef
def sz (a:Act):Nat:=a.tmps.size
def aY (a:Act)(d:Option Tmp)(v:Value):Act:=a.put d v
def ev (a:Act)(x:Operand):Value:=a.eval x
@[go_sem] theorem JL (a:Act)(t:Nat):ev a (.tmp t)=slot a t:=rfl
@[go_sem] theorem JM (a:Act)(v:Value):ev a (.const v)=v:=rfl
@[go_sem] theorem JN (a:Act)(g:Nat):ev a (.global g)= .pointer (some ⟨g,0,none⟩):=rfl
@[go_sem] theorem JO (a:Act)(f:Nat):ev a (.func f)= .func (.func f) #[] #[]:=rfl
@[go_sem] theorem JP (a:Act)(v:Value):aY a none v=a:=rfl
@[go_sem] theorem yc (a:Act)(d:Option Tmp)(v:Value):sz (aY a d v)=sz a:=by cases d<;>simp[sz,aY,Act.put]
theorem Cv (a:Act)(d:Nat)(v:Value)(h:d<sz a):slot (aY a (some d) v) d=v:=by
 simp only[sz] at h
 simp[slot,aY,Act.put,h]
theorem tw (a:Act)(d i:Nat)(v:Value)(h:¬d=i):slot (aY a (some d) v) i=slot a i:=by
 simp[slot,aY,Act.put,Array.getElem?_setIfInBounds_ne h]
@[go_sem] theorem JQ (a:Act)(d i:Nat)(v:Value)(h:d<sz a):slot (aY a (some d) v) i=if d=i then v else slot a i:=by
 split
 ·rename_i e;subst e;exact Cv a d v h
 ·rename_i e;exact tw a d i v e
@[go_sem] theorem yd (a:Act)(d:Option Tmp)(v:Value):(aY a d v).defers=a.defers:=by cases d<;>rfl
theorem aA.start {P:Program}{f:FuncId}{fn:Func}{c:Code}{n:Nat}{args:Array Value}{F:ag}{R:Value->ag->Prop}(b:P.funcs[f]?=some fn)(hb:fn.body=some c)(a:fn.ntmps=n)(d:args.size<=n)
  (h:∀main J,Closed P main J->∀A:Act,sz A=n->A.defers=[]->(∀i,slot A i=args.getD i undef)->Wp J c (qx P fn R) A F):aA P f args F R:=
 aA.of_wp b hb fun main J hJ=>h main J hJ _ (by simp[sz,a];omega) rfl fun i=>by
  simp only[slot,a,Array.getD_eq_getD_getElem?]
  rcases Nat.lt_or_ge i args.size with hi|hi
  ·rw[Array.getElem?_append_left hi]
  ·rw[Array.getElem?_append_right hi,Array.getElem?_replicate,Array.getElem?_eq_none hi]
   split<;>rfl
def cT (P:Program)(t:TypeId):Option TypeId:=match P.underlying t with|some (.slice e)=>some e|_=>none
def mJ (P:Program)(t:TypeId):Option (Nat×TypeId):=match P.underlying t with|some (.array n e)=>some (n,e)|_=>none
def cD (P:Program)(t:TypeId)(n:Nat):Option Nat:=
 match P.underlying t with
 |some (.struct a)=>match a[n]? with
  |some f=>match bW P f.type with
   |some (_+1)=>some f.offset
   |_=>none
  |none=>none
 |_=>none
def tA (P:Program)(t:TypeId)(n:Nat):Option (Nat×Nat×Bool):=
 match P.underlying t with
 |some (.struct a)=>match a[n]? with
  |some f=>match bW P f.type,cu P f.type with
   |some s,some g=>some (f.offset,s,g)
   |_,_=>none
  |none=>none
 |_=>none
def placesOf (P:Program)(t:TypeId):Option (List (Nat×Nat)):=
 match P.underlying t with
 |some (.struct a)=>a.toList.mapM fun f=>(bW P f.type).map fun s=>(f.offset,s)
 |_=>none
def aG (P:Program)(f:FuncId):Bool:=match P.funcs[f]? with|some fn=>!(fn.body.isNone||fn.name== "runtime.NumGoroutine")|none=>false
def ag.c5 (F:ag)(a:Addr):Nat->Nat->Option (List Value)
 |_,0=>some []
 |i,n+1=>match F.get (a.add i) with
  |some v=>match F.c5 a (i+1) n with
   |some b=>some (v::b)
   |none=>none
  |none=>none
theorem tB (F:ag)(a:Addr):∀(n i:Nat) (b:List Value),F.c5 a i n=some b->F.kX a i b/\b.length=n
 |0,i,b,h=>by simp only[ag.c5,Option.some.injEq] at h;subst h;exact ⟨trivial,rfl⟩
 |n+1,i,b,h=>by
  unfold ag.c5 at h
  split at h
  ·rename_i v c
   split at h
   ·rename_i ws d
    cases h
    obtain ⟨h1,h2⟩:=tB F a n (i+1) ws d
    exact ⟨⟨c,h1⟩,by simp[h2]⟩
   ·cases h
  ·cases h
def eR (P:Program)(F:ag)(t:TypeId)(ad:Addr):Option Value:=
 match cu P t with
 |some false=>F.get ad
 |some true=>match bW P t with
  |some n=>match F.c5 ad 0 n with
   |some a=>some (.agg a.toArray)
   |none=>none
  |none=>none
 |none=>none
def qD (P:Program)(F:ag)(t:TypeId)(ad:Addr)(v:Value):Option ag:=
 match bW P t with
 |some n=>if n=v.cells.size then F.iT ad 0 v.cells.toList else none
 |none=>none
theorem ye {P:Program}{F:ag}{t:TypeId}{ad:Addr}{v:Value}{Q:Value->ag->Prop}(h:eR P F t ad=some v)(a:Q v F):aS P (loadVar t ad) Q F:=by
 unfold eR at h
 split at h
 ·rename_i hg;exact Cr v hg h a
 ·rename_i hg
  split at h
  ·rename_i n c
   split at h
   ·rename_i b d
    cases h
    obtain ⟨h1,h2⟩:=tB F ad n 0 b d
    exact Cq b hg (by rw[c,h2]) h1 a
   ·cases h
  ·cases h
 ·cases h
theorem Cw {P:Program}{F F':ag}{t:TypeId}{ad:Addr}{v:Value}{Q:Unit->ag->Prop}(h:qD P F t ad v=some F')(a:Q () F'):aS P (storeVar t ad v) Q F:=by
 unfold qD at h
 split at h
 ·rename_i n b
  split at h
  ·rename_i e;exact Cs F' (by rw[b,e]) h a
  ·cases h
 ·cases h
def mK (op:BinOp):Value->Value->Option Value
 | .int k a,.int c b=>if k=c then match op with
   | .add=>some (.int k (k.wrap (a+b)))
   | .sub=>some (.int k (k.wrap (a - b)))
   | .mul=>some (.int k (k.wrap (a*b)))
   | .quo=>if b=0 then none else some (.int k (k.wrap (a.tdiv b)))
   | .rem=>if b=0 then none else some (.int k (a.tmod b))
   | .eql=>some (.bool (a==b))
   | .neq=>some (.bool (a != b))
   | .lss=>some (.bool (decide (a<b)))
   | .leq=>some (.bool (decide (a<=b)))
   | .gtr=>some (.bool (decide (a>b)))
   | .geq=>some (.bool (decide (a≥b)))
   | .shl=>if b<0 then none else some (.int k (k.wrap (a*2 ^ min b.toNat k.bits)))
   | .shr=>if b<0 then none else some (.int k (a.fdiv (2 ^ min b.toNat k.bits)))
   | .and=>some (.int k (k.wrap (BitVec.ofInt k.bits a&&& BitVec.ofInt k.bits b).toNat))
   | .or=>some (.int k (k.wrap (BitVec.ofInt k.bits a|||BitVec.ofInt k.bits b).toNat))
   | .andNot=>some (.int k (k.wrap (BitVec.ofInt k.bits a&&& ~~~(BitVec.ofInt k.bits b)).toNat))
   |_=>none
  else none
 |_,_=>none
theorem ij {P:Program}{s:Sem Value}{Q:Next->ag->Prop}{F:ag}:aS P (do pure (Next.value (<-s)):Sem Next) Q F=aS P s (fun v G=>Q (.value v) G) F:=by
 simp only[bn,bC]
theorem Cx {P:Program}(op:BinOp)(t:TypeId)(x y:Operand)(k c:IntKind)(a b:Int){Q:Unit->ag->Prop}{F:ag}(h:Q () F):aS P (eqGuard op t x y (.int k a) (.int c b)) Q F:=by
 unfold eqGuard
 cases op<;>simp<;>exact h
theorem Cz {P:Program}{op:BinOp}{t:TypeId}{x y:Operand}{u v w:Value}{Q:Value->ag->Prop}{F:ag}(h:mK op u v=some w)(c:Q w F):aS P (do eqGuard op t x y u v;binOp op t u v) Q F:=by
 unfold mK at h
 split at h
 case h_2=>cases h
 rename_i k a e b
 split at h
 case isFalse=>cases h
 rename_i d
 subst d
 rw[bn]
 refine Cx op t x y k k a b ?_
 cases op<;>simp only[binOp,ne_eq,not_true_eq_false,if_false,Op.intArith,Op.intDiv,Op.intCmp,Op.intBits,Op.shift,c7] at h ⊢<;>first
  |(cases h;done)
  |(cases h;exact c)
  |(split at h
    ·cases h
    ·rename_i hb;rw[if_neg hb];cases h;exact c)
def kY (op:UnOp):Value->Option Value
 | .int k a=>match op with
  | .neg=>some (.int k (k.wrap (0 - a)))
  |_=>none
 | .bool b=>match op with
  | .not=>some (.bool (!b))
  |_=>none
 |_=>none
theorem CA {P:Program}{op:UnOp}{u w:Value}{Q:Value->ag->Prop}{F:ag}(h:kY op u=some w)(a:Q w F):aS P (Op.unary op u) Q F:=by
 cases u<;>cases op<;>simp only[kY] at h<;>first|(cases h;done)|(cases h;exact a)
def qE:Value->Value->Option Value
 | .int k x,.int _ y=>some (.int k (if y>x then y else x))
 |_,_=>none
def qF:Value->Value->Option Value
 | .int k x,.int _ y=>some (.int k (if y<x then y else x))
 |_,_=>none
def oB (P:Program)(t:TypeId):Value->Value->Option Value
 | .slice (some ad) len _,.int _ i=>match cT P t with
  |some e=>match bW P e with
   |some n=>if 0<=i/\i<(len:Int) then some (.pointer (some (ad.add (i.toNat*n)))) else none
   |none=>none
  |none=>none
 | .pointer (some ad),.int _ i=>match mJ P t with
  |some (len,e)=>match bW P e with
   |some n=>if 0<=i/\i<(len:Int) then some (.pointer (some (ad.add (i.toNat*n)))) else none
   |none=>none
  |none=>none
 |_,_=>none
theorem CB {P:Program}{t:TypeId}{u v w:Value}{Q:Value->ag->Prop}{F:ag}(h:oB P t u v=some w)(c:Q w F):aS P (Instr.indexAt t u v) Q F:=by
 unfold oB at h
 split at h
 ·rename_i ad len cap k i
  split at h
  case h_2=>cases h
  rename_i e he
  split at h
  case h_2=>cases h
  rename_i n a
  split at h
  case isFalse=>cases h
  rename_i hi
  cases h
  have hu:P.underlying t=some (.slice e):=by
   unfold cT at he
   split at he
   ·rename_i d b;cases he;exact b
   ·cases he
  simp only[Instr.indexAt,bn,j3,c8,hu,bC,c7,if_pos hi,ey,a]
  exact c
 ·rename_i ad k i
  split at h
  case h_2=>cases h
  rename_i len e he
  split at h
  case h_2=>cases h
  rename_i n a
  split at h
  case isFalse=>cases h
  rename_i hi
  cases h
  have hu:P.underlying t=some (.array len e):=by
   unfold mJ at he
   split at he
   ·rename_i f d b;cases he;exact b
   ·cases he
  simp only[Instr.indexAt,bn,j3,c8,hu,bC,qC,c7,if_pos hi,ey,a]
  exact c
 ·cases h
def mL (P:Program)(t:TypeId)(x:Value)(lo hi:Option Value):Option Value:=
 match x,cT P t with
 | .slice ad len cap,some e=>match bW P e with
  |some n=>
   match (match lo with|none=>some 0|some (.int _ i)=>if 0<=i then some i.toNat else none|_=>none),(match hi with|none=>some len|some (.int _ i)=>if 0<=i then some i.toNat else none|_=>none) with
   |some l,some h=>if l<=h/\h<=cap then some (.slice (if cap=l then ad else ad.map (·.add (l*n))) (h - l) (cap - l)) else none
   |_,_=>none
  |none=>none
 |_,_=>none
theorem CC {P:Program}{t:TypeId}{x w:Value}{lo hi:Option Value}{Q:Value->ag->Prop}{F:ag}(hlen:∀ad len cap,x= .slice ad len cap->len<=cap)(h:mL P t x lo hi=some w)(c:Q w F):aS P (Instr.sliceAt t x lo hi none) Q F:=by
 unfold mL at h
 split at h
 case h_2=>cases h
 rename_i ad len cap e he
 have g:=hlen ad len cap rfl
 have hu:P.underlying t=some (.slice e):=by
  unfold cT at he
  split at he
  ·rename_i m f;cases he;exact f
  ·cases he
 split at h
 case h_2=>cases h
 rename_i n d
 split at h
 case h_2=>cases h
 rename_i l o a b
 split at h
 case isFalse=>cases h
 rename_i hb
 cases h
 simp only[Instr.sliceAt,bn,c8,hu,Instr.slice,Instr.sliceBounds,bC]
 cases hi with
 |none=>
  simp only[Option.some.injEq] at b
  subst b
  simp only[bC]
  cases lo with
  |none=>
   simp only[Option.some.injEq] at a
   subst a
   simp only[bC,ey,d]
   exact c
  |some v=>
   cases v<;>simp only[reduceCtorEq] at a
   rename_i k i
   split at a
   case isFalse=>cases a
   rename_i h0
   cases a
   have:0<=i/\i<=(len:Int):=⟨h0,by omega⟩
   simp only[Instr.sliceBound,bn,j3,c7,if_pos this,bC,ey,d]
   exact c
 |some v=>
  cases v<;>simp only[reduceCtorEq] at b
  rename_i k i
  split at b
  case isFalse=>cases b
  rename_i h0
  cases b
  have h1:0<=i/\i<=(cap:Int):=⟨h0,by omega⟩
  simp only[Instr.sliceBound,bn,j3,c7,if_pos h1,bC]
  cases lo with
  |none=>
   simp only[Option.some.injEq] at a
   subst a
   simp only[bC,ey,d]
   exact c
  |some v=>
   cases v<;>simp only[reduceCtorEq] at a
   rename_i p j
   split at a
   case isFalse=>cases a
   rename_i h2
   cases a
   have h3:0<=j/\j<=((i.toNat:Nat):Int):=⟨h2,by omega⟩
   simp only[bn,j3,c7,if_pos h3,bC,ey,d]
   exact c
def fS:List Value->List Value->Option Bool
 |[],[]=>some true
 | .int k a::xs,.int c b::ys=>if k=c then match fS xs ys with
   |some r=>some (a==b&&r)
   |none=>none
  else none
 | .bool a::xs,.bool b::ys=>match fS xs ys with
   |some r=>some (a==b&&r)
   |none=>none
 |_,_=>none
theorem qG:∀{xs ys:List Value} {us b:List Value} {r:Bool},xs.length=ys.length->fS (xs++us) (ys++b)=some r->∃r1 r2,fS xs ys=some r1/\fS us b=some r2/\r=(r1&&r2)
 |[],[],us,b,r,_,h=>⟨true,r,rfl,h,by simp⟩
 |[],y::ys,_,_,_,a,_=>by simp at a
 |x::xs,[],_,_,_,a,_=>by simp at a
 |x::xs,y::ys,us,b,r,a,h=>by
  have d:xs.length=ys.length:=by simpa using a
  cases x<;>cases y<;>simp only[List.cons_append,fS,reduceCtorEq] at h ⊢
  ·split at h
   ·rename_i e c
    obtain ⟨r1,r2,h1,h2,rfl⟩:=qG d c
    cases h
    exact ⟨_,r2,by rw[h1],h2,by rw[Bool.and_assoc]⟩
   ·cases h
  ·split at h
   ·rename_i f
    split at h
    ·rename_i e c
     obtain ⟨r1,r2,h1,h2,rfl⟩:=qG d c
     cases h
     exact ⟨_,r2,by rw[if_pos f,h1],h2,by rw[Bool.and_assoc]⟩
    ·cases h
   ·cases h
def Kd:List Bool->List Value->Prop
 |[],[]=>True
 |true::ks,.int _ _::xs=>Kd ks xs
 |false::ks,.bool _::xs=>Kd ks xs
 |_,_=>False
theorem Kd.length:∀{ks:List Bool} {xs:List Value},Kd ks xs->xs.length=ks.length
 |[],[],_=>rfl
 |[],x::xs,h=>by simp[Kd] at h
 |k::ks,[],h=>by cases k<;>simp[Kd] at h
 |k::ks,x::xs,h=>by
  have:Kd ks xs:=by cases k<;>cases x<;>simp only[Kd] at h<;>exact h
  simp[Kd.length this]
theorem Kd.split:∀{ks:List Bool} {ls:List Bool} {xs:List Value},Kd (ks++ls) xs->Kd ks (xs.take ks.length)/\Kd ls (xs.drop ks.length)
 |[],_,_,h=>⟨by simp[Kd],by simpa using h⟩
 |k::ks,ls,[],h=>by cases k<;>simp[Kd] at h
 |k::ks,ls,x::xs,h=>by
  cases k<;>cases x<;>simp only[List.cons_append,Kd] at h
  all_goals
   obtain ⟨h1,h2⟩:=Kd.split h
   exact ⟨by simpa [Kd] using h1,by simpa using h2⟩
def oC (P:Program)(g:TypeId->Option (List Bool)):List Field->Nat->Option (List Bool)
 |[],_=>some []
 |f::a,off=>if f.name≠ "_"/\f.offset=off then match g f.type with
   |some ks=>if bW P f.type=some ks.length then match oC P g a (off+ks.length) with
     |some ls=>some (ks++ls)
     |none=>none
    else none
   |none=>none
  else none
def ju (P:Program):Nat->TypeId->Option (List Bool)
 |0,_=>none
 |d+1,t=>match P.underlying t with
  |some .bool=>if cu P t=some false then some [false] else none
  |some (.int _)=>if cu P t=some false then some [true] else none
  |some (.struct a)=>if cu P t=some true/\P.stoodInHeld t=false then oC P (ju P d) a.toList 0 else none
  |some (.array n e)=>if cu P t=some true then match ju P d e with
    |some ks=>if bW P e=some ks.length then some (List.replicate n ks).flatten else none
    |none=>none
   else none
  |_=>none
def Sc (v:Value):Prop:=(∃k a,v= .int k a)\/∃b,v= .bool b
theorem Kd.sc:∀{ks:List Bool} {xs:List Value},Kd ks xs->∀x∈xs,Sc x
 |[],[],_=>by simp
 |[],x::xs,h=>by simp[Kd] at h
 |k::ks,[],h=>by simp
 |k::ks,x::xs,h=>by
  have:Sc x/\Kd ks xs:=by cases k<;>cases x<;>simp only[Kd] at h<;>first|exact ⟨.inl ⟨_,_,rfl⟩,h⟩|exact ⟨.inr ⟨_,rfl⟩,h⟩
  simpa using ⟨this.1,Kd.sc this.2⟩
theorem Sc.cells {v:Value}(h:Sc v):v.cells=#[v]:=by
 rcases h with ⟨k,a,rfl⟩|⟨b,rfl⟩<;>rfl
def Shape (P:Program)(t:TypeId)(v:Value):Prop:=(cu P t=some true->∃xs,v= .agg xs)/\(cu P t=some false->Sc v)
section
variable {P : Program}
theorem qH {t:TypeId}{xs:Array Value}{off m:Nat}{g:Bool}{Q:Value->ag->Prop}{F:ag}(hg:cu P t=some g)(hs:bW P t=some m)(hm:g=false->m=1)(e:off+m<=xs.size)
  (d:∀x∈xs.toList,Sc x) (h:∀v,v.cells.toList=(xs.toList.drop off).take m->Shape P t v->Q v F):aS P (part t xs off) Q F:=by
 simp only[part,bn,kW,hg,c7]
 cases g with
 |true=>
  simp only[if_true,bn,ey,hs,bC]
  refine h _ ?_ ⟨fun _=>⟨_,rfl⟩,fun a=>by rw[hg] at a;cases a⟩
  simp only[Value.cells,Array.toList_extract,List.extract_eq_take_drop]
  congr 1;omega
 |false=>
  have:=hm rfl
  subst this
  have b:off<xs.size:=by omega
  simp only[Bool.false_eq_true,if_false,Array.getElem?_eq_getElem b,bC]
  have c:=d xs[off] (by simp)
  refine h _ ?_ ⟨fun a=>(by rw[hg] at a;cases a),fun _=>c⟩
  rw[c.cells]
  have:off<xs.toList.length:=by simpa using b
  rw[List.drop_eq_getElem_cons this]
  simp
def tC (P:Program)(d:Nat)(t:TypeId)(ks:List Bool):Prop:=
 ∀(u v:Value) (r:Bool) (Q:Bool->ag->Prop) (F:ag),Shape P t u->Shape P t v->Kd ks u.cells.toList->Kd ks v.cells.toList->fS u.cells.toList v.cells.toList=some r->Q r F->aS P (Op.equalIn d t u v) Q F
theorem yf {d t:Nat}{ks:List Bool}(h:ju P d t=some ks):∃g,cu P t=some g/\(g=false->ks.length=1):=by
 cases d with
 |zero=>cases h
 |succ d=>
  unfold ju at h
  split at h
  ·split at h
   ·rename_i hg;cases h;exact ⟨_,hg,fun _=>rfl⟩
   ·cases h
  ·split at h
   ·rename_i hg;cases h;exact ⟨_,hg,fun _=>rfl⟩
   ·cases h
  ·split at h
   ·rename_i hg;exact ⟨true,hg.1,fun x=>by cases x⟩
   ·cases h
  ·split at h
   ·rename_i hg;exact ⟨true,hg,fun x=>by cases x⟩
   ·cases h
  ·cases h
theorem yg {d:Nat}(ih:∀t ks,ju P d t=some ks->tC P d t ks){xs ys:Array Value}{Q:Bool->ag->Prop}{F:ag}(l:∀x∈xs.toList,Sc x)(m:∀x∈ys.toList,Sc x):
  ∀(c:List Field) (off:Nat) (ks:List Bool) (r:Bool),oC P (ju P d) c off=some ks->Kd ks (xs.toList.drop off)->Kd ks (ys.toList.drop off)->fS (xs.toList.drop off) (ys.toList.drop off)=some r->off<=xs.size->off<=ys.size->Q r F->
  aS P (do
   let x<-forIn c ((none,()):Option Bool×Unit) fun f _=>do
    if f.name≠ "_" then
     if (!(<-Op.equalIn d f.type (<-part f.type xs f.offset) (<-part f.type ys f.offset)))=true then pure (ForInStep.done (some false,())) else pure (ForInStep.yield (none,()))
    else pure (ForInStep.yield (none,()))
   match x.fst with
    |some a=>pure a
    |none=>pure true:Sem Bool) Q F
 |[],off,ks,r,b,e,h,he,_,_,i=>by
  simp only[oC,Option.some.injEq] at b
  subst b
  have h1:=e.length
  have h2:=h.length
  rw[List.eq_nil_of_length_eq_zero h1,List.eq_nil_of_length_eq_zero h2] at he
  cases he
  simp only[List.forIn_nil,bn,bC]
  exact i
 |f::c,off,ks,r,b,e,h,he,D,E,i=>by
  unfold oC at b
  split at b
  case isFalse=>cases b
  rename_i j
  obtain ⟨j,rfl⟩:=j
  split at b
  case h_2=>cases b
  rename_i k n
  split at b
  case isFalse=>cases b
  rename_i hs
  split at b
  case h_2=>cases b
  rename_i ls w
  cases b
  obtain ⟨g,hg,o⟩:=yf n
  have y:=e.length
  have z:=h.length
  simp only[List.length_drop,Array.length_toList,List.length_append] at y z
  obtain ⟨A,p⟩:=e.split
  obtain ⟨B,q⟩:=h.split
  rw[List.drop_drop] at p q
  have e1:xs.toList.drop f.offset=(xs.toList.drop f.offset).take k.length++xs.toList.drop (f.offset+k.length):=by
   rw[<-List.drop_drop,List.take_append_drop]
  have e2:ys.toList.drop f.offset=(ys.toList.drop f.offset).take k.length++ys.toList.drop (f.offset+k.length):=by
   rw[<-List.drop_drop,List.take_append_drop]
  rw[e1,e2] at he
  obtain ⟨r1,r2,h1,h2,rfl⟩:=qG (by simp;omega) he
  simp only[List.forIn_cons,bn,if_pos j]
  refine qH hg hs o (by omega) l fun u hu C=>?_
  refine qH hg hs o (by omega) m fun v s sv=>?_
  refine ih _ _ n u v r1 _ F C sv (by rw[hu];exact A) (by rw[s];exact B) (by rw[hu,s];exact h1) ?_
  cases r1 with
  |false=>simpa [bC,c7] using i
  |true=>
   have:=yg ih l m c (f.offset+k.length) ls r2 w p q h2 (by omega) (by omega) (Q:=Q) (F:=F) (by simpa using i)
   simpa [bC,c7,bn] using this
theorem yh {d e k:Nat}{ks:List Bool}{g:Bool}(q:tC P d e ks)(h:ks.length=k)(hg:cu P e=some g)(j:g=false->ks.length=1)(hs:bW P e=some ks.length){xs ys:Array Value}{Q:Bool->ag->Prop}{F:ag}(s:∀x∈xs.toList,Sc x)(t:∀x∈ys.toList,Sc x):
  ∀(n i:Nat) (r:Bool),Kd (List.replicate n ks).flatten (xs.toList.drop (i*k))->Kd (List.replicate n ks).flatten (ys.toList.drop (i*k))->fS (xs.toList.drop (i*k)) (ys.toList.drop (i*k))=some r->i*k<=xs.size->i*k<=ys.size->Q r F->
  aS P (do
   let x<-forIn (List.range' i n) ((none,()):Option Bool×Unit) fun i _=>do
    if (!(<-Op.equalIn d e (<-part e xs (i*k)) (<-part e ys (i*k))))=true then pure (ForInStep.done (some false,())) else pure (ForInStep.yield (none,()))
   match x.fst with
    |some a=>pure a
    |none=>pure true:Sem Bool) Q F
 |0,i,r,b,c,he,_,_,f=>by
  have h1:=b.length
  have h2:=c.length
  rw[List.eq_nil_of_length_eq_zero h1,List.eq_nil_of_length_eq_zero h2] at he
  cases he
  simp only[List.range'_zero,List.forIn_nil,bn,bC]
  exact f
 |n+1,i,r,b,c,he,C,D,f=>by
  have l:(i+1)*k=i*k+k:=by simp only[Nat.add_mul,Nat.one_mul]
  have z:=b.length
  have A:=c.length
  simp only[List.replicate_succ,List.flatten_cons,List.length_drop,Array.length_toList,List.length_append] at z A
  simp only[List.replicate_succ,List.flatten_cons] at b c
  obtain ⟨w,m⟩:=b.split
  obtain ⟨y,o⟩:=c.split
  rw[h] at w m y o
  rw[List.drop_drop,<-l] at m o
  have e1:xs.toList.drop (i*k)=(xs.toList.drop (i*k)).take k++xs.toList.drop ((i+1)*k):=by
   rw[l,<-List.drop_drop,List.take_append_drop]
  have e2:ys.toList.drop (i*k)=(ys.toList.drop (i*k)).take k++ys.toList.drop ((i+1)*k):=by
   rw[l,<-List.drop_drop,List.take_append_drop]
  rw[e1,e2] at he
  obtain ⟨r1,r2,h1,h2,rfl⟩:=qG (by simp;omega) he
  simp only[List.range'_succ,List.forIn_cons,bn]
  refine qH hg hs j (by omega) s fun u hu B=>?_
  refine qH hg hs j (by omega) t fun v p sv=>?_
  rw[h] at hu p
  refine q u v r1 _ F B sv (by rw[hu];exact w) (by rw[p];exact y) (by rw[hu,p];exact h1) ?_
  cases r1 with
  |false=>simpa [bC,c7] using f
  |true=>
   have:=yh q h hg j hs s t n (i+1) r2 m o h2 (by omega) (by omega) (Q:=Q) (F:=F) (by simpa using f)
   simpa [bC,c7,bn] using this
theorem tD:∀(d t:Nat) (ks:List Bool),ju P d t=some ks->tC P d t ks
 |0,_,_,h=>by cases h
 |d+1,t,ks,h=>by
  intro u v r Q F i sv hu c he j
  unfold ju at h
  split at h
  ·rename_i f
   split at h
   case isFalse=>cases h
   rename_i hg
   cases h
   have a1:=i.2 hg
   have a2:=sv.2 hg
   rw[a1.cells] at he hu
   rw[a2.cells] at he c
   simp only[Op.equalIn,bn,c8,f]
   rcases a1 with ⟨k,a,rfl⟩|⟨a,rfl⟩<;>rcases a2 with ⟨m,b,rfl⟩|⟨b,rfl⟩<;>simp[Kd] at hu c
   simp[fS] at he
   subst he
   simpa [bC] using j
  ·rename_i f
   split at h
   case isFalse=>cases h
   rename_i hg
   cases h
   have a1:=i.2 hg
   have a2:=sv.2 hg
   rw[a1.cells] at he hu
   rw[a2.cells] at he c
   simp only[Op.equalIn,bn,c8,f]
   rcases a1 with ⟨k,a,rfl⟩|⟨a,rfl⟩<;>rcases a2 with ⟨m,b,rfl⟩|⟨b,rfl⟩<;>simp[Kd] at hu c
   simp[fS] at he
   obtain ⟨l,rfl⟩:=he
   simpa [bC,c7,l] using j
  ·rename_i o f
   split at h
   case isFalse=>cases h
   rename_i hg
   obtain ⟨hg,p⟩:=hg
   obtain ⟨xs,rfl⟩:=i.1 hg
   obtain ⟨ys,rfl⟩:=sv.1 hg
   simp only[Op.equalIn,bn,c8,f,js,p,Bool.false_eq_true,if_false,c7,bC]
   have:=yg (P:=P) (d:=d) (fun t ks q=>tD d t ks q) (xs:=xs) (ys:=ys) (Q:=Q) (F:=F) hu.sc c.sc o.toList 0 ks r h (by simpa [Value.cells] using hu) (by simpa [Value.cells] using c) (by simpa [Value.cells] using he) (by omega) (by omega) j
   rw[<-Array.forIn_toList]
   simp[bn] at this ⊢
   exact gj (fun a G h=>by rcases a with ⟨_|_,_⟩<;>exact h) _ _ this
  ·rename_i n e f
   split at h
   case isFalse=>cases h
   rename_i hg
   split at h
   case h_2=>cases h
   rename_i k l
   split at h
   case isFalse=>cases h
   rename_i hs
   cases h
   obtain ⟨xs,rfl⟩:=i.1 hg
   obtain ⟨ys,rfl⟩:=sv.1 hg
   obtain ⟨g,s,w⟩:=yf l
   simp only[Op.equalIn,bn,c8,f,ey,hs]
   have:=yh (P:=P) (d:=d) (tD d e k l) rfl s w hs (xs:=xs) (ys:=ys) (Q:=Q) (F:=F) hu.sc c.sc n 0 r (by simpa [Value.cells] using hu) (by simpa [Value.cells] using c) (by simpa [Value.cells] using he) (by simp) (by simp) j
   simp only[Std.Legacy.Range.forIn_eq_forIn_range',Std.Legacy.Range.size,Nat.sub_zero,Nat.add_one_sub_one,Nat.div_one]
   simp[bn] at this ⊢
   exact gj (fun a G h=>by rcases a with ⟨_|_,_⟩<;>exact h) _ _ this
  ·cases h
def iq:List Bool->List Value->Bool
 |[],[]=>true
 |true::ks,.int _ _::xs=>iq ks xs
 |false::ks,.bool _::xs=>iq ks xs
 |_,_=>false
theorem tE:∀{ks:List Bool} {xs:List Value},iq ks xs=true->Kd ks xs
 |[],[],_=>trivial
 |[],x::xs,h=>by simp[iq] at h
 |k::ks,[],h=>by cases k<;>simp[iq] at h
 |k::ks,x::xs,h=>by
  cases k<;>cases x<;>first
   |(simp only[iq,reduceCtorEq,Bool.false_eq_true] at h;done)
   |exact tE (ks:=ks) (xs:=xs) (by simpa only[iq] using h)
def iU (P:Program)(t:TypeId):Option (List Bool):=if P.eqGuardType P.depth t=false/\cu P t=some true then ju P Op.maxDepth t else none
def kZ (P:Program)(t:TypeId):Value->Value->Option Bool
 | .agg xs,.agg ys=>match iU P t with
  |some ks=>if iq ks xs.toList&&iq ks ys.toList then fS xs.toList ys.toList else none
  |none=>none
 |_,_=>none
theorem tF {t:TypeId}{u v:Value}{r:Bool}{Q:Bool->ag->Prop}{F:ag}(h:kZ P t u v=some r)(c:Q r F):aS P (Op.equal t u v) Q F/\P.eqGuardType P.depth t=false/\(∃xs,u= .agg xs)/\∃ys,v= .agg ys:=by
 unfold kZ at h
 split at h
 case h_2=>cases h
 rename_i xs ys
 split at h
 case h_2=>cases h
 rename_i ks a
 split at h
 case isFalse=>cases h
 rename_i b
 simp only[Bool.and_eq_true] at b
 unfold iU at a
 split at a
 case isFalse=>cases a
 rename_i hg
 refine ⟨?_,hg.1,⟨_,rfl⟩,_,rfl⟩
 exact tD _ _ _ a _ _ r Q F ⟨fun _=>⟨_,rfl⟩,fun x=>by rw[hg.2] at x;cases x⟩ ⟨fun _=>⟨_,rfl⟩,fun x=>by rw[hg.2] at x;cases x⟩ (tE b.1) (tE b.2) h c
def tG (P:Program)(t:TypeId):Bool:=match P.underlying t with|some .bool=>true|_=>false
def jv (P:Program)(t:TypeId):Bool:=match P.underlying t with|some (.slice _)=>true|_=>false
def oD (P:Program)(t:TypeId):Value->Value->Option Bool
 | .bool a,.bool b=>if tG P t=true then some (a==b) else none
 | .slice none _ _,.slice b _ _=>if jv P t=true then some b.isNone else none
 | .slice (some _) _ _,.slice none _ _=>if jv P t=true then some false else none
 |_,_=>none
theorem yj {t:TypeId}{u v:Value}{r:Bool}{Q:Bool->ag->Prop}{F:ag}(h:oD P t u v=some r)(e:Q r F):aS P (Op.equal t u v) Q F/\((∃a b,u= .bool a/\v= .bool b)\/∃a n c b m d,u= .slice a n c/\v= .slice b m d):=by
 obtain ⟨d,hd⟩:∃d,Op.maxDepth=d+1:=⟨_,rfl⟩
 unfold oD at h
 split at h
 ·split at h
  ·rename_i hb
   cases h
   unfold tG at hb
   split at hb
   ·rename_i hu
    refine ⟨?_,.inl ⟨_,_,rfl,rfl⟩⟩
    unfold Op.equal
    rw[hd]
    simp only[Op.equalIn,bn,c8,hu,bC]
    exact e
   ·cases hb
  ·cases h
 ·split at h
  ·rename_i hb
   cases h
   unfold jv at hb
   split at hb
   ·rename_i hu
    refine ⟨?_,.inr ⟨_,_,_,_,_,_,rfl,rfl⟩⟩
    unfold Op.equal
    rw[hd]
    simp only[Op.equalIn,bn,c8,hu,bC]
    exact e
   ·cases hb
  ·cases h
 ·split at h
  ·rename_i hb
   cases h
   unfold jv at hb
   split at hb
   ·rename_i hu
    refine ⟨?_,.inr ⟨_,_,_,_,_,_,rfl,rfl⟩⟩
    unfold Op.equal
    rw[hd]
    simp only[Op.equalIn,bn,c8,hu,bC]
    exact e
   ·cases hb
  ·cases h
 ·cases h
def oE (P:Program)(op:BinOp)(t:TypeId)(u v:Value):Option Value:=
 match mK op u v with
 |some w=>some w
 |none=>match op with
  | .eql=>match kZ P t u v with
   |some r=>some (.bool r)
   |none=>match oD P t u v with
    |some r=>some (.bool r)
    |none=>none
  | .neq=>match kZ P t u v with
   |some r=>some (.bool (!r))
   |none=>match oD P t u v with
    |some r=>some (.bool (!r))
    |none=>none
  |_=>none
theorem CD {op:BinOp}{t:TypeId}{x y:Operand}{u v w:Value}{Q:Value->ag->Prop}{F:ag}(h:oE P op t u v=some w)(f:Q w F):aS P (do eqGuard op t x y u v;binOp op t u v) Q F:=by
 unfold oE at h
 split at h
 ·rename_i w' hw;cases h;exact Cz hw f
 ·split at h
  ·split at h
   ·rename_i r e
    cases h
    obtain ⟨h1,h2,⟨xs,rfl⟩,ys,rfl⟩:=tF (Q:=fun r G=>Q (.bool r) G) e f
    simp only[bn,eqGuard,binOp,js,h2,c7,bC]
    simpa using h1
   ·split at h
    ·rename_i r e
     cases h
     obtain ⟨h1,h2⟩:=yj (Q:=fun r G=>Q (.bool r) G) e f
     rcases h2 with ⟨a,b,rfl,rfl⟩|⟨a,n,c,b,m,d,rfl,rfl⟩<;>
     ·simp only[bn,eqGuard,binOp,js,c7,bC]
      simpa using h1
    ·cases h
  ·split at h
   ·rename_i r e
    cases h
    obtain ⟨h1,h2,⟨xs,rfl⟩,ys,rfl⟩:=tF (Q:=fun r G=>Q (.bool (!r)) G) e f
    simp only[bn,eqGuard,binOp,js,h2,c7,bC]
    simpa using h1
   ·split at h
    ·rename_i r e
     cases h
     obtain ⟨h1,h2⟩:=yj (Q:=fun r G=>Q (.bool (!r)) G) e f
     rcases h2 with ⟨a,b,rfl,rfl⟩|⟨a,n,c,b,m,d,rfl,rfl⟩<;>
     ·simp only[bn,eqGuard,binOp,js,c7,bC]
      simpa using h1
    ·cases h
  ·cases h
end
theorem tH {P:Program}{t e:TypeId}(h:cT P t=some e):P.underlying t=some (.slice e):=by
 unfold cT at h
 split at h
 ·rename_i a he;cases h;exact he
 ·cases h
theorem yl (n:Nat):∀(r c:Nat),Builtin.growBy n r c<=2 ^ r*(c+768)
 |0,c=>by simp[Builtin.growBy]
 |r+1,c=>by
  unfold Builtin.growBy
  split
  ·have:1<=2 ^ (r+1):=Nat.one_le_two_pow
   have:=Nat.mul_le_mul_right (c+768) this
   omega
  ·have h:=yl n r (c+(c+768)/4)
   refine Nat.le_trans h ?_
   rw[Nat.pow_succ,Nat.mul_assoc]
   refine Nat.mul_le_mul_left _ ?_
   omega
theorem nextslicecap_le {n c:Nat}(h:c<n)(b:n<=1000000):Builtin.nextslicecap n c<=20000000:=by
 unfold Builtin.nextslicecap
 split
 ·omega
 ·split
  ·omega
  ·have a:=yl n 4 c
   have e:(2:Nat) ^ 4=16:=by decide
   rw[e] at a
   refine Nat.le_trans a ?_
   omega
section
variable {P : Program}
theorem CE {Q:Array Value->ag->Prop}{F:ag}(a:Addr){n:Nat}{b:List Value}(h:F.c5 a 0 n=some b)(c:Q b.toArray F):aS P (loadCells a n) Q F:=by
 obtain ⟨h1,h2⟩:=tB F a n 0 b h
 subst h2
 exact tv a b 0 #[] h1 (by simpa using c)
def fC (F:ag)(size:Nat):Value->Option (List Value)
 | .slice (some a) n _=>F.c5 a 0 (n*size)
 | .slice none 0 _=>some []
 |_=>none
theorem tJ {Q:Array Value->ag->Prop}{F:ag}{size n:Nat}{ad:Option Addr}{c:Nat}{b:List Value}(h:fC F size (.slice ad n c)=some b)(d:Q b.toArray F):aS P (Builtin.firstCells size n (.slice ad n c)) Q F:=by
 cases ad with
 |none=>
  cases n with
  |zero=>simp only[fC,Option.some.injEq] at h;subst h;exact d
  |succ n=>simp[fC] at h
 |some a=>exact CE a h d
theorem tK {Q:Unit->ag->Prop}{F:ag}(n:Nat)(h:Q () F):aS P (askRoom n) Q F:=by
 unfold askRoom
 rw[c7]
 split
 ·exact ⟨rfl,h⟩
 ·exact h
theorem tL {F:ag}{Q:Value->ag->Prop}{argTypes:Array TypeId}{ty i j e p:TypeId}{size d len cap n c:Nat}{base l:Option Addr}{z:Value}{old new:List Value}
  (h0:argTypes[0]?=some i) (h1:argTypes[1]?=some j) (he:cT P i=some e) (q:cT P j=some p) (hs:bW P e=some size) (r:zeroOf P e=some z) (hb:bytesOf P e=some d)
  (A:0<d) (s:d<=10000) (u:len+n<=1000000) (hold:fC F size (.slice base len cap)=some old) (m:fC F size (.slice l n c)=some new)
  (f:len+n<=cap->(∃a F',base=some a/\F.iT (a.add (len*size)) 0 new=some F'/\Q (.slice base (len+n) cap) F')\/(base=none/\Q (.slice base (len+n) cap) F))
  (v:cap<len+n->∀k b,len+n<=k->dD F b->Q (.slice (some ⟨b,0,none⟩) (len+n) k) (F.push b (.cells (old.toArray++new.toArray++Builtin.zeroCells z.cells (k - (len+n))) e))):
  aS P (Builtin.append_ argTypes ty #[.slice base len cap,.slice l n c]) Q F:=by
 have hu:=tH he
 have w:=tH q
 unfold bytesOf at hb
 obtain ⟨info,hi,rfl⟩:=Option.map_eq_some_iff.1 hb
 simp only[Builtin.append_,h0,h1,List.getElem?_toArray,List.getElem?_cons_zero,List.getElem?_cons_succ,bn,c8,hu,w,ey,hs,bC,Builtin.lenOf,Bool.false_eq_true,if_false,c7,Bool.not_false,if_true,oA,hi]
 split
 ·rename_i hle
  have f:=f hle
  refine tJ m ?_
  rcases f with ⟨a,F',rfl,x,g⟩|⟨rfl,g⟩
  ·simp only[bn]
   refine qA _ _ 0 F F' (by simpa using x) ?_
   exact g
  ·exact g
 ·rename_i B
  have y:=nextslicecap_le (n:=len+n) (c:=cap) (by omega) u
  have e1:¬(((len+n:Nat):Int)>IntKind.i64.max/\(false=true\/info.bytes=0)):=by
   rintro ⟨_,h|h⟩
   ·cases h
   ·omega
  have e2:¬(Builtin.nextslicecap (len+n) cap*info.bytes>2 ^ 48):=by
   have:Builtin.nextslicecap (len+n) cap*info.bytes<=20000000*10000:=Nat.mul_le_mul y s
   omega
  rw[if_neg (by simpa using e1),if_neg e2]
  rw[tu]
  rw[if_neg (by simp[Question.forced])]
  intro t
  have o:len+n<=(Question.appendCap (len+n) cap e).cut t:=Nat.le_add_right _ _
  generalize (Question.appendCap (len+n) cap e).cut t=k at o ⊢
  refine tK _ ?_
  refine tJ hold ?_
  refine tJ m ?_
  simp only[bn,kV,r,qB,bC]
  exact fun b hb=>v (by omega) k b o hb
end
theorem tN:∀{pre:List (Nat×Obj)} {b:Nat} {o:Obj},ak pre b->lk (pre++[(b,o)]) b=some o
 |[],b,o,_=>by simp[lk]
 |(c,x)::pre,b,o,h=>by
  have a:¬c=b:=fun e=>h.1 e.symm
  simp[lk,a,tN h.2]
def dz (arr:Array Value)(k:Nat):List Value->Array Value
 |[]=>arr
 |v::a=>dz (arr.setIfInBounds k v) (k+1) a
theorem qI:∀(a:List Value) (arr:Array Value) (k:Nat),(dz arr k a).size=arr.size
 |[],_,_=>rfl
 |v::a,arr,k=>by rw[dz,qI a];simp
theorem qJ:∀(a:List Value) (arr:Array Value) (k:Nat),k+a.length<=arr.size->(dz arr k a).toList=arr.toList.take k++a++arr.toList.drop (k+a.length)
 |[],arr,k,_=>by simp[dz]
 |v::a,arr,k,h=>by
  simp only[List.length_cons] at h
  rw[dz,qJ a _ _ (by simp;omega)]
  have b:k<arr.toList.length:=by simp;omega
  rw[Array.toList_setIfInBounds]
  have e1:(arr.toList.set k v).take (k+1)=arr.toList.take k++[v]:=by
   rw[List.take_succ_eq_append_getElem (by simpa using b),List.take_set_of_le (Nat.le_refl _)]
   simp
  have e2:(arr.toList.set k v).drop (k+1+a.length)=arr.toList.drop (k+(v::a).length):=by
   rw[List.drop_set_of_lt (by omega)]
   congr 1
   simp;omega
  rw[e1,e2]
  simp
def Gr (ro:Addr->Option Value)(e:TypeId)(size:Nat)(v:Value)(l:List (List Value))(aQ:List (Nat×Obj)):Prop:=
 (v= .slice none 0 0/\l=[]/\aQ=[])\/
 ∃b arr cap,v= .slice (some ⟨b,0,none⟩) l.length cap/\aQ=[(b,.cells arr e)]/\arr.size=cap*size/\l.length<=cap/\arr.toList.take (l.length*size)=l.flatten/\(∀x∈l,x.length=size)/\∀off sp,ro ⟨b,off,sp⟩=none
theorem gL {size:Nat}:∀{l:List (List Value)},(∀x∈l,x.length=size)->l.flatten.length=l.length*size
 |[],_=>by simp
 |x::l,h=>by
  have ih:l.flatten.length=l.length*size:=gL (fun y a=>h y (List.mem_cons_of_mem _ a))
  simp only[List.flatten_cons,List.length_append,List.length_cons,h x (by simp),ih,Nat.add_mul,Nat.one_mul]
  omega
theorem ym {ro:Addr->Option Value}{pre:List (Nat×Obj)}{b:Nat}{e:TypeId}{arr:Array Value}(a:ak pre b)(c:∀off sp,ro ⟨b,off,sp⟩=none):∀(n i:Nat),i+n<=arr.size->
  ag.c5 ⟨ro,pre++[(b,.cells arr e)]⟩ ⟨b,0,none⟩ i n=some ((arr.toList.drop i).take n)
 |0,i,_=>by simp[ag.c5]
 |n+1,i,h=>by
  have f:(⟨b,0,none⟩:Addr).add i=⟨b,i,none⟩:=by
   unfold Addr.add
   split
   ·rename_i hi;subst hi;rfl
   ·simp
  have d:i<arr.size:=by omega
  unfold ag.c5
  have ih:=ym (e:=e) (arr:=arr) a c n (i+1) (by omega)
  simp only[ag.get,f,c,if_true,tN a,Option.bind_some,cellOf,Array.getElem?_eq_getElem d,ih]
  have g:i<arr.toList.length:=by simpa using d
  rw[List.drop_eq_getElem_cons g,List.take_succ_cons]
  simp
theorem Gr.fC {ro:Addr->Option Value}{e:TypeId}{size:Nat}{v:Value}{l:List (List Value)}{aQ pre:List (Nat×Obj)}(h:Gr ro e size v l aQ)(a:∀k∈keys aQ,ak pre k):
  Go.Sep.fC ⟨ro,pre++aQ⟩ size v=some l.flatten:=by
 rcases h with ⟨rfl,rfl,rfl⟩|⟨b,arr,cap,rfl,rfl,hs,c,ht,f,d⟩
 ·rfl
 ·simp only[Go.Sep.fC]
  have hle:l.length*size<=arr.size:=by rw[hs];exact Nat.mul_le_mul_right _ c
  rw[ym (a b (by simp[keys])) d _ _ (by omega)]
  simp[ht]
section
variable {P : Program}
end
def oF (P:Program)(t:TypeId)(parts:List (Nat×Value)):Option Value:=
 match zeroOf P t,placesOf P t with
 |some z,some pl=>match Instr.fill (fun i=>pl[i]?) z.cells parts with
  |some cs=>some (.agg cs)
  |none=>none
 |_,_=>none
theorem yo {P:Program}{Q:Array (Nat×Nat)->ag->Prop}{F:ag}:∀(a:List Field) (pl:List (Nat×Nat)) (acc:Array (Nat×Nat)),(a.mapM fun f=>(bW P f.type).map fun s=>(f.offset,s))=some pl->
  Q (acc++pl.toArray) F->aS P (a.foldlM (fun (b:Array (Nat×Nat)) f=>do let s<-sizeOf f.type;pure (b.push (f.offset,s))) acc) Q F
 |[],pl,acc,h,c=>by
  simp at h;subst h
  simpa [bC] using c
 |f::a,pl,acc,h,c=>by
  simp only[List.mapM_cons] at h
  cases hs:bW P f.type with
  |none=>simp[hs] at h
  |some s=>
   cases d:(a.mapM fun f=>(bW P f.type).map fun s=>(f.offset,s)) with
   |none=>simp[hs,d] at h
   |some e=>
    simp[hs,d] at h
    subst h
    simp only[List.foldlM_cons,bn,ey,hs,bC]
    exact yo a e _ d (by simpa using c)
theorem CF {P:Program}{Q:Array (Nat×Nat)->ag->Prop}{F:ag}(a:Array Field)(pl:List (Nat×Nat))(h:(a.toList.mapM fun f=>(bW P f.type).map fun s=>(f.offset,s))=some pl)
  (b:Q pl.toArray F):aS P (a.mapM fun f=>do let s<-sizeOf f.type;pure (f.offset,s)) Q F:=by
 rw[Array.mapM_eq_foldlM,<-Array.foldlM_toList]
 have:=yo (Q:=Q) (F:=F) a.toList pl #[] h (by simpa using b)
 simpa using this
theorem CG {P:Program}{t:TypeId}{parts:Array (Nat×Value)}{w:Value}{Q:Value->ag->Prop}{F:ag}(h:oF P t parts.toList=some w)(b:Q w F):aS P (Instr.build t parts) Q F:=by
 unfold oF at h
 split at h
 case h_2=>cases h
 rename_i z pl c a
 split at h
 case h_2=>cases h
 rename_i cs d
 cases h
 unfold placesOf at a
 split at a
 case h_2=>cases a
 rename_i e f
 simp only[Instr.build,bn,kV,c,c8,f]
 refine CF e pl a ?_
 simp only[List.getElem?_toArray,d,bC]
 exact b
def qK (P:Program)(t:TypeId)(len:Nat)(parts:List (Nat×Value)):Option (TypeId×Array Value):=
 match cT P t with
 |some e=>match bW P e,zeroOf P e with
  |some size,some z=>if len*size<=2 ^ 24/\0<len*size then
    match Instr.fill (fun i=>some (i*size,size)) ((Array.range (len*size)).map (z.cells[· % z.cells.size]!)) parts with
    |some cs=>some (e,cs)
    |none=>none
   else if len*size=0/\parts.isEmpty=true then some (e,#[]) else none
  |_,_=>none
 |none=>none
theorem CH {P:Program}{t:TypeId}{len:Nat}{parts:Array (Nat×Value)}{e:TypeId}{cs:Array Value}{Q:Value->ag->Prop}{F:ag}(h:qK P t len parts.toList=some (e,cs))
  (c:∀b,dD F b->Q (.slice (some ⟨b,0,none⟩) len len) (F.push b (.cells cs e))):aS P (Instr.buildSlice t len parts) Q F:=by
 unfold qK at h
 split at h
 case h_2=>cases h
 rename_i d he
 split at h
 case h_2=>cases h
 rename_i size z hs f
 split at h
 case isFalse=>
  split at h
  case isFalse=>cases h
  rename_i hb
  cases h
  have hu:P.underlying t=some (.slice e):=by
   unfold cT at he
   split at he
   ·rename_i d a;cases he;exact a
   ·cases he
  have h1:¬(len*size>2 ^ 24):=by rw[hb.1];decide
  have g:parts.toList=[]:=List.isEmpty_iff.1 hb.2
  simp only[Instr.buildSlice,bn,c8,hu,ey,hs,c7,if_neg h1,if_pos hb.1,bC,g]
  rw[hb.1]
  have e0:Array.range 0=#[]:=rfl
  simp only[e0,Array.map_empty,Instr.fill,bn,qB,bC]
  exact c
 rename_i hb
 split at h
 case h_2=>cases h
 rename_i cs' i
 cases h
 have hu:P.underlying t=some (.slice e):=by
  unfold cT at he
  split at he
  ·rename_i d a;cases he;exact a
  ·cases he
 have h1:¬(len*size>2 ^ 24):=by omega
 have h2:¬(len*size=0):=by omega
 simp only[Instr.buildSlice,bn,c8,hu,ey,hs,c7,if_neg h1,if_neg h2,kV,f,bC,i,qB]
 exact c
def oG (P:Program)(t:TypeId)(n:Nat):Value->Option Value
 | .agg cs=>match tA P t n with
  |some (off,s,true)=>some (.agg (cs.extract off (off+s)))
  |some (off,_,false)=>cs[off]?
  |none=>none
 |_=>none
theorem CI {P:Program}{t:TypeId}{n:Nat}{u w:Value}{Q:Value->ag->Prop}{F:ag}(h:oG P t n u=some w)(b:Q w F):aS P (Instr.field t u n) Q F:=by
 cases u<;>simp only[oG,reduceCtorEq] at h
 rename_i cs
 unfold tA at h
 cases hu:P.underlying t with
 |none=>simp[hu] at h
 |some d=>
  cases d<;>simp only[hu,reduceCtorEq] at h
  rename_i c
  cases a:c[n]? with
  |none=>simp[a] at h
  |some f=>
   simp only[a] at h
   cases hs:bW P f.type with
   |none=>simp[hs] at h
   |some s=>
    cases hg:cu P f.type with
    |none=>simp[hs,hg] at h
    |some g=>
     simp only[hs,hg] at h
     simp only[Instr.field,bn,c8,hu,a,Cu,part,kW,hg,c7]
     cases g with
     |true=>simp only[Option.some.injEq] at h;subst h;simpa [ey,hs,bC] using b
     |false=>
      simp only at h
      simp only[Bool.false_eq_true,if_false,h]
      exact b
def qL (n:Nat):Value->Option Value
 | .tuple a=>a[n]?
 |_=>none
def k3 (P:Program)(src dst:TypeId):Value->Option Value
 | .int _ n=>match P.underlying src,P.underlying dst with
  |some (.int _),some (.int k)=>some (.int k (k.wrap n))
  |_,_=>none
 |_=>none
theorem CJ {P:Program}{src dst:TypeId}{u w:Value}{Q:Value->ag->Prop}{F:ag}(h:k3 P src dst u=some w)(a:Q w F):aS P (convert src dst u) Q F:=by
 cases u<;>simp only[k3,reduceCtorEq] at h
 rename_i k n
 split at h
 ·rename_i k1 b h1 h2
  cases h
  simp only[convert,bn,c8,h1,h2,Conv.intToInt,bC]
  exact a
 ·cases h
def qM (P:Program)(t:TypeId):Value->Option Value
 | .slice _ n _=>match cT P t with
  |some _=>some (.int .i64 n)
  |none=>none
 |_=>none
def oH (P:Program)(t:TypeId):Value->Value->Option Value
 | .agg cs,.int _ i=>match mJ P t with
  |some (len,e)=>match bW P e,cu P e with
   |some s,some true=>if 0<=i/\i<(len:Int) then some (.agg (cs.extract (i.toNat*s) (i.toNat*s+s))) else none
   |some s,some false=>if 0<=i/\i<(len:Int) then cs[i.toNat*s]? else none
   |_,_=>none
  |none=>none
 | .string s,.int _ i=>match P.underlying t with
  |some .string=>if 0<=i then (s[i.toNat]?).map fun b=>.int .u8 b.toNat else none
  |_=>none
 |_,_=>none
theorem CK {P:Program}{t:TypeId}{u v w:Value}{Q:Value->ag->Prop}{F:ag}(h:oH P t u v=some w)(a:Q w F):aS P (Instr.index t u v) Q F:=by
 unfold oH at h
 split at h
 case h_3=>cases h
 case h_2=>
  rename_i s k i
  split at h
  case h_2=>cases h
  rename_i hu
  split at h
  case isFalse=>cases h
  rename_i hi
  obtain ⟨b,hb,rfl⟩:=Option.map_eq_some_iff.1 h
  simp only[Instr.index,bn,j3,c8,hu,if_pos hi,hb,bC]
  exact a
 rename_i cs k i
 split at h
 case h_2=>cases h
 rename_i len e he
 have hu:P.underlying t=some (.array len e):=by
  unfold mJ at he
  split at he
  ·rename_i d f c;cases he;exact c
  ·cases he
 split at h
 ·rename_i s hs hg
  split at h
  case isFalse=>cases h
  rename_i hi
  cases h
  simp only[Instr.index,bn,j3,c8,hu,c7,if_pos hi,ey,hs,part,kW,hg,if_true,bC]
  exact a
 ·rename_i s hs hg
  split at h
  case isFalse=>cases h
  rename_i hi
  simp only[Instr.index,bn,j3,c8,hu,c7,if_pos hi,ey,hs,part,kW,hg,Bool.false_eq_true,if_false,h,bC]
  exact a
 ·cases h
def k4 (P:Program)(argTypes:Array TypeId)(s x:Value)(R:Value->ag->Prop)(F:ag):Prop:=
 ∀ty,aS P (Builtin.append_ argTypes ty #[s,x]) (fun v F=>∃F0,Le F0 F/\R v F0) F
def Oper.mM (o:Oper):Bool:=match o.op with| .call {callee:=.builtin .append, ..}=>true|_=>false
def fT (P:Program)(J:Goroutine->ag->Prop)(y:Value)(args:Array Value)(F:ag)(R:Value->ag->Prop):Prop:=
 match y with
 | .func (.func fn) first captured=>aG P fn=true/\cK P J fn (first++args++captured) F R
 | .func (.yield l) first captured=>first=#[]/\captured=#[]/\∃r,F.eJ l=some (.loop r)/\args.size=r.params.size/\iR J l r.fn ((r.params.zip args).foldl (fun tmps (t,a)=>tmps.setIfInBounds t a) r.tmps) r.assign r.body F R
 |_=>False
theorem fT.mono {P:Program}{J:Goroutine->ag->Prop}{y:Value}{args:Array Value}{F:ag}{R a:Value->ag->Prop}(h:fT P J y args F R)(b:∀v F',R v F'->a v F'):fT P J y args F a:=by
 unfold fT at h ⊢
 split at h
 ·exact ⟨h.1,h.2.mono b⟩
 ·obtain ⟨e1,e2,r,h1,h2,h3⟩:=h;exact ⟨e1,e2,r,h1,h2,h3.mono b⟩
 ·exact h.elim
theorem CL {P:Program}{J:Goroutine->ag->Prop}{fn:FuncId}{first captured args:Array Value}{F:ag}{R:Value->ag->Prop}:fT P J (.func (.func fn) first captured) args F R=(aG P fn=true/\cK P J fn (first++args++captured) F R):=rfl
def eE (P:Program)(m:Sem Value)(R:Value->ag->Prop)(F:ag):Prop:=aS P m R F
def cB (P:Program)(J:Goroutine->ag->Prop)(o:Oper)(R:Value->ag->Prop)(a:Act)(F:ag):Prop:=
 match o.op with
 | .move x| .assign x=>R (ev a x) F
 | .nilCheck x=>match ev a x with
  | .pointer (some _)=>R (ev a x) F
  |_=>False
 | .pick c x y=>match ev a c with
  | .bool b=>R (if b then ev a x else ev a y) F
  |_=>False
 | .alloc t=>match zeroOf P t with
  |some z=>∀b,dD F b->R (.pointer (some ⟨b,0,none⟩)) (F.push b (.cells z.cells t))
  |none=>False
 | .box t x=>∀b,dD F b->R (.pointer (some ⟨b,0,none⟩)) (F.push b (.cells (ev a x).cells t))
 | .build t parts=>match oF P t (parts.map fun (i,x)=>(i,ev a x)).toList with
  |some v=>R v F
  |none=>False
 | .buildSlice t len parts=>match qK P t len (parts.map fun (i,x)=>(i,ev a x)).toList with
  |some (e,cs)=>∀b,dD F b->R (.slice (some ⟨b,0,none⟩) len len) (F.push b (.cells cs e))
  |none=>False
 | .load t x=>match ev a x with
  | .pointer (some ad)=>match eR P F t ad with
   |some v=>R v F
   |none=>False
  |_=>False
 | .store t x y=>match ev a x with
  | .pointer (some ad)=>match qD P F t ad (ev a y) with
   |some F'=>R undef F'
   |none=>False
  |_=>False
 | .binOp op t x y _=>match oE P op t (ev a x) (ev a y) with
  |some v=>R v F
  |none=>False
 | .unOp op _ x=>match kY op (ev a x) with
  |some v=>R v F
  |none=>False
 | .convert src dst x=>match k3 P src dst (ev a x) with
  |some v=>R v F
  |none=>False
 | .makeFunc fn first captured=>R (.func fn (first.map (ev a)) (captured.map (ev a))) F
 | .slice t x lo hi none=>(match ev a x with| .slice _ len cap=>len<=cap|_=>False)/\match mL P t (ev a x) (lo.map (ev a)) (hi.map (ev a)) with
  |some v=>R v F
  |none=>False
 | .fieldAddr s x n=>match ev a x with
  | .pointer (some ad)=>match cD P s n with
   |some k=>R (.pointer (some (ad.add k))) F
   |none=>False
  |_=>False
 | .field s x n=>match oG P s n (ev a x) with
  |some v=>R v F
  |none=>False
 | .indexAddr t x i=>match oB P t (ev a x) (ev a i) with
  |some v=>R v F
  |none=>False
 | .index t x i=>match oH P t (ev a x) (ev a i) with
  |some v=>R v F
  |none=>False
 | .extract x n=>match qL n (ev a x) with
  |some v=>R v F
  |none=>False
 | .call {callee:=.value x,args, ..}=>fT P J (ev a x) (args.map (ev a)) F R
 | .call {callee:=.builtin .len,args,argTypes}=>match argTypes[0]?,args[0]? with
  |some t,some x=>match qM P t (ev a x) with
   |some v=>R v F
   |none=>eE P (Builtin.len_ argTypes o.type (args.map (ev a))) R F
  |_,_=>False
 | .makeMap t r=>eE P (Instr.makeMap t (r.map (ev a))) R F
 | .makeSlice t l c=>eE P (Instr.makeSlice t (ev a l) (ev a c)) R F
 | .mapUpdate t m k x=>eE P (Instr.mapUpdate t (ev a m) (ev a k) (ev a x)>>= fun _=>pure undef) R F
 | .call {callee:=.builtin .clear,args,argTypes}=>eE P (Builtin.clear_ argTypes o.type (args.map (ev a))) R F
 | .call {callee:=.builtin .cap,args,argTypes}=>eE P (Builtin.cap_ argTypes o.type (args.map (ev a))) R F
 | .call {callee:=.builtin .copy,args,argTypes}=>eE P (Builtin.copy_ argTypes o.type (args.map (ev a))) R F
 | .call {callee:=.builtin .append,args,argTypes}=>match args.toList with
  |[x,y]=>k4 P argTypes (ev a x) (ev a y) R F
  |_=>False
 | .call {callee:=.builtin .max,args, ..}=>match args.toList with
  |[x,y]=>match qE (ev a x) (ev a y) with
   |some v=>R v F
   |none=>False
  |_=>False
 | .call {callee:=.builtin .min,args, ..}=>match args.toList with
  |[x,y]=>match qF (ev a x) (ev a y) with
   |some v=>R v F
   |none=>False
  |_=>False
 |_=>False
theorem ei (a:Act):a.eval=ev a:=rfl
theorem yp {P:Program}{J:Goroutine->ag->Prop}{o:Oper}{R:Value->ag->Prop}{D:Deferred->ag->Prop}{a:Act}{F:ag}(B:Oper.mM o=false)(h:cB P J o R a F):aS P (execOp a.eval o) (eZ P J R D) F:=by
 obtain ⟨dst,op,type,pos,after,guard⟩:=o
 unfold execOp
 simp only[ei]
 unfold cB at h
 simp only at h
 cases op<;>simp only at h ⊢
 case move x=>exact h
 case assign x=>exact h
 case nilCheck x=>
  split at h
  ·rename_i ad g
   simp only[g,bC,eZ]
   rw[g] at h
   exact h
  ·exact h.elim
 case pick c x y=>
  split at h
  ·rename_i b hb
   simp only[bn,hb,Ct,bC,eZ]
   exact h
  ·exact h.elim
 case alloc t=>
  split at h
  ·rename_i z C
   simp only[Instr.alloc,bn,kV,C,ya,bC,eZ]
   exact h
  ·exact h.elim
 case box t x=>
  simp only[Instr.box,bn,ya,bC,eZ]
  exact h
 case build t parts=>
  split at h
  ·rename_i v d
   simp only[bn,bC]
   exact CG d h
  ·exact h.elim
 case buildSlice t len parts=>
  split at h
  ·rename_i e cs d
   simp only[bn,bC]
   exact CH d h
  ·exact h.elim
 case load t x=>
  split at h
  case h_2=>exact h.elim
  rename_i ad q
  split at h
  case h_2=>exact h.elim
  rename_i v d
  simp only[Instr.loadAt,bn,q,qC,bC]
  exact ye d h
 case store t x y=>
  split at h
  case h_2=>exact h.elim
  rename_i ad q
  split at h
  case h_2=>exact h.elim
  rename_i F' E
  simp only[Instr.storeAt,bn,q,qC,bC]
  exact Cw E h
 case binOp op t x y U=>
  split at h
  case h_2=>exact h.elim
  rename_i v d
  rw[ij]
  exact CD d h
 case unOp op t x=>
  split at h
  case h_2=>exact h.elim
  rename_i v d
  rw[ij]
  exact CA d h
 case convert src dst x=>
  split at h
  case h_2=>exact h.elim
  rename_i v d
  rw[ij]
  exact CJ d h
 case makeFunc fn first captured=>
  simp only[Instr.makeFunc,bn,bC,eZ]
  exact h
 case slice t x lo hi G=>
  cases G with
  |some m=>exact h.elim
  |none=>
   simp only at h
   obtain ⟨h1,h⟩:=h
   split at h
   case h_2=>exact h.elim
   rename_i v d
   rw[ij]
   exact CC (fun ad len cap e=>by rw[e] at h1;exact h1) d h
 case fieldAddr s x n=>
  split at h
  case h_2=>exact h.elim
  rename_i ad q
  split at h
  case h_2=>exact h.elim
  rename_i k j
  unfold cD at j
  split at j
  case h_2=>cases j
  rename_i V H
  split at j
  case h_2=>cases j
  rename_i f u
  split at j
  case h_2=>cases j
  rename_i m hm
  cases j
  rw[ij]
  simp only[Instr.fieldAt,bn,c8,H,u,q,qC,fieldPlace,ey,hm]
  simpa [bC,eZ] using h
 case field s x n=>
  split at h
  case h_2=>exact h.elim
  rename_i v d
  rw[ij]
  exact CI d h
 case indexAddr t x i=>
  split at h
  case h_2=>exact h.elim
  rename_i v d
  rw[ij]
  exact CB d h
 case index t x i=>
  split at h
  case h_2=>exact h.elim
  rename_i v d
  rw[ij]
  exact CK d h
 case extract x n=>
  split at h
  case h_2=>exact h.elim
  rename_i v d
  rw[ij]
  unfold qL at d
  split at d
  ·rename_i W I
   simp only[I,Instr.extract,d]
   exact h
  ·cases d
 case makeMap t r=>
  rw[ij]
  exact h
 case makeSlice t l c=>
  rw[ij]
  exact h
 case mapUpdate t m k x=>
  unfold eE at h
  rw[bn] at h
  rw[bn]
  exact h
 case call c=>
  obtain ⟨callee,args,argTypes⟩:=c
  cases callee with
  |value x=>
   simp only at h
   unfold fT at h
   split at h
   case h_3=>exact h.elim
   ·rename_i fn first captured g
    obtain ⟨p,K⟩:=h
    unfold aG at p
    split at p
    case h_2=>cases p
    rename_i f u
    simp only[Bool.not_eq_true',Bool.or_eq_false_iff] at p
    simp only[resolve,g,Deferred.ofValue,bn,bC,invoke,callFunc,js,u,p.1,p.2,Bool.false_eq_true,if_false,eZ]
    exact K
   ·rename_i l first captured g
    obtain ⟨rfl,rfl,r,h1,h2,h3⟩:=h
    simp only[resolve,g,Deferred.ofValue,bn,bC,invoke,Instr.yield,Instr.getLoop,Array.append_empty,Array.empty_append,Array.map_map]
    refine ⟨_,h1,?_⟩
    have L:∀{α:Type} (x:α) (Q:α->ag->Prop) (F:ag),aS P (Sem.pure x) Q F=Q x F:=fun _ _ _=>rfl
    simp only[bn,L,bC,c7,ne_eq,h2,not_true_eq_false,if_false,eZ]
    exact h3
  |invoke r m=>exact h.elim
  |builtin b=>
   cases b<;>simp only at h
   case append=>simp[Oper.mM] at B
   case clear=>
    simp only[resolve,bn,bC,invoke,builtin]
    exact h
   case cap=>
    simp only[resolve,bn,bC,invoke,builtin]
    exact h
   case copy=>
    simp only[resolve,bn,bC,invoke,builtin]
    exact h
   case len=>
    split at h
    case h_2=>exact h.elim
    rename_i t x ht g
    split at h
    case h_2=>
     simp only[resolve,bn,bC,invoke,builtin]
     exact h
    rename_i v d
    unfold qM at d
    split at d
    case h_2=>cases d
    rename_i ad n cap M
    split at d
    case h_2=>cases d
    rename_i e N
    have he:=tH N
    cases d
    have O:(args.map (ev a))[0]?=some (.slice ad n cap):=by simp[g,M]
    simp only[resolve,bn,bC,invoke,builtin,Builtin.len_,ht,O,c8,he]
    exact h
   case max=>
    split at h
    case h_2=>exact h.elim
    rename_i x y w
    split at h
    case h_2=>exact h.elim
    rename_i v d
    unfold qE at d
    split at d
    case h_2=>cases d
    rename_i k S T y' g A
    cases d
    simp only[resolve,bn,bC,invoke,builtin,Builtin.max_,Array.toList_map,w,List.map_cons,List.map_nil,List.foldlM_cons,List.foldlM_nil,g,A,Builtin.max2,eZ]
    exact h
   case min=>
    split at h
    case h_2=>exact h.elim
    rename_i x y w
    split at h
    case h_2=>exact h.elim
    rename_i v d
    unfold qF at d
    split at d
    case h_2=>cases d
    rename_i k S T y' g A
    cases d
    simp only[resolve,bn,bC,invoke,builtin,Builtin.min_,Array.toList_map,w,List.map_cons,List.map_nil,List.foldlM_cons,List.foldlM_nil,g,A,Builtin.min2,eZ]
    exact h
theorem j4 {P:Program}{J:Goroutine->ag->Prop}{o:Oper}{R:Value->ag->Prop}{D:Deferred->ag->Prop}{a:Act}{F:ag}(h:cB P J o R a F):aS P (execOp a.eval o) (jq P J R D) F:=
by
 cases b:Oper.mM o with
 |false=>exact gj Cg _ _ (yp b h)
 |true=>
  obtain ⟨dst,op,type,pos,after,guard⟩:=o
  unfold Oper.mM at b
  split at b
  ·rename_i callee args argTypes c
   simp only at c
   subst c
   unfold cB at h
   simp only at h
   split at h
   case h_2=>exact h.elim
   rename_i x y d
   have e:args=#[x,y]:=by rw[<-Array.toList_inj];simpa using d
   subst e
   unfold execOp
   simp only[ei,resolve,bn,bC,invoke,builtin]
   have:=h type
   simpa [jq,eZ,bn,bC] using this
  ·cases b
def cq (ops:Array Oper)(o:Oper)(a:Act):Option Bool:=
 match o.guard with
 |none=>some true
 |some (j,want)=>match (ops[j]?).bind (·.dst) with
  |some d=>match slot a d with
   | .bool b=>some (b==want)
   | .tuple _=>some false
   |_=>none
  |none=>none
theorem b7 {ops:Array Oper}{o:Oper}{a:Act}{t:Bool}(h:cq ops o a=some t):Region.wanted o (yielded ops a.tmps)=t:=by
 unfold cq at h
 unfold Region.wanted
 split at h
 ·rename_i hg;rw[hg];cases h;rfl
 ·rename_i j want hg
  rw[hg]
  split at h
  ·rename_i d hd
   split at h
   ·rename_i b hb
    cases h
    have ht:a.tmps[d]?=some (.bool b):=by
     unfold slot at hb
     rw[Array.getD_eq_getD_getElem?] at hb
     cases c:a.tmps[d]? with
     |none=>rw[c] at hb;simp[undef] at hb
     |some v=>rw[c] at hb;simpa using hb
    simp only[yielded,hd,Option.bind_some,ht]
    cases b<;>cases want<;>rfl
   ·rename_i b hb
    cases h
    simp only[yielded,hd,Option.bind_some]
    unfold slot at hb
    rw[Array.getD_eq_getD_getElem?] at hb
    cases c:a.tmps[d]? with
    |none=>rfl
    |some v=>
     rw[c] at hb
     simp at hb
     subst hb
     rfl
   ·cases h
  ·cases h
def Oper.calls (o:Oper):Bool:=match o.op with| .call {callee:=.value _, ..}=>true| .call {callee:=.builtin .append, ..}=>true| .call {callee:=.builtin .clear, ..}=>true| .call {callee:=.builtin .cap, ..}=>true| .call {callee:=.builtin .copy, ..}=>true| .makeMap ..=>true| .makeSlice ..=>true| .mapUpdate ..=>true|_=>false
def e7 (P:Program)(J:Goroutine->ag->Prop)(ops:Array Oper)(K:Act->ag->Prop):List Oper->Bool->Act->ag->Prop
 |[],_,a,F=>K a F
 |o::rest,_,a,F=>match cq ops o a with
  |some true=>cB P J o (fun v F'=>e7 P J ops K rest (!Oper.calls o) (aY a o.dst v) F') a F
  |some false=>e7 P J ops K rest true (aY a o.dst undef) F
  |none=>False
theorem yq {P:Program}{J:Goroutine->ag->Prop}{ops:Array Oper}{K:Act->ag->Prop}{go:Bool}{a:Act}{F:ag}:e7 P J ops K [] go a F=K a F:=rfl
theorem yt {P:Program}{J:Goroutine->ag->Prop}{ops:Array Oper}{K:Act->ag->Prop}{o:Oper}{rest:List Oper}{a:Act}{F:ag}:e7 P J ops K (o::rest) true a F=match cq ops o a with
  |some true=>cB P J o (fun v F'=>e7 P J ops K rest (!Oper.calls o) (aY a o.dst v) F') a F
  |some false=>e7 P J ops K rest true (aY a o.dst undef) F
  |none=>False:=(Eq.refl _).trans (Eq.refl _)
theorem aE {P:Program}{J:Goroutine->ag->Prop}{ops:Array Oper}{K:Act->ag->Prop}:∀{l:List Oper} {go:Bool} {a:Act} {F:ag},e7 P J ops K l true a F->e7 P J ops K l go a F
 |[],_,_,_,h=>h
 |_::_,_,_,_,h=>h
theorem tO {P:Program}{J:Goroutine->ag->Prop}{ops:Array Oper}{K:Act->ag->Prop}:∀(l:List Oper) (k:Nat) (go:Bool) (a:Act) (F:ag),ops.toList.drop k=l->e7 P J ops K l go a F->
  fh P J ops K (List.range' k l.length) a F
 |[],k,_,a,F,_,h=>h
 |o::rest,k,_,a,F,b,h=>by
  have d:ops[k]?=some o:=by
   have:=congrArg List.head? b
   simpa [List.head?_drop] using this
  have c:ops.toList.drop (k+1)=rest:=by
   have:=congrArg List.tail b
   simpa [List.tail_drop] using this
  simp only[List.length_cons,List.range'_succ]
  show dn P J ops k (fh P J ops K (List.range' (k+1) rest.length)) a F
  unfold dn
  simp only[d]
  unfold e7 at h
  split at h
  ·rename_i hg
   rw[if_pos (b7 hg)]
   exact gj (ot (fun v F' e=>tO rest (k+1) _ _ F' c e) (fun _ _ x=>x)) _ _ (j4 h)
  ·rename_i hg
   rw[if_neg (by rw[b7 hg];simp)]
   exact tO rest (k+1) _ _ F c h
  ·exact h.elim
theorem af {P:Program}{main:Bool}{J:Goroutine->ag->Prop}{Q:Ex->Act->ag->Prop}{a:Act}{F:ag}(hJ:Closed P main J){id:Nat}{ops:Array Oper}(h:e7 P J ops (Q .normal) ops.toList true a F):Wp J (.region id ops false) Q a F:=by
 refine Cm hJ ?_
 have:=tO ops.toList 0 true a F (by simp) h
 simpa [List.range_eq_range'] using this
attribute [irreducible] e7
theorem mN {P:Program}{J:Goroutine->ag->Prop}{ops:Array Oper}{Q:Act->ag->Prop}{S:ag->Prop}(i:Nat){b:Oper}(v:Value){fuel:Nat}{listed:Array Bool}{a:Act}{F:ag}(hi:ops[i]?=some b)
  (d:(Region.noSelect ops&&Region.free .any ops listed i&&(Region.ready .any ops listed).contains i)=true)
  (hg:cq ops b a=some true) (e:∀F R,S F->R v F->cB P J b R a F) (c:S F)
  (h:dr P J ops Q S fuel (listed.setIfInBounds i true) (aY a b.dst v) F):dr P J ops Q S (fuel+1) listed a F:=
 xU i v hi d (.inl ⟨b7 hg,fun F R c f=>j4 (e F R c f)⟩) c h
theorem yu {P:Program}{J:Goroutine->ag->Prop}{ops:Array Oper}{Q:Act->ag->Prop}{S:ag->Prop}(i:Nat){b:Oper}{fuel:Nat}{listed:Array Bool}{a:Act}{F:ag}(hi:ops[i]?=some b)
  (c:(Region.noSelect ops&&Region.free .any ops listed i&&(Region.ready .any ops listed).contains i)=true)
  (hg:cq ops b a=some false) (d:S F)
  (h:dr P J ops Q S fuel (listed.setIfInBounds i true) (aY a b.dst undef) F):dr P J ops Q S (fuel+1) listed a F:=
 xU i undef hi c (.inr ⟨b7 hg,rfl⟩) d h
theorem tP {P:Program}{J:Goroutine->ag->Prop}{ops:Array Oper}{Q:Act->ag->Prop}{S:ag->Prop}(i:Nat){b:Oper}{fuel:Nat}{listed:Array Bool}{a:Act}{F:ag}(hi:ops[i]?=some b)
  (c:Region.ready .any ops listed=[i]) (hg:cq ops b a=some true)
  (h:cB P J b (fun v F'=>S F'/\dr P J ops Q S fuel (listed.setIfInBounds i true) (aY a b.dst v) F') a F):dr P J ops Q S (fuel+1) listed a F:=by
 refine xV i c ?_
 unfold dn
 simp only[hi]
 rw[if_pos (b7 hg)]
 exact j4 h
attribute [go_sem] List.isEmpty_nil List.isEmpty_cons undef yq yt Oper.calls Bool.not_true Bool.not_false cq cB ag.push ag.get ag.put lk ie cellOf eR qD ag.c5 ag.iT ag.kR bw frozenAt oE kZ oD Option.isNone_none Option.isNone_some fS iq mK kY qE qF oB oH mL oG qL k3 qM oF qK
theorem add_zero' (a:Addr):a.add 0=a:=rfl
theorem j5 (a:Addr)(m n:Nat):(a.add m).add n=a.add (m+n):=by
 unfold Addr.add
 by_cases hm:m=0
 ·subst hm;simp
 ·by_cases b:n=0
  ·subst b;simp[hm]
  ·have:¬m+n=0:=by omega
   simp[hm,b,this,Nat.add_assoc]
theorem j6 (b o n:Nat):(⟨b,o,none⟩:Addr).add n=⟨b,o+n,none⟩:=by
 unfold Addr.add
 by_cases a:n=0
 ·subst a;simp
 ·simp[a]
attribute [go_sem] add_zero' j5 j6 Nat.add_assoc Int.reduceLE Int.reduceLT Int.reduceToNat Int.toNat_zero Int.le_refl
attribute [go_sem] Value.cells Instr.fill qx gJ tj xY CL
attribute [go_sem] and_true true_and Array.getD_eq_getD_getElem? List.getElem?_toArray List.getElem?_cons_zero List.getElem?_cons_succ List.getElem?_nil Option.getD_some Option.getD_none Option.bind_some Option.bind_none Option.map_some Option.map_none
attribute [go_sem] Nat.reduceLT Nat.reduceEqDiff Nat.reduceAdd Nat.reduceMul Nat.reduceSub if_true if_false reduceIte reduceCtorEq List.setIfInBounds_toArray List.set_cons_zero List.set_cons_succ
attribute [go_sem] List.map_toArray List.map_cons List.map_nil List.append_toArray List.cons_append List.nil_append List.append_nil Array.append_empty Array.empty_append List.toList_toArray List.length_cons List.length_nil List.size_toArray ne_eq not_true_eq_false not_false_eq_true forall_const
theorem ep {ro:Addr->Option Value}{own:List (Nat×Obj)}{b:Nat}(h:dD ⟨ro,own⟩ b):∀off sp,ro ⟨b,off,sp⟩=none:=h.ro
theorem e8 {ro:Addr->Option Value}{own:List (Nat×Obj)}{b:Nat}(h:dD ⟨ro,own⟩ b):ak own b:=h.own
def oI (P:Program)(F:ag)(a:Act):ResultVar->Option Value
 | .tmp t=>some (slot a t)
 | .cell ad t=>match slot a ad with
  | .pointer (some p)=>eR P F t p
  |_=>none
def k5 (P:Program)(F:ag)(a:Act):List ResultVar->Option (List Value)
 |[]=>some []
 |r::rs=>match oI P F a r with
  |some v=>match k5 P F a rs with
   |some b=>some (v::b)
   |none=>none
  |none=>none
def k6 (P:Program)(F:ag)(a:Act)(rs:List ResultVar):Option Value:=
 match k5 P F a rs with
 |some [v]=>some v
 |some b=>some (.tuple b.toArray)
 |none=>none
attribute [go_sem] oI k5 k6
theorem tQ {P:Program}{F:ag}{a:Act}{Q:Array Value->ag->Prop}:∀(rs:List ResultVar) (d:List Value) (acc:Array Value),k5 P F a rs=some d->Q (acc++d.toArray) F->
  aS P (rs.foldlM (fun (b:Array Value) r=>do let x<-(match r with| .tmp t=>pure (a.tmps.getD t undef)| .cell ad t=>do loadVar t (<-asAddr (a.tmps.getD ad undef)):Sem Value);pure (b.push x)) acc) Q F
 |[],d,acc,h,e=>by
  simp only[k5,Option.some.injEq] at h;subst h
  simpa [bC] using e
 |r::rs,d,acc,h,e=>by
  unfold k5 at h
  split at h
  case h_2=>cases h
  rename_i v c
  split at h
  case h_2=>cases h
  rename_i ws i
  cases h
  have f:=tQ rs ws (acc.push v) i (Q:=Q) (by simpa using e)
  simp only[List.foldlM_cons,bn]
  cases r with
  |tmp t=>
   simp only[oI,Option.some.injEq,slot] at c
   subst c
   simpa only[bC] using f
  |cell ad t=>
   simp only[oI] at c
   split at c
   ·rename_i p g
    unfold slot at g
    simp only[bn,g,asAddr,bC]
    exact ye c f
   ·cases c
theorem qN {P:Program}{fn:Func}{rs:List ResultVar}{F:ag}{a:Act}{v:Value}{R:Value->ag->Prop}(d:fn.results=rs.toArray)(h:k6 P F a rs=some v)(c:R v F):aS P (results fn a.tmps) R F:=by
 unfold results
 rw[d,bn,Array.mapM_eq_foldlM,<-Array.foldlM_toList]
 unfold k6 at h
 split at h
 case h_3=>cases h
 ·rename_i x b
  cases h
  exact tQ rs [v] #[] b (by simpa [bC] using c)
 ·rename_i e f b
  cases h
  refine tQ rs e #[] b ?_
  simp only[Array.empty_append,bC]
  split
  ·rename_i hs
   simp at hs
   obtain ⟨v,rfl⟩:=List.length_eq_one_iff.1 hs
   exact absurd rfl (f v)
  ·exact c
def ir (P:Program)(rs:List ResultVar)(R:Value->ag->Prop):Ex->Act->ag->Prop
 | .exit _,_,_=>False
 |_,a,F=>a.defers=[]/\match k6 P F a rs with|some v=>R v F|none=>False
attribute [go_sem] ir
theorem aA.go {P:Program}{f:FuncId}{fn:Func}{c:Code}{n:Nat}{rs:List ResultVar}{args:Array Value}{F:ag}{R:Value->ag->Prop}(g:P.funcs[f]?=some fn)(hb:fn.body=some c)(j:fn.ntmps=n)(k:fn.results=rs.toArray)(l:args.size<=n)
  (h:∀main J,Closed P main J->∀A:Act,sz A=n->A.defers=[]->(∀i,slot A i=args.getD i undef)->Wp J c (ir P rs R) A F):aA P f args F R:=
 aA.start g hb j l fun main J hJ A h1 h2 h3=>(h main J hJ A h1 h2 h3).mono fun e a F d=>by
  cases e with
  |exit i=>exact d
  |_=>
   obtain ⟨hd,b⟩:=d
   split at b
   ·rename_i v m
    show gJ P a.defers _ F
    rw[hd]
    exact qN k m b
   ·exact b.elim
def cE (n m:Nat):Array Bool:=(Array.range n).map fun i=>decide (i<m)
def mO (ops:Array Oper)(m:Nat):Bool:=
 Region.noSelect ops&&decide (m<=ops.size)&&((List.range m).all fun i=>Region.free .any ops (cE ops.size i) i&&(Region.ready .any ops (cE ops.size i)).contains i)&&
 ((List.range (ops.size - m)).all fun j=>decide (Region.ready .any ops (cE ops.size (m+j))=[m+j]))&&decide (Region.ready .any ops (cE ops.size ops.size)=[])
def CM (D:List Nat)(L:List (List Nat))(x y:Nat):Bool:=RegionTabs.apart ⟨#[],D.toArray,L.toArray⟩ x y
def tR (A:List (List Nat))(D:List Nat)(L:List (List Nat))(n m:Nat):Bool:=
 decide (m<=n)&&((List.range m).all fun k=>(A.getD k []).all (fun x=>decide (x<k))&&(List.range n).all fun j=>decide (j<=k)||(A.getD j []).contains k||CM D L k j)&&
 ((List.range (n - m)).all fun t=>(A.getD (m+t) []).all (fun x=>decide (x<m+t))&&(List.range (n - (m+t+1))).all fun u=>!(A.getD (m+t+1+u) []).all (fun x=>decide (x<m+t)))
section
variable {ops : Array Oper}
theorem yw {n k i:Nat}(h:i<n):(cE n k).getD i true=decide (i<k):=by
 simp[cE,Array.getD_eq_getD_getElem?,h]
theorem CN {n k i:Nat}(a:k<=n):(cE n k).getD i false=decide (i<k):=by
 rcases Nat.lt_or_ge i n with h|h
 ·simp[cE,Array.getD_eq_getD_getElem?,h]
 ·have:¬i<k:=by omega
  simp[cE,Array.getD_eq_getD_getElem?,Array.getElem?_eq_none,h,this]
theorem tS {A:List (List Nat)}{k:Nat}(a:Region.tabAfter .any ops=A)(b:k<=ops.size):
  Region.ready .any ops (cE ops.size k)=(List.range ops.size).filter fun i=>!decide (i<k)&&(A.getD i []).all fun x=>decide (x<k):=by
 have hlen:A.length=ops.size:=by rw[<-a];simp[Region.tabAfter]
 rw[<-RegionTabs.ready_eq]
 unfold RegionTabs.ready RegionTabs.of
 simp only[a,List.size_toArray,hlen]
 apply List.filter_congr
 intro i hi
 have c:i<ops.size:=List.mem_range.1 hi
 rw[yw c]
 congr 1
 rw[List.getElem?_toArray,List.getD_eq_getElem?_getD,List.getElem?_eq_getElem (by omega)]
 simp only[Option.map_some,Option.getD_some]
 congr 1
 funext x
 exact CN b
theorem filter_one {k:Nat}{p:Nat->Bool}(b:p k=true):∀(n:Nat),k<n->(∀i,i<n->i≠k->p i=false)->(List.range n).filter p=[k]
 |0,c,_=>by omega
 |n+1,c,a=>by
  rw[List.range_succ,List.filter_append]
  by_cases e:k=n
  ·subst e
   have:(List.range k).filter p=[]:=by
    rw[List.filter_eq_nil_iff]
    intro i hi
    have d:=List.mem_range.1 hi
    rw[a i (by omega) (by omega)];simp
   rw[this];simp[b]
  ·rw[filter_one b n (by omega) fun i hi=>a i (by omega)]
   simp[a n (by omega) (fun x=>e x.symm)]
theorem CO {m n:Nat}(A:List (List Nat))(D:List Nat)(L:List (List Nat))(hs:Region.noSelect ops=true)(c:ops.size=n)(a:Region.tabAfter .any ops=A)(d:Region.tabDst ops=D)(f:Region.tabLooks ops=L)(h:tR A D L n m=true):mO ops m=true:=by
 subst c
 have hlen:A.length=ops.size:=by rw[<-a];simp[Region.tabAfter]
 simp only[tR,Bool.and_eq_true,decide_eq_true_eq,List.all_eq_true,List.mem_range] at h
 obtain ⟨⟨hm,h1⟩,h2⟩:=h
 simp only[mO,Bool.and_eq_true,decide_eq_true_eq,List.all_eq_true,List.mem_range]
 refine ⟨⟨⟨⟨hs,hm⟩,fun i hi=>⟨?_,?_⟩⟩,fun j b=>?_⟩,?_⟩
 ·rw[<-RegionTabs.free_eq]
  unfold RegionTabs.free
  have e1:(RegionTabs.of .any ops).after=A.toArray:=by simp[RegionTabs.of,a]
  rw[e1,List.size_toArray,hlen]
  simp only[Bool.and_eq_true,decide_eq_true_eq,List.all_eq_true,List.mem_range]
  refine ⟨by omega,fun j b=>?_⟩
  have:=(h1 i hi).2 j b
  simp only[Bool.or_eq_true,decide_eq_true_eq] at this
  simp only[Bool.or_eq_true]
  rcases this with (hle|g)|k
  ·rcases Nat.lt_or_eq_of_le hle with x|x
   ·left;left;right
    rw[yw (by omega)];simpa using x
   ·left;left;left;simpa using x
  ·left;right
   simpa [Array.getD_eq_getD_getElem?,List.getD_eq_getElem?_getD] using g
  ·right
   have e:RegionTabs.of .any ops=⟨A.toArray,D.toArray,L.toArray⟩:=by simp[RegionTabs.of,a,d,f]
   rw[e]
   exact k
 ·rw[tS a (by omega)]
  rw[List.contains_iff_mem,List.mem_filter]
  refine ⟨List.mem_range.2 (by omega),?_⟩
  have:=(h1 i hi).1
  simpa [List.all_eq_true] using this
 ·have l:m+j<ops.size:=by omega
  rw[tS a (by omega)]
  refine filter_one ?_ _ l fun i hi o=>?_
  ·have:=(h2 j b).1
   simpa [List.all_eq_true] using this
  ·rcases Nat.lt_or_ge i (m+j) with x|x
   ·simp[x]
   ·have:=(h2 j b).2 (i - (m+j+1)) (by omega)
    rw[show m+j+1+(i - (m+j+1))=i by omega] at this
    simp only[Bool.not_eq_true'] at this
    simp only[this,Bool.and_false]
 ·rw[tS a (Nat.le_refl _)]
  rw[List.filter_eq_nil_iff]
  intro i hi
  have:=List.mem_range.1 hi
  simp[this]
def tT (n:Nat)(k:Nat->Bool):Bool:=Nat.casesOn n (k 0) fun m=>k (m+1)
def oJ:List Nat->(List Nat->Bool)->Bool
 |[],k=>k []
 |x::xs,k=>tT x fun y=>oJ xs fun ys=>k (y::ys)
def oK:List (List Nat)->(List (List Nat)->Bool)->Bool
 |[],k=>k []
 |x::xs,k=>oJ x fun y=>oK xs fun ys=>k (y::ys)
theorem yx (n:Nat)(k:Nat->Bool):tT n k=k n:=by cases n<;>rfl
theorem tU:∀(l:List Nat) (k:List Nat->Bool),oJ l k=k l
 |[],_=>rfl
 |x::xs,k=>by rw[oJ,yx,tU xs]
theorem yy:∀(l:List (List Nat)) (k:List (List Nat)->Bool),oK l k=k l
 |[],_=>rfl
 |x::xs,k=>by rw[oK,tU,yy xs]
def k7 (ops:Array Oper)(m:Nat):Bool:=Region.noSelect ops&&oK (Region.tabAfter .any ops) fun A=>oJ (Region.tabDst ops) fun D=>oK (Region.tabLooks ops) fun L=>tT ops.size fun n=>tR A D L n m
theorem tV {m:Nat}(h:k7 ops m=true):mO ops m=true:=by
 simp only[k7,Bool.and_eq_true,yy,tU,yx] at h
 exact CO _ _ _ h.1 rfl rfl rfl rfl h.2
end
def iu:List (Nat×Obj)->List (Nat×Obj)->Prop
 |[],_=>True
 |(b,o)::l,own=>lk own b=some o/\iu l own
def Knows (F0 F:ag):Prop:=(∀a v,F0.ro a=some v->F.ro a=some v)/\(∀a,a.block∈keys F0.own->F0.ro a=none->F.ro a=none)/\iu F0.own F.own
theorem iu.lk:∀{l own:List (Nat×Obj)} {b:Nat} {o:Obj},iu l own->lk l b=some o->Go.Sep.lk own b=some o
 |[],_,_,_,_,h=>by cases h
 |(c,x)::l,own,b,o,a,h=>by
  unfold Go.Sep.lk at h
  split at h
  ·rename_i e;cases h;exact e▸a.1
  ·exact iu.lk a.2 h
theorem Knows.get {F0 F:ag}(h:Knows F0 F){a:Addr}{v:Value}(hg:F0.get a=some v):F.get a=some v:=by
 unfold ag.get at hg ⊢
 cases b:F0.ro a with
 |some x=>rw[b] at hg;rw[h.1 a x b];exact hg
 |none=>
  rw[b] at hg
  simp only at hg
  split at hg
  ·rename_i hs
   obtain ⟨o,c,d⟩:=Option.bind_eq_some_iff.1 hg
   rw[h.2.1 a (eD (gf c)) b]
   simp only
   rw[if_pos hs,h.2.2.lk c]
   exact d
  ·cases hg
theorem CP {ro:Addr->Option Value}{l own:List (Nat×Obj)}:Knows ⟨ro,l⟩ ⟨ro,own⟩=iu l own:=
 propext ⟨fun h=>h.2.2,fun h=>⟨fun _ _ x=>x,fun _ _ x=>x,h⟩⟩
theorem CQ {ro aI:Addr->Option Value}{l own:List (Nat×Obj)}(c:∀a v,ro a=some v->aI a=some v)(d:∀b∈keys l,∀off sp,aI ⟨b,off,sp⟩=none)(h:iu l own):Knows ⟨ro,l⟩ ⟨aI,own⟩:=
 ⟨c,fun a e _=>d a.block e a.off a.spot,h⟩
theorem Knows.kX {F0 F:ag}(h:Knows F0 F){a:Addr}:∀{n i:Nat} {b:List Value},F0.c5 a i n=some b->F.c5 a i n=some b
 |0,_,_,hg=>hg
 |n+1,i,b,hg=>by
  unfold ag.c5 at hg ⊢
  split at hg
  case h_2=>cases hg
  rename_i v c
  split at hg
  case h_2=>cases hg
  rename_i ws d
  rw[h.get c,h.kX d]
  exact hg
theorem Knows.eR {P:Program}{F0 F:ag}(h:Knows F0 F){t:TypeId}{ad:Addr}{v:Value}(hg:eR P F0 t ad=some v):Go.Sep.eR P F t ad=some v:=by
 unfold Go.Sep.eR at hg ⊢
 split at hg
 ·exact h.get hg
 ·split at hg
  case h_2=>cases hg
  rename_i n b
  split at hg
  case h_2=>cases hg
  rename_i c a
  rw[h.kX a]
  exact hg
 ·cases hg
def iw (P:Program)(o:Oper)(a:Act):Option Value:=
 match o.op with
 | .move x| .assign x=>some (ev a x)
 | .pick c x y=>match ev a c with
  | .bool b=>some (if b then ev a x else ev a y)
  |_=>none
 | .build t parts=>oF P t (parts.map fun (i,x)=>(i,ev a x)).toList
 | .binOp op t x y _=>oE P op t (ev a x) (ev a y)
 | .unOp op _ x=>kY op (ev a x)
 | .convert src dst x=>k3 P src dst (ev a x)
 | .makeFunc fn first captured=>some (.func fn (first.map (ev a)) (captured.map (ev a)))
 | .slice t x lo hi none=>match ev a x with
  | .slice ad len cap=>if len<=cap then mL P t (.slice ad len cap) (lo.map (ev a)) (hi.map (ev a)) else none
  |_=>none
 | .fieldAddr s x n=>match ev a x with
  | .pointer (some ad)=>match cD P s n with
   |some k=>some (.pointer (some (ad.add k)))
   |none=>none
  |_=>none
 | .field s x n=>oG P s n (ev a x)
 | .indexAddr t x i=>oB P t (ev a x) (ev a i)
 | .index t x i=>oH P t (ev a x) (ev a i)
 | .extract x n=>qL n (ev a x)
 | .call {callee:=.builtin .len,args,argTypes}=>match argTypes[0]?,args[0]? with
  |some t,some x=>qM P t (ev a x)
  |_,_=>none
 | .call {callee:=.builtin .max,args, ..}=>match args.toList with
  |[x,y]=>qE (ev a x) (ev a y)
  |_=>none
 | .call {callee:=.builtin .min,args, ..}=>match args.toList with
  |[x,y]=>qF (ev a x) (ev a y)
  |_=>none
 |_=>none
theorem qO {P:Program}{J:Goroutine->ag->Prop}{o:Oper}{a:Act}{v:Value}{R:Value->ag->Prop}{F:ag}(h:iw P o a=some v)(d:R v F):cB P J o R a F:=by
 obtain ⟨dst,op,type,pos,after,guard⟩:=o
 unfold iw at h
 unfold cB
 cases op<;>simp only[reduceCtorEq] at h ⊢
 case move x=>cases h;exact d
 case assign x=>cases h;exact d
 case pick c x y=>
  split at h
  ·rename_i b hb;cases h;try rw[hb]
   exact d
  ·cases h
 case build t parts=>rw[h];exact d
 case binOp=>rw[h];exact d
 case unOp=>rw[h];exact d
 case convert=>rw[h];exact d
 case makeFunc=>cases h;exact d
 case slice t x lo hi g=>
  cases g with
  |some m=>cases h
  |none=>
   simp only at h ⊢
   split at h
   case h_2=>cases h
   rename_i ad len cap e
   split at h
   case isFalse=>cases h
   rename_i i
   rw[e]
   exact ⟨i,by rw[h];exact d⟩
 case fieldAddr s x n=>
  split at h
  case h_2=>cases h
  rename_i ad e
  split at h
  case h_2=>cases h
  rename_i k j
  cases h
  try rw[e]
  try simp only[j]
  exact d
 case field=>rw[h];exact d
 case indexAddr=>rw[h];exact d
 case index=>rw[h];exact d
 case extract=>rw[h];exact d
 case call c=>
  obtain ⟨callee,args,argTypes⟩:=c
  cases callee with
  |value x=>cases h
  |invoke r m=>cases h
  |builtin b=>
   cases b<;>simp only[reduceCtorEq] at h ⊢
   case len=>
    split at h
    case h_2=>cases h
    rename_i t x ht e
    simp only[ht,e,h];exact d
   case max=>
    split at h
    case h_2=>cases h
    rename_i x y f
    simp only[f,h];exact d
   case min=>
    split at h
    case h_2=>cases h
    rename_i x y f
    simp only[f,h];exact d
def Plain (P:Program)(J:Goroutine->ag->Prop)(F0:ag)(f:FuncId)(args:Array Value)(v:Value):Prop:=
 ∀F,Knows F0 F->cK P J f args F (fun a F'=>a=v/\F'=F)
def dI (P:Program)(J:Goroutine->ag->Prop)(ops:Array Oper)(F0:ag)(K:Act->Prop):List Oper->Bool->Act->Prop
 |[],_,a=>K a
 |o::rest,_,a=>match cq ops o a with
  |some false=>dI P J ops F0 K rest true (aY a o.dst undef)
  |some true=>match o.op with
   | .load t x=>match ev a x with
    | .pointer (some ad)=>match eR P F0 t ad with
     |some v=>dI P J ops F0 K rest true (aY a o.dst v)
     |none=>False
    |_=>False
   | .call {callee:=.value x,args, ..}=>match ev a x with
    | .func (.func fn) first captured=>aG P fn=true/\∃v,Plain P J F0 fn (first++args.map (ev a)++captured) v/\dI P J ops F0 K rest false (aY a o.dst v)
    |_=>False
   |_=>match iw P o a with
    |some v=>dI P J ops F0 K rest true (aY a o.dst v)
    |none=>False
  |none=>False
theorem CR {P:Program}{J:Goroutine->ag->Prop}{ops:Array Oper}{F0:ag}{K:Act->Prop}{go:Bool}{a:Act}:dI P J ops F0 K [] go a=K a:=rfl
theorem CS {P:Program}{J:Goroutine->ag->Prop}{ops:Array Oper}{F0:ag}{K:Act->Prop}{o:Oper}{rest:List Oper}{a:Act}:dI P J ops F0 K (o::rest) true a=match cq ops o a with
  |some false=>dI P J ops F0 K rest true (aY a o.dst undef)
  |some true=>match o.op with
   | .load t x=>match ev a x with
    | .pointer (some ad)=>match eR P F0 t ad with
     |some v=>dI P J ops F0 K rest true (aY a o.dst v)
     |none=>False
    |_=>False
   | .call {callee:=.value x,args, ..}=>match ev a x with
    | .func (.func fn) first captured=>aG P fn=true/\∃v,Plain P J F0 fn (first++args.map (ev a)++captured) v/\dI P J ops F0 K rest false (aY a o.dst v)
    |_=>False
   |_=>match iw P o a with
    |some v=>dI P J ops F0 K rest true (aY a o.dst v)
    |none=>False
  |none=>False:=(Eq.refl _).trans (Eq.refl _)
theorem cc {P:Program}{J:Goroutine->ag->Prop}{ops:Array Oper}{F0:ag}{K:Act->Prop}:∀{l:List Oper} {go:Bool} {a:Act},dI P J ops F0 K l true a->dI P J ops F0 K l go a
 |[],_,_,h=>h
 |_::_,_,_,h=>h
theorem mP {n m:Nat}(h:m<n):(cE n m).setIfInBounds m true=cE n (m+1):=by
 apply Array.ext
 ·simp[cE]
 ·intro i h1 h2
  simp[cE] at h1 h2
  rw[Array.getElem_setIfInBounds (by simp[cE];omega)]
  by_cases e:m=i
  ·subst e;simp[cE]
  ·simp only[if_neg e,cE,Array.getElem_map,Array.getElem_range]
   rw[decide_eq_decide]
   omega
theorem tX (n:Nat):cE n 0=Array.replicate n false:=by
 apply Array.ext
 ·simp[cE]
 ·intro i h1 h2;simp[cE]
section
variable {P : Program} {main : Bool} {J : Goroutine → ag → Prop} {ops : Array Oper} {Q : Act → ag → Prop} {F0 : ag}
theorem oL {K:Act->Prop}(m:Nat)(hm:m<=ops.size)(r:Region.noSelect ops=true)(s:∀i,i<m->(Region.free .any ops (cE ops.size i) i&&(Region.ready .any ops (cE ops.size i)).contains i)=true)
  {F:ag} (b:Knows F0 F) (u:∀a,K a->dr P J ops Q (Knows F0) (ops.size - m) (cE ops.size m) a F):
  ∀(l:List Oper) (k:Nat) (go:Bool) (a:Act),(ops.toList.take m).drop k=l->k<=m->dI P J ops F0 K l go a->dr P J ops Q (Knows F0) (ops.size - k) (cE ops.size k) a F
 |[],k,_,a,c,A,h=>by
  have:k=m:=by
   have:=congrArg List.length c
   simp at this
   omega
  subst this
  exact u a h
 |o::rest,k,_,a,c,A,h=>by
  have g:k<m:=by
   rcases Nat.lt_or_ge k m with x|x
   ·exact x
   ·rw[List.drop_eq_nil_of_le (by simp;omega)] at c;cases c
  have j:ops[k]?=some o:=by
   have:=congrArg List.head? c
   rw[List.head?_drop,List.getElem?_take_of_lt g] at this
   simpa using this
  have y:(ops.toList.take m).drop (k+1)=rest:=by
   have:=congrArg List.tail c
   simpa [List.tail_drop] using this
  have B:=s k g
  have e:ops.size - k=(ops.size - (k+1))+1:=by omega
  have z:=mP (n:=ops.size) (m:=k) (by omega)
  have p:(Region.noSelect ops&&Region.free .any ops (cE ops.size k) k&&(Region.ready .any ops (cE ops.size k)).contains k)=true:=by
   rw[r,Bool.true_and];exact B
  rw[e]
  unfold dI at h
  split at h
  ·rename_i hg
   exact yu k j p hg b (by rw[z];exact oL m hm r s b u rest (k+1) _ _ y g h)
  ·rename_i hg
   have next:∀go v,dI P J ops F0 K rest go (aY a o.dst v)->dr P J ops Q (Knows F0) (ops.size - (k+1)) ((cE ops.size k).setIfInBounds k true) (aY a o.dst v) F:=fun go v d=>by
    rw[z];exact oL m hm r s b u rest (k+1) _ _ y g d
   split at h
   ·rename_i t x w
    split at h
    case h_2=>exact h.elim
    rename_i ad C
    split at h
    case h_2=>exact h.elim
    rename_i v d
    refine mN k v j p hg (fun F R q f=>?_) b (next _ v h)
    unfold cB
    simp only[w,C,q.eR d]
    exact f
   ·rename_i x args argTypes w
    split at h
    case h_2=>exact h.elim
    rename_i fn first captured D
    obtain ⟨E,v,G,h⟩:=h
    refine mN k v j p hg (fun F R q f=>?_) b (next _ v h)
    unfold cB
    simp only[w,D]
    exact ⟨E,(G F q).mono fun I F' H=>by obtain ⟨rfl,rfl⟩:=H;exact f⟩
   ·split at h
    case h_2=>exact h.elim
    rename_i v d
    exact mN k v j p hg (fun F R q f=>qO d f) b (next _ v h)
  ·exact h.elim
def er (P:Program)(J:Goroutine->ag->Prop)(ops:Array Oper)(F0:ag)(Q:Act->ag->Prop):List Oper->Bool->Act->ag->Prop
 |[],_,a,F=>Q a F
 |o::rest,_,a,F=>match cq ops o a with
  |some true=>cB P J o (fun v F'=>Knows F0 F'/\er P J ops F0 Q rest (!Oper.calls o) (aY a o.dst v) F') a F
  |_=>False
theorem CU {P:Program}{J:Goroutine->ag->Prop}{ops:Array Oper}{F0:ag}{Q:Act->ag->Prop}{go:Bool}{a:Act}{F:ag}:er P J ops F0 Q [] go a F=Q a F:=rfl
theorem CV {P:Program}{J:Goroutine->ag->Prop}{ops:Array Oper}{F0:ag}{Q:Act->ag->Prop}{o:Oper}{rest:List Oper}{a:Act}{F:ag}:er P J ops F0 Q (o::rest) true a F=match cq ops o a with
  |some true=>cB P J o (fun v F'=>Knows F0 F'/\er P J ops F0 Q rest (!Oper.calls o) (aY a o.dst v) F') a F
  |_=>False:=(Eq.refl _).trans (Eq.refl _)
theorem k8 {P:Program}{J:Goroutine->ag->Prop}{ops:Array Oper}{F0:ag}{Q:Act->ag->Prop}:∀{l:List Oper} {go:Bool} {a:Act} {F:ag},er P J ops F0 Q l true a F->er P J ops F0 Q l go a F
 |[],_,_,_,h=>h
 |_::_,_,_,_,h=>h
theorem j7 (m:Nat)(g:∀j,j<ops.size - m->Region.ready .any ops (cE ops.size (m+j))=[m+j])(i:Region.ready .any ops (cE ops.size ops.size)=[]):
  ∀(l:List Oper) (k:Nat) (go:Bool) (a:Act) (F:ag),m<=k->k<=ops.size->ops.toList.drop k=l->er P J ops F0 Q l go a F->dr P J ops Q (Knows F0) (ops.size - k) (cE ops.size k) a F
 |[],k,_,a,F,q,s,f,h=>by
  have:k=ops.size:=by
   have:=congrArg List.length f
   simp at this
   omega
  subst this
  exact tg i h _
 |o::rest,k,_,a,F,q,s,f,h=>by
  have u:k<ops.size:=by
   rcases Nat.lt_or_ge k ops.size with x|x
   ·exact x
   ·rw[List.drop_eq_nil_of_le (by simpa using x)] at f;cases f
  have w:ops[k]?=some o:=by
   have:=congrArg List.head? f
   simpa [List.head?_drop] using this
  have y:ops.toList.drop (k+1)=rest:=by
   have:=congrArg List.tail f
   simpa [List.tail_drop] using this
  have e:ops.size - k=(ops.size - (k+1))+1:=by omega
  have n:=g (k - m) (by omega)
  rw[show m+(k - m)=k by omega] at n
  rw[e]
  unfold er at h
  split at h
  ·rename_i hg
   refine tP k w n hg ?_
   refine oM ?_ h
   rintro v F' ⟨h1,h2⟩
   refine ⟨h1,?_⟩
   rw[mP u]
   exact j7 m g i rest (k+1) _ _ F' (by omega) (by omega) y h2
  ·exact h.elim
where
 oM {o:Oper} {a:Act} {F:ag} {R p:Value->ag->Prop} (d:∀v F,R v F->p v F) (h:cB P J o R a F):cB P J o p a F:=by
  obtain ⟨dst,op,type,pos,after,guard⟩:=o
  unfold cB at h ⊢
  cases op<;>simp only at h ⊢<;>first
   |exact h.elim
   |exact d _ _ h
   |exact fun b hb=>d _ _ (h b hb)
   |exact gj (fun v F h=>d v F h) _ _ h
   |(split at h<;>first
     |exact h.elim
     |exact d _ _ h
     |exact fun b hb=>d _ _ (h b hb)
     |(split at h<;>first|exact h.elim|exact d _ _ h|exact fun b hb=>d _ _ (h b hb)))
   |skip
  case slice t x lo hi z=>
   cases z with
   |some m=>exact h.elim
   |none=>
    refine ⟨h.1,?_⟩
    have h2:=h.2
    revert h2
    cases mL P t (ev a x) (lo.map (ev a)) (hi.map (ev a)) with
    |some v=>exact fun x=>d _ _ x
    |none=>exact fun x=>x
  case call c=>
   obtain ⟨callee,args,argTypes⟩:=c
   cases callee with
   |value x=>
    exact fT.mono h d
   |invoke r m=>exact h.elim
   |builtin b=>
    cases b<;>simp only at h ⊢<;>first
     |exact h.elim
     |(split at h<;>first|exact h.elim|exact fun ty=>gj (fun v F ⟨F0,hle,h⟩=>⟨F0,hle,d _ _ h⟩) _ _ (h ty))
     |exact gj (fun v F h=>d v F h) _ _ h
     |(split at h<;>first|exact h.elim|(split at h<;>first|exact h.elim|exact d _ _ h|exact gj (fun v F h=>d v F h) _ _ h))
theorem dY {Q:Ex->Act->ag->Prop}(hJ:Closed P main J)(d:P.follows .mixedOrders=true)(m:Nat){id:Nat}{a:Act}{F:ag}(F0:ag)(e:Knows F0 F)(f:k7 ops m=true)
  (h:dI P J ops F0 (fun b=>er P J ops F0 (Q .normal) (ops.toList.drop m) true b F) (ops.toList.take m) true a):Wp J (.region id ops true) Q a F:=by
 have c:=tV f
 simp only[mO,Bool.and_eq_true,decide_eq_true_eq,List.all_eq_true,List.mem_range] at c
 obtain ⟨⟨⟨⟨h1,h2⟩,h3⟩,g⟩,j⟩:=c
 refine qw hJ (Knows F0) d ?_
 rw[<-tX]
 have:=oL (P:=P) (J:=J) (Q:=Q .normal) m h2 h1 (fun i hi=>by have:=h3 i hi;simpa using this) e (fun b k=>j7 m g j _ m _ b F (Nat.le_refl _) h2 rfl k) _ 0 true a (by simp) (Nat.zero_le _) h
 simpa using this
theorem bB (hJ:Closed P main J){F0:ag}{f:FuncId}{args:Array Value}{v:Value}(h:∀F,Knows F0 F->aA P f args F.ck (fun a _=>a=v)):Plain P J F0 f args v:=
 fun F b=>ow (h F b) main J hJ
end
attribute [irreducible] dI er
attribute [go_sem] iu CP iw CR CS CU CV qv List.take_succ_cons List.take_zero List.drop_succ_cons List.drop_zero Array.zipIdx_toArray List.zipIdx_cons List.zipIdx_nil List.foldl_toArray List.foldl_toArray' decide_eq_true_eq Bool.and_false Bool.false_and Bool.and_self Bool.true_and Bool.and_true List.foldl_cons List.foldl_nil decide_false decide_true Bool.or_false Bool.false_or Bool.or_self Bool.or_true Bool.true_or gt_iff_lt Nat.reduceGT Nat.lt_irrefl Bool.false_eq_true Nat.zero_add Nat.add_zero Nat.not_lt_zero
section
variable {P : Program} {main : Bool} {J : Goroutine → ag → Prop} {Q : Ex → Act → ag → Prop} {a : Act} {F : ag}
theorem aO (hJ:Closed P main J){f:FuncId}{args:Array Value}{F:ag}{K:Value->ag->Prop}(v:Value)(h:aA P f args F.ck (fun a _=>a=v))(b:K v F):cK P J f args F K:=
 (ow h main J hJ).mono fun a F' c=>by obtain ⟨rfl,rfl⟩:=c;exact b
theorem bD (hJ:Closed P main J){c:Operand}{x y:Code}(b:ev a c= .bool true)(h:Wp J x Q a F):Wp J (.cond c x y) Q a F:=th hJ true b h
theorem bI (hJ:Closed P main J){c:Operand}{x y:Code}(b:ev a c= .bool false)(h:Wp J y Q a F):Wp J (.cond c x y) Q a F:=th hJ false b h
theorem CW (hJ:Closed P main J){c:Operand}{x y:Code}(b:Bool)(d:ev a c= .bool b)(h1:b=true->Wp J x Q a F)(h2:b=false->Wp J y Q a F):Wp J (.cond c x y) Q a F:=by
 refine th hJ b d ?_
 cases b
 ·exact h2 rfl
 ·exact h1 rfl
theorem cA (hJ:Closed P main J){c:Code}{F':ag}(hle:Le F F')(h:Wp J c Q a F):Wp J c Q a F':=h.le (hJ:=hJ) hle
theorem Le.sub {ro:Addr->Option Value}{l l':List (Nat×Obj)}(h:l.Sublist l'):Le ⟨ro,l⟩ ⟨ro,l'⟩:=by
 have c:(keys l).Sublist (keys l'):=h.map _
 exact ⟨fun w hw=>⟨hw.ro,fun b o hb=>hw.own b o (h.subset hb),c.nodup hw.nodup,fun a v d hm=>hw.apart a v d (c.subset hm)⟩,fun b hb=>c.subset hb,fun a e=>.inl e⟩
theorem tY (hJ:Closed P main J){c:Code}(I:Nat->Act->ag->Prop)(n:Nat)(h0:I n a F)(hs:∀n a F,I n a F->Wp J c (qv (fun m a F=>∃F0,Le F0 F/\I m a F0) n Q) a F):Wp J (.loop c) Q a F:=
 xZ hJ (fun m a F=>∃F0,Le F0 F/\I m a F0) n ⟨F,Le.refl F,h0⟩ fun n a F ⟨F0,hle,b⟩=>cA hJ hle (hs n a F0 b)
end
def jw:List Nat->Nat->Bool
 |[],_=>false
 |w::ws,i=>i==w||jw ws i
abbrev In (ws:List Nat)(i:Nat):Prop:=jw ws i=true
structure cW (ws:List Nat)(a a0:Act):Prop where
 size:sz a=sz a0
 defers:a.defers=a0.defers
 dJ:∀i,¬In ws i->slot a i=slot a0 i
theorem cW.refl (ws:List Nat)(a:Act):cW ws a a:=⟨rfl,rfl,fun _ _=>rfl⟩
theorem cW.trans {ws:List Nat}{a b c:Act}(h:cW ws a b)(k:cW ws b c):cW ws a c:=⟨h.size.trans k.size,h.defers.trans k.defers,fun i hi=>(h.dJ i hi).trans (k.dJ i hi)⟩
theorem cW.sub {ws c:List Nat}{a b:Act}(hs:∀i,In ws i->In c i)(h:cW ws a b):cW c a b:=⟨h.size,h.defers,fun i hi=>h.dJ i fun x=>hi (hs i x)⟩
theorem CX {ws:List Nat}{a:Act}:cW ws a a=True:=eq_true (cW.refl ws a)
theorem CZ {ws:List Nat}{a a0:Act}{d:Nat}{v:Value}(h:jw ws d=true):cW ws (aY a (some d) v) a0=cW ws a a0:=by
 apply propext
 constructor
 ·intro k
  refine ⟨by rw[<-k.size,yc],by rw[<-k.defers,yd],fun i hi=>?_⟩
  rw[<-k.dJ i hi,tw _ _ _ _ (fun e=>hi (by subst e;exact h))]
 ·intro k
  refine ⟨by rw[<-k.size,yc],by rw[<-k.defers,yd],fun i hi=>?_⟩
  rw[<-k.dJ i hi,tw _ _ _ _ (fun e=>hi (by subst e;exact h))]
def fD (ws a:List Nat):Bool:=ws.all fun w=>jw a w
theorem yz:∀{ws:List Nat} {i:Nat},jw ws i=true->i∈ws
 |[],_,h=>by cases h
 |w::ws,i,h=>by
  simp only[jw,Bool.or_eq_true,beq_iff_eq] at h
  rcases h with h|h
  ·rw[h];exact List.mem_cons_self
  ·exact List.mem_cons_of_mem _ (yz h)
theorem cW.fD {ws c:List Nat}{a b:Act}(h:cW ws a b)(hs:Sep.fD ws c=true):cW c a b:=h.sub fun i hi=>by
 have:=yz hi
 exact List.all_eq_true.1 hs i this
attribute [go_sem] jw CX CZ or_true true_or or_false false_or Nat.reduceBEq
section
variable {P : Program} {main : Bool} {J : Goroutine → ag → Prop} {Q : Ex → Act → ag → Prop} {a : Act} {F : ag}
theorem bM (hJ:Closed P main J){c:Code}(ws:List Nat)(I:Nat->Act->ag->Prop)(n:Nat)(h0:I n a F)
  (hs:∀n b F',cW ws b a->I n b F'->Wp J c (qv (fun m a2 d=>cW ws a2 b/\∃F0,Le F0 d/\I m a2 F0) n Q) b F'):Wp J (.loop c) Q a F:=
 xZ hJ (fun m a2 d=>cW ws a2 a/\∃F0,Le F0 d/\I m a2 F0) n ⟨.refl ws a,F,Le.refl F,h0⟩ fun n b F' ⟨g,F0,hle,h⟩=>
  cA hJ hle ((hs n b F0 g h).mono fun e a2 d f=>by
   cases e with
   |normal=>obtain ⟨m,hm,h1,h2⟩:=f;exact ⟨m,hm,h1.trans g,h2⟩
   |exit i=>exact f
   |ret=>exact f)
end
def Ext (ro aI:Addr->Option Value):Prop:=∀a v,ro a=some v->aI a=some v
theorem Ext.refl (ro:Addr->Option Value):Ext ro ro:=fun _ _ h=>h
theorem Ext.trans {r s t:Addr->Option Value}(h:Ext r s)(k:Ext s t):Ext r t:=fun a v x=>k a v (h a v x)
def bO (ro:Addr->Option Value)(b:Nat)(o:Obj):Addr->Option Value:=fun a=>match ro a with
 |some v=>some v
 |none=>if a.block=b/\a.spot=none then cellOf o a.off else none
theorem fE (ro:Addr->Option Value)(b:Nat)(o:Obj):Ext ro (bO ro b o):=fun a v h=>by simp[bO,h]
theorem iy {ro:Addr->Option Value}{b off:Nat}{o:Obj}(h:∀off sp,ro ⟨b,off,sp⟩=none):bO ro b o ⟨b,off,none⟩=cellOf o off:=by simp[bO,h]
theorem jx {ro:Addr->Option Value}{own e:List (Nat×Obj)}{b:Nat}{o:Obj}(i:lk own b=some o)(hs:e.Sublist own)(hb:ak e b):Le ⟨bO ro b o,e⟩ ⟨ro,own⟩:=by
 have g:(keys e).Sublist (keys own):=hs.map _
 have hm:=gf i
 have j:b∉keys e:=by
  clear i hs g hm
  induction e with
  |nil=>simp[keys]
  |cons x l ih=>
   simp only[keys,List.map_cons,List.mem_cons,not_or]
   exact ⟨hb.1,ih hb.2⟩
 refine ⟨fun w hw=>⟨fun a v h=>?_,fun c x d=>hw.own c x (hs.subset d),g.nodup hw.nodup,fun a v h d=>?_⟩,fun c d=>g.subset d,fun a k=>?_⟩
 ·replace h:bO ro b o a=some v:=h
  unfold bO at h
  split at h
  ·rename_i x f;cases h;exact hw.ro _ _ f
  ·split at h
   ·rename_i d
    have:=hw.own b o hm
    rw[<-d.1] at this
    cases o<;>simp only[cellOf,reduceCtorEq] at h
    simp[World.cell?,this,d.2,h]
   ·cases h
 ·replace h:bO ro b o a=some v:=h
  unfold bO at h
  split at h
  ·rename_i x f;exact hw.apart a x f (g.subset d)
  ·split at h
   ·rename_i m;rw[m.1] at d;exact j d
   ·cases h
 ·obtain ⟨v,h⟩:=Option.isSome_iff_exists.1 k
  replace h:bO ro b o a=some v:=h
  unfold bO at h
  split at h
  ·rename_i x f;exact .inl (by simp[f])
  ·split at h
   ·rename_i d;exact .inr (by rw[d.1];exact eD hm)
   ·cases h
def c9 (P:Program)(f:FuncId)(args:Array Value)(ro:Addr->Option Value)(R:Value->(Addr->Option Value)->Prop):Prop:=
 aA P f args ⟨ro,[]⟩ (fun v G=>∃aI,Ext ro aI/\Le ⟨aI,[]⟩ G/\R v aI)
def k9 (F G:ag):Prop:=∀a,(G.ro a).isSome=true->a.block∉keys F.own
def tZ (J:Goroutine->ag->Prop)(F:ag)(g:Goroutine)(G:ag):Prop:=Fits F G->k9 F G->J g (G.star F)
theorem yA {P:Program}{main:Bool}{J:Goroutine->ag->Prop}(hJ:Closed P main J)(F:ag):Closed P main (tZ J F) where
 mono {g G I} hle h c i:=by
  have n:=c.le hle
  have u:k9 F G:=fun a d=>(hle.ro a d).elim (i a) (c.own _)
  refine hJ.mono ⟨fun w hw=>n.both (hle.has w (c.right hw)) (c.left hw),fun b hb=>?_,fun a d=>?_⟩ (h n u)
  ·simp only[ag.star,b9,List.mem_append] at hb ⊢
   exact hb.imp (hle.own b) id
  ·rcases jr d with x|x
   ·exact (fR (.inl x)).imp id (fun y=>by simp only[ag.star,b9,List.mem_append];exact .inr y)
   ·rcases hle.ro a x with y|y
    ·exact (fR (.inr y)).imp id (fun z=>by simp only[ag.star,b9,List.mem_append];exact .inr z)
    ·exact .inr (by simp only[ag.star,b9,List.mem_append];exact .inl y)
 step {fr cs G} h c i:=by
  refine hJ.step fun w hw=>?_
  have A:=c.right hw
  have f:=c.left hw
  obtain ⟨g',w',es,k,hgo,hu,p,B,C⟩:=h w A
  have q:Has F w':=by
   refine ⟨fun a v l=>?_,fun b o hb=>?_,f.nodup,f.apart⟩
   ·have h0:=f.ro a v l
    have D:=f.gi (a:=a) (by simp[l])
    unfold World.cell? at h0 ⊢
    rw[hu.frame _ D (c.ro a (by simp[l]))]
    exact h0
   ·rw[hu.frame b (f.lt (eD hb)) (fun hm=>c.own b hm (eD hb))]
    exact f.own b o hb
  have s:Fits F k:=by
   refine ⟨⟨w',p,q⟩,fun b hb hm=>?_,fun a d hm=>?_⟩
   ·rcases hu.own b hb with x|x
    ·exact c.own b x hm
    ·have:=f.lt hm;omega
   ·rcases hu.own _ hm with x|x
    ·exact c.ro a d x
    ·have:=f.gi d;omega
  have E:k9 F k:=fun a d hm=>by
   rcases hu.ro a d with x|x|x
   ·exact i a x hm
   ·exact c.own _ x hm
   ·have:=f.lt hm;omega
  refine ⟨g',w',es,k.star F,hgo,⟨hu.os,hu.tape,hu.output,hu.size,fun b hb i=>hu.frame b hb fun hm=>i ?_,fun a d=>?_,fun b hb=>?_⟩,s.both p q,fun e he=>?_,C s E⟩
  ·simp only[ag.star,b9,List.mem_append];exact .inl hm
  ·rcases jr d with x|x
   ·exact (fR (.inl x)).imp id (fun y=>.inl (by simp only[ag.star,b9,List.mem_append];exact .inr y))
   ·rcases hu.ro a x with y|y|y
    ·exact (fR (.inr y)).imp id (fun z=>.inl (by simp only[ag.star,b9,List.mem_append];exact .inr z))
    ·exact .inr (.inl (by simp only[ag.star,b9,List.mem_append];exact .inl y))
    ·exact .inr (.inr y)
  ·simp only[ag.star,b9,List.mem_append] at hb ⊢
   rcases hb with hb|hb
   ·exact (hu.own b hb).imp .inl id
   ·exact .inl (.inr hb)
  ·have t:∀b,gh G w.heap.size w'.heap.size b->gh (G.star F) w.heap.size w'.heap.size b:=fun b hb=>hb.imp (fun x=>by simp only[ag.star,b9,List.mem_append];exact .inl x) id
   rcases B e he with ⟨a,wr,rfl,j|⟨H,j⟩⟩|⟨r,wr,rfl,j⟩|⟨m,rfl,hm⟩
   ·exact .inl ⟨a,wr,rfl,.inl (t _ j)⟩
   ·rcases fR (F:=F) (.inr j) with y|y
    ·exact .inl ⟨a,wr,rfl,.inr ⟨H,y⟩⟩
    ·exact .inl ⟨a,wr,rfl,.inl (.inl (by simp only[ag.star,b9,List.mem_append];exact .inr y))⟩
   ·exact .inr (.inl ⟨r,wr,rfl,t _ j⟩)
   ·exact .inr (.inr ⟨m,rfl,hm⟩)
section
variable {P : Program} {main : Bool} {J : Goroutine → ag → Prop}
theorem ua (hJ:Closed P main J){f:FuncId}{args:Array Value}{ro:Addr->Option Value}{own:List (Nat×Obj)}{K:Value->ag->Prop}(R:Value->(Addr->Option Value)->Prop)(h:c9 P f args ro R)
  (r:∀v aI,Ext ro aI->(∀b∈keys own,∀off sp,aI ⟨b,off,sp⟩=none)->R v aI->K v ⟨aI,own⟩):cK P J f args ⟨ro,own⟩ K:=by
 intro c cs s
 by_cases hw:∃w,Has ⟨ro,own⟩ w
 ·obtain ⟨i,j⟩:=hw
  let F:ag:=⟨fun _=>none,own⟩
  have m:∀w,Has ⟨ro,own⟩ w->Has F w:=fun w hw=>⟨fun a v h=>(by cases h),hw.own,hw.nodup,fun a v h=>(by cases h)⟩
  have n:∀w,Has ⟨ro,own⟩ w->Has ⟨ro,[]⟩ w:=fun w hw=>⟨hw.ro,fun b o hb=>(by cases hb),List.nodup_nil,fun a v e hm=>(by cases hm)⟩
  have p:Fits F ⟨ro,[]⟩:=⟨⟨i,n i j,m i j⟩,fun b hb=>(by cases hb),fun a d hm=>(by cases hm)⟩
  have t:k9 F ⟨ro,[]⟩:=fun a d hm=>by
   obtain ⟨v,u⟩:=Option.isSome_iff_exists.1 d
   exact j.apart a v u hm
  have y:tZ J F (G (Frame.enter P f args .normal) (c::cs)) ⟨ro,[]⟩:=by
   refine h main _ (yA hJ F) c cs fun v G k l A=>?_
   obtain ⟨aI,B,hle,k⟩:=k
   have q:∀a,(aI a).isSome=true->a.block∉keys own:=fun a d=>(hle.ro a d).elim (A a) (l.own _)
   refine hJ.mono (F:=⟨aI,own⟩) ⟨fun w hw=>?_,fun b hb=>?_,fun a d=>?_⟩ (s v ⟨aI,own⟩ (r v aI B (fun b hb off sp=>?_) k))
   ·have C:=hle.has w (l.right hw)
    have g:=l.left hw
    exact ⟨C.ro,g.own,g.nodup,fun a v e=>q a (by simp only at e;simp[e])⟩
   ·simp only[ag.star,b9,List.mem_append];exact .inr hb
   ·rcases hle.ro a d with x|x
    ·exact (fR (.inr x)).imp id (fun z=>by simp only[ag.star,b9,List.mem_append];exact .inr z)
    ·exact .inr (by simp only[ag.star,b9,List.mem_append];exact .inl x)
   ·cases e:aI ⟨b,off,sp⟩ with
    |none=>rfl
    |some v=>exact absurd hb (q ⟨b,off,sp⟩ (by simp[e]))
  refine hJ.mono ⟨fun w hw=>p.both (n w hw) (m w hw),fun b hb=>?_,fun a d=>?_⟩ (y p t)
  ·simpa [ag.star,F] using hb
  ·rcases jr d with x|x
   ·cases x
   ·exact .inl x
 ·exact hJ.step fun w g=>absurd ⟨w,g⟩ hw
end
attribute [go_sem] beq_self_eq_true beq_iff_eq beq_true beq_false Int.toNat_natCast Int.natCast_nonneg Int.ofNat_lt Nat.zero_mul Nat.mul_one List.length_map Bool.not_eq_true Bool.not_not decide_not
inductive Fl (σ ρ:Type) where
 |nx (s:σ)
 |bk (s:σ)
 |br (k:Nat) (s:σ)
 |rt (r:ρ)
def ah {α β:Type}(x:Option α)(f:α->Option β):Option β:=match x with
 |some a=>f a
 |none=>none
theorem fj {α β:Type}{x:Option α}{f:α->Option β}{r:β}(h:ah x f=some r):∃a,x=some a/\f a=some r:=by
 cases x with
 |none=>cases h
 |some a=>exact ⟨a,rfl,h⟩
theorem iz {α:Type}{b:Bool}{x y:Option α}{r:α}(h:cond b x y=some r):(b=true/\x=some r)\/(b=false/\y=some r):=by
 cases b
 ·exact .inr ⟨rfl,h⟩
 ·exact .inl ⟨rfl,h⟩
def aF {σ ρ τ:Type}(o:Fl σ ρ)(f:σ->Option τ)(g:Nat->σ->Option τ)(h:ρ->Option τ):Option τ:=match o with
 | .nx s=>f s
 | .bk s=>f s
 | .br k s=>g k s
 | .rt r=>h r
def aR {σ ρ:Type}(f:σ->Option (Fl σ ρ)):Nat->σ->Option (Fl σ ρ)
 |0,_=>none
 |n+1,s=>ah (f s) fun o=>match o with
  | .nx s'=>aR f n s'
  | .bk s'=>some (.nx s')
  | .br k s'=>some (.br k s')
  | .rt r=>some (.rt r)
def bE {α σ ρ:Type}(f:Nat->α->σ->Option (Fl σ ρ)):Nat->List α->σ->Option (Fl σ ρ)
 |_,[],s=>some (.nx s)
 |i,x::l,s=>ah (f i x s) fun o=>match o with
  | .nx s'=>bE f (i+1) l s'
  | .bk s'=>some (.nx s')
  | .br k s'=>some (.br k s')
  | .rt r=>some (.rt r)
def fu:Nat:=1000000000000000000
def bq {α:Type}(l:List α)(i:Int):Option α:=if 0<=i then l[i.toNat]? else none
theorem bX {α:Type}{l:List α}{i:Int}{x:α}(h:bq l i=some x):0<=i/\i<l.length/\l[i.toNat]?=some x:=by
 unfold bq at h
 split at h
 ·rename_i h0
  obtain ⟨hi,_⟩:=List.getElem?_eq_some_iff.1 h
  exact ⟨h0,by omega,h⟩
 ·cases h
def cI {α:Type}(l xs:List α):Option (List α):=if l.length+xs.length<=1000000 then some (l++xs) else none
theorem cG {α:Type}{l xs r:List α}(h:cI l xs=some r):l.length+xs.length<=1000000/\r=l++xs:=by
 unfold cI at h
 split at h
 ·rename_i h0;cases h;exact ⟨h0,rfl⟩
 ·cases h
def iA {α:Type}(l:List α)(lo hi:Int):Option (List α):=if 0<=lo/\lo<=hi/\hi<=l.length then some ((l.take hi.toNat).drop lo.toNat) else none
theorem oN {α:Type}{l r:List α}{lo hi:Int}(h:iA l lo hi=some r):0<=lo/\lo<=hi/\hi<=l.length/\r=(l.take hi.toNat).drop lo.toNat:=by
 unfold iA at h
 split at h
 ·rename_i h0;cases h;exact ⟨h0.1,h0.2.1,h0.2.2,rfl⟩
 ·cases h
def fU (a b:Int):Option Int:=if b=0 then none else some (IntKind.i64.wrap (a.tdiv b))
theorem mQ {a b r:Int}(h:fU a b=some r):¬b=0/\IntKind.i64.wrap (a.tdiv b)=r:=by
 unfold fU at h
 split at h
 ·cases h
 ·rename_i h0;cases h;exact ⟨h0,rfl⟩
def lf (a b:Int):Option Int:=if b=0 then none else some (a.tmod b)
theorem uf {a b r:Int}(h:lf a b=some r):¬b=0/\a.tmod b=r:=by
 unfold lf at h
 split at h
 ·cases h
 ·rename_i h0;cases h;exact ⟨h0,rfl⟩
def qP (a b:Int):Option Int:=if b<0 then none else some (IntKind.i64.wrap (a*2 ^ min b.toNat 64))
theorem C0 {a b r:Int}(h:qP a b=some r):¬b<0/\IntKind.i64.wrap (a*2 ^ min b.toNat 64)=r:=by
 unfold qP at h
 split at h
 ·cases h
 ·rename_i h0;cases h;exact ⟨h0,rfl⟩
def ug (a b:Int):Option Int:=if b<0 then none else some (a.fdiv (2 ^ min b.toNat 64))
theorem C1 {a b r:Int}(h:ug a b=some r):¬b<0/\a.fdiv (2 ^ min b.toNat 64)=r:=by
 unfold ug at h
 split at h
 ·cases h
 ·rename_i h0;cases h;exact ⟨h0,rfl⟩
def yB (a b:Int):Int:=IntKind.i64.wrap (BitVec.ofInt 64 a&&& BitVec.ofInt 64 b).toNat
theorem C2 (a b:Int):IntKind.i64.wrap (BitVec.ofInt IntKind.i64.bits a&&& BitVec.ofInt IntKind.i64.bits b).toNat=yB a b:=rfl
attribute [go_sem ↓] C2
theorem cj {n:Nat}(h:n<1000000000000000):IntKind.i64.wrap ((n:Int)+1)=((n+1:Nat):Int):=by
 simp only[IntKind.wrap,IntKind.bits,IntKind.signed]
 simp
 omega
theorem cX {α:Type}{l:List α}{i:Nat}{x:α}(h:l[i]?=some x):l.drop i=x::l.drop (i+1):=by
 obtain ⟨hi,rfl⟩:=List.getElem?_eq_some_iff.1 h
 exact List.drop_eq_getElem_cons hi
theorem cast_zero:((0:Nat):Int)=0:=rfl
attribute [go_sem] cast_zero
theorem C3 (l:List Value)(i j:Nat):(l.toArray).extract i j=((l.drop i).take (j - i)).toArray:=by
 apply Array.ext'
 simp[List.extract_eq_drop_take]
attribute [go_sem] C3
structure bY (T:Type) where
 n:Nat
 rel:(Addr->Option Value)->T->List Value->Prop
 mono:∀{ro aI:Addr->Option Value} {x:T} {cs:List Value},Ext ro aI->rel ro x cs->rel aI x cs
 len:∀{ro:Addr->Option Value} {x:T} {cs:List Value},rel ro x cs->cs.length=n
 one:∀{ro:Addr->Option Value} {x:T} {cs:List Value},rel ro x cs->∀v∈cs,bw v=true
def gN {T:Type}(n:Nat)(c:T->List Value)(h:∀x,(c x).length=n)(h1:∀x,∀v∈c x,bw v=true):bY T:=
 ⟨n,fun _ x cs=>cs=c x,fun _ h=>h,fun e=>by rw[e];exact h _,fun e=>by rw[e];exact h1 _⟩
def rI:bY Int:=gN 1 (fun n=>[.int .i64 n]) (fun _=>rfl) (fun _ v a=>by simp at a;subst a;rfl)
def rB:bY Bool:=gN 1 (fun n=>[.bool n]) (fun _=>rfl) (fun _ v a=>by simp at a;subst a;rfl)
def ax {T:Type}(r:bY T)(ro:Addr->Option Value)(s:Value)(l:List T):Prop:=
 ∃ad cap,s= .slice ad l.length cap/\l.length<=cap/\l.length<=1000000000000000/\∀i x,l[i]?=some x->∃p cs,ad=some p/\r.rel ro x cs/\∀j v,cs[j]?=some v->ro ((p.add (i*r.n)).add j)=some v
theorem ax.mono {T:Type}{r:bY T}{ro aI:Addr->Option Value}{s:Value}{l:List T}(h:ax r ro s l)(a:Ext ro aI):ax r aI s l:=by
 obtain ⟨ad,cap,h1,h2,b,h3⟩:=h
 refine ⟨ad,cap,h1,h2,b,fun i x hi=>?_⟩
 obtain ⟨p,cs,c,d,hm⟩:=h3 i x hi
 exact ⟨p,cs,c,r.mono a d,fun j v e=>a _ _ (hm j v e)⟩
theorem ax.nil {T:Type}(r:bY T)(ro:Addr->Option Value):ax r ro (.slice none 0 0) []:=⟨none,0,rfl,Nat.le_refl _,by simp,fun i x h=>by simp at h⟩
def rL {T:Type}(r:bY T):bY (List T):=
 ⟨1,fun ro l cs=>∃s,cs=[s]/\ax r ro s l,fun b ⟨s,h1,h2⟩=>⟨s,h1,h2.mono b⟩,fun ⟨s,h1,_⟩=>by rw[h1];rfl,fun ⟨s,h1,ad,cap,h2,_⟩ v a=>by rw[h1] at a;simp at a;subst a;rw[h2];rfl⟩
theorem ax.part {T:Type}{r:bY T}{ro:Addr->Option Value}{ad:Option Addr}{cap:Nat}{l:List T}(h:ax r ro (.slice ad l.length cap) l)(lo hi:Nat)(h1:lo<=hi)(h2:hi<=l.length):
  ax r ro (.slice (if cap=lo then ad else ad.map (·.add (lo*r.n))) (hi - lo) (cap - lo)) ((l.take hi).drop lo):=by
 obtain ⟨k,m,e,h3,o,b⟩:=h
 cases e
 have hlen:((l.take hi).drop lo).length=hi - lo:=by simp;omega
 refine ⟨_,cap - lo,by rw[hlen],by rw[hlen];omega,by rw[hlen];omega,fun i x a=>?_⟩
 rw[List.getElem?_drop,List.getElem?_take] at a
 split at a
 case isFalse=>cases a
 obtain ⟨p,cs,c,d,hm⟩:=b _ x a
 have q:lo+i<l.length:=(List.getElem?_eq_some_iff.1 a).1
 refine ⟨p.add (lo*r.n),cs,?_,d,fun j v f=>?_⟩
 ·have g:¬cap=lo:=by omega
  rw[if_neg g,c];rfl
 ·have:=hm j v f
  rw[j5] at this
  rw[j5,j5]
  rw[show lo*r.n+(i*r.n+j)=(lo+i)*r.n+j by rw[Nat.add_mul];omega]
  exact this
def Apart (ks:List Nat)(aQ:List (Nat×Obj)):Prop:=∀k∈keys aQ,k∉ks
theorem Apart.nil (ks:List Nat):Apart ks []:=fun k h=>(by cases h)
theorem j8:∀{l:List (Nat×Obj)} {b:Nat},ak l b->b∉keys l
 |[],_,_=>by simp[keys]
 |(c,o)::l,b,h=>by simp only[keys,List.map_cons,List.mem_cons,not_or];exact ⟨h.1,j8 h.2⟩
theorem lg:∀{l:List (Nat×Obj)} {b:Nat},b∉keys l->ak l b
 |[],_,_=>trivial
 |(c,o)::l,b,h=>by simp only[keys,List.map_cons,List.mem_cons,not_or] at h;exact ⟨h.1,lg h.2⟩
theorem Apart.push {ks:List Nat}{aQ:List (Nat×Obj)}{b:Nat}(h:Apart ks aQ)(hb:ak aQ b):Apart (b::ks) aQ:=fun k a=>by
 simp only[List.mem_cons,not_or]
 exact ⟨fun e=>j8 hb (e▸a),h k a⟩
theorem Apart.drop {ks:List Nat}{aQ:List (Nat×Obj)}{b:Nat}(h:Apart (b::ks) aQ):Apart ks aQ:=fun k a=>(by have:=h k a;simp only[List.mem_cons,not_or] at this;exact this.2)
def aP {T:Type}(r:bY T)(ro:Addr->Option Value)(e:TypeId)(v:Value)(l:List T)(aQ:List (Nat×Obj)):Prop:=
 ∃ls:List (List Value),Gr ro e r.n v ls aQ/\ls.length=l.length/\l.length<=1000000/\∀(i:Nat) (x:T),l[i]?=some x->∃cs:List Value,ls[i]?=some cs/\r.rel ro x cs
theorem aP.nil {T:Type}(r:bY T)(ro:Addr->Option Value)(e:TypeId):aP r ro e (.slice none 0 0) [] []:=⟨[],.inl ⟨rfl,rfl,rfl⟩,rfl,by simp,fun i x h=>by simp at h⟩
theorem aP.len {T:Type}{r:bY T}{ro:Addr->Option Value}{e:TypeId}{v:Value}{l:List T}{aQ:List (Nat×Obj)}(h:aP r ro e v l aQ):∃ad cap,v= .slice ad l.length cap/\l.length<=cap:=by
 obtain ⟨ls,hg,a,-⟩:=h
 rcases hg with ⟨rfl,rfl,rfl⟩|⟨b,arr,cap,rfl,rfl,hs,hle,-⟩
 ·exact ⟨none,0,by rw[<-a];rfl,by rw[<-a];exact Nat.le_refl _⟩
 ·exact ⟨_,cap,by rw[a],by omega⟩
def az (ro:Addr->Option Value)(own:List (Nat×Obj)):Prop:=∀b∈keys own,∀off sp,ro ⟨b,off,sp⟩=none
theorem aP.mono {T:Type}{r:bY T}{ro aI:Addr->Option Value}{e:TypeId}{v:Value}{l:List T}{aQ:List (Nat×Obj)}(h:aP r ro e v l aQ)(a:Ext ro aI)(c:az aI aQ):aP r aI e v l aQ:=by
 obtain ⟨ls,hg,d,hm,f⟩:=h
 refine ⟨ls,?_,d,hm,fun i x hi=>?_⟩
 ·rcases hg with h|⟨b,arr,cap,h1,h2,h3,g,j,k,m⟩
  ·exact .inl h
  ·exact .inr ⟨b,arr,cap,h1,h2,h3,g,j,k,c b (by rw[h2];simp[keys])⟩
 ·obtain ⟨cs,h1,h2⟩:=f i x hi
  exact ⟨cs,h1,r.mono a h2⟩
theorem Apart.fresh {pre aQ:List (Nat×Obj)}{ks:List Nat}(h:Apart ks aQ)(a:keys pre=ks):∀k∈keys aQ,ak pre k:=fun k b=>lg (by rw[a];exact h k b)
theorem oO {n:Nat}:∀(ls:List (List Value)) (i:Nat) (cs:List Value),(∀x∈ls,x.length=n)->ls[i]?=some cs->∀j v,cs[j]?=some v->ls.flatten[i*n+j]?=some v
 |[],i,cs,_,h,_,_,_=>by simp at h
 |y::ls,0,cs,b,h,j,v,a=>by
  simp at h;subst h
  have:j<y.length:=(List.getElem?_eq_some_iff.1 a).1
  simp only[Nat.zero_mul,Nat.zero_add,List.flatten_cons]
  rw[List.getElem?_append_left this]
  exact a
 |y::ls,i+1,cs,b,h,j,v,a=>by
  simp at h
  have ih:=oO ls i cs (fun x d=>b x (by simp[d])) h j v a
  have c:=b y (by simp)
  simp only[List.flatten_cons]
  rw[List.getElem?_append_right (by rw[c,Nat.add_mul];omega)]
  rw[show (i+1)*n+j - y.length=i*n+j by rw[c,Nat.add_mul];omega]
  exact ih
theorem aP.yC {T:Type}{r:bY T}{ro:Addr->Option Value}{e:TypeId}{v:Value}{l:List T}{aQ:List (Nat×Obj)}{ks:List Nat}(h:aP r ro e v l aQ)(pre:List (Nat×Obj))(m:Apart ks aQ)(o:keys pre=ks)(d:az ro pre):
  ∃aI,Ext ro aI/\az aI pre/\ax r aI v l/\Le ⟨aI,pre⟩ ⟨ro,pre++aQ⟩:=by
 obtain ⟨ls,hg,f,hm,p⟩:=h
 rcases hg with ⟨rfl,rfl,rfl⟩|⟨b,arr,cap,rfl,rfl,hs,hle,ht,g,q⟩
 ·have:l=[]:=List.eq_nil_of_length_eq_zero (by simpa using f.symm)
  subst this
  exact ⟨ro,Ext.refl ro,d,ax.nil r ro,by rw[List.append_nil];exact Le.refl _⟩
 ·have hb:b∉keys pre:=by rw[o];exact m b (by simp[keys])
  refine ⟨bO ro b (.cells arr e),fE _ _ _,fun c k off sp=>?_,⟨some ⟨b,0,none⟩,cap,by rw[f],by omega,by omega,fun i x hi=>?_⟩,jx ?_ (List.sublist_append_left _ _) (lg hb)⟩
  ·have s:¬c=b:=fun e=>hb (e▸k)
   simp[bO,d c k,s]
  ·obtain ⟨cs,h1,h2⟩:=p i x hi
   refine ⟨_,cs,rfl,r.mono (fE _ _ _) h2,fun j v t=>?_⟩
   have a:=oO ls i cs g h1 j v t
   rw[j5,j6,Nat.zero_add,iy q]
   have u:i*r.n+j<ls.length*r.n:=by
    have:=(List.getElem?_eq_some_iff.1 a).1
    rw[gL g] at this
    exact this
   rw[<-ht,List.getElem?_take_of_lt u] at a
   simpa [cellOf] using a
  ·have:∀(pre:List (Nat×Obj)),b∉keys pre->lk (pre++[(b,Obj.cells arr e)]) b=some (.cells arr e):=fun pre h=>tN (lg h)
   exact this pre hb
theorem aP.elem {T:Type}{r:bY T}{ro:Addr->Option Value}{e:TypeId}{v:Value}{l:List T}{aQ:List (Nat×Obj)}(h:aP r ro e v l aQ){i:Nat}{x:T}(hi:l[i]?=some x):
  ∃b arr cap cs,v= .slice (some ⟨b,0,none⟩) l.length cap/\aQ=[(b,.cells arr e)]/\(∀off sp,ro ⟨b,off,sp⟩=none)/\r.rel ro x cs/\∀j v,cs[j]?=some v->arr[i*r.n+j]?=some v:=by
 obtain ⟨ls,hg,d,hm,f⟩:=h
 obtain ⟨cs,h1,h2⟩:=f i x hi
 rcases hg with ⟨rfl,rfl,rfl⟩|⟨b,arr,cap,rfl,rfl,hs,hle,ht,c,g⟩
 ·simp at h1
 ·refine ⟨b,arr,cap,cs,by rw[d],rfl,g,h2,fun j v k=>?_⟩
  have a:=oO ls i cs c h1 j v k
  have m:i*r.n+j<ls.length*r.n:=by
   have:=(List.getElem?_eq_some_iff.1 a).1
   rw[gL c] at this
   exact this
  rw[<-ht,List.getElem?_take_of_lt m] at a
  simpa using a
theorem aN {ro:Addr->Option Value}{own:List (Nat×Obj)}:Ext ro (ag.ck ⟨ro,own⟩).ro:=fun a v h=>by simp[ag.ck,ag.get,h]
theorem bQ {ro:Addr->Option Value}{own:List (Nat×Obj)}{F:ag}(h:Knows ⟨ro,own⟩ F):Ext ro F.ck.ro:=fun a v b=>by
 have:F.ro a=some v:=h.1 a v b
 simp[ag.ck,ag.get,this]
def oP (ro:Addr->Option Value)(ks:List Nat):Prop:=∀b∈ks,∀off sp,ro ⟨b,off,sp⟩=none
theorem oP.nil (ro:Addr->Option Value):oP ro []:=fun b h=>by cases h
theorem oP.cons {ro:Addr->Option Value}{b:Nat}{ks:List Nat}(h:∀off sp,ro ⟨b,off,sp⟩=none)(k:oP ro ks):oP ro (b::ks):=fun c a=>by
 rcases List.mem_cons.1 a with rfl|a
 ·exact h
 ·exact k c a
theorem ax.oQ {T:Type}{r:bY T}{ro:Addr->Option Value}{ad:Option Addr}{cap:Nat}{l x:List T}(h:ax r ro (.slice ad l.length cap) l)(lo hi:Nat)(h1:lo<=hi)(h2:hi<=l.length)(b:x=(l.take hi).drop lo):
  ∃a,(if cap=lo then ad else ad.map (·.add (lo*r.n)))=a/\hi - lo=x.length/\ax r ro (.slice a x.length (cap - lo)) x:=by
 subst b
 have hlen:((l.take hi).drop lo).length=hi - lo:=by simp;omega
 refine ⟨_,rfl,hlen.symm,?_⟩
 rw[hlen]
 exact h.part lo hi h1 h2
theorem ax.one {T:Type}{r:bY T}{ro:Addr->Option Value}{own:List (Nat×Obj)}{b:Nat}{x:T}{cs:Array Value}{e:TypeId}(a:∀off sp,ro ⟨b,off,sp⟩=none)(d:lk own b=some (.cells cs e))(h:r.rel ro x cs.toList):
  ax r (bO ro b (.cells cs e)) (.slice (some ⟨b,0,none⟩) 1 1) [x]:=by
 refine ⟨some ⟨b,0,none⟩,1,rfl,Nat.le_refl _,by simp,fun i y hi=>?_⟩
 have:i=0/\y=x:=by
  cases i with
  |zero=>simp at hi;exact ⟨rfl,hi.symm⟩
  |succ i=>simp at hi
 obtain ⟨rfl,rfl⟩:=this
 refine ⟨_,_,rfl,r.mono (fE _ _ _) h,fun j v c=>?_⟩
 rw[Nat.zero_mul,add_zero',j6,Nat.zero_add,iy a]
 simpa [cellOf] using c
theorem ax.flat {T:Type}{r:bY T}{ro:Addr->Option Value}{b:Nat}{cs:Array Value}{e:TypeId}(c:T->List Value)(l:List T)(a:∀x,r.rel ro x (c x))(d:∀off sp,ro ⟨b,off,sp⟩=none)(f:cs.toList=(l.map c).flatten)(hlen:l.length<=1000000000000000):
  ax r (bO ro b (.cells cs e)) (.slice (some ⟨b,0,none⟩) l.length l.length) l:=by
 refine ⟨some ⟨b,0,none⟩,l.length,rfl,Nat.le_refl _,hlen,fun i x hi=>⟨_,c x,rfl,r.mono (fE _ _ _) (a x),fun j v g=>?_⟩⟩
 have h1:(l.map c)[i]?=some (c x):=by rw[List.getElem?_map,hi];rfl
 have h:∀y∈l.map c,y.length=r.n:=fun y k=>by
  obtain ⟨z,_,rfl⟩:=List.mem_map.1 k
  exact r.len (a z)
 have:=oO (l.map c) i (c x) h h1 j v g
 rw[j6,j6,Nat.zero_add,iy d]
 rw[<-f] at this
 simpa [cellOf] using this
theorem jy {ro:Addr->Option Value}{own:List (Nat×Obj)}{b:Nat}{o:Obj}(e:lk own b=some o):Ext (bO ro b o) (ag.ck ⟨ro,own⟩).ro:=fun a v h=>by
 unfold bO at h
 simp only[ag.ck,ag.get]
 split at h
 ·rename_i x c;rw[c];exact h
 ·rename_i c
  split at h
  ·rename_i d
   rw[c]
   simp only
   rw[if_pos d.2,d.1,e]
   exact h
  ·cases h
section
variable {P : Program} {main : Bool} {J : Goroutine → ag → Prop}
theorem gk (hJ:Closed P main J){f:FuncId}{args:Array Value}{F F':ag}{K:Value->ag->Prop}(hle:Le F F')(h:cK P J f args F K):cK P J f args F' K:=fun c cs k=>hJ.mono hle (h c cs k)
end
theorem aP.bd {T:Type}{r:bY T}{ro:Addr->Option Value}{e:TypeId}{v:Value}{l:List T}{aQ:List (Nat×Obj)}(h:aP r ro e v l aQ):l.length<=1000000:=by
 obtain ⟨ls,_,_,hm,_⟩:=h
 exact hm
theorem aA.yC {P:Program}{f:FuncId}{args:Array Value}{ro:Addr->Option Value}{R:Value->Prop}(h:aA P f args ⟨ro,[]⟩ (fun v _=>R v)):aA P f args ⟨ro,[]⟩ (fun v G=>R v/\G=⟨ro,[]⟩):=by
 intro main J hJ c cs b
 exact ow (F:=⟨ro,[]⟩) (R:=R) (by
  have e:ag.ck ⟨ro,[]⟩=⟨ro,[]⟩:=by
   simp only[ag.ck,ag.mk.injEq,and_true]
   funext a
   simp only[ag.get]
   cases ro a with
   |none=>simp[lk]
   |some v=>rfl
  rw[e];exact h) main J hJ c cs b
end Go.Sep
end
section
namespace Go.Sep
open Go Go.Conc Go.ConcM
open Go.ConcN (sumTo upd sumTo_upd upd_ne upd_same)
def dP (P:Program)(Φ:Goroutine->ag->Prop)(g:Goroutine)(F:ag):Prop:=
 ∀(bh:Loc->Prop) (gs:Array Goroutine) (w:World) (sl:Option (Nat×Nat)) (t:Trace) (q:Nat->Nat),gK P bh g F gs w t q->
  ∃(N:Nat) (bP:Array Goroutine) (w':World) (c:Option (Nat×Nat)) (a:Trace) (d:Nat->Nat) (g':Goroutine) (F':ag) (b:Loc->Prop),
   runNT P N (crowd gs w sl) t=(.next (crowd bP w' c),a)/\gK P b g' F' bP w' a d/\eK F F' w w'/\(∀l,b l->bh l\/¬l.low w.heap.size)/\Φ g' F'
theorem dP.done {P:Program}{Φ:Goroutine->ag->Prop}{g:Goroutine}{F:ag}(h:Φ g F):dP P Φ g F:=
 fun bh gs w sl t q a=>⟨0,gs,w,sl,t,q,g,F,bh,rfl,a,.refl _ _,fun _ h=>.inl h,h⟩
theorem oR (P:Program)(Φ:Goroutine->ag->Prop):Closed P true (dP P Φ) where
 mono hle h bh gs w sl t q b:=by
  obtain ⟨N,bP,w',v,z,A,g',F',B,g,C,hu,D,E⟩:=h bh gs w sl t q ⟨b.g0,b.lv,b.e6,hle.has w b.has,fun l hs H=>b.apart l hs (hle.fQ H),b.low⟩
  exact ⟨N,bP,w',v,z,A,g',F',B,g,C,hu.le hle,D,E⟩
 step {fr cs F} h bh gs w sl t q b:=by
  obtain ⟨N,k,d,m,a3,n,t1,I,g,a4,h0,p,J,K⟩:=qy (P:=P) (a:=G fr cs) rfl _ gs w sl t q (Nat.le_refl _) b.g0 b.lv b.e6
  obtain ⟨g',w',es,F',hgo,hu,L,M,hJ⟩:=h (w.at m) (b.has.at m)
  have c:dB F F' w w':=⟨hu.os,hu.tape,hu.output,hu.size,hu.frame,hu.ro,hu.own⟩
  have O:=runT_crowd_go (P:=P) (sl:=n) (i:=0) h0 (show stepG P (0==0) (G fr cs) (w.at m)=_ from hgo)
  have Q:0<k.size:=(Array.getElem?_eq_some_iff.1 h0).1
  have r:=gK.next (P:=P) b.apart b.low c
  obtain ⟨R,S,w2,T,t2,U,V,W,X,Y,Z,ab,ad,ae⟩:=hJ bh ((k.map (woken P (G fr cs) g' w')).setIfInBounds 0 g') w' n (t1++MemOp.ofEvents 0 (G fr cs).frame.fn (G fr cs).frame.place es) I
   {g0:=by simp[Q]
    lv:=⟨fun j x f s=>by
     have al:0≠j:=by omega
     rw[Array.getElem?_setIfInBounds_ne al,Array.getElem?_map] at s
     obtain ⟨y,ao,rfl⟩:=Option.map_eq_some_iff.1 s
     have u:=p.old j y f ao
     rw[woken_quitsD u,Deaf_other t1 (by omega) _ (fun op o=>by obtain ⟨e,_,rfl⟩:=Go.Conc.mem_ofEvents o;rfl)]
     exact u,fun j f=>by
     rw[Deaf_other t1 (g':=0) (by simp at f;omega) _ (fun op o=>by obtain ⟨e,_,rfl⟩:=Go.Conc.mem_ofEvents o;rfl)]
     exact p.above j (by simpa using f)⟩
    e6:=(J.mono c.size).own fun e he=>x3 b.has c.size b.apart b.low (M e he)
    has:=L
    apart:=r.1
    low:=r.2}
  refine ⟨N+1+R,S,w2,T,t2,U,V,W,X,?_,Z,(eK.ov c).trans ab,fun l ar=>(ad l ar).imp id fun a0 a2=>a0 (Loc.low_mono c.size a2),ae⟩
  have:runNT P (N+1) (crowd gs w sl) t=(.next (crowd ((k.map (woken P (G fr cs) g' w')).setIfInBounds 0 g') w' n),t1++MemOp.ofEvents 0 (G fr cs).frame.fn (G fr cs).frame.place es):=by
   rw[runNT_add,g]
   simp only[runNT,K,O]
  rw[iS this]
  exact Y
def e9 (P:Program)(f:FuncId)(args:Array Value)(F:ag)(R:Value->ag->Prop):Prop:=∀Φ,cK P (dP P Φ) f args F R
theorem yD {P:Program}{f:FuncId}{args:Array Value}{ro:Addr->Option Value}{own:List (Nat×Obj)}{R:Value->ag->Prop}(h:e9 P f args ⟨ro,[]⟩ R):
  e9 P f args ⟨ro,own⟩ (fun v F'=>∃G,R v G/\F'=G.star ⟨ro,own⟩/\Fits ⟨ro,own⟩ G/\k9 ⟨ro,own⟩ G):=by
 intro Φ c cs F bh gs w sl t q d
 let Fr:ag:=⟨ro,own⟩
 have H:gK P bh (G (Frame.enter P f args .normal) (c::cs)) ⟨ro,[]⟩ gs w t q:=
  ⟨d.g0,d.lv,d.e6,⟨d.has.ro,fun b o hb=>(by cases hb),List.nodup_nil,fun a v j hm=>(by cases hm)⟩,fun l hs i=>d.apart l hs (by
   cases l with
   |cell a=>exact i.elim (fun x=>by cases x) .inr
   |obj r=>cases i
   |_=>exact i),d.low⟩
 obtain ⟨N,bP,w',I,s,u,g',F',A,j,g,hu,n,v,rfl,p⟩:=h (fun g' F'=>∃v,g'=G (c.finish v) cs/\R v F') c cs (fun v F' p=>dP.done ⟨v,rfl,p⟩) bh gs w sl t q H
 have B:Has Fr w':=⟨fun a v j=>by
  have h0:=d.has.ro a v j
  have J:=d.has.gi (a:=a) (by rw[j];rfl)
  unfold World.cell? at h0 ⊢
  rw[hu.frame _ J (fun hm=>by cases hm)]
  exact h0,fun b o hb=>by
  rw[hu.frame b (d.has.lt (eD hb)) (fun hm=>by cases hm)]
  exact d.has.own b o hb,d.has.nodup,d.has.apart⟩
 have C:Fits Fr F':=⟨⟨w',g.has,B⟩,fun b hb hm=>by
  rcases hu.own b hb with x|x
  ·cases x
  ·have:=d.has.lt (b:=b) hm;omega,fun a k hm=>by
  rcases hu.own _ hm with x|x
  ·cases x
  ·have:=d.has.gi (a:=a) k;omega⟩
 have K:k9 Fr F':=fun a k hm=>by
  rcases hu.ro a k with x|x|x
  ·obtain ⟨y,L⟩:=Option.isSome_iff_exists.1 x
   exact d.has.apart a y L hm
  ·cases x
  ·have:=d.has.lt (b:=a.block) hm;omega
 have M:gK P A (G (c.finish v) cs) (F'.star Fr) bP w' s u:=by
  refine ⟨g.g0,g.lv,g.e6,C.both g.has B,fun l hs i=>?_,g.low⟩
  have D:∀b,b∈keys own->(l= .obj b\/∃a,l= .cell a/\a.block=b)->False:=fun b hb m=>by
   rcases n l hs with x|x
   ·refine d.apart l x ?_
    rcases m with rfl|⟨a,rfl,e⟩
    ·exact hb
    ·exact .inl (e▸hb)
   ·refine x ?_
    have:=d.has.lt (b:=b) hb
    rcases m with rfl|⟨a,rfl,e⟩
    ·exact this
    ·show a.block<_;rw[e];exact this
  cases l with
  |cell a=>
   rcases i with x|x
   ·simp only[ag.star,b9,List.mem_append] at x
    rcases x with x|x
    ·exact g.apart _ hs (.inl x)
    ·exact D _ x (.inr ⟨a,rfl,rfl⟩)
   ·rcases jr x with y|y
    ·rcases n _ hs with z|z
     ·exact d.apart _ z (.inr y)
     ·exact z (d.has.gi (a:=a) y)
    ·exact g.apart _ hs (.inr y)
  |obj r=>
   simp only[ag.fQ,ag.star,b9,List.mem_append] at i
   rcases i with x|x
   ·exact g.apart _ hs x
   ·exact D _ x (.inl rfl)
  |_=>exact i
 obtain ⟨O,Q,w2,S,t2,T,U,V,W,X,Y,Z,ab,ad⟩:=F v (F'.star Fr) ⟨F',p,rfl,C,K⟩ A bP w' I s u M
 have ae:eK ⟨ro,own⟩ (F'.star Fr) w w':=⟨hu.os,hu.tape,hu.output,hu.size,fun b hb E=>hu.frame b hb (fun x=>by cases x),fun a k=>by
  rcases jr k with y|y
  ·exact .inl y
  ·rcases hu.ro a y with z|z|z
   ·exact .inl z
   ·cases z
   ·exact .inr (.inr z),fun b hb=>by
  simp only[ag.star,b9,List.mem_append] at hb
  rcases hb with x|x
  ·rcases hu.own b x with y|y
   ·cases y
   ·exact .inr y
  ·exact .inl x⟩
 exact ⟨N+O,Q,w2,S,t2,T,U,V,W,by rw[iS j];exact X,Y,ae.trans Z,fun l m=>(ab l m).elim (n l) fun E=>.inr fun al=>E (Loc.low_mono hu.size al),ad⟩
theorem e9.go {P:Program}{f:FuncId}{fn:Func}{c:Code}{n:Nat}{rs:List ResultVar}{args:Array Value}{F:ag}{R:Value->ag->Prop}(j:P.funcs[f]?=some fn)(hb:fn.body=some c)(d:fn.ntmps=n)(k:fn.results=rs.toArray)(m:args.size<=n)
  (h:∀Φ,Closed P true (dP P Φ)->∀A:Act,sz A=n->A.defers=[]->(∀i,slot A i=args.getD i undef)->Wp (dP P Φ) c (ir P rs R) A F):e9 P f args F R:=fun Φ=>by
 refine cK.of_wp (oR P Φ) j hb ?_
 refine (h Φ (oR P Φ) _ (by simp[sz,d];omega) rfl fun i=>?_).mono fun e a F g=>?_
 ·simp only[slot,d,Array.getD_eq_getD_getElem?]
  rcases Nat.lt_or_ge i args.size with hi|hi
  ·rw[Array.getElem?_append_left hi]
  ·rw[Array.getElem?_append_right hi,Array.getElem?_replicate,Array.getElem?_eq_none hi]
   split<;>rfl
 ·cases e with
  |exit i=>exact g
  |_=>
   obtain ⟨hd,b⟩:=g
   split at b
   ·rename_i v l
    show gJ P a.defers _ F
    rw[hd]
    exact qN k l b
   ·exact b.elim
def oS (P:Program)(f:FuncId)(args:Array Value)(ro:Addr->Option Value)(R:Value->(Addr->Option Value)->Prop):Prop:=
 e9 P f args ⟨ro,[]⟩ (fun v G=>∃aI,Ext ro aI/\Le ⟨aI,[]⟩ G/\R v aI)
theorem C4 {P:Program}{Φ:Goroutine->ag->Prop}{f:FuncId}{args:Array Value}{ro:Addr->Option Value}{own:List (Nat×Obj)}{K:Value->ag->Prop}(R:Value->(Addr->Option Value)->Prop)
  (h:oS P f args ro R) (k:∀v aI,Ext ro aI->(∀b∈keys own,∀off sp,aI ⟨b,off,sp⟩=none)->R v aI->K v ⟨aI,own⟩):cK P (dP P Φ) f args ⟨ro,own⟩ K:=by
 intro c cs l
 refine yD (own:=own) h Φ c cs fun v F' m=>?_
 obtain ⟨G,⟨aI,n,hle,o⟩,rfl,e,p⟩:=m
 have i:∀a,(aI a).isSome=true->a.block∉keys own:=fun a g=>(hle.ro a g).elim (p a) (e.own _)
 refine (oR P Φ).mono (F:=⟨aI,own⟩) ⟨fun w hw=>?_,fun b hb=>?_,fun a g=>?_⟩ (l v ⟨aI,own⟩ (k v aI n (fun b hb off sp=>?_) o))
 ·have q:=hle.has w (e.right hw)
  have j:=e.left hw
  exact ⟨q.ro,j.own,j.nodup,fun a v d=>i a (by simp only at d;simp[d])⟩
 ·simp only[ag.star,b9,List.mem_append];exact .inr hb
 ·rcases hle.ro a g with x|x
  ·exact (fR (.inr x)).imp id (fun z=>by simp only[ag.star,b9,List.mem_append];exact .inr z)
  ·exact .inr (by simp only[ag.star,b9,List.mem_append];exact .inl x)
 ·cases d:aI ⟨b,off,sp⟩ with
  |none=>rfl
  |some v=>exact absurd hb (i ⟨b,off,sp⟩ (by simp[d]))
theorem yE {P:Program}{Φ:Goroutine->ag->Prop}{f:FuncId}{args:Array Value}{ro:Addr->Option Value}{own:List (Nat×Obj)}{K:Value->ag->Prop}(v:Value)
  (h:e9 P f args ⟨ro,[]⟩ (fun d _=>d=v)) (e:K v ⟨ro,own⟩):cK P (dP P Φ) f args ⟨ro,own⟩ K:=by
 intro c cs g
 refine yD (own:=own) h Φ c cs fun d F' i=>?_
 obtain ⟨G,rfl,rfl,j,l⟩:=i
 refine (oR P Φ).mono (F:=⟨ro,own⟩) ⟨fun w hw=>j.left hw,fun b hb=>?_,fun a k=>?_⟩ (g d ⟨ro,own⟩ e)
 ·simp only[ag.star,b9,List.mem_append];exact .inr hb
 ·exact (fR (.inl k)).imp id (fun z=>by simp only[ag.star,b9,List.mem_append];exact .inr z)
end Go.Sep
end
section
namespace Go.Sep
open Go Go.Conc Go.ConcM
def yF (P:Program)(R:Value->ag->Prop)(g:Goroutine)(F:ag):Prop:=
 ∃(fr:Frame) (fn:Func) (t:Nat) (v:Value),g=G fr []/\fr.kind= .normal/\P.inits.idxOf? fr.fn=none/\fr.mode= .returning/\fr.defers=[]/\P.funcs[fr.fn]?=some fn/\fn.results=#[.tmp t]/\fr.tmps.getD t undef=v/\R v F
def lp (P:Program)(f:FuncId)(args:Array Value)(F:ag)(R:Value->ag->Prop):Prop:=
 ∀Φ:Goroutine->ag->Prop,(∀g F',yF P R g F'->Φ g F')->dP P Φ (G (Frame.enter P f args .normal) []) F
theorem lp.go {P:Program}{f:FuncId}{fn:Func}{c:Code}{n t:Nat}{args:Array Value}{F:ag}{R:Value->ag->Prop}(g:P.funcs[f]?=some fn)(hb:fn.body=some c)(j:fn.ntmps=n)(m:fn.results=[.tmp t].toArray)(s:args.size<=n)(hi:P.inits.idxOf? f=none)
  (h:∀Φ,Closed P true (dP P Φ)->∀A:Act,sz A=n->A.defers=[]->(∀i,slot A i=args.getD i undef)->Wp (dP P Φ) c (ir P [.tmp t] R) A F):lp P f args F R:=by
 intro Φ o
 have hJ:=oR P Φ
 let b:Frame:={(default:Frame) with fn:=f,kind:=.normal}
 have p:Frame.enter P f args .normal=on b {tmps:=args++Array.replicate (fn.ntmps - args.size) undef,defers:=[]} [.code c]:=by
  simp[Frame.enter,on,g,hb,b]
  rfl
 rw[p]
 have k:∀(a:Act) (F':ag) (fr:Frame),fr.kind= .normal->fr.mode= .returning->fr.defers=a.defers->fr.fn=f->fr.tmps=a.tmps->ir P [.tmp t] R .normal a F'->dP P Φ (G fr []) F':=by
  intro a F' fr h0 h1 h2 h3 q d
  obtain ⟨hd,r⟩:=d
  refine dP.done (o _ _ ⟨fr,fn,t,_,rfl,h0,by rw[h3];exact hi,h1,by rw[h2,hd],by rw[h3];exact g,m,rfl,?_⟩)
  rw[q]
  simpa [k6,k5,oI,slot] using r
 refine h Φ hJ _ (by simp[sz,j];omega) rfl (fun i=>?_) b [] [] ⟨by simp[b],.inl rfl⟩ fun e l F' d=>?_
 ·simp only[slot,j,Array.getD_eq_getD_getElem?]
  rcases Nat.lt_or_ge i args.size with hi|hi
  ·rw[Array.getElem?_append_left hi]
  ·rw[Array.getElem?_append_right hi,Array.getElem?_replicate,Array.getElem?_eq_none hi]
   split<;>rfl
 ·cases e with
  |normal=>exact hJ.move (fun _=>kT rfl) (k l F' _ rfl rfl rfl rfl rfl d)
  |exit i=>exact d.elim
  |ret=>exact fun u=>hJ.move (fun _=>stepG_ret' rfl) (k l F' _ rfl rfl rfl rfl rfl d)
theorem lp.ends {P:Program}{f:FuncId}{args:Array Value}{F:ag}{R:Value->ag->Prop}(h:lp P f args F R){W:World}(i:Has F W){a:Value->World->Prop}
  (j:∀v F' w',R v F'->eK F F' W w'->a v w'):
  ∃M last o w' b,runNT P (M+1) (solo (G (Frame.enter P f args .normal) []) W) #[]=(.ended o w',b)/\runN P M (solo (G (Frame.enter P f args .normal) []) W)= .next last/\step P last= .ended o w'/\Go.Conc.Good P a last o w' b:=by
 obtain ⟨N,bP,w',k,b,y,g',F',l,g,c,hu,_,fr,fn,t,v,rfl,m,hi,h1,h2,h3,n,p,q⟩:=h (yF P R) (fun _ _ x=>x) (fun _=>False) #[G (Frame.enter P f args .normal) []] W none #[] (fun _=>0)
  ⟨rfl,leavers_one P _,past_nil.mono (Nat.zero_le _),i,fun _ x=>x.elim,fun _ x=>x.elim⟩
 have hg:Goes P true AtRel (fun _ _ _=>False) (AtEnd P l w'.heap.size a) 0 (G fr []) w':=by
  refine Goes.stop fun z ⟨d,hd⟩=>?_
  subst hd
  refine ⟨rfl,v,seen P fr.fn #[],?_,fun e he=>?_,j v F' _ q ⟨hu.os,hu.tape,hu.output,hu.size,hu.frame,hu.ro,hu.own⟩⟩
  ·have r:fr.tmps[t]?.getD undef=v:=by rw[<-p,Array.getD_eq_getD_getElem?]
   simp[G,stepG,unwind,h1,h2,h3,results,n,r,doReturn,GStep.after,Sem.runT,m,hi]
  ·exact absurd (mem_seen he) (by simp)
 obtain ⟨s,last,o,w2,t2,e1,e2,u,w⟩:=beside_ends (sl:=k) (fun _ _ _ x=>x.elim) c.g0 c.lv c.e6 hg
 refine ⟨N+s,last,o,w2,t2,?_,?_,u,w⟩
 ·rw[solo_eq_crowd,Nat.add_assoc,iS g,e1]
 ·rw[solo_eq_crowd,runN_add]
  have:=runNT_fst P N (crowd #[G (Frame.enter P f args .normal) []] W none) #[]
  rw[g] at this
  rw[<-this]
  exact e2
end Go.Sep
end
section
namespace Go.Proofs.YtipgiooobncfbaaGreatDoor
open Go Go.Sep Go.Proofs
set_option maxRecDepth 100000
theorem mixed:Tryz.prog.follows .mixedOrders=true:=by kernel_rfl
@[go_sem] theorem JR:cu Tryz.prog 3=some false:=by kernel_rfl
@[go_sem] theorem gm:bW Tryz.prog 3=some 1:=by kernel_rfl
theorem gq:bytesOf Tryz.prog 3=some 8:=by kernel_rfl
@[go_sem] theorem gr:zeroOf Tryz.prog 3=some (.int .i64 0):=by kernel_rfl
@[go_sem] theorem JS:cu Tryz.prog 4=some false:=by kernel_rfl
@[go_sem] theorem yG:bW Tryz.prog 4=some 1:=by kernel_rfl
@[go_sem] theorem C5:zeroOf Tryz.prog 4=some (.bool false):=by kernel_rfl
@[go_sem] theorem JU:tG Tryz.prog 4=true:=by kernel_rfl
@[go_sem] theorem JV:cu Tryz.prog 23=some true:=by kernel_rfl
@[go_sem] theorem C6:bW Tryz.prog 23=some 2:=by kernel_rfl
theorem C7:bytesOf Tryz.prog 23=some 16:=by kernel_rfl
@[go_sem] theorem uh:zeroOf Tryz.prog 23=some (.agg #[.int .i64 0,.int .i64 0]):=by kernel_rfl
@[go_sem] theorem JW:iU Tryz.prog 23=some [true,true]:=by kernel_rfl
@[go_sem] theorem JX:cD Tryz.prog 23 0=some 0:=by kernel_rfl
@[go_sem] theorem JY:cD Tryz.prog 23 1=some 1:=by kernel_rfl
@[go_sem] theorem JZ:placesOf Tryz.prog 23=some [(0,1),(1,1)]:=by kernel_rfl
@[go_sem] theorem J0:cu Tryz.prog 24=some false:=by kernel_rfl
@[go_sem] theorem J1:bW Tryz.prog 24=some 1:=by kernel_rfl
@[go_sem] theorem J2:jv Tryz.prog 24=true:=by kernel_rfl
@[go_sem] theorem yH:cT Tryz.prog 24=some 132:=by kernel_rfl
@[go_sem] theorem J3:cu Tryz.prog 25=some false:=by kernel_rfl
@[go_sem] theorem J4:bW Tryz.prog 25=some 1:=by kernel_rfl
@[go_sem] theorem J5:jv Tryz.prog 25=true:=by kernel_rfl
@[go_sem] theorem j9:cT Tryz.prog 25=some 146:=by kernel_rfl
@[go_sem] theorem J6:cu Tryz.prog 26=some false:=by kernel_rfl
@[go_sem] theorem J7:bW Tryz.prog 26=some 1:=by kernel_rfl
@[go_sem] theorem J8:jv Tryz.prog 26=true:=by kernel_rfl
@[go_sem] theorem qQ:cT Tryz.prog 26=some 148:=by kernel_rfl
@[go_sem] theorem J9:cu Tryz.prog 27=some false:=by kernel_rfl
@[go_sem] theorem Ka:bW Tryz.prog 27=some 1:=by kernel_rfl
@[go_sem] theorem Kb:jv Tryz.prog 27=true:=by kernel_rfl
@[go_sem] theorem dK:cT Tryz.prog 27=some 54:=by kernel_rfl
@[go_sem] theorem Kc:cu Tryz.prog 29=some true:=by kernel_rfl
@[go_sem] theorem Ke:bW Tryz.prog 29=some 8:=by kernel_rfl
@[go_sem] theorem Kf:zeroOf Tryz.prog 29=some (.agg #[.int .i64 0,.int .i64 0,.int .i64 0,.int .i64 0,.slice none 0 0,.slice none 0 0,.slice none 0 0,.slice none 0 0]):=by kernel_rfl
@[go_sem] theorem Kg:cD Tryz.prog 29 0=some 0:=by kernel_rfl
@[go_sem] theorem Kh:cD Tryz.prog 29 1=some 1:=by kernel_rfl
@[go_sem] theorem Ki:cD Tryz.prog 29 2=some 2:=by kernel_rfl
@[go_sem] theorem Kj:cD Tryz.prog 29 3=some 4:=by kernel_rfl
@[go_sem] theorem Kk:cD Tryz.prog 29 4=some 5:=by kernel_rfl
@[go_sem] theorem Kl:cD Tryz.prog 29 5=some 6:=by kernel_rfl
@[go_sem] theorem Km:cD Tryz.prog 29 6=some 7:=by kernel_rfl
@[go_sem] theorem Kn:placesOf Tryz.prog 29=some [(0,1),(1,1),(2,2),(4,1),(5,1),(6,1),(7,1)]:=by kernel_rfl
@[go_sem] theorem Ko:cu Tryz.prog 31=some true:=by kernel_rfl
@[go_sem] theorem Kp:bW Tryz.prog 31=some 2:=by kernel_rfl
@[go_sem] theorem Kq:zeroOf Tryz.prog 31=some (.agg #[.int .i64 0,.int .i64 0]):=by kernel_rfl
@[go_sem] theorem Kr:cD Tryz.prog 31 0=some 0:=by kernel_rfl
@[go_sem] theorem Ks:cD Tryz.prog 31 1=some 1:=by kernel_rfl
@[go_sem] theorem Kt:placesOf Tryz.prog 31=some [(0,1),(1,1)]:=by kernel_rfl
@[go_sem] theorem Ku:cu Tryz.prog 46=some false:=by kernel_rfl
@[go_sem] theorem lq:bW Tryz.prog 46=some 1:=by kernel_rfl
theorem lu:bytesOf Tryz.prog 46=some 24:=by kernel_rfl
@[go_sem] theorem lz:zeroOf Tryz.prog 46=some (.slice none 0 0):=by kernel_rfl
@[go_sem] theorem Kv:jv Tryz.prog 46=true:=by kernel_rfl
@[go_sem] theorem dL:cT Tryz.prog 46=some 3:=by kernel_rfl
@[go_sem] theorem Kw:cu Tryz.prog 54=some true:=by kernel_rfl
@[go_sem] theorem gu:bW Tryz.prog 54=some 2:=by kernel_rfl
theorem gv:bytesOf Tryz.prog 54=some 16:=by kernel_rfl
@[go_sem] theorem gw:zeroOf Tryz.prog 54=some (.agg #[.int .i64 0,.bool false]):=by kernel_rfl
@[go_sem] theorem Kx:iU Tryz.prog 54=some [true,false]:=by kernel_rfl
@[go_sem] theorem Ky:cD Tryz.prog 54 0=some 0:=by kernel_rfl
@[go_sem] theorem Kz:cD Tryz.prog 54 1=some 1:=by kernel_rfl
@[go_sem] theorem KA:placesOf Tryz.prog 54=some [(0,1),(1,1)]:=by kernel_rfl
@[go_sem] theorem KB:cu Tryz.prog 56=some true:=by kernel_rfl
@[go_sem] theorem KC:bW Tryz.prog 56=some 2:=by kernel_rfl
@[go_sem] theorem KD:zeroOf Tryz.prog 56=some (.agg #[.int .i64 0,.int .i64 0]):=by kernel_rfl
@[go_sem] theorem KE:cD Tryz.prog 56 0=some 0:=by kernel_rfl
@[go_sem] theorem KF:cD Tryz.prog 56 1=some 1:=by kernel_rfl
@[go_sem] theorem KG:placesOf Tryz.prog 56=some [(0,1),(1,1)]:=by kernel_rfl
@[go_sem] theorem KH:cu Tryz.prog 83=some true:=by kernel_rfl
@[go_sem] theorem KI:bW Tryz.prog 83=some 8:=by kernel_rfl
@[go_sem] theorem KJ:zeroOf Tryz.prog 83=some (.agg #[.int .i64 0,.int .i64 0,.int .i64 0,.int .i64 0,.slice none 0 0,.slice none 0 0,.slice none 0 0,.slice none 0 0]):=by kernel_rfl
@[go_sem] theorem KL:cD Tryz.prog 83 0=some 0:=by kernel_rfl
@[go_sem] theorem KM:placesOf Tryz.prog 83=some [(0,8)]:=by kernel_rfl
@[go_sem] theorem KN:cu Tryz.prog 86=some false:=by kernel_rfl
@[go_sem] theorem KO:bW Tryz.prog 86=some 1:=by kernel_rfl
@[go_sem] theorem KP:zeroOf Tryz.prog 86=some .nilFunc:=by kernel_rfl
@[go_sem] theorem KQ:cu Tryz.prog 90=some true:=by kernel_rfl
@[go_sem] theorem C8:bW Tryz.prog 90=some 2:=by kernel_rfl
theorem C9:bytesOf Tryz.prog 90=some 16:=by kernel_rfl
@[go_sem] theorem Da:zeroOf Tryz.prog 90=some (.agg #[.int .i64 0,.int .i64 0]):=by kernel_rfl
@[go_sem] theorem KR:iU Tryz.prog 90=some [true,true]:=by kernel_rfl
@[go_sem] theorem KS:cD Tryz.prog 90 0=some 0:=by kernel_rfl
@[go_sem] theorem KT:cD Tryz.prog 90 1=some 1:=by kernel_rfl
@[go_sem] theorem KU:placesOf Tryz.prog 90=some [(0,1),(1,1)]:=by kernel_rfl
@[go_sem] theorem KV:cu Tryz.prog 92=some true:=by kernel_rfl
@[go_sem] theorem KW:bW Tryz.prog 92=some 3:=by kernel_rfl
@[go_sem] theorem KX:zeroOf Tryz.prog 92=some (.agg #[.int .i64 0,.int .i64 0,.int .i64 0]):=by kernel_rfl
@[go_sem] theorem KY:iU Tryz.prog 92=some [true,true,true]:=by kernel_rfl
@[go_sem] theorem KZ:cD Tryz.prog 92 0=some 0:=by kernel_rfl
@[go_sem] theorem K0:cD Tryz.prog 92 1=some 1:=by kernel_rfl
@[go_sem] theorem K1:placesOf Tryz.prog 92=some [(0,1),(1,2)]:=by kernel_rfl
@[go_sem] theorem K2:cu Tryz.prog 94=some true:=by kernel_rfl
@[go_sem] theorem uj:bW Tryz.prog 94=some 6:=by kernel_rfl
theorem uk:bytesOf Tryz.prog 94=some 48:=by kernel_rfl
@[go_sem] theorem um:zeroOf Tryz.prog 94=some (.agg #[.int .i64 0,.int .i64 0,.int .i64 0,.int .i64 0,.int .i64 0,.int .i64 0]):=by kernel_rfl
@[go_sem] theorem K3:cD Tryz.prog 94 0=some 0:=by kernel_rfl
@[go_sem] theorem K4:cD Tryz.prog 94 1=some 3:=by kernel_rfl
@[go_sem] theorem K5:cD Tryz.prog 94 2=some 4:=by kernel_rfl
@[go_sem] theorem K6:tA Tryz.prog 94 2=some (4,2,true):=by kernel_rfl
@[go_sem] theorem K7:placesOf Tryz.prog 94=some [(0,3),(3,1),(4,2)]:=by kernel_rfl
@[go_sem] theorem K8:cu Tryz.prog 99=some true:=by kernel_rfl
@[go_sem] theorem K9:bW Tryz.prog 99=some 5:=by kernel_rfl
@[go_sem] theorem La:mJ Tryz.prog 99=some (5,86):=by kernel_rfl
@[go_sem] theorem mR:cT Tryz.prog 103=some 94:=by kernel_rfl
@[go_sem] theorem Lb:cu Tryz.prog 111=some false:=by kernel_rfl
@[go_sem] theorem Lc:bW Tryz.prog 111=some 1:=by kernel_rfl
@[go_sem] theorem yI:cT Tryz.prog 111=some 141:=by kernel_rfl
@[go_sem] theorem Ld:cu Tryz.prog 113=some true:=by kernel_rfl
@[go_sem] theorem Lf:bW Tryz.prog 113=some 9:=by kernel_rfl
@[go_sem] theorem Lg:zeroOf Tryz.prog 113=some (.agg #[.int .i64 0,.int .i64 0,.int .i64 0,.int .i64 0,.slice none 0 0,.slice none 0 0,.slice none 0 0,.slice none 0 0,.slice none 0 0]):=by kernel_rfl
@[go_sem] theorem Lh:cD Tryz.prog 113 0=some 0:=by kernel_rfl
@[go_sem] theorem Li:cD Tryz.prog 113 1=some 8:=by kernel_rfl
@[go_sem] theorem Lj:placesOf Tryz.prog 113=some [(0,8),(8,1)]:=by kernel_rfl
@[go_sem] theorem Ll:cu Tryz.prog 116=some false:=by kernel_rfl
@[go_sem] theorem Lm:bW Tryz.prog 116=some 1:=by kernel_rfl
@[go_sem] theorem Ln:zeroOf Tryz.prog 116=some (.slice none 0 0):=by kernel_rfl
@[go_sem] theorem yJ:cT Tryz.prog 116=some 90:=by kernel_rfl
@[go_sem] theorem fV:cT Tryz.prog 120=some 46:=by kernel_rfl
@[go_sem] theorem Lo:cu Tryz.prog 132=some true:=by kernel_rfl
@[go_sem] theorem Db:bW Tryz.prog 132=some 2:=by kernel_rfl
theorem Dc:bytesOf Tryz.prog 132=some 16:=by kernel_rfl
@[go_sem] theorem uo:zeroOf Tryz.prog 132=some (.agg #[.int .i64 0,.int .i64 0]):=by kernel_rfl
@[go_sem] theorem Lp:iU Tryz.prog 132=some [true,true]:=by kernel_rfl
@[go_sem] theorem Lq:cD Tryz.prog 132 0=some 0:=by kernel_rfl
@[go_sem] theorem Lr:cD Tryz.prog 132 1=some 1:=by kernel_rfl
@[go_sem] theorem Ls:placesOf Tryz.prog 132=some [(0,1),(1,1)]:=by kernel_rfl
@[go_sem] theorem Lt:cu Tryz.prog 141=some true:=by kernel_rfl
@[go_sem] theorem Dd:bW Tryz.prog 141=some 3:=by kernel_rfl
theorem De:bytesOf Tryz.prog 141=some 24:=by kernel_rfl
@[go_sem] theorem Df:zeroOf Tryz.prog 141=some (.agg #[.int .i64 0,.int .i64 0,.int .i64 0]):=by kernel_rfl
@[go_sem] theorem Lu:mJ Tryz.prog 141=some (3,3):=by kernel_rfl
@[go_sem] theorem Lv:cu Tryz.prog 146=some true:=by kernel_rfl
@[go_sem] theorem qR:bW Tryz.prog 146=some 2:=by kernel_rfl
theorem qS:bytesOf Tryz.prog 146=some 16:=by kernel_rfl
@[go_sem] theorem qT:zeroOf Tryz.prog 146=some (.agg #[.int .i64 0,.int .i64 0]):=by kernel_rfl
@[go_sem] theorem Lx:iU Tryz.prog 146=some [true,true]:=by kernel_rfl
@[go_sem] theorem Ly:cD Tryz.prog 146 0=some 0:=by kernel_rfl
@[go_sem] theorem Lz:cD Tryz.prog 146 1=some 1:=by kernel_rfl
@[go_sem] theorem LA:placesOf Tryz.prog 146=some [(0,1),(1,1)]:=by kernel_rfl
@[go_sem] theorem LB:cu Tryz.prog 148=some true:=by kernel_rfl
@[go_sem] theorem yK:bW Tryz.prog 148=some 3:=by kernel_rfl
theorem yL:bytesOf Tryz.prog 148=some 24:=by kernel_rfl
@[go_sem] theorem yM:zeroOf Tryz.prog 148=some (.agg #[.int .i64 0,.int .i64 0,.int .i64 0]):=by kernel_rfl
@[go_sem] theorem LC:iU Tryz.prog 148=some [true,true,true]:=by kernel_rfl
@[go_sem] theorem LD:cD Tryz.prog 148 0=some 0:=by kernel_rfl
@[go_sem] theorem LF:cD Tryz.prog 148 1=some 1:=by kernel_rfl
@[go_sem] theorem LG:placesOf Tryz.prog 148=some [(0,1),(1,2)]:=by kernel_rfl
@[go_sem] theorem LH:cu Tryz.prog 154=some false:=by kernel_rfl
@[go_sem] theorem LI:bW Tryz.prog 154=some 1:=by kernel_rfl
@[go_sem] theorem LJ:zeroOf Tryz.prog 154=some (.map none):=by kernel_rfl
@[go_sem] theorem yN:cT Tryz.prog 156=some 23:=by kernel_rfl
@[go_sem] theorem LK:cu Tryz.prog 159=some false:=by kernel_rfl
@[go_sem] theorem LL:cT Tryz.prog 160=some 86:=by kernel_rfl
@[go_sem] theorem LM:cu Tryz.prog 161=some false:=by kernel_rfl
@[go_sem] theorem LN:bW Tryz.prog 161=some 1:=by kernel_rfl
@[go_sem] theorem LO:zeroOf Tryz.prog 161=some .nilFunc:=by kernel_rfl
@[go_sem] theorem LP:cu Tryz.prog 168=some false:=by kernel_rfl
@[go_sem] theorem LQ:bW Tryz.prog 168=some 1:=by kernel_rfl
@[go_sem] theorem LR:zeroOf Tryz.prog 168=some (.slice none 0 0):=by kernel_rfl
@[go_sem] theorem LS:cT Tryz.prog 168=some 4:=by kernel_rfl
@[go_sem] theorem LU:cD Tryz.prog 173 0=some 0:=by kernel_rfl
@[go_sem] theorem LV:cD Tryz.prog 173 1=some 1:=by kernel_rfl
@[go_sem] theorem LW:zeroOf Tryz.prog 175=some (.agg #[.int .i32 0,.int .u32 0]):=by kernel_rfl
@[go_sem] theorem LX:cD Tryz.prog 175 1=some 0:=by kernel_rfl
@[go_sem] theorem LY:cD Tryz.prog 180 2=some 0:=by kernel_rfl
@[go_sem] theorem LZ:zeroOf Tryz.prog 182=some (.agg #[.int .u64 0,.int .u32 0]):=by kernel_rfl
@[go_sem] theorem L0:cD Tryz.prog 182 1=some 0:=by kernel_rfl
@[go_sem] theorem L1:cD Tryz.prog 182 2=some 1:=by kernel_rfl
@[go_sem] theorem L2:aG Tryz.prog 2=true:=by kernel_rfl
@[go_sem] theorem L3:aG Tryz.prog 3=true:=by kernel_rfl
@[go_sem] theorem L4:aG Tryz.prog 4=true:=by kernel_rfl
@[go_sem] theorem L5:aG Tryz.prog 5=true:=by kernel_rfl
@[go_sem] theorem L6:aG Tryz.prog 6=true:=by kernel_rfl
@[go_sem] theorem L7:aG Tryz.prog 7=true:=by kernel_rfl
@[go_sem] theorem L8:aG Tryz.prog 8=true:=by kernel_rfl
@[go_sem] theorem L9:aG Tryz.prog 9=true:=by kernel_rfl
@[go_sem] theorem Ma:aG Tryz.prog 10=true:=by kernel_rfl
@[go_sem] theorem Mb:aG Tryz.prog 11=true:=by kernel_rfl
@[go_sem] theorem Mc:aG Tryz.prog 12=true:=by kernel_rfl
@[go_sem] theorem Md:aG Tryz.prog 13=true:=by kernel_rfl
@[go_sem] theorem Me:aG Tryz.prog 14=true:=by kernel_rfl
@[go_sem] theorem Mf:aG Tryz.prog 15=true:=by kernel_rfl
@[go_sem] theorem Mg:aG Tryz.prog 16=true:=by kernel_rfl
@[go_sem] theorem Mh:aG Tryz.prog 17=true:=by kernel_rfl
@[go_sem] theorem Mi:aG Tryz.prog 18=true:=by kernel_rfl
@[go_sem] theorem Mj:aG Tryz.prog 19=true:=by kernel_rfl
@[go_sem] theorem Mk:aG Tryz.prog 20=true:=by kernel_rfl
@[go_sem] theorem Ml:aG Tryz.prog 21=true:=by kernel_rfl
@[go_sem] theorem Mm:aG Tryz.prog 22=true:=by kernel_rfl
@[go_sem] theorem Mn:aG Tryz.prog 23=true:=by kernel_rfl
@[go_sem] theorem Mo:aG Tryz.prog 24=true:=by kernel_rfl
@[go_sem] theorem Mq:aG Tryz.prog 25=true:=by kernel_rfl
@[go_sem] theorem Mr:aG Tryz.prog 26=true:=by kernel_rfl
@[go_sem] theorem Ms:aG Tryz.prog 27=true:=by kernel_rfl
@[go_sem] theorem Mt:aG Tryz.prog 28=true:=by kernel_rfl
@[go_sem] theorem Mv:aG Tryz.prog 29=true:=by kernel_rfl
@[go_sem] theorem Mw:aG Tryz.prog 30=true:=by kernel_rfl
@[go_sem] theorem Mx:aG Tryz.prog 31=true:=by kernel_rfl
@[go_sem] theorem My:aG Tryz.prog 32=true:=by kernel_rfl
@[go_sem] theorem Mz:aG Tryz.prog 33=true:=by kernel_rfl
@[go_sem] theorem MA:aG Tryz.prog 34=true:=by kernel_rfl
@[go_sem] theorem MB:aG Tryz.prog 35=true:=by kernel_rfl
@[go_sem] theorem MC:aG Tryz.prog 36=true:=by kernel_rfl
@[go_sem] theorem MD:aG Tryz.prog 37=true:=by kernel_rfl
@[go_sem] theorem ME:aG Tryz.prog 38=true:=by kernel_rfl
@[go_sem] theorem MF:aG Tryz.prog 39=true:=by kernel_rfl
@[go_sem] theorem MG:aG Tryz.prog 40=true:=by kernel_rfl
@[go_sem] theorem MH:aG Tryz.prog 41=true:=by kernel_rfl
@[go_sem] theorem MI:aG Tryz.prog 42=true:=by kernel_rfl
@[go_sem] theorem MJ:aG Tryz.prog 43=true:=by kernel_rfl
@[go_sem] theorem MK:aG Tryz.prog 44=true:=by kernel_rfl
@[go_sem] theorem ML:aG Tryz.prog 45=true:=by kernel_rfl
@[go_sem] theorem MM:aG Tryz.prog 46=true:=by kernel_rfl
@[go_sem] theorem MN:aG Tryz.prog 47=true:=by kernel_rfl
@[go_sem] theorem MO:aG Tryz.prog 48=true:=by kernel_rfl
@[go_sem] theorem MP:aG Tryz.prog 49=true:=by kernel_rfl
@[go_sem] theorem MQ:aG Tryz.prog 50=true:=by kernel_rfl
@[go_sem] theorem MR:aG Tryz.prog 51=true:=by kernel_rfl
@[go_sem] theorem MS:aG Tryz.prog 52=true:=by kernel_rfl
@[go_sem] theorem MT:aG Tryz.prog 53=true:=by kernel_rfl
@[go_sem] theorem MU:aG Tryz.prog 54=true:=by kernel_rfl
@[go_sem] theorem MV:aG Tryz.prog 55=true:=by kernel_rfl
@[go_sem] theorem MW:aG Tryz.prog 56=true:=by kernel_rfl
@[go_sem] theorem MX:aG Tryz.prog 57=true:=by kernel_rfl
@[go_sem] theorem MY:aG Tryz.prog 58=true:=by kernel_rfl
@[go_sem] theorem MZ:aG Tryz.prog 59=true:=by kernel_rfl
@[go_sem] theorem M0:aG Tryz.prog 60=true:=by kernel_rfl
@[go_sem] theorem M1:aG Tryz.prog 61=true:=by kernel_rfl
@[go_sem] theorem M3:aG Tryz.prog 62=true:=by kernel_rfl
@[go_sem] theorem M4:aG Tryz.prog 63=true:=by kernel_rfl
@[go_sem] theorem M5:aG Tryz.prog 64=true:=by kernel_rfl
@[go_sem] theorem M6:aG Tryz.prog 65=true:=by kernel_rfl
@[go_sem] theorem M7:aG Tryz.prog 66=true:=by kernel_rfl
@[go_sem] theorem M8:aG Tryz.prog 67=true:=by kernel_rfl
@[go_sem] theorem M9:aG Tryz.prog 68=true:=by kernel_rfl
@[go_sem] theorem Na:aG Tryz.prog 69=true:=by kernel_rfl
@[go_sem] theorem Nb:aG Tryz.prog 70=true:=by kernel_rfl
@[go_sem] theorem Nc:aG Tryz.prog 71=true:=by kernel_rfl
@[go_sem] theorem Nf:aG Tryz.prog 72=true:=by kernel_rfl
@[go_sem] theorem Ng:aG Tryz.prog 73=true:=by kernel_rfl
@[go_sem] theorem Nh:aG Tryz.prog 74=true:=by kernel_rfl
@[go_sem] theorem Ni:aG Tryz.prog 75=true:=by kernel_rfl
@[go_sem] theorem Nj:aG Tryz.prog 76=true:=by kernel_rfl
@[go_sem] theorem Nk:aG Tryz.prog 77=true:=by kernel_rfl
@[go_sem] theorem Nl:aG Tryz.prog 78=true:=by kernel_rfl
@[go_sem] theorem Nm:aG Tryz.prog 79=true:=by kernel_rfl
@[go_sem] theorem Nn:aG Tryz.prog 80=true:=by kernel_rfl
@[go_sem] theorem No:aG Tryz.prog 81=true:=by kernel_rfl
@[go_sem] theorem Np:aG Tryz.prog 82=true:=by kernel_rfl
@[go_sem] theorem Nq:aG Tryz.prog 83=true:=by kernel_rfl
@[go_sem] theorem Nr:aG Tryz.prog 84=true:=by kernel_rfl
@[go_sem] theorem Ns:aG Tryz.prog 85=true:=by kernel_rfl
@[go_sem] theorem Nt:aG Tryz.prog 86=true:=by kernel_rfl
@[go_sem] theorem Nu:aG Tryz.prog 87=true:=by kernel_rfl
@[go_sem] theorem Nv:aG Tryz.prog 88=true:=by kernel_rfl
@[go_sem] theorem Nw:aG Tryz.prog 89=true:=by kernel_rfl
@[go_sem] theorem Ny:aG Tryz.prog 90=true:=by kernel_rfl
@[go_sem] theorem Nz:aG Tryz.prog 91=true:=by kernel_rfl
@[go_sem] theorem NA:aG Tryz.prog 92=true:=by kernel_rfl
@[go_sem] theorem NB:aG Tryz.prog 93=true:=by kernel_rfl
@[go_sem] theorem NC:aG Tryz.prog 94=true:=by kernel_rfl
@[go_sem] theorem ND:aG Tryz.prog 95=true:=by kernel_rfl
@[go_sem] theorem NF:aG Tryz.prog 96=true:=by kernel_rfl
@[go_sem] theorem NG:aG Tryz.prog 97=true:=by kernel_rfl
@[go_sem] theorem NH:aG Tryz.prog 98=true:=by kernel_rfl
@[go_sem] theorem NI:aG Tryz.prog 99=true:=by kernel_rfl
@[go_sem] theorem NJ:aG Tryz.prog 100=true:=by kernel_rfl
@[go_sem] theorem NK:aG Tryz.prog 101=true:=by kernel_rfl
@[go_sem] theorem NL:aG Tryz.prog 102=true:=by kernel_rfl
@[go_sem] theorem NM:aG Tryz.prog 103=true:=by kernel_rfl
@[go_sem] theorem NN:aG Tryz.prog 104=true:=by kernel_rfl
@[go_sem] theorem NO:aG Tryz.prog 105=true:=by kernel_rfl
@[go_sem] theorem NP:aG Tryz.prog 106=true:=by kernel_rfl
@[go_sem] theorem NQ:aG Tryz.prog 107=true:=by kernel_rfl
@[go_sem] theorem NR:aG Tryz.prog 108=true:=by kernel_rfl
@[go_sem] theorem NS:aG Tryz.prog 109=true:=by kernel_rfl
@[go_sem] theorem NT:aG Tryz.prog 110=true:=by kernel_rfl
@[go_sem] theorem NU:aG Tryz.prog 111=true:=by kernel_rfl
@[go_sem] theorem NV:aG Tryz.prog 112=true:=by kernel_rfl
@[go_sem] theorem NW:aG Tryz.prog 113=true:=by kernel_rfl
@[go_sem] theorem NX:aG Tryz.prog 114=true:=by kernel_rfl
@[go_sem] theorem NY:aG Tryz.prog 115=true:=by kernel_rfl
@[go_sem] theorem NZ:aG Tryz.prog 116=true:=by kernel_rfl
@[go_sem] theorem N0:aG Tryz.prog 117=true:=by kernel_rfl
@[go_sem] theorem N1:aG Tryz.prog 118=true:=by kernel_rfl
@[go_sem] theorem N2:aG Tryz.prog 119=true:=by kernel_rfl
@[go_sem] theorem N3:aG Tryz.prog 120=true:=by kernel_rfl
@[go_sem] theorem N4:aG Tryz.prog 121=true:=by kernel_rfl
@[go_sem] theorem N5:aG Tryz.prog 122=true:=by kernel_rfl
@[go_sem] theorem N6:aG Tryz.prog 123=true:=by kernel_rfl
@[go_sem] theorem N7:aG Tryz.prog 124=true:=by kernel_rfl
@[go_sem] theorem N8:aG Tryz.prog 125=true:=by kernel_rfl
@[go_sem] theorem N9:aG Tryz.prog 126=true:=by kernel_rfl
@[go_sem] theorem Oa:aG Tryz.prog 127=true:=by kernel_rfl
@[go_sem] theorem Ob:aG Tryz.prog 128=true:=by kernel_rfl
@[go_sem] theorem yO:aG Tryz.prog 129=true:=by kernel_rfl
@[go_sem] theorem Oc:aG Tryz.prog 130=true:=by kernel_rfl
@[go_sem] theorem Od:aG Tryz.prog 131=true:=by kernel_rfl
@[go_sem] theorem Oe:aG Tryz.prog 132=true:=by kernel_rfl
@[go_sem] theorem Of:aG Tryz.prog 133=true:=by kernel_rfl
@[go_sem] theorem Dg:aG Tryz.prog 134=true:=by kernel_rfl
@[go_sem] theorem Dh:aG Tryz.prog 135=true:=by kernel_rfl
@[go_sem] theorem Di:aG Tryz.prog 136=true:=by kernel_rfl
@[go_sem] theorem Og:aG Tryz.prog 137=true:=by kernel_rfl
@[go_sem] theorem Oh:aG Tryz.prog 138=true:=by kernel_rfl
@[go_sem] theorem Oi:aG Tryz.prog 139=true:=by kernel_rfl
@[go_sem] theorem Oj:aG Tryz.prog 140=true:=by kernel_rfl
@[go_sem] theorem Ok:aG Tryz.prog 141=true:=by kernel_rfl
@[go_sem] theorem Ol:aG Tryz.prog 142=true:=by kernel_rfl
@[go_sem] theorem Om:aG Tryz.prog 143=true:=by kernel_rfl
@[go_sem] theorem On:aG Tryz.prog 144=true:=by kernel_rfl
@[go_sem] theorem Oo:aG Tryz.prog 145=true:=by kernel_rfl
@[go_sem] theorem Oq:aG Tryz.prog 146=true:=by kernel_rfl
@[go_sem] theorem Ot:aG Tryz.prog 147=true:=by kernel_rfl
@[go_sem] theorem Ou:aG Tryz.prog 148=true:=by kernel_rfl
@[go_sem] theorem Ov:aG Tryz.prog 149=true:=by kernel_rfl
@[go_sem] theorem Ow:aG Tryz.prog 150=true:=by kernel_rfl
@[go_sem] theorem Ox:aG Tryz.prog 157=true:=by kernel_rfl
@[go_sem] theorem yP:aG Tryz.prog 158=true:=by kernel_rfl
@[go_sem] theorem uq:aG Tryz.prog 160=true:=by kernel_rfl
@[go_sem] theorem Dj:aG Tryz.prog 161=true:=by kernel_rfl
@[go_sem] theorem Oy:aG Tryz.prog 164=true:=by kernel_rfl
@[go_sem] theorem Dk:aG Tryz.prog 165=true:=by kernel_rfl
@[go_sem] theorem Dl:aG Tryz.prog 166=true:=by kernel_rfl
@[go_sem] theorem Dm:aG Tryz.prog 169=true:=by kernel_rfl
@[go_sem] theorem Oz:aG Tryz.prog 172=true:=by kernel_rfl
@[go_sem] theorem OA:aG Tryz.prog 173=true:=by kernel_rfl
@[go_sem] theorem OB:aG Tryz.prog 174=true:=by kernel_rfl
@[go_sem] theorem OC:aG Tryz.prog 175=true:=by kernel_rfl
@[go_sem] theorem OD:aG Tryz.prog 176=true:=by kernel_rfl
@[go_sem] theorem OE:aG Tryz.prog 181=true:=by kernel_rfl
@[go_sem] theorem Dn:aG Tryz.prog 183=true:=by kernel_rfl
@[go_sem] theorem Dp:aG Tryz.prog 185=true:=by kernel_rfl
@[go_sem] theorem OF:aG Tryz.prog 187=true:=by kernel_rfl
@[go_sem] theorem OG:aG Tryz.prog 188=true:=by kernel_rfl
@[go_sem] theorem OH:aG Tryz.prog 189=true:=by kernel_rfl
@[go_sem] theorem OI:aG Tryz.prog 190=true:=by kernel_rfl
@[go_sem] theorem OJ:aG Tryz.prog 191=true:=by kernel_rfl
@[go_sem] theorem OK:aG Tryz.prog 192=true:=by kernel_rfl
@[go_sem] theorem OL:aG Tryz.prog 193=true:=by kernel_rfl
@[go_sem] theorem OM:aG Tryz.prog 194=true:=by kernel_rfl
@[go_sem] theorem ON:aG Tryz.prog 195=true:=by kernel_rfl
@[go_sem] theorem OO:aG Tryz.prog 196=true:=by kernel_rfl
@[go_sem] theorem OP:aG Tryz.prog 197=true:=by kernel_rfl
@[go_sem] theorem OQ:aG Tryz.prog 198=true:=by kernel_rfl
@[go_sem] theorem OR:aG Tryz.prog 206=true:=by kernel_rfl
@[go_sem] theorem OS:aG Tryz.prog 207=true:=by kernel_rfl
@[go_sem] theorem OT:aG Tryz.prog 208=true:=by kernel_rfl
@[go_sem] theorem OU:aG Tryz.prog 209=true:=by kernel_rfl
@[go_sem] theorem OV:aG Tryz.prog 210=true:=by kernel_rfl
@[go_sem] theorem OW:aG Tryz.prog 211=true:=by kernel_rfl
@[go_sem] theorem OX:aG Tryz.prog 228=true:=by kernel_rfl
@[go_sem] theorem OY:aG Tryz.prog 229=true:=by kernel_rfl
@[go_sem] theorem OZ:aG Tryz.prog 230=true:=by kernel_rfl
@[go_sem] theorem O0:aG Tryz.prog 231=true:=by kernel_rfl
@[go_sem] theorem O1:aG Tryz.prog 232=true:=by kernel_rfl
@[go_sem] theorem O2:aG Tryz.prog 236=true:=by kernel_rfl
end Go.Proofs.YtipgiooobncfbaaGreatDoor
end
section
namespace Go.Sep
open Go Go.Conc
def jz (o:Oper):Option (TypeId×Nat):=match o.op,o.dst,o.guard with
 | .alloc t,some d,none=>some (t,d)
 |_,_,_=>none
def yQ (ops:Array Oper)(m:Nat):Bool:=
 k7 ops (m+1)&&decide (m+2<=ops.size)&&
 (match (ops[m]?).bind jz,(ops[m+1]?).bind jz with|some (_,d),some (_,a)=>!(d==a)|_,_=>false)&&
 decide (Region.ready .any ops (cE ops.size m)=[m,m+1])&&decide (Region.ready .any ops ((cE ops.size m).setIfInBounds (m+1) true)=[m])
theorem yR {ro:Addr->Option Value}{x y:Nat×Obj}{l:List (Nat×Obj)}:Le ⟨ro,x::y::l⟩ ⟨ro,y::x::l⟩:=by
 have c:∀b,b∈keys (x::y::l)↔b∈keys (y::x::l):=fun b=>by
  simp only[keys,List.map_cons,List.mem_cons]
  exact ⟨fun h=>by rcases h with h|h|h;exact .inr (.inl h);exact .inl h;exact .inr (.inr h),fun h=>by rcases h with h|h|h;exact .inr (.inl h);exact .inl h;exact .inr (.inr h)⟩
 refine ⟨fun w hw=>⟨hw.ro,fun b o hb=>hw.own b o ?_,?_,fun a v h hm=>hw.apart a v h ((c _).1 hm)⟩,fun b hb=>(c b).1 hb,fun a d=>.inl d⟩
 ·rcases List.mem_cons.1 hb with h|h
  ·exact List.mem_cons_of_mem _ (h▸List.mem_cons_self)
  ·rcases List.mem_cons.1 h with h|h
   ·exact h▸List.mem_cons_self
   ·exact List.mem_cons_of_mem _ (List.mem_cons_of_mem _ h)
 ·have:=hw.nodup
  simp only[keys,List.map_cons,List.nodup_cons,List.mem_cons,not_or] at this ⊢
  exact ⟨⟨fun e=>this.1.1 e.symm,this.2.1⟩,this.1.2,this.2.2⟩
section
variable {P : Program} {main : Bool} {J : Goroutine → ag → Prop} {ops : Array Oper} {Q : Act → ag → Prop} {F0 : ag}
theorem yS {o:Oper}{t:TypeId}{d:Nat}(h:jz o=some (t,d)):o.op= .alloc t/\o.dst=some d/\o.guard=none:=by
 unfold jz at h
 split at h
 ·rename_i h1 h2 h3;cases h;exact ⟨h1,h2,h3⟩
 ·cases h
theorem oT {o:Oper}{a:Act}(h:o.guard=none):cq ops o a=some true:=by unfold cq;rw[h]
theorem uu {o:Oper}{t:TypeId}{a:Act}{F:ag}{z:Value}{R:Value->ag->Prop}{D:Deferred->ag->Prop}(d:o.op= .alloc t)(e:zeroOf P t=some z)
  (h:∀b,dD F b->∃c,Le c (F.push b (.cells z.cells t))/\R (.pointer (some ⟨b,0,none⟩)) c):aS P (execOp a.eval o) (jq P J R D) F:=by
 have:Oper.mM o=false:=by unfold Oper.mM;rw[d]
 refine yp (R:=fun v F=>∃c,Le c F/\R v c) this ?_
 unfold cB
 rw[d]
 simp only[e]
 exact h
theorem Dq (m:Nat){o1 o2:Oper}{rest:List Oper}{t1 t2 d1 d2:Nat}(hm:m+2<=ops.size)(v:ops[m]?=some o1)(w:ops[m+1]?=some o2)(K:jz o1=some (t1,d1))(L:jz o2=some (t2,d2)){p:Value}(y:zeroOf P t2=some p)(hd:¬d1=d2)
  (A:ops.toList.drop (m+2)=rest) (B:Region.ready .any ops (cE ops.size m)=[m,m+1]) (C:Region.ready .any ops ((cE ops.size m).setIfInBounds (m+1) true)=[m])
  (D:∀j,j<ops.size - (m+1)->Region.ready .any ops (cE ops.size (m+1+j))=[m+1+j]) (E:Region.ready .any ops (cE ops.size ops.size)=[])
  {a:Act} {F:ag} (q:Knows F0 F) (h:er P J ops F0 Q (o1::o2::rest) true a F):dr P J ops Q (Knows F0) (ops.size - m) (cE ops.size m) a F:=by
 obtain ⟨e1,r,s⟩:=yS K
 obtain ⟨e2,G,H⟩:=yS L
 have M:ops.size - m=(ops.size - (m+1))+1:=by omega
 have N:ops.size - (m+1)=(ops.size - (m+2))+1:=by omega
 unfold er at h
 rw[oT s] at h
 simp only at h
 have k:∃z,zeroOf P t1=some z:=by
  unfold cB at h
  rw[e1] at h
  simp only at h
  split at h
  ·rename_i z O;exact ⟨z,O⟩
  ·exact h.elim
 obtain ⟨g,k⟩:=k
 have h1:∀b,dD F b->Knows F0 (F.push b (.cells g.cells t1))/\er P J ops F0 Q (o2::rest) (!Oper.calls o1) (aY a (some d1) (.pointer (some ⟨b,0,none⟩))) (F.push b (.cells g.cells t1)):=by
  unfold cB at h
  rw[e1] at h
  simp only[k,r] at h
  exact h
 have h2:∀b,dD F b->∀f,dD (F.push b (.cells g.cells t1)) f->Knows F0 ((F.push b (.cells g.cells t1)).push f (.cells p.cells t2))/\
   er P J ops F0 Q rest (!Oper.calls o2) (aY (aY a (some d1) (.pointer (some ⟨b,0,none⟩))) (some d2) (.pointer (some ⟨f,0,none⟩))) ((F.push b (.cells g.cells t1)).push f (.cells p.cells t2)):=by
  intro b hb
  have:=(h1 b hb).2
  unfold er at this
  rw[oT H] at this
  simp only at this
  unfold cB at this
  rw[e2] at this
  simp only[y,G] at this
  exact this
 have I:=mP (n:=ops.size) (m:=m) (by omega)
 have R:=mP (n:=ops.size) (m:=m+1) (by omega)
 rw[M]
 refine ⟨fun h0=>(by rw[B] at h0;cases h0),fun i hi=>?_⟩
 rw[B] at hi
 simp only[List.mem_cons,List.not_mem_nil,or_false] at hi
 rcases hi with hi|hi
 ·subst hi
  unfold dn
  simp only[v]
  rw[if_pos (b7 (oT s))]
  refine uu e1 k fun b hb=>⟨_,Le.refl _,(h1 b hb).1,?_⟩
  rw[I,r]
  exact j7 (i+1) D E (o2::rest) (i+1) _ _ _ (Nat.le_refl _) (by omega) (by
   have:=List.drop_eq_getElem_cons (l:=ops.toList) (i:=i+1) (by simp;omega)
   rw[this,A]
   obtain ⟨_,he⟩:=Array.getElem?_eq_some_iff.1 w
   simp[he]) (h1 b hb).2
 ·subst hi
  unfold dn
  simp only[w]
  rw[if_pos (b7 (oT H))]
  refine uu e2 y fun f t=>⟨_,Le.refl _,?_,?_⟩
  ·refine ⟨q.1,q.2.1,?_⟩
   have S:∀(l own:List (Nat×Obj)),ak own f->iu l own->iu l ((f,.cells p.cells t2)::own):=fun l own T u=>by
    induction l with
    |nil=>trivial
    |cons x l ih=>
     obtain ⟨c,o⟩:=x
     refine ⟨?_,ih u.2⟩
     have U:¬f=c:=fun e=>j8 T (e▸eD (gf u.1))
     simp only[lk,if_neg U]
     exact u.1
   exact S _ _ t.own q.2.2
  ·rw[N]
   refine ⟨fun h0=>(by rw[C] at h0;cases h0),fun i hi=>?_⟩
   rw[C] at hi
   simp only[List.mem_cons,List.not_mem_nil,or_false] at hi
   subst hi
   unfold dn
   simp only[v]
   rw[if_pos (b7 (oT s))]
   refine uu e1 k fun b hb=>?_
   have V:dD F b:=⟨hb.ro,hb.own.2⟩
   have W:¬f=b:=fun e=>hb.own.1 e.symm
   have X:dD (F.push b (.cells g.cells t1)) f:=⟨t.ro,⟨W,t.own⟩⟩
   obtain ⟨Y,Z⟩:=h2 b V f X
   refine ⟨_,yR,Y,?_⟩
   have ab:aY (aY a o2.dst (.pointer (some ⟨f,0,none⟩))) o1.dst (.pointer (some ⟨b,0,none⟩))=aY (aY a (some d1) (.pointer (some ⟨b,0,none⟩))) (some d2) (.pointer (some ⟨f,0,none⟩)):=by
    rw[r,G]
    exact Act.put_comm a _ _ (fun d ad=>by cases ad;intro e;cases e;exact hd rfl)
   have hs:((cE ops.size i).setIfInBounds (i+1) true).setIfInBounds i true=cE ops.size (i+2):=by
    rw[Array.setIfInBounds_comm _ _ (by omega:i+1≠i),I,R]
   show dr P J ops Q (Knows F0) (ops.size - (i+2)) _ (aY (aY a o2.dst _) o1.dst _) _
   rw[hs,ab]
   exact j7 (i+1) D E rest (i+2) _ _ _ (by omega) hm A Z
theorem qU {Q:Ex->Act->ag->Prop}(hJ:Closed P main J)(o:P.follows .mixedOrders=true)(m:Nat){id:Nat}{a:Act}{F:ag}(F0:ag)(e:Knows F0 F)(f:yQ ops m=true)(t2:TypeId){p:Value}(g:((ops[m+1]?).bind jz).map (·.1)=some t2)(q:zeroOf P t2=some p)
  (h:dI P J ops F0 (fun j=>er P J ops F0 (Q .normal) (ops.toList.drop m) true j F) (ops.toList.take m) true a):Wp J (.region id ops true) Q a F:=by
 simp only[yQ,Bool.and_eq_true,decide_eq_true_eq] at f
 obtain ⟨⟨⟨⟨r,hm⟩,b⟩,s⟩,t⟩:=f
 have k:=tV r
 simp only[mO,Bool.and_eq_true,decide_eq_true_eq,List.all_eq_true,List.mem_range] at k
 obtain ⟨⟨⟨⟨h1,h2⟩,h3⟩,u⟩,v⟩:=k
 cases c:(ops[m]?).bind jz with
 |none=>rw[c] at b;cases b
 |some w=>
  cases d:(ops[m+1]?).bind jz with
  |none=>rw[c,d] at b;cases b
  |some x=>
   obtain ⟨t1,d1⟩:=w
   obtain ⟨y,d2⟩:=x
   rw[d] at g
   obtain rfl:y=t2:=by simpa using g
   rw[c,d] at b
   obtain ⟨o1,e1,a1⟩:=Option.bind_eq_some_iff.1 c
   obtain ⟨o2,e2,a2⟩:=Option.bind_eq_some_iff.1 d
   have hd:¬d1=d2:=by simpa using b
   have z:ops.toList.drop m=o1::o2::ops.toList.drop (m+2):=by
    obtain ⟨A,c1⟩:=Array.getElem?_eq_some_iff.1 e1
    obtain ⟨b2,c2⟩:=Array.getElem?_eq_some_iff.1 e2
    rw[List.drop_eq_getElem_cons (l:=ops.toList) (i:=m) (by simpa using A),List.drop_eq_getElem_cons (l:=ops.toList) (i:=m+1) (by simpa using b2)]
    simp[c1,c2]
   refine qw hJ (Knows F0) o ?_
   rw[<-tX]
   have:=oL (P:=P) (J:=J) (Q:=Q .normal) m (by omega) h1 (fun i hi=>by have:=h3 i (by omega);simpa using this) e (fun j n=>by
    rw[z] at n
    exact Dq (F0:=F0) m hm e1 e2 a1 a2 q hd rfl s t u v e n) _ 0 true a (by simp) (Nat.zero_le _) h
   simpa using this
end
def pick (ops:Array Oper):List Nat->List Oper
 |[]=>[]
 |i::is=>match ops[i]? with
  |some o=>o::pick ops is
  |none=>pick ops is
def uv:List Nat->Array Bool->Array Bool
 |[],L=>L
 |i::is,L=>uv is (L.setIfInBounds i true)
def qV (ops:Array Oper):List Nat->Array Bool->Bool
 |[],_=>true
 |i::is,L=>Region.free .any ops L i&&(Region.ready .any ops L).contains i&&(ops[i]?).isSome&&qV ops is (L.setIfInBounds i true)
def oU (ops:Array Oper):List Nat->Array Bool->Bool
 |[],L=>decide (Region.ready .any ops L=[])
 |i::is,L=>decide (Region.ready .any ops L=[i])&&(ops[i]?).isSome&&oU ops is (L.setIfInBounds i true)
def yT (ops:Array Oper)(is a:List Nat):Bool:=
 Region.noSelect ops&&qV ops is (Array.replicate ops.size false)&&oU ops a (uv is (Array.replicate ops.size false))&&decide (is.length+a.length=ops.size)
section
variable {P : Program} {main : Bool} {J : Goroutine → ag → Prop} {ops : Array Oper} {Q : Act → ag → Prop} {F0 : ag}
theorem yU {K:Act->Prop}(m:Region.noSelect ops=true){F:ag}(b:Knows F0 F)(fuel:Nat):
  ∀(is:List Nat) (L:Array Bool) (go:Bool) (a:Act),qV ops is L=true->dI P J ops F0 K (pick ops is) go a->(∀n,K n->dr P J ops Q (Knows F0) fuel (uv is L) n F)->
   dr P J ops Q (Knows F0) (fuel+is.length) L a F
 |[],L,go,a,_,h,k=>by unfold pick dI at h;exact k a h
 |i::is,L,go,a,p,h,k=>by
  simp only[qV,Bool.and_eq_true] at p
  obtain ⟨⟨⟨c1,c2⟩,c3⟩,c4⟩:=p
  obtain ⟨o,c⟩:=Option.isSome_iff_exists.1 c3
  have g:(Region.noSelect ops&&Region.free .any ops L i&&(Region.ready .any ops L).contains i)=true:=by rw[m,c1,c2];rfl
  have q:pick ops (i::is)=o::pick ops is:=by simp only[pick,c]
  rw[q] at h
  have e:fuel+(i::is).length=(fuel+is.length)+1:=by simp only[List.length_cons];omega
  rw[e]
  have next:∀go v,dI P J ops F0 K (pick ops is) go (aY a o.dst v)->dr P J ops Q (Knows F0) (fuel+is.length) (L.setIfInBounds i true) (aY a o.dst v) F:=fun go v d=>
   yU m b fuel is _ go _ c4 d k
  unfold dI at h
  split at h
  ·rename_i hg
   exact yu i c g hg b (next true undef h)
  ·rename_i hg
   split at h
   ·rename_i t x l
    split at h
    case h_2=>exact h.elim
    rename_i ad r
    split at h
    case h_2=>exact h.elim
    rename_i v d
    refine mN i v c g hg (fun F R j f=>?_) b (next _ v h)
    unfold cB
    simp only[l,r,j.eR d]
    exact f
   ·rename_i x args argTypes l
    split at h
    case h_2=>exact h.elim
    rename_i fn first captured s
    obtain ⟨u,v,w,h⟩:=h
    refine mN i v c g hg (fun F R j f=>?_) b (next _ v h)
    unfold cB
    simp only[l,s]
    exact ⟨u,(w F j).mono fun z F' y=>by obtain ⟨rfl,rfl⟩:=y;exact f⟩
   ·split at h
    case h_2=>exact h.elim
    rename_i v d
    exact mN i v c g hg (fun F R j f=>qO d f) b (next _ v h)
  ·exact h.elim
theorem yV:∀(b:List Nat) (L:Array Bool) (go:Bool) (a:Act) (F:ag),oU ops b L=true->er P J ops F0 Q (pick ops b) go a F->dr P J ops Q (Knows F0) b.length L a F
 |[],L,go,a,F,c,h=>by
  simp only[oU,decide_eq_true_eq] at c
  unfold pick er at h
  exact tg c h _
 |j::b,L,go,a,F,c,h=>by
  simp only[oU,Bool.and_eq_true,decide_eq_true_eq] at c
  obtain ⟨⟨c1,c3⟩,c4⟩:=c
  obtain ⟨o,d⟩:=Option.isSome_iff_exists.1 c3
  have e:pick ops (j::b)=o::pick ops b:=by simp only[pick,d]
  rw[e] at h
  unfold er at h
  split at h
  ·rename_i hg
   refine tP j d c1 hg ?_
   refine j7.oM ?_ h
   rintro v F' ⟨h1,h2⟩
   exact ⟨h1,yV b _ _ _ F' c4 h2⟩
  ·exact h.elim
theorem Dr {Q:Ex->Act->ag->Prop}(hJ:Closed P main J)(e:P.follows .mixedOrders=true)(is b:List Nat){id:Nat}{a:Act}{F:ag}(F0:ag)(f:Knows F0 F)(d:yT ops is b=true)
  (h:dI P J ops F0 (fun c=>er P J ops F0 (Q .normal) (pick ops b) true c F) (pick ops is) true a):Wp J (.region id ops true) Q a F:=by
 simp only[yT,Bool.and_eq_true,decide_eq_true_eq] at d
 obtain ⟨⟨⟨h1,h2⟩,h3⟩,i⟩:=d
 refine qw hJ (Knows F0) e ?_
 have:=yU (P:=P) (J:=J) (Q:=Q .normal) h1 f b.length is _ true a h2 h (fun c g=>yV b _ true c F h3 g)
 rwa [show b.length+is.length=ops.size by omega] at this
end
attribute [go_sem] pick
inductive jA where
 |done
 |rd (i:Nat) (p:jA)
 |one (i:Nat) (p:jA)
 |two (i:Nat) (p:jA) (j:Nat) (q:jA)
inductive kg where
 |done
 |rd (o:Oper) (p:kg)
 |one (o:Oper) (p:kg)
 |two (o:Oper) (p:kg) (o':Oper) (q:kg)
 |bad
def jA.opers (ops:Array Oper):jA->kg
 | .done=>.done
 | .rd i p=>match ops[i]? with
  |some o=>.rd o (p.opers ops)
  |none=>.bad
 | .one i p=>match ops[i]? with
  |some o=>.one o (p.opers ops)
  |none=>.bad
 | .two i p j q=>match ops[i]?,ops[j]? with
  |some o,some o'=>.two o (p.opers ops) o' (q.opers ops)
  |_,_=>.bad
def jA.len:jA->Nat
 | .done=>0
 | .rd _ p=>p.len+1
 | .one _ p=>p.len+1
 | .two _ p _ q=>max p.len q.len+1
def fl (P:Program)(J:Goroutine->ag->Prop)(ops:Array Oper)(F0:ag)(Q:Act->ag->Prop):kg->Bool->Act->ag->Prop
 | .done,_,a,F=>Q a F
 | .bad,_,_,_=>False
 | .rd o p,_,a,F=>match cq ops o a with
  |some false=>fl P J ops F0 Q p true (aY a o.dst undef) F
  |some true=>match o.op with
   | .load t x=>match ev a x with
    | .pointer (some ad)=>match eR P F0 t ad with
     |some v=>fl P J ops F0 Q p true (aY a o.dst v) F
     |none=>False
    |_=>False
   | .call {callee:=.value x,args, ..}=>match ev a x with
    | .func (.func fn) first captured=>aG P fn=true/\∃v,Plain P J F0 fn (first++args.map (ev a)++captured) v/\fl P J ops F0 Q p false (aY a o.dst v) F
    |_=>False
   |_=>match iw P o a with
    |some v=>fl P J ops F0 Q p true (aY a o.dst v) F
    |none=>False
  |none=>False
 | .one o p,_,a,F=>match cq ops o a with
  |some true=>cB P J o (fun v F'=>Knows F0 F'/\fl P J ops F0 Q p (!Oper.calls o) (aY a o.dst v) F') a F
  |_=>False
 | .two o p o' q,_,a,F=>(match cq ops o a with
  |some true=>cB P J o (fun v F'=>Knows F0 F'/\fl P J ops F0 Q p (!Oper.calls o) (aY a o.dst v) F') a F
  |_=>False)/\(match cq ops o' a with
  |some true=>cB P J o' (fun v F'=>Knows F0 F'/\fl P J ops F0 Q q (!Oper.calls o') (aY a o'.dst v) F') a F
  |_=>False)
section
variable {P : Program} {main : Bool} {J : Goroutine → ag → Prop} {ops : Array Oper} {Q : Act → ag → Prop} {F0 : ag}
end
theorem Ds {P:Program}{J:Goroutine->ag->Prop}{ops:Array Oper}{F0:ag}{Q:Act->ag->Prop}{go:Bool}{a:Act}{F:ag}:fl P J ops F0 Q .done go a F=Q a F:=rfl
theorem Dt {P:Program}{J:Goroutine->ag->Prop}{ops:Array Oper}{F0:ag}{Q:Act->ag->Prop}{o:Oper}{p:kg}{a:Act}{F:ag}:fl P J ops F0 Q (.rd o p) true a F=match cq ops o a with
  |some false=>fl P J ops F0 Q p true (aY a o.dst undef) F
  |some true=>match o.op with
   | .load t x=>match ev a x with
    | .pointer (some ad)=>match eR P F0 t ad with
     |some v=>fl P J ops F0 Q p true (aY a o.dst v) F
     |none=>False
    |_=>False
   | .call {callee:=.value x,args, ..}=>match ev a x with
    | .func (.func fn) first captured=>aG P fn=true/\∃v,Plain P J F0 fn (first++args.map (ev a)++captured) v/\fl P J ops F0 Q p false (aY a o.dst v) F
    |_=>False
   |_=>match iw P o a with
    |some v=>fl P J ops F0 Q p true (aY a o.dst v) F
    |none=>False
  |none=>False:=(Eq.refl _).trans (Eq.refl _)
theorem Du {P:Program}{J:Goroutine->ag->Prop}{ops:Array Oper}{F0:ag}{Q:Act->ag->Prop}{o:Oper}{p:kg}{a:Act}{F:ag}:fl P J ops F0 Q (.one o p) true a F=match cq ops o a with
  |some true=>cB P J o (fun v F'=>Knows F0 F'/\fl P J ops F0 Q p (!Oper.calls o) (aY a o.dst v) F') a F
  |_=>False:=(Eq.refl _).trans (Eq.refl _)
attribute [irreducible] fl
attribute [go_sem] Ds Dt Du jA.opers
theorem yW {F:ag}{a:Addr}:∀(cs:List Value) (i:Nat),(∀j v,cs[j]?=some v->F.get (a.add (i+j))=some v)->F.c5 a i cs.length=some cs
 |[],i,_=>rfl
 |v::cs,i,h=>by
  have h0:=h 0 v rfl
  rw[Nat.add_zero] at h0
  have ih:=yW cs (i+1) (fun j w hw=>by
   have:=h (j+1) w (by simpa using hw)
   rwa [show i+(j+1)=i+1+j by omega] at this)
  simp only[List.length_cons,ag.c5,h0,ih]
theorem yX {F:ag}{a:Addr}:∀(m i k:Nat) (c b:List Value),F.c5 a i m=some c->F.c5 a (i+m) k=some b->F.c5 a i (m+k)=some (c++b)
 |0,i,k,c,b,h1,h2=>by
  simp only[ag.c5,Option.some.injEq] at h1
  subst h1
  rw[Nat.zero_add]
  simpa using h2
 |m+1,i,k,c,b,h1,h2=>by
  unfold ag.c5 at h1
  split at h1
  case h_2=>cases h1
  rename_i v d
  split at h1
  case h_2=>cases h1
  rename_i e f
  cases h1
  have ih:=yX m (i+1) k e b f (by rwa [show i+1+m=i+(m+1) by omega])
  rw[show m+1+k=(m+k)+1 by omega]
  simp only[ag.c5,d,ih,List.cons_append]
theorem ax.cells {T:Type}{r:bY T}{ro:Addr->Option Value}{ad:Option Addr}{c:Nat}{l:List T}(h:ax r ro (.slice ad l.length c) l)(F:ag)(t:∀a v,ro a=some v->F.get a=some v):
  ∃b:List (List Value),b.length=l.length/\(∀x∈b,x.length=r.n/\∀v∈x,bw v=true)/\(∀(i:Nat) (x:T),l[i]?=some x->∃cs,b[i]?=some cs/\r.rel ro x cs)/\fC F r.n (.slice ad l.length c)=some b.flatten:=by
 obtain ⟨C,D,e,_,_,he⟩:=h
 cases e
 cases f:l with
 |nil=>subst f;refine ⟨[],rfl,by simp,by simp,?_⟩;cases ad<;>simp[fC,ag.c5]
 |cons u l0=>
  obtain ⟨p,E,w,-,-⟩:=he 0 u (by rw[f];rfl)
  subst w
  rw[<-f]
  have key:∀k,k<=l.length->∃b:List (List Value),b.length=k/\(∀x∈b,x.length=r.n/\∀v∈x,bw v=true)/\(∀(i:Nat) (x:T),i<k->l[i]?=some x->∃cs,b[i]?=some cs/\r.rel ro x cs)/\F.c5 p 0 (k*r.n)=some b.flatten:=by
   intro k
   induction k with
   |zero=>intro _;exact ⟨[],rfl,by simp,by simp,by simp[ag.c5]⟩
   |succ k ih=>
    intro G
    obtain ⟨b,h1,h2,h3,m⟩:=ih (by omega)
    have d:l[k]?=some l[k]:=List.getElem?_eq_getElem (by omega)
    obtain ⟨H,cs,z,o,hm⟩:=he k _ d
    cases z
    have s:=r.len o
    refine ⟨b++[cs],by simp[h1],fun y A=>?_,fun i x hi q=>?_,?_⟩
    ·rcases List.mem_append.1 A with h|h
     ·exact h2 y h
     ·simp only[List.mem_singleton] at h;subst h;exact ⟨s,r.one o⟩
    ·rcases Nat.lt_or_ge i k with h|h
     ·obtain ⟨cs',a1,a2⟩:=h3 i x h q
      exact ⟨cs',by rw[List.getElem?_append_left (by omega)];exact a1,a2⟩
     ·have:i=k:=by omega
      subst this
      rw[d] at q
      obtain rfl:=Option.some.inj q
      exact ⟨cs,by rw[List.getElem?_append_right (by omega)];simp[h1],o⟩
    ·rw[Nat.succ_mul]
     have g:=yW (F:=F) (a:=p) cs (k*r.n) (fun j v B=>t _ _ (by have:=hm j v B;rwa [j5] at this))
     rw[s] at g
     have:=yX (k*r.n) 0 r.n b.flatten cs m (by rw[Nat.zero_add];exact g)
     rw[this]
     simp
  obtain ⟨b,h1,h2,h3,m⟩:=key l.length (Nat.le_refl _)
  exact ⟨b,h1,h2,fun i x d=>h3 i x (List.getElem?_eq_some_iff.1 d).1 d,m⟩
theorem aP.empty {T:Type}{r:bY T}{ro:Addr->Option Value}{e:TypeId}{b:Nat}(a:∀off sp,ro ⟨b,off,sp⟩=none):aP r ro e (.slice (some ⟨b,0,none⟩) 0 0) [] [(b,.cells #[] e)]:=
 ⟨[],.inr ⟨b,#[],0,rfl,rfl,by simp,Nat.le_refl _,by simp,by simp,a⟩,rfl,by simp,fun i x h=>by simp at h⟩
theorem yY {ro:Addr->Option Value}{x:Nat×Obj}{l:List (Nat×Obj)}:Le ⟨ro,l++[x]⟩ ⟨ro,x::l⟩:=by
 have d:∀b,b∈keys (l++[x])↔b∈keys (x::l):=fun b=>by
  simp only[keys,List.map_append,List.map_cons,List.map_nil,List.mem_append,List.mem_cons,List.not_mem_nil,or_false]
  exact Or.comm
 refine ⟨fun w hw=>⟨hw.ro,fun b o hb=>hw.own b o ?_,?_,fun a v h hm=>hw.apart a v h ((d _).1 hm)⟩,fun b hb=>(d b).1 hb,fun a c=>.inl c⟩
 ·rcases List.mem_append.1 hb with h|h
  ·exact List.mem_cons_of_mem _ h
  ·simp only[List.mem_singleton] at h;rw[h];exact List.mem_cons_self
 ·have:=hw.nodup
  simp only[keys,List.map_cons,List.nodup_cons] at this
  simp only[keys,List.map_append,List.map_cons,List.map_nil]
  rw[List.nodup_append]
  refine ⟨this.2,by simp,fun a c b hb e=>?_⟩
  simp only[List.mem_singleton] at hb
  subst hb
  exact this.1 (e▸c)
theorem oV {P:Program}{T:Type}{r:bY T}{ro:Addr->Option Value}{rest:List (Nat×Obj)}{ks:List Nat}{R:Value->ag->Prop}{argTypes:Array TypeId}{m o e y:TypeId}{f b c:Nat}{ad:Option Addr}{z:Value}{xs:List T}
  (A:∀off sp,ro ⟨b,off,sp⟩=none) (B:ak rest b) (p:keys rest=ks) (hlen:xs.length<=1000000) (C:ax r ro (.slice ad xs.length c) xs)
  (h0:argTypes[0]?=some m) (h1:argTypes[1]?=some o) (he:cT P m=some e) (D:cT P o=some y) (hs:bW P e=some r.n) (E:zeroOf P e=some z) (F:z.cells.size=r.n) (hb:bytesOf P e=some f)
  (G:0<f) (H:f<=10000)
  (q:∀v g,aP r ro e v xs g->Apart ks g->R v ⟨ro,rest++g⟩):k4 P argTypes (.slice (some ⟨b,0,none⟩) 0 0) (.slice ad xs.length c) R ⟨ro,(b,.cells #[] e)::rest⟩:=by
 intro ty
 obtain ⟨d,k1,I,J,K⟩:=C.cells ⟨ro,(b,.cells #[] e)::rest⟩ (fun a v h=>by simp[ag.get,h])
 have s:∀x∈d,x.length=r.n:=fun x h=>(I x h).1
 have i:=gL s
 refine tL (old:=[]) h0 h1 he D hs E hb G H (by simpa using hlen) (by simp[fC,ag.c5]) K (fun L=>?_) (fun L k t l u=>?_)
 ·have M:xs.length=0:=by omega
  have N:xs=[]:=List.eq_nil_of_length_eq_zero M
  have O:d=[]:=List.eq_nil_of_length_eq_zero (by omega)
  subst N O
  refine .inl ⟨_,_,rfl,rfl,⟨ro,rest++[(b,.cells #[] e)]⟩,yY,q _ _ (aP.empty A) fun k l=>?_⟩
  simp only[keys,List.map_cons,List.map_nil,List.mem_singleton] at l
  subst l
  rw[<-p]
  exact j8 B
 ·refine ⟨⟨ro,rest++[(t,.cells (([]:List Value).toArray++d.flatten.toArray++Builtin.zeroCells z.cells (k - (0+xs.length))) e)]⟩,yY.trans (Le.sub (.cons₂ _ (.cons _ (List.Sublist.refl _)))),q _ _ ?_ fun j w=>?_⟩
  ·refine ⟨d,.inr ⟨t,_,k,by rw[k1,Nat.zero_add],rfl,?_,by omega,?_,s,u.ro⟩,k1,hlen,J⟩
   ·simp only[List.nil_append,Array.size_append,List.size_toArray,List.length_nil,Builtin.zeroCells,Array.size_map,Array.size_range,i,F,k1]
    rw[Nat.zero_add,<-Nat.add_mul]
    congr 1;omega
   ·simp only[Array.toList_append,List.nil_append]
    rw[List.take_append_of_le_length (by simp[i])]
    rw[List.take_of_length_le (by simp[i])]
  ·simp only[keys,List.map_cons,List.map_nil,List.mem_singleton] at w
   subst w
   rw[<-p]
   exact j8 u.own.2
theorem qW:∀{pre aZ:List (Nat×Obj)} {b:Nat} {o:Obj},ak pre b->lk (pre++((b,o)::aZ)) b=some o
 |[],aZ,b,o,_=>by simp[lk]
 |(c,x)::pre,aZ,b,o,h=>by
  have a:¬c=b:=fun e=>h.1 e.symm
  simp[lk,a,qW h.2]
theorem yZ:∀{pre aZ:List (Nat×Obj)} {b:Nat} {o x:Obj},ak pre b->ie (pre++((b,o)::aZ)) b x=pre++((b,x)::aZ)
 |[],aZ,b,o,x,_=>by simp[ie]
 |(c,y)::pre,aZ,b,o,x,h=>by
  have a:¬c=b:=fun e=>h.1 e.symm
  simp[ie,a,yZ h.2]
theorem uw {ro:Addr->Option Value}{pre aZ:List (Nat×Obj)}{b:Nat}{e:TypeId}(c:ak pre b)(o:Nat):∀(a:List Value) (arr:Array Value) (i:Nat),(∀v∈a,bw v=true)->o+i+a.length<=arr.size->
  ag.iT ⟨ro,pre++((b,.cells arr e)::aZ)⟩ ⟨b,o,none⟩ i a=some ⟨ro,pre++((b,.cells (dz arr (o+i) a) e)::aZ)⟩
 |[],arr,i,_,_=>rfl
 |v::a,arr,i,h1,h=>by
  simp only[List.length_cons] at h
  have d:(⟨b,o,none⟩:Addr).add i=⟨b,o+i,none⟩:=by
   unfold Addr.add
   split
   ·rename_i hi;subst hi;rfl
   ·rfl
  unfold ag.iT
  have:ag.kR ⟨ro,pre++((b,.cells arr e)::aZ)⟩ ((⟨b,o,none⟩:Addr).add i) v=some ⟨ro,pre++((b,.cells (arr.setIfInBounds (o+i) v) e)::aZ)⟩:=by
   have f:o+i<arr.size:=by omega
   simp[ag.kR,d,qW c,h1 v (by simp),f,frozenAt,ag.put,yZ c]
  rw[this]
  simp only
  rw[uw c o a _ (i+1) (fun x g=>h1 x (by simp[g])) (by simp;omega)]
  rw[dz]
  congr 1
theorem y2 {ro:Addr->Option Value}{pre aZ:List (Nat×Obj)}{b:Nat}{e:TypeId}{arr:Array Value}(a:ak pre b)(c:∀off sp,ro ⟨b,off,sp⟩=none):∀(n i:Nat),i+n<=arr.size->
  ag.c5 ⟨ro,pre++((b,.cells arr e)::aZ)⟩ ⟨b,0,none⟩ i n=some ((arr.toList.drop i).take n)
 |0,i,_=>by simp[ag.c5]
 |n+1,i,h=>by
  have f:(⟨b,0,none⟩:Addr).add i=⟨b,i,none⟩:=by
   unfold Addr.add
   split
   ·rename_i hi;subst hi;rfl
   ·simp
  have d:i<arr.size:=by omega
  unfold ag.c5
  have ih:=y2 (e:=e) (arr:=arr) (aZ:=aZ) a c n (i+1) (by omega)
  simp only[ag.get,f,c,if_true,qW a,Option.bind_some,cellOf,Array.getElem?_eq_getElem d,ih]
  have g:i<arr.toList.length:=by simpa using d
  rw[List.drop_eq_getElem_cons g,List.take_succ_cons]
  simp
theorem Gr.Dv {ro:Addr->Option Value}{e:TypeId}{size:Nat}{v:Value}{l:List (List Value)}{aQ pre aZ:List (Nat×Obj)}(h:Gr ro e size v l aQ)(a:∀k∈keys aQ,ak pre k):
  Go.Sep.fC ⟨ro,pre++(aQ++aZ)⟩ size v=some l.flatten:=by
 rcases h with ⟨rfl,rfl,rfl⟩|⟨b,arr,cap,rfl,rfl,hs,c,ht,f,d⟩
 ·rfl
 ·simp only[Go.Sep.fC,List.cons_append,List.nil_append]
  have hle:l.length*size<=arr.size:=by rw[hs];exact Nat.mul_le_mul_right _ c
  rw[y2 (a b (by simp[keys])) d _ _ (by omega)]
  simp[ht]
theorem Le.ps {ro:Addr->Option Value}{l m l':List (Nat×Obj)}(e:l.Perm m)(hs:m.Sublist l'):Le ⟨ro,l⟩ ⟨ro,l'⟩:=by
 have c:(keys m).Sublist (keys l'):=hs.map _
 have d:(keys l).Perm (keys m):=e.map _
 exact ⟨fun w hw=>⟨hw.ro,fun b o hb=>hw.own b o (hs.subset (e.subset hb)),d.nodup_iff.2 (c.nodup hw.nodup),fun a v f hm=>hw.apart a v f (c.subset (d.subset hm))⟩,fun b hb=>c.subset (d.subset hb),fun a g=>.inl g⟩
structure aL (ks:List Nat):Prop where
 nd:ks.Nodup
abbrev Nd (l:List (Nat×Obj)):Prop:=(keys l).Nodup
theorem Nd.fresh {pre aQ aZ:List (Nat×Obj)}(h:Nd (pre++(aQ++aZ))):∀k∈keys aQ,ak pre k:=fun k a=>by
 refine lg fun hm=>?_
 simp only[Nd,b9] at h
 exact (List.nodup_append.1 h).2.2 k hm k (List.mem_append_left _ a) rfl
theorem Nd.push {l:List (Nat×Obj)}{b:Nat}{o:Obj}(h:Nd l)(hb:ak l b):Nd ((b,o)::l):=by
 simp only[Nd,keys,List.map_cons,List.nodup_cons]
 exact ⟨j8 hb,h⟩
theorem Nd.drop {pre aQ aZ:List (Nat×Obj)}(h:Nd (pre++(aQ++aZ))):Nd (pre++aZ):=
 ((List.Sublist.append_left (List.sublist_append_right aQ aZ) pre).map _).nodup h
theorem Nd.ins {pre aQ aZ:List (Nat×Obj)}{b:Nat}{o:Obj}(h:Nd (pre++(aQ++aZ)))(hb:ak (pre++(aQ++aZ)) b):Nd (pre++([(b,o)]++aZ)):=by
 have h2:Nd ((b,o)::(pre++aZ)):=h.drop.push (lg fun hm=>j8 hb (((List.Sublist.append_left (List.sublist_append_right aQ aZ) pre).map _).subset hm))
 have:(pre++([(b,o)]++aZ)).Perm ((b,o)::(pre++aZ)):=List.perm_middle
 exact (this.map _).nodup_iff.2 h2
section
variable {P : Program}
theorem y3 {ro:Addr->Option Value}{pre aQ aZ:List (Nat×Obj)}{R:Value->ag->Prop}{argTypes:Array TypeId}{ty B C e N:TypeId}{size p n c:Nat}{D:Option Addr}{s z:Value}{l xs:List (List Value)}
  (h0:argTypes[0]?=some B) (h1:argTypes[1]?=some C) (he:cT P B=some e) (d:cT P C=some N) (hs:bW P e=some size) (E:zeroOf P e=some z) (O:z.cells.size=size) (hb:bytesOf P e=some p)
  (G:0<p) (H:p<=10000) (hg:Gr ro e size s l aQ) (j:Nd (pre++(aQ++aZ))) (Q:n=xs.length) (I:∀x∈xs,x.length=size/\∀v∈x,bw v=true) (J:fC ⟨ro,pre++(aQ++aZ)⟩ size (.slice D n c)=some xs.flatten)
  (K:l.length+xs.length<=1000000)
  (q:∀v r,Gr ro e size v (l++xs) r->Nd (pre++(r++aZ))->∃F0,Le F0 ⟨ro,pre++(r++aZ)⟩/\R v F0):
  aS P (Builtin.append_ argTypes ty #[s,.slice D n c]) (fun v F=>∃F0,Le F0 F/\R v F0) ⟨ro,pre++(aQ++aZ)⟩:=by
 subst Q
 have L:=j.fresh
 have hold:=hg.Dv (aZ:=aZ) L
 have t:∀x∈xs,x.length=size:=fun x h=>(I x h).1
 have a:=gL t
 have out:∀(k b:Nat) (old:List Value),old=l.flatten->(∀x∈l,x.length=size)->l.length+xs.length<=k->dD ⟨ro,pre++(aQ++aZ)⟩ b->
   ∃F0,Le F0 (ag.push ⟨ro,pre++(aQ++aZ)⟩ b (.cells (old.toArray++xs.flatten.toArray++Builtin.zeroCells z.cells (k - (l.length+xs.length))) e))/\R (.slice (some ⟨b,0,none⟩) (l.length+xs.length) k) F0:=by
  intro k b old S u i f
  subst S
  have w:=gL u
  have y:=q (.slice (some ⟨b,0,none⟩) (l.length+xs.length) k) [(b,.cells (l.flatten.toArray++xs.flatten.toArray++Builtin.zeroCells z.cells (k - (l.length+xs.length))) e)] (.inr ⟨b,_,k,by simp,rfl,?_,by simpa using i,?_,?_,f.ro⟩) (j.ins f.own)
  ·obtain ⟨F0,hle,y⟩:=y
   refine ⟨F0,hle.trans ?_,y⟩
   exact Le.ps (m:=(b,.cells (l.flatten.toArray++xs.flatten.toArray++Builtin.zeroCells z.cells (k - (l.length+xs.length))) e)::(pre++aZ)) List.perm_middle (.cons₂ _ (List.Sublist.append_left (List.sublist_append_right aQ aZ) pre))
  ·simp only[Array.size_append,List.size_toArray,Builtin.zeroCells,Array.size_map,Array.size_range,w,a,O]
   rw[<-Nat.add_mul,<-Nat.add_mul]
   congr 1;omega
  ·simp only[Array.toList_append,List.length_append,List.flatten_append]
   rw[List.take_append_of_le_length (by simp[w,a,Nat.add_mul])]
   rw[List.take_of_length_le (by simp[w,a,Nat.add_mul])]
  ·intro x d
   rcases List.mem_append.1 d with h|h
   ·exact u x h
   ·exact t x h
 rcases id hg with ⟨rfl,rfl,rfl⟩|⟨b,arr,cap,rfl,rfl,A,u,ht,o,T⟩
 ·refine tL h0 h1 he d hs E hb G H (by simpa using K) hold J (fun g=>.inr ⟨rfl,?_⟩) (fun g k b i f=>?_)
  ·have:xs=[]:=List.eq_nil_of_length_eq_zero (by omega)
   subst this
   exact q _ _ (.inl ⟨rfl,rfl,rfl⟩) j
  ·have:=out k b [] rfl (by simp) (by simpa using i) f
   simpa using this
 ·refine tL h0 h1 he d hs E hb G H K hold J (fun g=>.inl ⟨_,⟨ro,pre++([(b,.cells (dz arr (l.length*size) xs.flatten) e)]++aZ)⟩,rfl,?_,?_⟩) (fun g k U i f=>out k U _ rfl o i f)
  ·have V:(⟨b,0,none⟩:Addr).add (l.length*size)=⟨b,l.length*size,none⟩:=by
    unfold Addr.add
    split
    ·rename_i hi;rw[hi]
    ·simp
   rw[V]
   have M:l.length*size+xs.length*size<=arr.size:=by rw[A,<-Nat.add_mul];exact Nat.mul_le_mul_right _ g
   have:=uw (ro:=ro) (e:=e) (aZ:=aZ) (L b (by simp[keys])) (l.length*size) xs.flatten arr 0 (fun v W=>by
    obtain ⟨x,X,Y⟩:=List.mem_flatten.1 W
    exact (I x X).2 v Y) (by rw[a];omega)
   simpa using this
  ·refine q _ _ (.inr ⟨b,_,cap,by simp,rfl,by rw[qI];exact A,by simpa using g,?_,?_,T⟩) (by simpa [Nd,keys] using j)
   ·have M:l.length*size+xs.length*size<=arr.size:=by rw[A,<-Nat.add_mul];exact Nat.mul_le_mul_right _ g
    rw[qJ _ _ _ (by rw[a];exact M),ht,List.length_append,List.flatten_append,a]
    rw[List.take_append_of_le_length (by simp[gL o,a,Nat.add_mul])]
    rw[List.take_of_length_le (by simp[gL o,a,Nat.add_mul])]
   ·intro x d
    rcases List.mem_append.1 d with h|h
    ·exact o x h
    ·exact t x h
theorem y4:∀{pre own:List (Nat×Obj)} {b:Nat} {o:Obj},lk pre b=some o->lk (pre++own) b=some o
 |(c,x)::pre,own,b,o,h=>by
  simp only[List.cons_append,lk] at h ⊢
  split
  ·rename_i a;rw[if_pos a] at h;exact h
  ·rename_i a;rw[if_neg a] at h;exact y4 h
theorem y5 {ro:Addr->Option Value}{own:List (Nat×Obj)}{b:Nat}{cs:Array Value}{e:TypeId}(a:lk own b=some (.cells cs e))(c:∀off sp,ro ⟨b,off,sp⟩=none):∀n i,i+n<=cs.toList.length->ag.c5 ⟨ro,own⟩ ⟨b,0,none⟩ i n=some ((cs.toList.drop i).take n)
 |0,i,_=>by simp[ag.c5]
 |n+1,i,hi=>by
  have d:i<cs.toList.length:=by omega
  unfold ag.c5
  have f:(⟨b,0,none⟩:Addr).add i=⟨b,i,none⟩:=by
   unfold Addr.add
   split
   ·rename_i hi;subst hi;rfl
   ·simp
  have g:i<cs.size:=by simpa using d
  simp only[ag.get,f,c,if_true,a,Option.bind_some,cellOf,Array.getElem?_eq_getElem g,y5 a c n (i+1) (by omega)]
  rw[List.drop_eq_getElem_cons d,List.take_succ_cons]
  simp
theorem aP.more {T:Type}{r:bY T}{ro:Addr->Option Value}{e:TypeId}{l xs:List T}{ls ys:List (List Value)}{v:Value}{a:List (Nat×Obj)}(hg:Gr ro e r.n v (ls++ys) a)(b:ls.length=l.length)(c:ys.length=xs.length)
  (d:∀(i:Nat) (x:T),l[i]?=some x->∃cs:List Value,ls[i]?=some cs/\r.rel ro x cs) (f:∀(i:Nat) (x:T),xs[i]?=some x->∃cs:List Value,ys[i]?=some cs/\r.rel ro x cs) (g:l.length+xs.length<=1000000):aP r ro e v (l++xs) a:=by
 refine ⟨_,hg,by simp[b,c],by simpa using g,fun i y hi=>?_⟩
 rcases Nat.lt_or_ge i l.length with h|h
 ·rw[List.getElem?_append_left h] at hi
  rw[List.getElem?_append_left (by omega)]
  exact d i y hi
 ·rw[List.getElem?_append_right h] at hi
  rw[List.getElem?_append_right (by omega),b]
  exact f _ y hi
theorem qX {T:Type}{r:bY T}{ro:Addr->Option Value}{aQ:List (Nat×Obj)}{R:Value->ag->Prop}{argTypes:Array TypeId}{g h e p e2:TypeId}{b c:Nat}{s z:Value}{l:List T}{x:T}{cs:Array Value}{own:List (Nat×Obj)}(pre aZ:List (Nat×Obj))(q:own=pre++(aQ++aZ))
  (hg:aP r ro e s l aQ) (t:aL (keys own)) (j:l.length+[x].length<=1000000) (d:r.rel ro x cs.toList) (u:lk pre c=some (.cells cs e2)) (w:∀off sp,ro ⟨c,off,sp⟩=none)
  (h0:argTypes[0]?=some g) (h1:argTypes[1]?=some h) (he:cT P g=some e) (A:cT P h=some p) (hs:bW P e=some r.n) (B:zeroOf P e=some z) (C:z.cells.size=r.n) (hb:bytesOf P e=some b)
  (D:0<b) (E:b<=10000)
  (F:∀v a,aP r ro e v (l++[x]) a->∀f,f=pre++(a++aZ)->aL (keys f)->∃F0,Le F0 ⟨ro,f⟩/\R v F0):k4 P argTypes s (.slice (some ⟨c,0,none⟩) 1 1) R ⟨ro,own⟩:=by
 subst q
 obtain ⟨ls,G,k,hm,H⟩:=hg
 have I:=t.nd
 intro ty
 have hlen:cs.toList.length=r.n:=r.len d
 refine y3 (xs:=[cs.toList]) (e:=e) (size:=r.n) (z:=z) (l:=ls) h0 h1 he A hs B C hb D E G I rfl (fun y o=>?_) ?_ (by simpa [k] using j) (fun v a J K=>F v a (aP.more J k rfl H (fun i y hi=>?_) j) _ rfl ⟨K⟩)
 ·simp only[List.mem_singleton] at o;subst o;exact ⟨hlen,r.one d⟩
 ·simp only[fC,Nat.one_mul]
  rw[y5 (y4 u) w _ _ (by omega)]
  rw[List.drop_zero,List.take_of_length_le (by omega)]
  simp
 ·cases i with
  |zero=>simp at hi;subst hi;exact ⟨cs.toList,rfl,d⟩
  |succ m=>simp at hi
theorem y6 {T:Type}{r:bY T}{ro:Addr->Option Value}{aQ:List (Nat×Obj)}{R:Value->ag->Prop}{argTypes:Array TypeId}{g i e m:TypeId}{d c:Nat}{ad:Option Addr}{s z:Value}{l xs:List T}{own:List (Nat×Obj)}(pre aZ:List (Nat×Obj))(o:own=pre++(aQ++aZ))
  (hg:aP r ro e s l aQ) (p:aL (keys own)) (j:l.length+xs.length<=1000000) (q:ax r ro (.slice ad xs.length c) xs)
  (h0:argTypes[0]?=some g) (h1:argTypes[1]?=some i) (he:cT P g=some e) (t:cT P i=some m) (hs:bW P e=some r.n) (u:zeroOf P e=some z) (w:z.cells.size=r.n) (hb:bytesOf P e=some d)
  (x:0<d) (y:d<=10000)
  (A:∀v b,aP r ro e v (l++xs) b->∀f,f=pre++(b++aZ)->aL (keys f)->∃F0,Le F0 ⟨ro,f⟩/\R v F0):k4 P argTypes s (.slice ad xs.length c) R ⟨ro,own⟩:=by
 subst o
 obtain ⟨ls,B,k,hm,C⟩:=hg
 have D:=p.nd
 intro ty
 obtain ⟨E,k1,F,G,H⟩:=q.cells ⟨ro,pre++(aQ++aZ)⟩ (fun a v h=>by simp[ag.get,h])
 exact y3 (xs:=E) (e:=e) (size:=r.n) (z:=z) (l:=ls) h0 h1 he t hs u w hb x y B D k1.symm F H (by rw[k,k1];exact j) (fun v b I J=>A v b (aP.more I k k1 C G j) _ rfl ⟨J⟩)
theorem aP.ki {T:Type}{r:bY T}{ro:Addr->Option Value}{e:TypeId}{v:Value}{l:List T}{aQ:List (Nat×Obj)}(h:aP r ro e v l aQ){own:List (Nat×Obj)}(a pre aZ:List (Nat×Obj))(d:own=pre++(aQ++aZ))(f:a=pre++aZ)(g:aL (keys own))(i:az ro a):
  ∃aI,Ext ro aI/\az aI a/\ax r aI v l/\Le ⟨aI,a⟩ ⟨ro,own⟩:=by
 subst d f
 have b:Nd (pre++(aQ++aZ)):=g.nd
 have j:Apart (keys (pre++aZ)) aQ:=fun k c hm=>by
  simp only[Nd,b9] at b
  have h2:=List.nodup_append.1 b
  simp only[b9,List.mem_append] at hm
  rcases hm with hm|hm
  ·exact h2.2.2 k hm k (List.mem_append_left _ c) rfl
  ·exact (List.nodup_append.1 h2.2.1).2.2 k c k hm rfl
 obtain ⟨aI,h1,h2,h3,m⟩:=h.yC (pre++aZ) j rfl i
 refine ⟨aI,h1,h2,h3,m.trans ?_⟩
 have n:((pre++aZ)++aQ).Perm (pre++(aQ++aZ)):=by
  rw[List.append_assoc]
  exact List.Perm.append_left pre List.perm_append_comm
 exact Le.ps n (List.Sublist.refl _)
theorem aP.setAt {T:Type}{r:bY T}{ro:Addr->Option Value}{e:TypeId}{l:List T}{b n cap:Nat}{arr:Array Value}(h:aP r ro e (.slice (some ⟨b,0,none⟩) n cap) l [(b,.cells arr e)]){i:Nat}{x y:T}(hi:l[i]?=some x){cs:List Value}(m:r.rel ro y cs):
  aP r ro e (.slice (some ⟨b,0,none⟩) n cap) (l.set i y) [(b,.cells (dz arr (i*r.n) cs) e)]:=by
 obtain ⟨ls,hg,o,hm,p⟩:=h
 have B:i<l.length:=(List.getElem?_eq_some_iff.1 hi).1
 have a:=r.len m
 rcases hg with ⟨k,_,_⟩|⟨C,D,q,k,s,hs,hle,ht,c,t⟩
 ·cases k
 ·cases s
  obtain ⟨rfl,rfl⟩:n=ls.length/\cap=q:=by cases k;exact ⟨rfl,rfl⟩
  have u:i*r.n+cs.length<=arr.size:=by
   rw[hs,a,<-Nat.succ_mul]
   exact Nat.mul_le_mul_right _ (by omega)
  refine ⟨ls.set i cs,.inr ⟨b,_,cap,by simp,rfl,by rw[qI];exact hs,by simpa using hle,?_,?_,t⟩,by simp[o],by simpa using hm,fun j z d=>?_⟩
  ·rw[qJ _ _ _ u]
   have E:=gL c
   have f:i<ls.length:=by omega
   have e1:(ls.set i cs).flatten=(ls.take i).flatten++cs++(ls.drop (i+1)).flatten:=by
    rw[List.set_eq_take_append_cons_drop,if_pos f]
    simp
   have e2:ls.flatten=(ls.take i).flatten++(ls.drop i).flatten:=by rw[<-List.flatten_append,List.take_append_drop]
   have t1:((ls.take i).flatten).length=i*r.n:=by rw[gL (fun x h=>c x (List.mem_of_mem_take h)),List.length_take,Nat.min_eq_left (by omega)]
   have v:(ls.drop i).flatten=ls[i]++(ls.drop (i+1)).flatten:=by rw[List.drop_eq_getElem_cons f,List.flatten_cons]
   have t2:ls[i].length=r.n:=c _ (List.getElem_mem f)
   have a1:arr.toList.take (i*r.n)=(ls.take i).flatten:=by
    have:=congrArg (List.take (i*r.n)) ht
    rw[List.take_take,Nat.min_eq_left (Nat.mul_le_mul_right _ (by omega)),e2,List.take_append_of_le_length (Nat.le_of_eq t1.symm),List.take_of_length_le (Nat.le_of_eq t1)] at this
    exact this
   have a2:(arr.toList.take (ls.length*r.n)).drop (i*r.n+cs.length)=(ls.drop (i+1)).flatten:=by
    have t3:((ls.take i).flatten++ls[i]).length=i*r.n+cs.length:=by rw[List.length_append,t1,t2,a]
    rw[ht,e2,v,<-List.append_assoc,List.drop_append_of_le_length (Nat.le_of_eq t3.symm),List.drop_eq_nil_of_le (Nat.le_of_eq t3),List.nil_append]
   rw[a1,e1]
   simp only[List.length_set]
   have w:ls.length*r.n=(i*r.n+cs.length)+(ls.length*r.n - (i*r.n+cs.length)):=by
    have:i*r.n+cs.length<=ls.length*r.n:=by rw[a,<-Nat.succ_mul];exact Nat.mul_le_mul_right _ f
    omega
   rw[w,List.take_append]
   rw[List.take_of_length_le (by rw[List.length_append,t1];omega)]
   congr 1
   have:i*r.n+cs.length+(ls.length*r.n - (i*r.n+cs.length)) - ((ls.take i).flatten++cs).length=ls.length*r.n - (i*r.n+cs.length):=by simp only[List.length_append,t1];omega
   rw[this,<-a2,List.drop_take]
  ·intro z A
   rcases List.mem_or_eq_of_mem_set A with h|h
   ·exact c z h
   ·rw[h];exact a
  ·rcases Nat.decEq i j with g|g
   ·rw[List.getElem?_set_ne g] at d
    obtain ⟨cs',h1,h2⟩:=p j z d
    exact ⟨cs',by rw[List.getElem?_set_ne g];exact h1,h2⟩
   ·subst g
    rw[List.getElem?_set_self (by omega)] at d
    obtain rfl:=Option.some.inj d
    exact ⟨cs,List.getElem?_set_self (by omega),m⟩
end
section
variable {P : Program} {main : Bool} {J : Goroutine → ag → Prop}
theorem aH (hJ:Closed P main J){c:Code}{Q:Ex->Act->ag->Prop}{a:Act}{F:ag}(h:aL (keys F.own)->Wp J c Q a F):Wp J c Q a F:=by
 intro b k cs hb d
 by_cases hw:∃w,Has F w
 ·obtain ⟨w,hw⟩:=hw
  exact h ⟨hw.nodup⟩ b k cs hb d
 ·exact hJ.step fun w e=>absurd ⟨w,e⟩ hw
end
theorem aL.cons {l:List (Nat×Obj)}{b:Nat}(hb:ak l b)(h:aL (keys l)):aL (b::keys l):=⟨List.nodup_cons.2 ⟨j8 hb,h.nd⟩⟩
theorem az.nil (ro:Addr->Option Value):az ro []:=fun b h=>by cases h
theorem az.cons {ro:Addr->Option Value}{b:Nat}{o:Obj}{l:List (Nat×Obj)}(hb:∀off sp,ro ⟨b,off,sp⟩=none)(h:az ro l):az ro ((b,o)::l):=fun c a=>by
 simp only[keys,List.map_cons,List.mem_cons] at a
 rcases a with rfl|a
 ·exact hb
 ·exact h c a
theorem az.app {ro:Addr->Option Value}{l l':List (Nat×Obj)}(h:az ro l)(b:az ro l'):az ro (l++l'):=fun c a=>by
 rw[b9] at a
 exact (List.mem_append.1 a).elim (h c) (b c)
theorem az.hd {ro:Addr->Option Value}{b:Nat}{o:Obj}{l:List (Nat×Obj)}(h:az ro ((b,o)::l)):∀off sp,ro ⟨b,off,sp⟩=none:=h b (by simp[keys])
theorem az.tl {ro:Addr->Option Value}{x:Nat×Obj}{l:List (Nat×Obj)}(h:az ro (x::l)):az ro l:=fun c a=>h c (by simp only[keys,List.map_cons,List.mem_cons];exact .inr a)
theorem az.l {ro:Addr->Option Value}{l l':List (Nat×Obj)}(h:az ro (l++l')):az ro l:=fun c a=>h c (by rw[b9];exact List.mem_append_left _ a)
theorem az.r {ro:Addr->Option Value}{l l':List (Nat×Obj)}(h:az ro (l++l')):az ro l':=fun c a=>h c (by rw[b9];exact List.mem_append_right _ a)
theorem aP.gO {T:Type}{r:bY T}{ro:Addr->Option Value}{e:TypeId}{v:Value}{l:List T}{aQ:List (Nat×Obj)}(h:aP r ro e v l aQ):az ro aQ:=by
 obtain ⟨ls,hg,-⟩:=h
 rcases hg with ⟨_,_,rfl⟩|⟨b,arr,cap,_,rfl,_,_,_,_,a⟩
 ·exact az.nil _
 ·exact az.cons a (az.nil _)
theorem Le.back {ro:Addr->Option Value}{l l':List (Nat×Obj)}(A B O S:List (Nat×Obj))(h1:l=A++(B++(O++S)))(h2:l'=A++(O++(B++S))):Le ⟨ro,l⟩ ⟨ro,l'⟩:=by
 subst h1 h2
 refine Le.ps (m:=A++(O++(B++S))) (List.Perm.append_left A ?_) (List.Sublist.refl _)
 rw[<-List.append_assoc,<-List.append_assoc]
 exact List.Perm.append_right S List.perm_append_comm
section
variable {P : Program} {main : Bool} {J : Goroutine → ag → Prop}
def qY (J:Goroutine->ag->Prop)(iV:Frame)(F:ag)(R:Value->ag->Prop):Prop:=
 ∀(c:Frame) (cs:List Frame),(∀v F',R v F'->J (G (c.finish v) cs) F')->J (G iV (c::cs)) F
theorem y7 (hJ:Closed P main J){iV:Frame}{ro:Addr->Option Value}{aQ:List (Nat×Obj)}{K:Value->ag->Prop}{own:List (Nat×Obj)}(pre aZ:List (Nat×Obj))(q:own=pre++(aQ++aZ))(R:Value->List (Nat×Obj)->Prop)(h:∀(main:Bool) (J:Goroutine->ag->Prop),Closed P main J->qY J iV ⟨ro,aQ⟩ (fun v G=>∃d,R v d/\Le ⟨ro,d⟩ G))
  (L:∀v d,R v d->∀r,r=pre++(d++aZ)->aL (keys r)->∃F0,Le F0 ⟨ro,r⟩/\K v F0):qY J iV ⟨ro,own⟩ K:=by
 subst q
 intro c cs M
 by_cases hw:∃w,Has ⟨ro,pre++(aQ++aZ)⟩ w
 ·obtain ⟨s,k⟩:=hw
  let F:ag:=⟨fun _=>none,pre++aZ⟩
  have t:(pre++aZ).Sublist (pre++(aQ++aZ)):=List.Sublist.append_left (List.sublist_append_right aQ aZ) pre
  have u:aQ.Sublist (pre++(aQ++aZ)):=(List.sublist_append_left aQ aZ).trans (List.sublist_append_right pre _)
  have B:∀w,Has ⟨ro,pre++(aQ++aZ)⟩ w->Has F w:=fun w hw=>⟨fun a v h=>(by cases h),fun b o hb=>hw.own b o (t.subset hb),(t.map _).nodup hw.nodup,fun a v h=>(by cases h)⟩
  have C:∀w,Has ⟨ro,pre++(aQ++aZ)⟩ w->Has ⟨ro,aQ⟩ w:=fun w hw=>⟨hw.ro,fun b o hb=>hw.own b o (u.subset hb),(u.map _).nodup hw.nodup,fun a v i hm=>hw.apart a v i ((u.map _).subset hm)⟩
  have hd:∀b,b∈keys aQ->b∉keys (pre++aZ):=fun b hb hm=>by
   have l:=k.nodup
   simp only[b9] at l
   have h2:=List.nodup_append.1 l
   simp only[b9,List.mem_append] at hm
   rcases hm with hm|hm
   ·exact h2.2.2 b hm b (List.mem_append_left _ hb) rfl
   ·exact (List.nodup_append.1 h2.2.1).2.2 b hb b hm rfl
  have D:Fits F ⟨ro,aQ⟩:=⟨⟨s,C s k,B s k⟩,hd,fun a f hm=>(by cases f)⟩
  have N:k9 F ⟨ro,aQ⟩:=fun a f hm=>by
   obtain ⟨v,O⟩:=Option.isSome_iff_exists.1 f
   exact k.apart a v O ((t.map _).subset hm)
  have q:tZ J F (G iV (c::cs)) ⟨ro,aQ⟩:=by
   refine h main _ (yA hJ F) c cs fun v E A m l=>?_
   obtain ⟨d,A,hle⟩:=A
   have H:Le ⟨ro,pre++(d++aZ)⟩ (E.star F):=by
    refine ⟨fun w hw=>?_,fun b hb=>?_,fun a f=>?_⟩
    ·have n:=hle.has w (m.right hw)
     have g:=m.left hw
     have Q:∀b,b∈keys d->b∉keys (pre++aZ):=fun b hb=>m.own b (hle.own b hb)
     have j:(pre++(d++aZ)).Perm (d++(pre++aZ)):=by
      rw[<-List.append_assoc,<-List.append_assoc]
      exact List.Perm.append_right aZ List.perm_append_comm
     refine ⟨n.ro,fun b o hb=>?_,?_,fun a v i hm=>?_⟩
     ·rcases List.mem_append.1 (j.subset hb) with x|x
      ·exact n.own b o x
      ·exact g.own b o x
     ·refine (j.map _).nodup_iff.2 ?_
      rw[List.map_append]
      exact List.nodup_append.2 ⟨n.nodup,g.nodup,fun a f b hb e=>Q a f (e▸hb)⟩
     ·have I:=(j.map (·.1)).subset hm
      rw[List.map_append] at I
      rcases List.mem_append.1 I with x|x
      ·exact n.apart a v i x
      ·rcases hle.ro a (by simp only at i;simp[i]) with y|y
       ·exact l a y x
       ·exact m.own _ y x
    ·simp only[ag.star,b9,List.mem_append] at hb ⊢
     rcases hb with x|x|x
     ·exact .inr (show b∈keys (pre++aZ) by rw[b9];exact List.mem_append_left _ x)
     ·exact .inl (hle.own b x)
     ·exact .inr (show b∈keys (pre++aZ) by rw[b9];exact List.mem_append_right _ x)
    ·rcases hle.ro a f with x|x
     ·exact (fR (.inr x)).imp id (fun z=>by simp only[ag.star,b9,List.mem_append];exact .inr z)
     ·exact .inr (by simp only[ag.star,b9,List.mem_append];exact .inl x)
   have S:∃fr cs',G (c.finish v) cs=G fr cs':=⟨_,_,rfl⟩
   obtain ⟨fr,cs',T⟩:=S
   by_cases p:∃w,Has (E.star F) w
   ·obtain ⟨w1,p⟩:=p
    obtain ⟨F0,U,V⟩:=L v d A _ rfl ⟨(H.has w1 p).nodup⟩
    exact hJ.mono (U.trans H) (M v F0 V)
   ·rw[T]
    exact hJ.step fun w g=>absurd ⟨w,g⟩ p
  refine hJ.mono ⟨fun w hw=>D.both (C w hw) (B w hw),fun b hb=>?_,fun a f=>?_⟩ (q D N)
  ·have j:(aQ++(pre++aZ)).Perm (pre++(aQ++aZ)):=by
    rw[<-List.append_assoc,<-List.append_assoc]
    exact List.Perm.append_right aZ List.perm_append_comm
   exact (j.map _).subset hb
  ·rcases jr f with x|x
   ·cases x
   ·exact .inl x
 ·exact hJ.step fun w g=>absurd ⟨w,g⟩ hw
theorem y8 (hJ:Closed P main J){f:FuncId}{args:Array Value}{ro:Addr->Option Value}{aQ:List (Nat×Obj)}{K:Value->ag->Prop}{own:List (Nat×Obj)}(pre aZ:List (Nat×Obj))(c:own=pre++(aQ++aZ))(R:Value->List (Nat×Obj)->Prop)(h:aA P f args ⟨ro,aQ⟩ (fun v G=>∃a,R v a/\Le ⟨ro,a⟩ G))
  (d:∀v a,R v a->∀b,b=pre++(a++aZ)->aL (keys b)->∃F0,Le F0 ⟨ro,b⟩/\K v F0):cK P J f args ⟨ro,own⟩ K:=
 y7 hJ (iV:=Frame.enter P f args .normal) pre aZ c R h d
end
attribute [go_sem] Array.size_setIfInBounds
theorem ax.op {T:Type}{r:bY T}{ro:Addr->Option Value}{ad:Option Addr}{n cap:Nat}{l:List T}(h:ax r ro (.slice ad n cap) l):
  l.length<=cap/\l.length<=1000000000000000/\∀i x,l[i]?=some x->∃p cs,ad=some p/\r.rel ro x cs/\∀j v,cs[j]?=some v->ro ((p.add (i*r.n)).add j)=some v:=by
 obtain ⟨a,b,e,h1,h2,h3⟩:=h
 cases e
 exact ⟨h1,h2,h3⟩
theorem aL.sub {l l':List (Nat×Obj)}(A O S:List (Nat×Obj))(h1:l=A++S)(h2:l'=A++(O++S))(h:aL (keys l')):aL (keys l):=by
 subst h1 h2
 exact
 ⟨((List.Sublist.append_left (List.sublist_append_right O S) A).map _).nodup h.nd⟩
theorem aL.back {l l':List (Nat×Obj)}(A B O S:List (Nat×Obj))(h1:l=A++(B++(O++S)))(h2:l'=A++(O++(B++S)))(h:aL (keys l')):aL (keys l):=by
 subst h1 h2
 refine ⟨(List.Perm.map _ (List.Perm.append_left A ?_)).nodup_iff.2 h.nd⟩
 rw[<-List.append_assoc,<-List.append_assoc]
 exact List.Perm.append_right S List.perm_append_comm
theorem fc {ro:Addr->Option Value}{b:Nat}{o:Obj}(pre aZ:List (Nat×Obj))(f:aL (keys (pre++((b,o)::aZ))))(_hr:∀off sp,ro ⟨b,off,sp⟩=none)(g:az ro (pre++aZ)):
  Ext ro (bO ro b o)/\az (bO ro b o) (pre++aZ)/\Le ⟨bO ro b o,pre++aZ⟩ ⟨ro,pre++((b,o)::aZ)⟩:=by
 have a:(pre++((b,o)::aZ)).Perm ((b,o)::(pre++aZ)):=List.perm_middle
 have h2:Nd ((b,o)::(pre++aZ)):=(a.map _).nodup_iff.1 f.nd
 have hb:b∉keys (pre++aZ):=(List.nodup_cons.1 h2).1
 refine ⟨fE _ _ _,fun c d off sp=>?_,?_⟩
 ·have h:¬c=b:=fun e=>hb (e▸d)
  simp[bO,g c d,h]
 ·have h3:Le ⟨bO ro b o,pre++aZ⟩ ⟨ro,(b,o)::(pre++aZ)⟩:=jx (by simp[lk]) (.cons _ (List.Sublist.refl _)) (lg hb)
  exact h3.trans (Le.ps a.symm (List.Sublist.refl _))
section
variable {P : Program} {main : Bool} {J : Goroutine → ag → Prop}
theorem ez (hJ:Closed P main J){c:Code}{Q:Ex->Act->ag->Prop}{a:Act}{F:ag}(h:aL (keys F.own)->az F.ro F.own->Wp J c Q a F):Wp J c Q a F:=by
 intro b k cs hb d
 by_cases hw:∃w,Has F w
 ·obtain ⟨w,hw⟩:=hw
  refine h ⟨hw.nodup⟩ (fun b hb off sp=>?_) b k cs hb d
  cases e:F.ro ⟨b,off,sp⟩ with
  |none=>rfl
  |some v=>exact absurd hb (hw.apart _ v e)
 ·exact hJ.step fun w f=>absurd ⟨w,f⟩ hw
end
theorem uy:∀(a:List Value) (arr:Array Value) (k:Nat),k+a.length<=arr.size->∀q,(dz arr k a)[q]?=if k<=q/\q<k+a.length then a[q - k]? else arr[q]?
 |[],arr,k,h,q=>by
  have:¬(k<=q/\q<k+([]:List Value).length):=by simp
  rw[if_neg this];rfl
 |v::a,arr,k,h,q=>by
  simp only[List.length_cons] at h
  rw[dz,uy a _ (k+1) (by simp;omega)]
  simp only[List.length_cons]
  by_cases h1:k=q
  ·subst h1
   rw[if_neg (by omega),if_pos (by omega),Array.getElem?_setIfInBounds_self_of_lt (by omega)]
   simp
  ·by_cases h2:k+1<=q/\q<k+1+a.length
   ·rw[if_pos h2,if_pos (by omega)]
    rw[show q - k=(q - (k+1))+1 by omega]
    simp
   ·rw[if_neg h2,if_neg (by omega),Array.getElem?_setIfInBounds_ne h1]
theorem aP.part {T:Type}{r:bY T}{ro:Addr->Option Value}{e:TypeId}{l:List T}{b n cap:Nat}{arr:Array Value}(h:aP r ro e (.slice (some ⟨b,0,none⟩) n cap) l [(b,.cells arr e)]){i:Nat}{x y:T}(hi:l[i]?=some x)(o:Nat)(a cs cs':List Value)
  (hm:∀j v,cs[j]?=some v->arr[i*r.n+j]?=some v) (hlen:cs.length=r.n) (f:cs'=cs.take o++a++cs.drop (o+a.length)) (s:o+a.length<=cs.length) (g:r.rel ro y cs'):
  aP r ro e (.slice (some ⟨b,0,none⟩) n cap) (l.set i y) [(b,.cells (dz arr (i*r.n+o) a) e)]:=by
 have h2:=h.setAt hi g
 have d:=r.len g
 have m:i*r.n+r.n<=arr.size:=by
  rcases Nat.eq_zero_or_pos r.n with h0|t
  ·rw[h0];omega
  ·have c:r.n - 1<cs.length:=by omega
   have:=hm (r.n - 1) cs[r.n - 1] (List.getElem?_eq_getElem c)
   have:=(Array.getElem?_eq_some_iff.1 this).1
   omega
 have e1:dz arr (i*r.n) cs'=dz arr (i*r.n+o) a:=by
  apply Array.ext_getElem?
  intro q
  rw[uy cs' arr _ (by rw[d];exact m),uy a arr _ (by omega)]
  by_cases h1:i*r.n+o<=q/\q<i*r.n+o+a.length
  ·rw[if_pos h1,if_pos (by rw[d];omega),f]
   rw[List.append_assoc,List.getElem?_append_right (by simp;omega),List.getElem?_append_left (by simp;omega)]
   congr 1
   simp;omega
  ·rw[if_neg h1]
   by_cases h3:i*r.n<=q/\q<i*r.n+cs'.length
   ·rw[if_pos h3]
    rw[d] at h3
    have p:arr[q]?=cs[q - i*r.n]?:=by
     have c:q - i*r.n<cs.length:=by omega
     have:=hm (q - i*r.n) _ (List.getElem?_eq_getElem c)
     rw[show i*r.n+(q - i*r.n)=q by omega] at this
     rw[this,List.getElem?_eq_getElem c]
    rw[p,f]
    rcases Nat.lt_or_ge (q - i*r.n) o with k|k
    ·rw[List.append_assoc,List.getElem?_append_left (by simp;omega),List.getElem?_take_of_lt k]
    ·have u:o+a.length<=q - i*r.n:=by omega
     rw[List.getElem?_append_right (by simp;omega),List.getElem?_drop]
     congr 1
     simp;omega
   ·rw[if_neg h3]
 rw[e1] at h2
 exact h2
theorem aP.elemAt {T:Type}{r:bY T}{ro:Addr->Option Value}{e:TypeId}{b n cap:Nat}{l:List T}{aQ:List (Nat×Obj)}(h:aP r ro e (.slice (some ⟨b,0,none⟩) n cap) l aQ){i:Nat}{x:T}(hi:l[i]?=some x):
  ∃arr cs,aQ=[(b,.cells arr e)]/\(∀off sp,ro ⟨b,off,sp⟩=none)/\r.rel ro x cs/\∀j v,cs[j]?=some v->arr[i*r.n+j]?=some v:=by
 obtain ⟨g,arr,k,cs,a,c,d,f,hm⟩:=h.elem hi
 cases a
 exact ⟨arr,cs,c,d,f,hm⟩
theorem aP.qZ {T:Type}{r:bY T}{ro:Addr->Option Value}{e:TypeId}{ad:Option Addr}{n cap:Nat}{l:List T}{aQ:List (Nat×Obj)}(h:aP r ro e (.slice ad n cap) l aQ){i:Nat}{x:T}(hi:l[i]?=some x):
  ∃b arr cs,ad=some ⟨b,0,none⟩/\aQ=[(b,.cells arr e)]/\(∀off sp,ro ⟨b,off,sp⟩=none)/\r.rel ro x cs/\∀j v,cs[j]?=some v->arr[i*r.n+j]?=some v:=by
 obtain ⟨a,arr,k,cs,c,d,f,g,hm⟩:=h.elem hi
 injection c with h1 h2 h3
 exact ⟨a,arr,cs,h1,d,f,g,hm⟩
theorem aP.ko {T:Type}{r:bY T}{ro:Addr->Option Value}{e:TypeId}{b n cap:Nat}{l:List T}{arr:Array Value}(h:aP r ro e (.slice (some ⟨b,0,none⟩) n cap) l [(b,.cells arr e)]){i:Nat}{x:T}(hi:l[i]?=some x):
  ∃cs,r.rel ro x cs/\∀j v,cs[j]?=some v->arr[i*r.n+j]?=some v:=by
 obtain ⟨d,cs,a,f,c,hm⟩:=h.elemAt hi
 simp only[List.cons.injEq,Prod.mk.injEq,Obj.cells.injEq,true_and,and_true] at a
 subst a
 exact ⟨cs,c,hm⟩
theorem aP.uz {T:Type}{r:bY T}{ro:Addr->Option Value}{e:TypeId}{l:List T}{b n cap:Nat}{arr:Array Value}(h:aP r ro e (.slice (some ⟨b,0,none⟩) n cap) l [(b,.cells arr e)]){i:Nat}{y:T}(hi:i<l.length){cs:List Value}(a:r.rel ro y cs):
  aP r ro e (.slice (some ⟨b,0,none⟩) n cap) (l.set i y) [(b,.cells (dz arr (i*r.n) cs) e)]:=h.setAt (List.getElem?_eq_getElem hi) a
theorem aP.uA {T:Type}{r:bY T}{ro:Addr->Option Value}{e:TypeId}{ad:Option Addr}{n cap:Nat}{l:List T}{aQ:List (Nat×Obj)}(h:aP r ro e (.slice ad n cap) l aQ)(a:l.isEmpty=false):
  ∃b arr,ad=some ⟨b,0,none⟩/\aQ=[(b,.cells arr e)]/\(∀off sp,ro ⟨b,off,sp⟩=none):=by
 cases l with
 |nil=>cases a
 |cons x l=>
  obtain ⟨b,arr,cs,h1,h2,h3,_⟩:=h.qZ (i:=0) rfl
  exact ⟨b,arr,h1,h2,h3⟩
theorem aP.Dw {T:Type}{r:bY T}{ro:Addr->Option Value}{e:TypeId}{b n cap:Nat}{l:List T}{aQ:List (Nat×Obj)}(h:aP r ro e (.slice (some ⟨b,0,none⟩) n cap) l aQ):∃arr,aQ=[(b,.cells arr e)]:=by
 obtain ⟨ls,hg,-⟩:=h
 rcases hg with ⟨a,_,_⟩|⟨d,arr,f,a,c,_⟩
 ·cases a
 ·cases a
  exact ⟨arr,c⟩
theorem aP.count {T:Type}{r:bY T}{ro:Addr->Option Value}{e:TypeId}{ad:Option Addr}{n cap:Nat}{l:List T}{aQ:List (Nat×Obj)}(h:aP r ro e (.slice ad n cap) l aQ):l.length=n:=by
 obtain ⟨b,c,a,_⟩:=h.len
 cases a
 rfl
def oW (ops:Array Oper)(bT:List Nat)(i:Nat):Bool:=bT.all fun j=>match ops[j]? with
 |some o=>o.after.any fun e=>Region.binds .any e&&e.on==i
 |none=>true
section
variable {P : Program} {main : Bool} {J : Goroutine → ag → Prop} {ops : Array Oper} {Q : Act → ag → Prop} {S : ag → Prop} {bT : List Nat}
def dM (P:Program)(J:Goroutine->ag->Prop)(ops:Array Oper)(Q:Act->ag->Prop)(S:ag->Prop)(bT:List Nat):Nat->Array Bool->Act->ag->Prop
 |0,listed,a,F=>Region.ready .any ops listed=[]/\Q a F
 |fuel+1,listed,a,F=>(Region.ready .any ops listed=[]->Q a F)/\
  ∀i∈Region.ready .any ops listed,dn P J ops i (fun b F'=>(¬i∈bT->S F->S F')/\dM P J ops Q S bT fuel (listed.setIfInBounds i true) b F') a F
theorem Dx:∀(fuel t:Nat) (listed:Array Bool) (a:Act) (F:ag),dM P J ops Q S bT fuel listed a F->
  fh P J ops Q (Region.linearise.go .any ops fuel t listed []) a F:=by
 intro fuel
 induction fuel with
 |zero=>intro t listed a F h;simpa [Region.linearise.go,fh] using h.2
 |succ fuel ih=>
  intro t listed a F h
  obtain ⟨b,c⟩:=h
  simp only[Region.linearise.go]
  change fh P J ops Q (match (Region.ready .any ops listed)[t % (Region.ready .any ops listed).length]? with
   |some i=>Region.linearise.go .any ops fuel (t/(Region.ready .any ops listed).length) (listed.setIfInBounds i true) [i]
   |none=>[].reverse) a F
  cases hi:(Region.ready .any ops listed)[t % (Region.ready .any ops listed).length]? with
  |none=>
   have d:Region.ready .any ops listed=[]:=by
    cases e:Region.ready .any ops listed with
    |nil=>rfl
    |cons x xs=>
     rw[e] at hi
     have f:t % (x::xs).length<(x::xs).length:=Nat.mod_lt _ (by simp)
     simp at hi
     simp at f
     omega
   simpa [fh] using b d
  |some i=>
   simp only[]
   rw[linearise_go_acc,List.reverse_singleton,List.singleton_append]
   exact ou (fun a F h=>ih _ _ a F h.2) (c i (List.mem_of_getElem? hi))
theorem Dy {i:Nat}{g:Oper}{v:Value}(hi:ops[i]?=some g)(l:oW ops bT i=true)(s:∀(j:Nat) (o:Oper) cs b,ops[j]?=some o->o.op≠ .select cs b):
  ∀(fuel:Nat) (listed:Array Bool) (a:Act) (F:ag),
   (∀j d,ops[j]?=some d->j≠i->listed.getD j true=false->(∀e∈d.after,Region.binds .any e=true->e.on≠i)->g.apart ops d=true)->
   i∈Region.ready .any ops listed->e4 P J ops S g v a->S F->
   dM P J ops Q S bT fuel (listed.setIfInBounds i true) (a.put g.dst v) F->dM P J ops Q S bT (fuel+1) listed a F:=by
 intro fuel
 induction fuel with
 |zero=>
  intro listed a F _ f m n H
  refine ⟨fun h=>(by rw[h] at f;cases f),fun j p=>?_⟩
  by_cases c:j=i
  ·subst c;exact m.mH hi n ⟨fun _ h=>h,H⟩
  ·have:=ready_mono p c
   rw[H.1] at this
   cases this
 |succ fuel ih=>
  intro listed a F t f m n H
  refine ⟨fun h=>(by rw[h] at f;cases f),fun j p=>?_⟩
  by_cases c:j=i
  ·subst c;exact m.mH hi n ⟨fun _ h=>h,H⟩
  ·have h1:=H.2 j (ready_mono p c)
   obtain ⟨u,d,q,A⟩:=mem_ready.1 p
   have w:∀e∈d.after,Region.binds .any e=true->e.on≠i:=fun e he hb heq=>by
    have h1:=A e he hb
    have h0:=(mem_ready.1 f).1
    rw[heq] at h1
    rcases Nat.lt_or_ge i listed.size with r|r
    ·simp[r] at h0 h1;rw[h0] at h1;cases h1
    ·simp[Array.getElem?_eq_none r] at h1
   have B:¬j∈bT:=fun e=>by
    have l:=List.all_eq_true.1 l j e
    simp only[q,Array.any_eq_true,Bool.and_eq_true,beq_iff_eq] at l
    obtain ⟨x,C,h1,h2⟩:=l
    exact w _ (Array.getElem_mem C) h1 h2
   have h2:=tf q (t j d q c u w) (fun cs b=>s i g cs b hi) (fun cs b=>s j d cs b q) m h1
   have D:∀k ok,ops[k]?=some ok->k≠i->(listed.setIfInBounds j true).getD k true=false->
     (∀e∈ok.after,Region.binds .any e=true->e.on≠i)->g.apart ops ok=true:=fun k ok E G y I=>by
    refine t k ok E G ?_ I
    by_cases z:j=k
    ·subst z;exact u
    ·rw[getD_set_ne true z] at y;exact y
   refine ou (fun K F' h3=>⟨h3.2.1,ih (listed.setIfInBounds j true) K F' D (ready_mono f (Ne.symm c)) h3.1 (h3.2.1 B n) ?_⟩) h2
   rw[Array.setIfInBounds_comm _ _ c]
   exact h3.2.2
theorem Dz {i:Nat}{g:Oper}{v:Value}(hi:ops[i]?=some g)(q:∀(j:Nat) (o:Oper) cs b,ops[j]?=some o->o.op≠ .select cs b):
  ∀(fuel:Nat) (listed:Array Bool) (a:Act) (F:ag),
   (∀j d,ops[j]?=some d->j≠i->listed.getD j true=false->(∀e∈d.after,Region.binds .any e=true->e.on≠i)->g.apart ops d=true)->
   i∈Region.ready .any ops listed->e4 P J ops (fun _=>True) g v a->
   dM P J ops Q S bT fuel (listed.setIfInBounds i true) (a.put g.dst v) F->dM P J ops Q S bT (fuel+1) listed a F:=by
 intro fuel
 induction fuel with
 |zero=>
  intro listed a F _ f l H
  refine ⟨fun h=>(by rw[h] at f;cases f),fun j m=>?_⟩
  by_cases c:j=i
  ·subst c;exact l.mH hi trivial ⟨fun _ h=>h,H⟩
  ·have:=ready_mono m c
   rw[H.1] at this
   cases this
 |succ fuel ih=>
  intro listed a F r f l H
  refine ⟨fun h=>(by rw[h] at f;cases f),fun j m=>?_⟩
  by_cases c:j=i
  ·subst c;exact l.mH hi trivial ⟨fun _ h=>h,H⟩
  ·have h1:=H.2 j (ready_mono m c)
   obtain ⟨s,d,n,w⟩:=mem_ready.1 m
   have x:∀e∈d.after,Region.binds .any e=true->e.on≠i:=fun e he hb heq=>by
    have h1:=w e he hb
    have h0:=(mem_ready.1 f).1
    rw[heq] at h1
    rcases Nat.lt_or_ge i listed.size with p|p
    ·simp[p] at h0 h1;rw[h0] at h1;cases h1
    ·simp[Array.getElem?_eq_none p] at h1
   have h2:=tf n (r j d n c s x) (fun cs b=>q i g cs b hi) (fun cs b=>q j d cs b n) l h1
   have y:∀k ok,ops[k]?=some ok->k≠i->(listed.setIfInBounds j true).getD k true=false->
     (∀e∈ok.after,Region.binds .any e=true->e.on≠i)->g.apart ops ok=true:=fun k ok z A t B=>by
    refine r k ok z A ?_ B
    by_cases u:j=k
    ·subst u;exact s
    ·rw[getD_set_ne true u] at t;exact t
   refine ou (fun C F' h3=>⟨h3.2.1,ih (listed.setIfInBounds j true) C F' y (ready_mono f (Ne.symm c)) h3.1 ?_⟩) h2
   rw[Array.setIfInBounds_comm _ _ c]
   exact h3.2.2
theorem y9 (i:Nat){c:Oper}(v:Value){fuel:Nat}{listed:Array Bool}{a:Act}{F:ag}(hi:ops[i]?=some c)
  (b:(Region.noSelect ops&&Region.free .any ops listed i&&(Region.ready .any ops listed).contains i)=true)
  (d:oW ops bT i=true) (e:e4 P J ops S c v a) (f:S F)
  (h:dM P J ops Q S bT fuel (listed.setIfInBounds i true) (a.put c.dst v) F):dM P J ops Q S bT (fuel+1) listed a F:=by
 simp only[Bool.and_eq_true] at b
 exact Dy hi d (Region.noSelect_spec b.1.1) fuel listed a F (Region.free_spec hi b.1.2) (by simpa using b.2) e f h
theorem uB {rs:List Nat}{fuel:Nat}{listed:Array Bool}{a:Act}{F:ag}(b:Region.ready .any ops listed=rs)(c:rs≠[])
  (h:∀i∈rs,dn P J ops i (fun d F'=>(¬i∈bT->S F->S F')/\dM P J ops Q S bT fuel (listed.setIfInBounds i true) d F') a F):dM P J ops Q S bT (fuel+1) listed a F:=
 ⟨fun h0=>absurd (b▸h0) c,b▸h⟩
theorem za (i:Nat){fuel:Nat}{listed:Array Bool}{a:Act}{F:ag}(b:Region.ready .any ops listed=[i])
  (h:dn P J ops i (fun c F'=>(¬i∈bT->S F->S F')/\dM P J ops Q S bT fuel (listed.setIfInBounds i true) c F') a F):dM P J ops Q S bT (fuel+1) listed a F:=
 uB b (by simp) (by simpa using h)
theorem zb {listed:Array Bool}{a:Act}{F:ag}(b:Region.ready .any ops listed=[])(h:Q a F):∀fuel,dM P J ops Q S bT fuel listed a F
 |0=>⟨b,h⟩
 |_+1=>⟨fun _=>h,by rw[b];simp⟩
end
theorem uC {P:Program}{J:Goroutine->ag->Prop}{ops:Array Oper}{Q:Act->ag->Prop}{S:ag->Prop}{bT:List Nat}(i:Nat){b:Oper}(v:Value){fuel:Nat}{listed:Array Bool}{a:Act}{F:ag}(hi:ops[i]?=some b)
  (d:(Region.noSelect ops&&Region.free .any ops listed i&&(Region.ready .any ops listed).contains i)=true)
  (e:oW ops bT i=true) (hg:cq ops b a=some true) (f:∀F R,S F->R v F->cB P J b R a F) (c:S F)
  (h:dM P J ops Q S bT fuel (listed.setIfInBounds i true) (aY a b.dst v) F):dM P J ops Q S bT (fuel+1) listed a F:=
 y9 i v hi d e (.inl ⟨b7 hg,fun F R c g=>j4 (f F R c g)⟩) c h
theorem DC {P:Program}{J:Goroutine->ag->Prop}{ops:Array Oper}{Q:Act->ag->Prop}{S:ag->Prop}{bT:List Nat}(i:Nat){b:Oper}{fuel:Nat}{listed:Array Bool}{a:Act}{F:ag}(hi:ops[i]?=some b)
  (c:(Region.noSelect ops&&Region.free .any ops listed i&&(Region.ready .any ops listed).contains i)=true)
  (d:oW ops bT i=true) (hg:cq ops b a=some false) (e:S F)
  (h:dM P J ops Q S bT fuel (listed.setIfInBounds i true) (aY a b.dst undef) F):dM P J ops Q S bT (fuel+1) listed a F:=
 y9 i undef hi c d (.inr ⟨b7 hg,rfl⟩) e h
theorem zd {P:Program}{J:Goroutine->ag->Prop}{ops:Array Oper}{Q:Act->ag->Prop}{S:ag->Prop}{bT:List Nat}(i:Nat){c:Oper}(v:Value){fuel:Nat}{listed:Array Bool}{a:Act}{F:ag}(hi:ops[i]?=some c)
  (b:(Region.noSelect ops&&Region.free .any ops listed i&&(Region.ready .any ops listed).contains i)=true)
  (d:e4 P J ops (fun _=>True) c v a)
  (h:dM P J ops Q S bT fuel (listed.setIfInBounds i true) (aY a c.dst v) F):dM P J ops Q S bT (fuel+1) listed a F:=by
 simp only[Bool.and_eq_true] at b
 exact Dz hi (Region.noSelect_spec b.1.1) fuel listed a F (Region.free_spec hi b.1.2) (by simpa using b.2) d h
inductive b8 where
 |done
 |rd (i:Nat) (p:b8)
 |one (i:Nat) (p:b8)
 |two (i:Nat) (p:b8) (j:Nat) (q:b8)
 |three (i:Nat) (p:b8) (j:Nat) (q:b8) (k:Nat) (r:b8)
 |last (i:Nat) (p:b8)
 |pure (i:Nat) (p:b8)
inductive fe where
 |done
 |rd (o:Oper) (p:fe)
 |one (o:Oper) (p:fe)
 |two (o:Oper) (p:fe) (o':Oper) (q:fe)
 |three (o:Oper) (p:fe) (o':Oper) (q:fe) (jB:Oper) (r:fe)
 |last (o:Oper) (p:fe)
 |pure (o:Oper) (p:fe)
 |bad
def b8.opers (ops:Array Oper):b8->fe
 | .done=>.done
 | .rd i p=>match ops[i]? with
  |some o=>.rd o (p.opers ops)
  |none=>.bad
 | .one i p=>match ops[i]? with
  |some o=>.one o (p.opers ops)
  |none=>.bad
 | .two i p j q=>match ops[i]?,ops[j]? with
  |some o,some o'=>.two o (p.opers ops) o' (q.opers ops)
  |_,_=>.bad
 | .three i p j q k r=>match ops[i]?,ops[j]?,ops[k]? with
  |some o,some o',some jB=>.three o (p.opers ops) o' (q.opers ops) jB (r.opers ops)
  |_,_,_=>.bad
 | .last i p=>match ops[i]? with
  |some o=>.last o (p.opers ops)
  |none=>.bad
 | .pure i p=>match ops[i]? with
  |some o=>.pure o (p.opers ops)
  |none=>.bad
def b8.tl:b8->Bool
 | .done=>true
 | .last _ p=>p.tl
 | .pure _ p=>p.tl
 |_=>false
def b8.ok (ops:Array Oper)(bT:List Nat):b8->Array Bool->Bool
 | .done,L=>decide (Region.ready .any ops L=[])
 | .rd i p,L=>Region.free .any ops L i&&(Region.ready .any ops L).contains i&&(ops[i]?).isSome&&oW ops bT i&&p.ok ops bT (L.setIfInBounds i true)
 | .one i p,L=>decide (Region.ready .any ops L=[i])&&(ops[i]?).isSome&&p.ok ops bT (L.setIfInBounds i true)
 | .two i p j q,L=>decide (Region.ready .any ops L=[i,j])&&(ops[i]?).isSome&&(ops[j]?).isSome&&p.ok ops bT (L.setIfInBounds i true)&&q.ok ops bT (L.setIfInBounds j true)
 | .three i p j q k r,L=>decide (Region.ready .any ops L=[i,j,k])&&(ops[i]?).isSome&&(ops[j]?).isSome&&(ops[k]?).isSome&&p.ok ops bT (L.setIfInBounds i true)&&q.ok ops bT (L.setIfInBounds j true)&&r.ok ops bT (L.setIfInBounds k true)
 | .pure i p,L=>Region.free .any ops L i&&(Region.ready .any ops L).contains i&&(ops[i]?).isSome&&p.ok ops bT (L.setIfInBounds i true)
 | .last i p,L=>bT.contains i&&decide (Region.ready .any ops L=[i])&&p.tl&&(ops[i]?).isSome&&p.ok ops bT (L.setIfInBounds i true)
def b8.len:b8->Nat
 | .done=>0
 | .rd _ p=>p.len+1
 | .one _ p=>p.len+1
 | .two _ p _ q=>max p.len q.len+1
 | .three _ p _ q _ r=>max p.len (max q.len r.len)+1
 | .last _ p=>p.len+1
 | .pure _ p=>p.len+1
def cm (P:Program)(J:Goroutine->ag->Prop)(ops:Array Oper)(F0:ag)(Q:Act->ag->Prop):fe->Bool->Act->ag->Prop
 | .done,_,a,F=>Q a F
 | .bad,_,_,_=>False
 | .rd o p,_,a,F=>match cq ops o a with
  |some false=>cm P J ops F0 Q p true (aY a o.dst undef) F
  |some true=>match o.op with
   | .load t x=>match ev a x with
    | .pointer (some ad)=>match eR P F0 t ad with
     |some v=>cm P J ops F0 Q p true (aY a o.dst v) F
     |none=>False
    |_=>False
   | .call {callee:=.value x,args, ..}=>match ev a x with
    | .func (.func fn) first captured=>aG P fn=true/\∃v,Plain P J F0 fn (first++args.map (ev a)++captured) v/\cm P J ops F0 Q p false (aY a o.dst v) F
    |_=>False
   |_=>match iw P o a with
    |some v=>cm P J ops F0 Q p true (aY a o.dst v) F
    |none=>False
  |none=>False
 | .one o p,_,a,F=>match cq ops o a with
  |some true=>cB P J o (fun v F'=>Knows F0 F'/\cm P J ops F0 Q p (!Oper.calls o) (aY a o.dst v) F') a F
  |_=>False
 | .two o p o' q,_,a,F=>(match cq ops o a with
  |some true=>cB P J o (fun v F'=>Knows F0 F'/\cm P J ops F0 Q p (!Oper.calls o) (aY a o.dst v) F') a F
  |_=>False)/\(match cq ops o' a with
  |some true=>cB P J o' (fun v F'=>Knows F0 F'/\cm P J ops F0 Q q (!Oper.calls o') (aY a o'.dst v) F') a F
  |_=>False)
 | .three o p o' q jB r,_,a,F=>(match cq ops o a with
  |some true=>cB P J o (fun v F'=>Knows F0 F'/\cm P J ops F0 Q p (!Oper.calls o) (aY a o.dst v) F') a F
  |_=>False)/\(match cq ops o' a with
  |some true=>cB P J o' (fun v F'=>Knows F0 F'/\cm P J ops F0 Q q (!Oper.calls o') (aY a o'.dst v) F') a F
  |_=>False)/\(match cq ops jB a with
  |some true=>cB P J jB (fun v F'=>Knows F0 F'/\cm P J ops F0 Q r (!Oper.calls jB) (aY a jB.dst v) F') a F
  |_=>False)
 | .pure o p,_,a,F=>match cq ops o a with
  |some false=>cm P J ops F0 Q p true (aY a o.dst undef) F
  |some true=>match iw P o a with
   |some v=>cm P J ops F0 Q p true (aY a o.dst v) F
   |none=>False
  |none=>False
 | .last o p,_,a,F=>match cq ops o a with
  |some true=>cB P J o (fun v F'=>cm P J ops F0 Q p (!Oper.calls o) (aY a o.dst v) F') a F
  |_=>False
section
variable {P : Program} {main : Bool} {J : Goroutine → ag → Prop} {ops : Array Oper} {Q : Act → ag → Prop} {F0 : ag} {bT : List Nat}
theorem mS {p:b8}{i:Nat}{o:Oper}{fuel:Nat}{L:Array Bool}{a:Act}{F:ag}(b:ops[i]?=some o)
  (ih:∀go a F,Knows F0 F->cm P J ops F0 Q (p.opers ops) go a F->dM P J ops Q (Knows F0) bT fuel (L.setIfInBounds i true) a F)
  (h:match cq ops o a with
   |some true=>cB P J o (fun v F'=>Knows F0 F'/\cm P J ops F0 Q (p.opers ops) (!Oper.calls o) (aY a o.dst v) F') a F
   |_=>False):dn P J ops i (fun c F'=>(¬i∈bT->Knows F0 F->Knows F0 F')/\dM P J ops Q (Knows F0) bT fuel (L.setIfInBounds i true) c F') a F:=by
 split at h
 ·rename_i hg
  unfold dn
  simp only[b]
  rw[if_pos (b7 hg)]
  refine j4 (j7.oM ?_ h)
  rintro v F' ⟨h1,h2⟩
  exact ⟨fun _ _=>h1,ih _ _ F' h1 h2⟩
 ·exact h.elim
theorem ze {p:b8}{i:Nat}{fuel:Nat}{L:Array Bool}{go:Bool}{a:Act}{F:ag}(e:Region.noSelect ops=true)(c:(b8.pure i p).ok ops bT L=true)
  (ih:∀go v a,p.ok ops bT (L.setIfInBounds i true)=true->cm P J ops F0 Q (p.opers ops) go (aY a ((ops[i]?).bind (·.dst)) v) F->dM P J ops Q (Knows F0) bT fuel (L.setIfInBounds i true) (aY a ((ops[i]?).bind (·.dst)) v) F)
  (h:cm P J ops F0 Q ((b8.pure i p).opers ops) go a F):dM P J ops Q (Knows F0) bT (fuel+1) L a F:=by
 simp only[b8.ok,Bool.and_eq_true] at c
 obtain ⟨⟨⟨c1,c2⟩,c3⟩,c4⟩:=c
 obtain ⟨o,b⟩:=Option.isSome_iff_exists.1 c3
 have d:(Region.noSelect ops&&Region.free .any ops L i&&(Region.ready .any ops L).contains i)=true:=by rw[e,c1,c2];rfl
 have f:b8.opers ops (.pure i p)= .pure o (p.opers ops):=by simp only[b8.opers,b]
 rw[f] at h
 have hd:(ops[i]?).bind (·.dst)=o.dst:=by rw[b];rfl
 rw[hd] at ih
 unfold cm at h
 split at h
 ·rename_i hg
  exact zd i undef b d (.inr ⟨b7 hg,rfl⟩) (ih _ _ _ c4 h)
 ·rename_i hg
  split at h
  ·rename_i v g
   exact zd i v b d (.inl ⟨b7 hg,fun F R _ j=>j4 (qO g j)⟩) (ih _ _ _ c4 h)
  ·exact h.elim
 ·exact h.elim
theorem uD (d:Region.noSelect ops=true):∀(p:b8) (fuel:Nat) (L:Array Bool) (go:Bool) (a:Act) (F:ag),p.tl=true->p.len<=fuel->p.ok ops bT L=true->cm P J ops F0 Q (p.opers ops) go a F->dM P J ops Q (Knows F0) bT fuel L a F
 | .done,fuel,L,go,a,F,_,c,b,h=>by
  simp only[b8.ok,decide_eq_true_eq] at b
  unfold b8.opers cm at h
  exact zb b h _
 | .last i p,fuel,L,go,a,F,ht,c,b,h=>by
  simp only[b8.ok,Bool.and_eq_true,decide_eq_true_eq] at b
  obtain ⟨⟨⟨⟨c1,c2⟩,c3⟩,c4⟩,g⟩:=b
  obtain ⟨o,e⟩:=Option.isSome_iff_exists.1 c4
  have j:b8.opers ops (.last i p)= .last o (p.opers ops):=by simp only[b8.opers,e]
  rw[j] at h
  simp only[b8.len] at c
  obtain ⟨fuel,rfl⟩:∃f,fuel=f+1:=⟨fuel - 1,by omega⟩
  unfold cm at h
  refine za i c2 ?_
  split at h
  ·rename_i hg
   unfold dn
   simp only[e]
   rw[if_pos (b7 hg)]
   refine j4 (j7.oM ?_ h)
   exact fun v F' k=>⟨fun l _=>absurd (by simpa using c1) l,uD d p fuel _ _ _ F' c3 (by omega) g k⟩
  ·exact h.elim
 | .pure i p,fuel,L,go,a,F,ht,c,b,h=>by
  simp only[b8.len] at c
  obtain ⟨fuel,rfl⟩:∃f,fuel=f+1:=⟨fuel - 1,by omega⟩
  exact ze d b (fun go v a c4 m=>uD d p fuel _ go _ F ht (by omega) c4 m) h
 | .rd _ _,_,_,_,_,_,ht,_,_,_=>by cases ht
 | .one _ _,_,_,_,_,_,ht,_,_,_=>by cases ht
 | .two ..,_,_,_,_,_,ht,_,_,_=>by cases ht
 | .three ..,_,_,_,_,_,ht,_,_,_=>by cases ht
theorem jD (g:Region.noSelect ops=true):∀(p:b8) (fuel:Nat) (L:Array Bool) (go:Bool) (a:Act) (F:ag),Knows F0 F->p.len<=fuel->p.ok ops bT L=true->cm P J ops F0 Q (p.opers ops) go a F->dM P J ops Q (Knows F0) bT fuel L a F
 | .done,fuel,L,go,a,F,b,e,c,h=>by
  simp only[b8.ok,decide_eq_true_eq] at c
  unfold b8.opers cm at h
  exact zb c h _
 | .rd i p,fuel,L,go,a,F,b,e,c,h=>by
  simp only[b8.ok,Bool.and_eq_true] at c
  obtain ⟨⟨⟨⟨c1,c2⟩,c3⟩,l⟩,c4⟩:=c
  obtain ⟨o,d⟩:=Option.isSome_iff_exists.1 c3
  have y:(Region.noSelect ops&&Region.free .any ops L i&&(Region.ready .any ops L).contains i)=true:=by rw[g,c1,c2];rfl
  have m:b8.opers ops (.rd i p)= .rd o (p.opers ops):=by simp only[b8.opers,d]
  rw[m] at h
  simp only[b8.len] at e
  obtain ⟨fuel,rfl⟩:∃f,fuel=f+1:=⟨fuel - 1,by omega⟩
  have next:∀go v,cm P J ops F0 Q (p.opers ops) go (aY a o.dst v) F->dM P J ops Q (Knows F0) bT fuel (L.setIfInBounds i true) (aY a o.dst v) F:=fun go v n=>
   jD g p fuel _ go _ F b (by omega) c4 n
  unfold cm at h
  split at h
  ·rename_i hg
   exact DC i d y l hg b (next true undef h)
  ·rename_i hg
   split at h
   ·rename_i t x A
    split at h
    case h_2=>exact h.elim
    rename_i ad C
    split at h
    case h_2=>exact h.elim
    rename_i v n
    refine uC i v d y l hg (fun F R z u=>?_) b (next _ v h)
    unfold cB
    simp only[A,C,z.eR n]
    exact u
   ·rename_i x args argTypes A
    split at h
    case h_2=>exact h.elim
    rename_i fn first captured s
    obtain ⟨D,v,E,h⟩:=h
    refine uC i v d y l hg (fun F R z u=>?_) b (next _ v h)
    unfold cB
    simp only[A,s]
    exact ⟨D,(E F z).mono fun K F' G=>by obtain ⟨rfl,rfl⟩:=G;exact u⟩
   ·split at h
    case h_2=>exact h.elim
    rename_i v n
    exact uC i v d y l hg (fun F R z u=>qO n u) b (next _ v h)
  ·exact h.elim
 | .one i p,fuel,L,go,a,F,b,e,c,h=>by
  simp only[b8.ok,Bool.and_eq_true,decide_eq_true_eq] at c
  obtain ⟨⟨c1,c3⟩,c4⟩:=c
  obtain ⟨o,d⟩:=Option.isSome_iff_exists.1 c3
  have m:b8.opers ops (.one i p)= .one o (p.opers ops):=by simp only[b8.opers,d]
  rw[m] at h
  simp only[b8.len] at e
  obtain ⟨fuel,rfl⟩:∃f,fuel=f+1:=⟨fuel - 1,by omega⟩
  unfold cm at h
  exact za i c1 (mS d (fun go a F b h=>jD g p fuel _ go a F b (by omega) c4 h) h)
 | .two i p j q,fuel,L,go,a,F,b,e,c,h=>by
  simp only[b8.ok,Bool.and_eq_true,decide_eq_true_eq] at c
  obtain ⟨⟨⟨⟨c1,c2⟩,c3⟩,c4⟩,l⟩:=c
  obtain ⟨o,d⟩:=Option.isSome_iff_exists.1 c2
  obtain ⟨o',w⟩:=Option.isSome_iff_exists.1 c3
  have m:b8.opers ops (.two i p j q)= .two o (p.opers ops) o' (q.opers ops):=by simp only[b8.opers,d,w]
  rw[m] at h
  simp only[b8.len] at e
  obtain ⟨fuel,rfl⟩:∃f,fuel=f+1:=⟨fuel - 1,by omega⟩
  unfold cm at h
  refine uB c1 (by simp) fun x s=>?_
  simp only[List.mem_cons,List.not_mem_nil,or_false] at s
  rcases s with rfl|rfl
  ·exact mS d (fun go a F b h=>jD g p fuel _ go a F b (by omega) c4 h) h.1
  ·exact mS w (fun go a F b h=>jD g q fuel _ go a F b (by omega) l h) h.2
 | .three i p j q k r,fuel,L,go,a,F,b,e,c,h=>by
  simp only[b8.ok,Bool.and_eq_true,decide_eq_true_eq] at c
  obtain ⟨⟨⟨⟨⟨⟨c1,c2⟩,c3⟩,c4⟩,l⟩,H⟩,I⟩:=c
  obtain ⟨o,d⟩:=Option.isSome_iff_exists.1 c2
  obtain ⟨o',w⟩:=Option.isSome_iff_exists.1 c3
  obtain ⟨jB,B⟩:=Option.isSome_iff_exists.1 c4
  have m:b8.opers ops (.three i p j q k r)= .three o (p.opers ops) o' (q.opers ops) jB (r.opers ops):=by simp only[b8.opers,d,w,B]
  rw[m] at h
  simp only[b8.len] at e
  obtain ⟨fuel,rfl⟩:∃f,fuel=f+1:=⟨fuel - 1,by omega⟩
  unfold cm at h
  refine uB c1 (by simp) fun x s=>?_
  simp only[List.mem_cons,List.not_mem_nil,or_false] at s
  rcases s with rfl|rfl|rfl
  ·exact mS d (fun go a F b h=>jD g p fuel _ go a F b (by omega) l h) h.1
  ·exact mS w (fun go a F b h=>jD g q fuel _ go a F b (by omega) H h) h.2.1
  ·exact mS B (fun go a F b h=>jD g r fuel _ go a F b (by omega) I h) h.2.2
 | .last i p,fuel,L,go,a,F,b,e,c,h=>uD g (.last i p) fuel L go a F (by simp only[b8.ok,Bool.and_eq_true] at c;exact c.1.1.2) e c h
 | .pure i p,fuel,L,go,a,F,b,e,c,h=>by
  simp only[b8.len] at e
  obtain ⟨fuel,rfl⟩:∃f,fuel=f+1:=⟨fuel - 1,by omega⟩
  exact ze g c (fun go v a c4 n=>jD g p fuel _ go _ F b (by omega) c4 n) h
theorem iB {Q:Ex->Act->ag->Prop}(hJ:Closed P main J)(d:P.follows .mixedOrders=true)(bT:List Nat)(p:b8){id:Nat}{a:Act}{F:ag}(F0:ag)(e:Knows F0 F)
  (c:(Region.noSelect ops&&decide (p.len<=ops.size)&&p.ok ops bT (Array.replicate ops.size false))=true)
  (h:cm P J ops F0 (Q .normal) (p.opers ops) true a F):Wp J (.region id ops true) Q a F:=by
 simp only[Bool.and_eq_true,decide_eq_true_eq] at c
 obtain ⟨⟨h1,h2⟩,h3⟩:=c
 intro b k cs hb f
 refine hJ.step fun w hw=>?_
 refine ⟨_,_,_,F,xP,.drawn _ _ _,hw.drawn _,by simp,?_⟩
 refine qu (K:=Q .normal) hJ (tn hb) (fun g F' i=>f .normal g F' i) _ _ _ ?_
 simp only[Region.schedule,d,Bool.true_or,if_true]
 exact Dx ops.size _ _ a F (jD (bT:=bT) h1 p ops.size _ true a F e h2 h3 h)
end
theorem DD {P:Program}{J:Goroutine->ag->Prop}{ops:Array Oper}{F0:ag}{Q:Act->ag->Prop}{go:Bool}{a:Act}{F:ag}:cm P J ops F0 Q .done go a F=Q a F:=rfl
theorem DF {P:Program}{J:Goroutine->ag->Prop}{ops:Array Oper}{F0:ag}{Q:Act->ag->Prop}{o:Oper}{p:fe}{a:Act}{F:ag}:cm P J ops F0 Q (.rd o p) true a F=match cq ops o a with
  |some false=>cm P J ops F0 Q p true (aY a o.dst undef) F
  |some true=>match o.op with
   | .load t x=>match ev a x with
    | .pointer (some ad)=>match eR P F0 t ad with
     |some v=>cm P J ops F0 Q p true (aY a o.dst v) F
     |none=>False
    |_=>False
   | .call {callee:=.value x,args, ..}=>match ev a x with
    | .func (.func fn) first captured=>aG P fn=true/\∃v,Plain P J F0 fn (first++args.map (ev a)++captured) v/\cm P J ops F0 Q p false (aY a o.dst v) F
    |_=>False
   |_=>match iw P o a with
    |some v=>cm P J ops F0 Q p true (aY a o.dst v) F
    |none=>False
  |none=>False:=(Eq.refl _).trans (Eq.refl _)
theorem zf {P:Program}{J:Goroutine->ag->Prop}{ops:Array Oper}{F0:ag}{Q:Act->ag->Prop}{o:Oper}{p:fe}{a:Act}{F:ag}:cm P J ops F0 Q (.one o p) true a F=match cq ops o a with
  |some true=>cB P J o (fun v F'=>Knows F0 F'/\cm P J ops F0 Q p (!Oper.calls o) (aY a o.dst v) F') a F
  |_=>False:=(Eq.refl _).trans (Eq.refl _)
theorem jE {P:Program}{J:Goroutine->ag->Prop}{ops:Array Oper}{F0:ag}{Q:Act->ag->Prop}{o o':Oper}{p q:fe}{go:Bool}{a:Act}{F:ag}(h1:cm P J ops F0 Q (.one o p) true a F)(h2:cm P J ops F0 Q (.one o' q) true a F):cm P J ops F0 Q (.two o p o' q) go a F:=by
 rw[zf] at h1 h2
 unfold cm
 exact ⟨h1,h2⟩
theorem DG {P:Program}{J:Goroutine->ag->Prop}{ops:Array Oper}{F0:ag}{Q:Act->ag->Prop}{o:Oper}{p:fe}{a:Act}{F:ag}:cm P J ops F0 Q (.last o p) true a F=match cq ops o a with
  |some true=>cB P J o (fun v F'=>cm P J ops F0 Q p (!Oper.calls o) (aY a o.dst v) F') a F
  |_=>False:=(Eq.refl _).trans (Eq.refl _)
theorem DH {P:Program}{J:Goroutine->ag->Prop}{ops:Array Oper}{F0:ag}{Q:Act->ag->Prop}{o:Oper}{p:fe}{a:Act}{F:ag}:cm P J ops F0 Q (.pure o p) true a F=match cq ops o a with
  |some false=>cm P J ops F0 Q p true (aY a o.dst undef) F
  |some true=>match iw P o a with
   |some v=>cm P J ops F0 Q p true (aY a o.dst v) F
   |none=>False
  |none=>False:=(Eq.refl _).trans (Eq.refl _)
theorem bU {P:Program}{J:Goroutine->ag->Prop}{ops:Array Oper}{F0:ag}{Q:Act->ag->Prop}:∀{p:fe} {go:Bool} {a:Act} {F:ag},cm P J ops F0 Q p true a F->cm P J ops F0 Q p go a F
 | .done,_,_,_,h=>h
 | .bad,_,_,_,h=>h
 | .rd ..,_,_,_,h=>h
 | .one ..,_,_,_,h=>h
 | .two ..,_,_,_,h=>h
 | .three ..,_,_,_,h=>h
 | .last ..,_,_,_,h=>h
 | .pure ..,_,_,_,h=>h
attribute [irreducible] cm
attribute [go_sem] DD DF zf DG DH b8.opers
theorem eu {ro aI:Addr->Option Value}{l:List (Nat×Obj)}(a:Ext ro aI)(b:az aI l)(own:List (Nat×Obj)):Knows ⟨ro,l⟩ ⟨aI,own⟩=iu l own:=
 propext ⟨fun h=>h.2.2,CQ a b⟩
section
variable {P : Program} {main : Bool} {J : Goroutine → ag → Prop} {a : Act} {F : ag}
def lA (l:Nat)(R:Value->ag->Prop)(st:LoopState)(jump:Option Code)(F:ag):Prop:=
 ∃lo,F.eJ l=some (.loop lo)/\R (.bool jump.isNone) (F.put l (.loop {lo with state:=st,pending:=jump}))
def q2 (l:Nat)(R:Value->ag->Prop):Ex->Act->ag->Prop
 | .normal,_,F=>lA l R .ready none F
 | .exit id,_,F=>lA l R .done (some (.exit id)) F
 | .ret,_,F=>lA l R .done (some .ret) F
def oX (J:Goroutine->ag->Prop)(l:Nat)(body:Code)(R:Value->ag->Prop):Ex->Act->ag->Prop
 | .normal,a,F=>∃lo,F.eJ l=some (.loop lo)/\lo.state= .ready/\Wp J body (q2 l R) a (F.put l (.loop {lo with state:=.busy}))
 |_,_,_=>False
theorem uE {l:Nat}{R:Value->ag->Prop}{st:LoopState}{jump:Option Code}(a:st=if jump.isNone then .ready else .done)(h:lA l R st jump F):aS P (Instr.endRound l jump) R F:=by
 obtain ⟨lo,h1,h2⟩:=h
 simp only[Instr.endRound,Instr.getLoop,bn,mI]
 refine ⟨_,h1,?_⟩
 simp only[bC,bn,kU,h1,Option.isSome_some,Obj.isChan,true_and]
 rw[a] at h2
 exact h2
theorem uF (hJ:Closed P main J){l:Nat}{b:Frame}{a:Act}{todo:List Item}{jump:Option Code}{c:Frame}{cs:List Frame}(f:b.kind= .normal)
  (hs:∀w,stepG P main (G (on b a todo) (c::cs)) w=GStep.after (seen P b.fn ((Instr.endRound l jump).runT P w #[]).2) (match ((Instr.endRound l jump).runT P w #[]).1 with
    | .ok v w=>doReturn P main (on b a todo) (c::cs) none v w
    | .halt _ w=>.ended (.stuck "range over a function: no such loop" ((on b a todo).pos P)) w))
  (h:aS P (Instr.endRound l jump) (fun v F'=>J (G (c.finish v) cs) F') F):J (G (on b a todo) (c::cs)) F:=by
 refine hJ.step fun w hw=>?_
 obtain ⟨v,w',F',es,H⟩:=j0 _ F w #[] h hw
 have d:=H.run
 rw[Array.empty_append] at d
 refine ⟨G (c.finish v) cs,w',seen P b.fn es,F',?_,H.upd,H.has,fun e he=>H.gI e (mem_seen he),H.post⟩
 rw[hs w,d]
 have g:(on b a todo).kind= .normal:=f
 simp only[doReturn,g,GStep.after,G]
 simp
theorem iR.of_wp (hJ:Closed P main J){l:Nat}{f:FuncId}{tmps:Array Value}{assign body:Code}{R:Value->ag->Prop}(hd:e5 assign=true)(o:e5 body=true)
  (h:Wp J assign (oX J l body R) {tmps:=tmps,defers:=[]} F):iR J l f tmps assign body F R:=by
 intro c cs d
 let b:Frame:={(default:Frame) with fn:=f,kind:=.normal,roundOf:=some l}
 have he:Frame.round l f tmps assign body .normal=on b {tmps:=tmps,defers:=[]} (.code assign::[.beginRound,.code body]):=rfl
 rw[he]
 refine h b [.beginRound,.code body] (c::cs) ⟨by simp[b],.inr hd⟩ fun e j F' a=>?_
 cases e with
 |exit i=>exact a.elim
 |ret=>exact a.elim
 |normal=>
  obtain ⟨lo,h1,h2,h3⟩:=a
  show J (G (on b j [.beginRound,.code body]) (c::cs)) F'
  have p:aS P (do Instr.beginRound l;pure Next.skip:Sem Next) (fun n g=>n= .skip/\g=F'.put l (.loop {lo with state:=.busy})) F':=by
   simp only[Instr.beginRound,Instr.getLoop,bn,mI]
   refine ⟨_,h1,?_⟩
   simp only[bC,bn,kU,h1,Option.isSome_some,Obj.isChan,true_and,h2]
   all_goals first|trivial|exact ⟨rfl,rfl⟩
  refine hJ.step fun w hw=>?_
  obtain ⟨n,w',g,es,H⟩:=j0 _ F' w #[] p hw
  have k:=H.run
  rw[Array.empty_append] at k
  obtain ⟨rfl,rfl⟩:=H.post
  refine ⟨G (on b j [.code body]) (c::cs),w',seen P b.fn es,_,?_,H.upd,H.has,fun e he=>H.gI e (mem_seen he),?_⟩
  ·have q:b.roundOf=some l:=rfl
   simp only[G,stepG,stepG.exec,on,q,Option.elim,stepG.apply,if_true]
   have r:(b.kind==CallKind.early)=false:=rfl
   simp only[k,r,Bool.false_eq_true,if_false,GStep.after]
   simp[Frame.finish,undef]
  ·refine h3 b [] (c::cs) ⟨by simp[b],.inr o⟩ fun e a2 g a=>?_
   cases e with
   |normal=>
    refine uF hJ (l:=l) (jump:=none) rfl (fun w=>?_) (uE rfl (R:=fun v F'=>J (G (c.finish v) cs) F') ?_)
    ·simp only[G,stepG,stepG.exec,on]
     rfl
    ·obtain ⟨lo,h1,h2⟩:=a
     exact ⟨lo,h1,d _ _ h2⟩
   |exit i=>
    intro m s
    refine uF hJ (l:=l) (jump:=some (.exit i)) rfl (fun w=>?_) (uE rfl (R:=fun v F'=>J (G (c.finish v) cs) F') ?_)
    ·have t:exitTo i m=none:=s
     simp only[G,stepG,stepG.exec,on,t,Option.elim]
     rfl
    ·obtain ⟨lo,h1,h2⟩:=a
     exact ⟨lo,h1,d _ _ h2⟩
   |ret=>
    intro m
    refine uF hJ (l:=l) (jump:=some .ret) rfl (fun w=>?_) (uE rfl (R:=fun v F'=>J (G (c.finish v) cs) F') ?_)
    ·simp only[G,stepG,stepG.exec,on]
     rfl
    ·obtain ⟨lo,h1,h2⟩:=a
     exact ⟨lo,h1,d _ _ h2⟩
def q3 (Q:Ex->Act->ag->Prop)(a:Act)(F:ag):Option Code->Prop
 |none=>Q .normal a F
 |some (.exit id)=>Q (.exit id) a F
 |some .ret=>Q .ret a F
 |_=>False
def mT (b:FuncId)(a:Act)(params:Array Tmp)(assign body:Code)(d:Nat):Loop:={state:=.ready,pending:=none,fn:=b,tmps:=a.tmps,params:=params,assign:=assign,body:=body,defers:=d}
theorem DI (hJ:Closed P main J){x:Operand}{params:Array Tmp}{assign body:Code}{Q:Ex->Act->ag->Prop}{fn:FuncId}{first captured:Array Value}
  (E:ev a x= .func (.func fn) first captured) (I:aG P fn=true)
  (L:∀M d l,dD F d->dD (F.push d (.deferred (some []))) l->
   cK P J fn (first++#[.func (.yield l) #[] #[]]++captured) ((F.push d (.deferred (some []))).push l (.loop (mT M a params assign body d)))
    (fun _ F'=>∃lo,F'.eJ l=some (.loop lo)/\lo.state≠ .busy/\q3 Q {a with defers:=⟨.collected d,#[]⟩::a.defers} (F'.put l (.loop {lo with state:=.exhausted})) lo.pending)):
  Wp J (.rangeFunc x params assign body) Q a F:=by
 intro b k cs hb p
 have t:b.roundOf=none:=hb.round.elim id fun h=>by simp[e5] at h
 obtain ⟨u,N,O,R,S,q,a0⟩:=b
 simp only at t
 subst t
 let b:Frame:=⟨u,N,O,R,S,q,none⟩
 have T:a.eval x= .func (.func fn) first captured:=E
 have i:=I
 unfold aG at i
 split at i
 case h_2=>cases i
 rename_i a2 U
 simp only[Bool.not_eq_true',Bool.or_eq_false_iff] at i
 let K:Nat×List Deferred->ag->Prop:=fun r F'=>∃d l,r=(l,[⟨.collected d,#[]⟩])/\dD F d/\dD (F.push d (.deferred (some []))) l/\F'=(F.push d (.deferred (some []))).push l (.loop (mT b.fn a params assign body d))
 have h1:aS P (Instr.enterLoop b.fn a.tmps params assign body none) K F:=by
  simp only[Instr.enterLoop,bn,oz,bC]
  exact ⟨rfl,fun d hd=>⟨rfl,fun l s=>⟨d,l,rfl,hd,s,rfl⟩⟩⟩
 refine hJ.step fun w hw=>?_
 obtain ⟨r,w1,a3,z,H1⟩:=j0 _ F w #[] h1 hw
 have A:=H1.run
 rw[Array.empty_append] at A
 obtain ⟨d,l,rfl,hd,s,rfl⟩:=H1.post
 let fr':Frame:={on b a (.inRangeFunc l::k) with defers:=[⟨.collected d,#[]⟩]++a.defers}
 have V:fr'=on b {a with defers:=⟨.collected d,#[]⟩::a.defers} (.inRangeFunc l::k):=rfl
 have W:fr'.eval x= .func (.func fn) first captured:=by rw[V,s9];exact T
 have h2:aS P (do let m<-resolve fr'.eval {callee:=.value x,args:=#[.const (.func (.yield l) #[] #[])],argTypes:=#[]} 0;invoke m.target m.args:Sem Next)
   (fun n o=>n= .enter fn (first++#[.func (.yield l) #[] #[]]++captured)/\o=(F.push d (.deferred (some []))).push l (.loop (mT b.fn a params assign body d))) ((F.push d (.deferred (some []))).push l (.loop (mT b.fn a params assign body d))):=by
  have X:fr'.eval (.const (.func (.yield l) #[] #[]))= .func (.yield l) #[] #[]:=rfl
  simp only[resolve,W,Deferred.ofValue,bn,bC,invoke,callFunc,js,U,i.1,i.2,Bool.false_eq_true,if_false,List.map_toArray,List.map_cons,List.map_nil,X]
  simp
 obtain ⟨n,w2,o,Y,g⟩:=j0 _ _ w1 #[] h2 H1.has
 have B:=g.run
 rw[Array.empty_append] at B
 obtain ⟨rfl,rfl⟩:=g.post
 refine ⟨G (Frame.enter P fn (first++#[.func (.yield l) #[] #[]]++captured) .normal) (fr'::cs),w2,seen P b.fn z++seen P b.fn Y,_,?_,H1.upd.trans g.upd,g.has,fun e he=>?_,?_⟩
 ·have Z:(q==CallKind.early)=false:=by have:=hb.kind;cases q<;>simp_all
  have hs:∀e:Array Event,stepG P main (G (on b a (.code (.rangeFunc x params assign body)::k)) cs) w=GStep.after (seen P u z) (stepG.apply P true fr' cs none (do let m<-resolve fr'.eval {callee:=.value x,args:=#[.const (.func (.yield l) #[] #[])],argTypes:=#[]} 0;invoke m.target m.args) w1):=fun _=>by
   simp only[G,stepG,stepG.exec,on,b]
   rw[A]
   rfl
  show stepG P main (G (on b a (.code (.rangeFunc x params assign body)::k)) cs) w=_
  rw[hs #[]]
  unfold stepG.apply
  simp only[if_true,B]
  have ab:(fr'.kind==CallKind.early)=false:=Z
  simp only[ab,Bool.false_eq_true,if_false,GStep.after]
  rfl
 ·rcases Array.mem_append.1 he with h|h
  ·refine (H1.gI e (mem_seen h)).mono (fun _ x=>x) fun b hb=>hb.imp id fun y=>⟨y.1,Nat.lt_of_lt_of_le y.2 g.upd.size⟩
  ·refine (g.gI e (mem_seen h)).mono (fun a ad=>ad) fun b hb=>?_
   rcases hb with hb|hb
   ·rcases H1.upd.own b hb with x|x
    ·exact .inl x
    ·exact .inr ⟨x,Nat.lt_of_lt_of_le (H1.has.lt hb) g.upd.size⟩
   ·exact .inr ⟨Nat.le_trans H1.upd.size hb.1,hb.2⟩
 ·refine L b.fn d l hd s fr' cs fun v F' ae=>?_
  obtain ⟨lo,C,al,f⟩:=ae
  have ao:fr'.finish v=on b {a with defers:=⟨.collected d,#[]⟩::a.defers} (.endRangeFunc l::k):=rfl
  rw[ao]
  have h3:aS P (Instr.endLoop l) (fun j o=>j=lo.pending/\o=F'.put l (.loop {lo with state:=.exhausted})) F':=by
   simp only[Instr.endLoop,Instr.getLoop,bn,mI]
   refine ⟨_,C,?_⟩
   have ar:¬(lo.state== .busy)=true:=by simpa using al
   simp only[bC,bn,kU,C,Option.isSome_some,Obj.isChan,true_and,c7,ar]
   all_goals first|trivial|exact ⟨rfl,rfl⟩
  refine hJ.step fun w hw=>?_
  obtain ⟨j,w',a4,es,H⟩:=j0 _ F' w #[] h3 hw
  have D:=H.run
  rw[Array.empty_append] at D
  obtain ⟨rfl,rfl⟩:=H.post
  refine ⟨G (on b {a with defers:=⟨.collected d,#[]⟩::a.defers} ((lo.pending.map Item.code).toList++k)) cs,w',seen P b.fn es,_,?_,H.upd,H.has,fun e he=>H.gI e (mem_seen he),?_⟩
  ·simp only[G,stepG,stepG.exec,on,D,GStep.after]
   simp
  ·revert f
   cases lo.pending with
   |none=>exact fun f=>p .normal _ _ f
   |some c=>
    intro f
    cases c<;>simp only[q3] at f<;>first
     |exact f.elim
     |exact p (.exit _) _ _ f k rfl
     |exact p .ret _ _ f k
end
def eL {H σ:Type}(step:σ->H->Option (Bool×σ)):List (Option H)->σ->Option (Bool×σ)
 |[],s=>some (true,s)
 |none::_,_=>none
 |some x::l,s=>match step s x with
  |some (true,s')=>eL step l s'
  |some (false,s')=>some (false,s')
  |none=>none
theorem zg {H σ:Type}(step:σ->H->Option (Bool×σ)):∀(l l':List (Option H)) (s:σ),eL step (l++l') s=match eL step l s with
  |some (true,s')=>eL step l' s'
  |some (false,s')=>some (false,s')
  |none=>none
 |[],l',s=>rfl
 |none::l,l',s=>rfl
 |some x::l,l',s=>by
  simp only[List.cons_append,eL]
  split<;>first|rfl|exact zg step l l' _
def iC {H σ ρ:Type}(f:H->σ->Option (Fl σ ρ)):List (Option H)->σ->Option (Fl σ ρ)
 |[],s=>some (.nx s)
 |none::_,_=>none
 |some x::l,s=>ah (f x s) fun o=>match o with
  | .nx s'=>iC f l s'
  | .bk s'=>some (.nx s')
  | .br k s'=>some (.br k s')
  | .rt _=>none
def uG {H σ:Type}(P:Program)(y:Value)(enc:H->Value)(step:σ->H->Option (Bool×σ))(ro:Addr->Option Value)(I:σ->List (Nat×Obj)->Prop):Prop:=
 ∀s x b s',step s x=some (b,s')->∀(main:Bool) (J:Goroutine->ag->Prop),Closed P main J->∀own,I s own->
  fT P J y #[enc x] ⟨ro,own⟩ (fun v F'=>∃a,Le ⟨ro,a⟩ F'/\v= .bool b/\I s' a)
def lB {H:Type}(P:Program)(f:FuncId)(first cap:Array Value)(enc:H->Value)(L:List (Option H))(ro:Addr->Option Value):Prop:=
 aG P f=true/\∀(aI:Addr->Option Value),Ext ro aI->∀(σ:Type) (step:σ->H->Option (Bool×σ)) (I:σ->List (Nat×Obj)->Prop) (a:Fn) (c d:Array Value),uG P (.func a c d) enc step aI I->
  ∀s b s',eL step L s=some (b,s')->∀(main:Bool) (J:Goroutine->ag->Prop),Closed P main J->∀own,I s own->
   cK P J f (first++#[.func a c d]++cap) ⟨aI,own⟩ (fun _ F'=>∃e,Le ⟨aI,e⟩ F'/\I s' e)
theorem lB.mono {H:Type}{P:Program}{f:FuncId}{first cap:Array Value}{enc:H->Value}{L:List (Option H)}{ro a:Addr->Option Value}(h:lB P f first cap enc L ro)(b:Ext ro a):lB P f first cap enc L a:=
 ⟨h.1,fun aI c=>h.2 aI (b.trans c)⟩
def q4:Nat:=1000000000
def lC (k:Nat):Code:=if k=q4 then .ret else .exit k
def uH (Q:Ex->Act->ag->Prop)(k:Nat):Act->ag->Prop:=if k=q4 then Q .ret else Q (.exit k)
def zh {σ ρ:Type}(c:Nat)(ro:Addr->Option Value)(l d:Nat)(S:σ->List (Nat×Obj)->Prop)(lo:Loop)(b:Fl σ ρ)(v:Value)(F:ag):Prop:=
 ∃a,Le ⟨ro,(l,.loop {lo with state:=(match b with| .nx _=>.ready|_=>.done),pending:=(match b with| .nx _=>none| .bk _=>some (lC c)| .br k _=>some (lC k)| .rt _=>none)})::(d,.deferred (some []))::a⟩ F/\
  match b with
  | .nx s'=>v= .bool true/\S s' a
  | .bk s'=>v= .bool false/\S s' a
  | .br _ s'=>v= .bool false/\S s' a
  | .rt _=>False
section
variable {P : Program} {main : Bool} {J : Goroutine → ag → Prop} {a : Act}
theorem zi {H σ ρ:Type}{f:H->σ->Option (Fl σ ρ)}(a:Nat):∀(L:List (Option H)) (s:σ) (o:Fl σ ρ),iC f L s=some o->
  ∃b s' pend,eL (σ:=σ×Option Nat) (fun st x=>match st with
   |(s,none)=>match f x s with
    |some (.nx s')=>some (true,(s',none))
    |some (.bk s')=>some (false,(s',some a))
    |some (.br k s')=>some (false,(s',some k))
    |_=>none
   |_=>none) L (s,none)=some (b,(s',pend))/\((o= .nx s'/\(pend=none\/pend=some a))\/∃k,o= .br k s'/\pend=some k)
 |[],s,o,h=>by
  cases h
  exact ⟨true,s,none,rfl,.inl ⟨rfl,.inl rfl⟩⟩
 |none::L,s,o,h=>by cases h
 |some x::L,s,o,h=>by
  unfold iC at h
  obtain ⟨c,h1,h2⟩:=fj h
  cases c with
  |nx s'=>
   obtain ⟨b,s2,pend,h3,d⟩:=zi a L s' o h2
   refine ⟨b,s2,pend,?_,d⟩
   unfold eL
   simp only[h1]
   exact h3
  |bk s'=>
   cases h2
   refine ⟨false,s',some a,?_,.inl ⟨rfl,.inr rfl⟩⟩
   unfold eL
   simp only[h1]
  |br k s'=>
   cases h2
   refine ⟨false,s',some k,?_,.inr ⟨k,rfl,rfl⟩⟩
   unfold eL
   simp only[h1]
  |rt r=>cases h2
theorem zj {ro:Addr->Option Value}{l:Nat}{o:Obj}{own:List (Nat×Obj)}(h1:Obj.oq o=false)(h2:o.isChan=false):ag.eJ ⟨ro,(l,o)::own⟩ l=some o:=by
 simp[ag.eJ,lk,h1,h2]
def oY (a:Act)(d:Nat):Act:={a with defers:=⟨.collected d,#[]⟩::a.defers}
theorem DJ (a:Act)(d i:Nat):slot (oY a d) i=slot a i:=rfl
theorem DK (a:Act)(d:Nat):sz (oY a d)=sz a:=rfl
theorem DL (a:Act)(d:Nat):(oY a d).defers=⟨.collected d,#[]⟩::a.defers:=rfl
def lD (a:Act)(p:Tmp)(v:Value):Act:={tmps:=a.tmps.setIfInBounds p v,defers:=[]}
theorem mU (a:Act)(p:Tmp)(v:Value)(i:Nat):slot (lD a p v) i=slot (aY a (some p) v) i:=rfl
theorem uI (a:Act)(p:Tmp)(v:Value):sz (lD a p v)=sz a:=by simp[sz,lD]
theorem uJ {H σ ρ:Type}(hJ:Closed P main J){x:Operand}{p:Tmp}{assign body:Code}{Q:Ex->Act->ag->Prop}{fn:FuncId}{first captured:Array Value}{ro:Addr->Option Value}{own:List (Nat×Obj)}{g:Nat}
  (enc:H->Value) {L:List (Option H)} (U:ev a x= .func (.func fn) first captured) (K:lB P fn first captured enc L ro)
  (V:e5 assign=true) (W:e5 body=true)
  (S:σ->List (Nat×Obj)->Prop) {f:H->σ->Option (Fl σ ρ)} {z:σ} {o:Fl σ ρ} (X:iC f L z=some o) (Y:S z own)
  (Z:∀(d l:Nat) (lo:Loop),lo.state= .ready->∀(s:σ) (y:H) (q:Fl σ ρ),f y s=some q->∀(main:Bool) (J:Goroutine->ag->Prop),Closed P main J->∀own,S s own->
   Wp J assign (oX J l body (zh g ro l d S lo q)) (lD a p (enc y)) ⟨ro,(l,.loop lo)::(d,.deferred (some []))::own⟩)
  (ab:¬g=q4)
  (ad:∀d l lo j s',S s' j->aL (keys ((l,.loop lo)::(d,.deferred (some []))::j))->az ro ((l,.loop lo)::(d,.deferred (some []))::j)->(o= .nx s'->Q .normal (oY a d) ⟨ro,(l,.loop lo)::(d,.deferred (some []))::j⟩)/\
   (∀k,o= .br k s'->uH Q k (oY a d) ⟨ro,(l,.loop lo)::(d,.deferred (some []))::j⟩))
  (ae:∀k s',o= .br k s'->¬k=g):Wp J (.block g (.rangeFunc x #[p] assign body)) Q a ⟨ro,own⟩:=by
 refine aM hJ (Wp.mono (Q:=fun e A F'=>match e with| .exit i=>if i=g then Q .normal A F' else Q (.exit i) A F'|e=>Q e A F') ?_ fun e a F h=>by cases e<;>exact h)
 obtain ⟨b,s',pend,al,ao⟩:=zi g L z o X
 refine DI hJ U K.1 fun B d l hd bc=>?_
 let lo:Loop:=mT B a #[p] assign body d
 let n:Option Nat->Loop:=fun pend=>{lo with state:=(match pend with|none=>.ready|some _=>.done),pending:=pend.map lC}
 let I:σ×Option Nat->List (Nat×Obj)->Prop:=fun st ar=>∃aQ,ar=(l,.loop (n st.2))::(d,.deferred (some []))::aQ/\S st.1 aQ
 have a0:uG P (.func (.yield l) #[] #[]) enc (fun (st:σ×Option Nat) x=>match st with
   |(s,none)=>match f x s with
    |some (.nx s')=>some (true,(s',none))
    |some (.bk s')=>some (false,(s',some g))
    |some (.br k s')=>some (false,(s',some k))
    |_=>none
   |_=>none) ro I:=by
  rintro ⟨s,pend⟩ y bd ⟨s1,bj⟩ m a2 M N a3 ⟨aQ,rfl,a4⟩
  cases pend with
  |some k=>cases m
  |none=>
   simp only at m
   refine ⟨rfl,rfl,lo,zj rfl rfl,rfl,?_⟩
   cases C:f y s with
   |none=>rw[C] at m;cases m
   |some q=>
    have D:=iR.of_wp N (R:=zh g ro l d S lo q) (f:=B) V W (Z d l lo rfl s y q C a2 M N aQ a4)
    rw[C] at m
    have a5:(lo.params.zip #[enc y]).foldl (fun tmps (t,a)=>tmps.setIfInBounds t a) lo.tmps=a.tmps.setIfInBounds p (enc y):=by simp[lo,mT]
    show iR M l B ((lo.params.zip #[enc y]).foldl (fun tmps (t,a)=>tmps.setIfInBounds t a) lo.tmps) assign body _ _
    rw[a5]
    refine D.mono fun v F' E=>?_
    obtain ⟨j,hle,hm⟩:=E
    cases q with
    |nx s2=>
     simp only[Option.some.injEq,Prod.mk.injEq] at m
     obtain ⟨rfl,rfl,rfl⟩:=m
     exact ⟨_,hle,hm.1,j,rfl,hm.2⟩
    |bk s2=>
     simp only[Option.some.injEq,Prod.mk.injEq] at m
     obtain ⟨rfl,rfl,rfl⟩:=m
     exact ⟨_,hle,hm.1,j,rfl,hm.2⟩
    |br k s2=>
     simp only[Option.some.injEq,Prod.mk.injEq] at m
     obtain ⟨rfl,rfl,rfl⟩:=m
     exact ⟨_,hle,hm.1,j,rfl,hm.2⟩
    |rt r=>exact hm.elim
 have a6:=K.2 ro (Ext.refl ro) _ _ I _ _ _ a0 (z,none) b (s',pend) al main J hJ ((l,.loop lo)::(d,.deferred (some []))::own) ⟨own,rfl,Y⟩
 intro c cs a7
 refine a6 c cs fun v F' E=>?_
 obtain ⟨a3,hle,j,rfl,a8⟩:=E
 by_cases hw:∃w,Has F' w
 case neg=>exact hJ.step fun w a9=>absurd ⟨w,a9⟩ hw
 obtain ⟨w,hw⟩:=hw
 have O:=hle.has w hw
 refine hJ.mono hle (a7 v _ ⟨n pend,zj rfl rfl,?_,?_⟩)
 ·cases pend<;>simp[n]
 ·obtain ⟨T,ba⟩:=ad d l {n pend with state:=.exhausted} j s' a8 ⟨O.nodup⟩ (fun b hb off sp=>by
   cases D:ro ⟨b,off,sp⟩ with
   |none=>rfl
   |some v=>exact absurd hb (O.apart _ v D))
  have bb:ag.put ⟨ro,(l,.loop (n pend))::(d,.deferred (some []))::j⟩ l (.loop {n pend with state:=.exhausted})=⟨ro,(l,.loop {n pend with state:=.exhausted})::(d,.deferred (some []))::j⟩:=by simp[ag.put,ie]
  rw[bb]
  rcases ao with ⟨rfl,rfl|rfl⟩|⟨k,rfl,rfl⟩
  ·exact T rfl
  ·show q3 _ _ _ (some (lC g))
   have:lC g= .exit g:=if_neg ab
   rw[this]
   show (if g=g then Q .normal _ _ else Q (.exit g) _ _)
   rw[if_pos rfl]
   exact T rfl
  ·have u:=ba k rfl
   show q3 _ _ _ (some (lC k))
   unfold uH at u
   unfold lC
   split
   ·rename_i G
    rw[if_pos G] at u
    exact u
   ·rename_i G
    rw[if_neg G] at u
    show (if k=g then Q .normal _ _ else Q (.exit k) _ _)
    rw[if_neg (ae k s' rfl)]
    exact u
theorem DN {R:List Deferred->ag->Prop}{r:Nat}{F:ag}:aS P (Instr.takeDeferred r) R F=match F.eJ r with
  |some (.deferred (some a))=>R a (F.put r (.deferred none))
  |_=>False:=by
 unfold Instr.takeDeferred
 rw[bn,mI]
 refine propext ⟨fun ⟨o,h1,h2⟩=>?_,fun h=>?_⟩
 ·rw[h1]
  cases o<;>first|exact (show False from h2).elim|skip
  rename_i a
  cases a with
  |none=>exact (show False from h2).elim
  |some a=>
   simp only[bn,kU,bC] at h2
   exact h2.2.2
 ·split at h
  ·rename_i a b
   refine ⟨_,b,?_⟩
   simp only[bn,kU,bC]
   exact ⟨rfl,by rw[b];rfl,h⟩
  ·exact h.elim
theorem DO (hJ:Closed P main J){y:Value}{args:Array Value}{ro:Addr->Option Value}{own:List (Nat×Obj)}{R:Value->List (Nat×Obj)->Prop}(pre:List (Nat×Obj))
  (h:∀(main:Bool) (J:Goroutine->ag->Prop),Closed P main J->fT P J y args ⟨ro,own⟩ (fun v F'=>∃a,Le ⟨ro,a⟩ F'/\R v a)) (j:aL (keys (pre++own))) {K:Value->ag->Prop}
  (k:∀v a,R v a->aL (keys (pre++a))->K v ⟨ro,pre++a⟩):fT P J y args ⟨ro,pre++own⟩ K:=by
 have key:∀iV:Frame,(∀(main:Bool) (J:Goroutine->ag->Prop),Closed P main J->qY J iV ⟨ro,own⟩ (fun v F'=>∃a,Le ⟨ro,a⟩ F'/\R v a))->qY J iV ⟨ro,pre++own⟩ K:=fun iV h0=>
  y7 hJ pre [] (by simp) R (fun m b d c cs n=>h0 m b d c cs fun v F' p=>n v F' (by obtain ⟨o,h1,h2⟩:=p;exact ⟨o,h2,h1⟩)) fun v s t a g e=>by
   rw[List.append_nil] at g
   subst g
   exact ⟨_,Le.refl _,k v s t e⟩
 have h0:=h main J hJ
 unfold fT at h0 ⊢
 split at h0
 ·rename_i fn first captured
  refine ⟨h0.1,key _ fun m b d=>?_⟩
  have:=h m b d
  unfold fT at this
  exact this.2
 ·rename_i l first captured
  obtain ⟨e1,e2,r,h1,h2,_⟩:=h0
  refine ⟨e1,e2,r,?_,h2,key _ fun m b d=>?_⟩
  ·have hm:l∈keys own:=by
    unfold ag.eJ at h1
    split at h1
    ·rename_i o u;exact eD (gf u)
    ·cases h1
   have e:l∉keys pre:=fun w=>by
    have:=j.nd
    rw[b9] at this
    exact (List.nodup_append.1 this).2.2 l w l hm rfl
   have x:∀(pre:List (Nat×Obj)),l∉keys pre->lk (pre++own) l=lk own l:=fun pre=>by
    induction pre with
    |nil=>intro _;rfl
    |cons q pre ih=>
     intro f
     simp only[keys,List.map_cons,List.mem_cons,not_or] at f
     simp only[List.cons_append,lk,if_neg (Ne.symm f.1)]
     exact ih f.2
   unfold ag.eJ at h1 ⊢
   simp only at h1 ⊢
   rw[x pre e]
   exact h1
  ·have:=h m b d
   unfold fT at this
   obtain ⟨_,_,A,i,B,z⟩:=this
   rw[h1] at i
   cases i
   exact z
 ·exact h0.elim
theorem cK.less (hJ:Closed P main J){f:FuncId}{args:Array Value}{F:ag}{R:Value->ag->Prop}(h:cK P J f args F (fun v F'=>∃F0,Le F0 F'/\R v F0)):cK P J f args F R:=
 fun c cs a=>h c cs fun v F' ⟨F0,hle,b⟩=>hJ.mono hle (a v F0 b)
def zk (P:Program)(rs:List ResultVar)(R:Value->ag->Prop):Ex->Act->ag->Prop
 | .exit _,_,_=>False
 |_,a,F=>gJ P a.defers (fun F=>match k6 P F a rs with|some v=>R v F|none=>False) F
theorem zl {K b:ag->Prop}(h:∀F,K F->b F):∀(a:List Deferred) (F:ag),gJ P a K F->gJ P a b F
 |[],F,x=>h F x
 |d::a,F,⟨r,h1,h2⟩=>⟨r,h1,gj (fun calls F' c=>⟨c.1,zl h a F' c.2⟩) _ _ h2⟩
theorem aA.uK {f:FuncId}{fn:Func}{c:Code}{n:Nat}{rs:List ResultVar}{args:Array Value}{F:ag}{R:Value->ag->Prop}(g:P.funcs[f]?=some fn)(hb:fn.body=some c)(j:fn.ntmps=n)(k:fn.results=rs.toArray)(l:args.size<=n)
  (h:∀main J,Closed P main J->∀A:Act,sz A=n->A.defers=[]->(∀i,slot A i=args.getD i undef)->Wp J c (zk P rs R) A F):aA P f args F R:=
 aA.start g hb j l fun main J hJ A h1 h2 h3=>(h main J hJ A h1 h2 h3).mono fun e a F b=>by
  have key:gJ P a.defers (fun F=>match k6 P F a rs with|some v=>R v F|none=>False) F->gJ P a.defers (fun F=>aS P (results fn a.tmps) R F) F:=zl (fun F d=>by
   split at d
   ·rename_i v m;exact qN k m d
   ·exact d.elim) _ _
  cases e with
  |exit i=>exact b
  |normal=>exact key b
  |ret=>exact key b
theorem cK.go (hJ:Closed P main J){f:FuncId}{fn:Func}{c:Code}{n:Nat}{rs:List ResultVar}{args:Array Value}{F:ag}{R:Value->ag->Prop}(j:P.funcs[f]?=some fn)(hb:fn.body=some c)(d:fn.ntmps=n)(k:fn.results=rs.toArray)(m:args.size<=n)
  (h:∀A:Act,sz A=n->A.defers=[]->(∀i,slot A i=args.getD i undef)->Wp J c (ir P rs R) A F):cK P J f args F R:=by
 refine cK.of_wp hJ j hb ?_
 refine (h _ (by simp[sz,d];omega) rfl fun i=>?_).mono fun e a F g=>?_
 ·simp only[slot,d,Array.getD_eq_getD_getElem?]
  rcases Nat.lt_or_ge i args.size with hi|hi
  ·rw[Array.getElem?_append_left hi]
  ·rw[Array.getElem?_append_right hi,Array.getElem?_replicate,Array.getElem?_eq_none hi]
   split<;>rfl
 ·cases e with
  |exit i=>exact g
  |_=>
   obtain ⟨hd,b⟩:=g
   split at b
   ·rename_i v l
    show gJ P a.defers _ F
    rw[hd]
    exact qN k l b
   ·exact b.elim
theorem DQ {d:Nat}{X:Nat->Prop}:(∃r,Target.collected d=Target.collected r/\X r)=X d:=propext ⟨fun ⟨r,h1,h2⟩=>by cases h1;exact h2,fun h=>⟨d,rfl,h⟩⟩
attribute [go_sem] DQ DJ DK DL zk DN ag.eJ Obj.oq Obj.isChan
end
section
variable {P : Program}
theorem zm {argTypes:Array TypeId}{t e ty:TypeId}{R:Value->ag->Prop}{F:ag}{ad:Option Addr}{n c:Nat}(ht:argTypes[0]?=some t)(hu:P.underlying t=some (.slice e))(h:R (.int .i64 c) F):eE P (Builtin.cap_ argTypes ty #[.slice ad n c]) R F:=by
 unfold eE
 simp only[Builtin.cap_,ht,List.getElem?_toArray,List.getElem?_cons_zero,bn,c8,hu,bC]
 exact h
theorem DR (z:Value)(n:Nat):(Builtin.zeroCells #[z] n).toList=List.replicate n z:=by
 simp only[Builtin.zeroCells,List.size_toArray,List.length_cons,List.length_nil,Nat.zero_add,Nat.mul_one,Nat.mod_one]
 rw[Array.toList_map,Array.toList_range]
 apply List.ext_getElem
 ·simp
 ·intro i h1 h2;simp
theorem DS {ro:Addr->Option Value}{pre aZ:List (Nat×Obj)}{argTypes:Array TypeId}{t e ty:TypeId}{R:Value->ag->Prop}{b off n c:Nat}{arr:Array Value}{z zc:Value}(ht:argTypes[0]?=some t)(hu:P.underlying t=some (.slice e))(a:zeroOf P e=some z)(d:z.cells=#[zc])(f:bw zc=true)
  (l:0<n) (g:ak pre b) (i:off+n<=arr.size)
  (h:R (.tuple #[]) ⟨ro,pre++((b,.cells (dz arr off (List.replicate n zc)) e)::aZ)⟩):
  eE P (Builtin.clear_ argTypes ty #[.slice (some ⟨b,off,none⟩) n c]) R ⟨ro,pre++((b,.cells arr e)::aZ)⟩:=by
 unfold eE
 have m:n≠0:=by omega
 obtain ⟨k,rfl⟩:∃k,n=k+1:=⟨n - 1,by omega⟩
 simp only[Builtin.clear_,ht,List.getElem?_toArray,List.getElem?_cons_zero,bn,c8,hu,kV,a,d]
 refine qA _ _ 0 _ ⟨ro,pre++((b,.cells (dz arr off (List.replicate (k+1) zc)) e)::aZ)⟩ ?_ ?_
 ·rw[DR]
  have:=uw (ro:=ro) (aZ:=aZ) (e:=e) g off (List.replicate (k+1) zc) arr 0 (fun v j=>by rw[List.eq_of_mem_replicate j];exact f) (by simpa using i)
  simpa using this
 ·simp only[bC]
  exact h
end
theorem aP.zn {T:Type}{r:bY T}{ro:Addr->Option Value}{e:TypeId}{v:Value}{l:List T}{aQ:List (Nat×Obj)}(h:aP r ro e v l aQ){own:List (Nat×Obj)}(pre aZ:List (Nat×Obj))(f:own=pre++(aQ++aZ))(g:aL (keys own)):ax r (ag.ck ⟨ro,own⟩).ro v l:=by
 subst f
 obtain ⟨ls,hg,c,hm,k⟩:=h
 rcases hg with ⟨rfl,rfl,rfl⟩|⟨b,arr,cap,rfl,rfl,hs,hle,ht,d,m⟩
 ·have:l=[]:=List.eq_nil_of_length_eq_zero (by simpa using c.symm)
  subst this
  exact ax.nil r _
 ·have o:ak pre b:=Nd.fresh g.nd b (by simp[keys])
  refine ⟨some ⟨b,0,none⟩,cap,by rw[c],by omega,by omega,fun i x hi=>?_⟩
  obtain ⟨cs,h1,h2⟩:=k i x hi
  refine ⟨_,cs,rfl,r.mono aN h2,fun j v p=>?_⟩
  have a:=oO ls i cs d h1 j v p
  rw[j5,j6,Nat.zero_add]
  have q:i*r.n+j<ls.length*r.n:=by
   have:=(List.getElem?_eq_some_iff.1 a).1
   rw[gL d] at this
   exact this
  rw[<-ht,List.getElem?_take_of_lt q] at a
  show ag.get ⟨ro,pre++([(b,Obj.cells arr e)]++aZ)⟩ ⟨b,i*r.n+j,none⟩=some v
  simp only[ag.get,m,if_true,List.cons_append,List.nil_append,qW o,Option.bind_some,cellOf]
  simpa using a
theorem ax.two {T:Type}{r:bY T}{ro:Addr->Option Value}{own:List (Nat×Obj)}{b:Nat}{x y:T}{v u:Value}{e:TypeId}(c:∀off sp,ro ⟨b,off,sp⟩=none)(d:lk own b=some (.cells #[v,u] e))(h1:r.n=1)(h:r.rel ro x [v])(k:r.rel ro y [u]):
  ax r (bO ro b (.cells #[v,u] e)) (.slice (some ⟨b,0,none⟩) 2 2) [x,y]:=by
 refine ⟨some ⟨b,0,none⟩,2,rfl,Nat.le_refl _,by simp,fun i z hi=>?_⟩
 have:(i=0/\z=x)\/(i=1/\z=y):=by
  cases i with
  |zero=>simp at hi;exact .inl ⟨rfl,hi.symm⟩
  |succ i=>cases i with
   |zero=>simp at hi;exact .inr ⟨rfl,hi.symm⟩
   |succ i=>simp at hi
 rcases this with ⟨rfl,rfl⟩|⟨rfl,rfl⟩
 ·refine ⟨_,_,rfl,r.mono (fE _ _ _) h,fun j w a=>?_⟩
  cases j with
  |zero=>
   rw[Nat.zero_mul,add_zero',j6,Nat.zero_add,iy c]
   simpa [cellOf] using a
  |succ j=>simp at a
 ·refine ⟨_,_,rfl,r.mono (fE _ _ _) k,fun j w a=>?_⟩
  cases j with
  |zero=>
   rw[h1,j5,j6,iy c]
   simpa [cellOf] using a
  |succ j=>simp at a
theorem aP.clear {ro:Addr->Option Value}{e:TypeId}{b n cap k:Nat}{x:List Int}{arr:Array Value}(h:aP rI ro e (.slice (some ⟨b,0,none⟩) n cap) x [(b,.cells arr e)])(r:k<=x.length):
  aP rI ro e (.slice (some ⟨b,0,none⟩) k cap) (x.take k) [(b,.cells (dz arr k (List.replicate (n - k) (.int .i64 0))) e)]:=by
 obtain ⟨ls,hg,s,hm,l⟩:=h
 rcases hg with ⟨a,_,_⟩|⟨t,u,m,a,o,hs,hle,ht,f,p⟩
 ·cases a
 ·cases o
  obtain ⟨rfl,rfl⟩:n=ls.length/\cap=m:=by cases a;exact ⟨rfl,rfl⟩
  have d:rI.n=1:=rfl
  rw[d] at hs ht f
  simp only[Nat.mul_one] at hs ht
  have c:(ls.take k).length=k:=by rw[List.length_take];omega
  refine ⟨ls.take k,.inr ⟨b,_,cap,by rw[c],rfl,by rw[qI];rw[d,Nat.mul_one];exact hs,by rw[c];omega,?_,?_,p⟩,by rw[c,List.length_take];omega,by rw[List.length_take];omega,?_⟩
  ·rw[qJ _ _ _ (by simp;omega),c,d,Nat.mul_one,List.append_assoc,List.take_append_of_le_length (by rw[List.length_take,Array.length_toList];omega),List.take_take,Nat.min_self]
   have e1:arr.toList.take k=(arr.toList.take ls.length).take k:=by rw[List.take_take,Nat.min_eq_left (by omega)]
   rw[e1,ht]
   have e2:ls.flatten=(ls.take k).flatten++(ls.drop k).flatten:=by rw[<-List.flatten_append,List.take_append_drop]
   have j:(ls.take k).flatten.length=k:=by rw[gL (size:=1) (fun z g=>f z (List.mem_of_mem_take g)),c,Nat.mul_one]
   rw[e2,List.take_append_of_le_length (Nat.le_of_eq j.symm),List.take_of_length_le (Nat.le_of_eq j)]
  ·intro z g
   rw[d];exact f z (List.mem_of_mem_take g)
  ·intro i v a
   obtain ⟨hi,q⟩:i<k/\x[i]?=some v:=by
    rw[List.getElem?_take] at a
    split at a
    ·exact ⟨‹_›,a⟩
    ·cases a
   obtain ⟨cs,h1,h2⟩:=l i v q
   exact ⟨cs,by rw[List.getElem?_take,if_pos hi];exact h1,h2⟩
section
variable {P : Program}
theorem DT {t:TypeId}{R:Value->ag->Prop}{F:ag}(h:∀b,dD F b->R (.map (some b)) (F.push b (.map #[] 0))):eE P (Instr.makeMap t none) R F:=by
 unfold eE
 simp only[Instr.makeMap,bn,oz,bC]
 exact ⟨rfl,h⟩
theorem DU {argTypes:Array TypeId}{t a b ty:TypeId}{r:Nat}{es:Array MapEntry}{clock:Nat}{R:Value->ag->Prop}{F:ag}(ht:argTypes[0]?=some t)(hu:P.underlying t=some (.map a b))(c:F.eJ r=some (.map es clock))(h:R (.int .i64 (es.size:Int)) F):
  eE P (Builtin.len_ argTypes ty #[.map (some r)]) R F:=by
 unfold eE
 simp only[Builtin.len_,ht,List.getElem?_toArray,List.getElem?_cons_zero,bn,c8,hu,mI]
 exact ⟨_,c,h⟩
theorem zo {c:TypeId}{key:Value}{F:ag}{Q:Option (Nat×Value)->ag->Prop}:∀(l:List MapEntry) (i:Nat),
  (∀e∈l,∃b,(∀(Q:Bool->ag->Prop),Q b F->aS P (Op.equal c key e.key) Q F)/\(b=true↔e.key=key))->
  (∀j e,l[j]?=some e->e.key=key->Q (some (i+j,e.val)) F)->((∀e∈l,¬e.key=key)->Q none F)->aS P (Instr.findAsking c key l i) Q F
 |[],i,_,_,h2=>h2 (by simp)
 |e::l,i,d,h1,h2=>by
  obtain ⟨b,hb,f⟩:=d e (by simp)
  simp only[Instr.findAsking,bn]
  refine hb _ ?_
  cases b with
  |true=>exact h1 0 e rfl (f.1 rfl)
  |false=>
   have g:¬e.key=key:=fun x=>by have:=f.2 x;cases this
   refine zo l (i+1) (fun x a=>d x (by simp[a])) (fun j x a he=>?_) (fun h=>h2 (by simpa [g] using h))
   have:=h1 (j+1) x (by simpa using a) he
   rwa [show i+1+j=i+(j+1) by omega]
theorem modify_keys {es:Array MapEntry}{i:Nat}{key val:Value}{e:MapEntry}(hi:es[i]?=some e)(he:e.key=key):(es.modify i fun e=>{e with key:=key,val:=val}).toList.map (·.key)=es.toList.map (·.key):=by
 apply List.ext_getElem?
 intro j
 simp only[List.getElem?_map,Array.toList_modify,List.getElem?_modify]
 by_cases a:i=j
 ·subst a
  have:es.toList[i]?=some e:=by simpa using hi
  simp[this,he]
 ·simp[a]
theorem DV {t c q f n:TypeId}{r:Nat}{es:Array MapEntry}{clock:Nat}{key val:Value}{R:Value->ag->Prop}{F:ag}(hu:P.underlying t=some (.map c q))(g:F.eJ r=some (.map es clock))
  (s:∀Q:Unit->ag->Prop,Q () F->aS P (Instr.checkKey false 10000 c key) Q F) (u:P.underlying c=some (.array n f))
  (v:∀e∈es.toList,∃b,(∀(Q:Bool->ag->Prop),Q b F->aS P (Op.equal c key e.key) Q F)/\(b=true↔e.key=key))
  (h:∀d w,((key∈es.toList.map (·.key)/\d.toList.map (·.key)=es.toList.map (·.key))\/(key∉es.toList.map (·.key)/\d.toList.map (·.key)=es.toList.map (·.key)++[key]))->R undef (F.put r (.map d w))):
  eE P (Instr.mapUpdate t (.map (some r)) key val>>= fun _=>pure undef) R F:=by
 unfold eE
 simp only[Instr.mapUpdate,bn,c8,hu,mI]
 refine ⟨_,g,?_⟩
 simp only[bn]
 refine s _ ?_
 have k:(F.eJ r).isSome=true:=by rw[g];rfl
 have step:aS P (Instr.findAsking c key es.toList) (fun a G=>aS P (match a with
   |some (i,_)=>do
    let key<-Instr.keyThatStays (((es[i]?).map (·.key)).getD key) key
    setObj r (.map (es.modify i fun e=>{e with key,val}) clock)
   |none=>setObj r (.map (es.push {key,val,born:=clock}) (clock+1))) (fun _ G=>aS P (pure undef) R G) G) F:=by
  refine zo _ 0 v (fun j e m he=>?_) (fun x=>?_)
  ·simp only[Nat.zero_add,bn]
   have o:es[j]?=some e:=by simpa using m
   rw[o]
   simp only[Option.map_some,Option.getD_some,he]
   have fin:aS P (setObj r (.map (es.modify j fun e=>{e with key:=key,val:=val}) clock)) (fun _ G=>aS P (pure undef) R G) F:=by
    simp only[kU,bC]
    refine ⟨rfl,k,h _ _ (.inl ⟨?_,modify_keys o he⟩)⟩
    rw[<-he]
    exact List.mem_map_of_mem (List.mem_of_getElem? m)
   unfold Instr.keyThatStays
   rw[c7]
   split
   ·exact fin
   ·simp only[bn,tu]
    split
    ·simp only[bC,ite_self];exact fin
    ·intro t;simp only[bC,ite_self];exact fin
  ·simp only[kU,bC]
   refine ⟨rfl,k,h _ _ (.inr ⟨?_,by simp⟩)⟩
   intro hm
   obtain ⟨e,he,y⟩:=List.mem_map.1 hm
   exact x e he y
 unfold Instr.findKey
 simp only[bn,c8,u]
 cases p:es.toList with
 |nil=>
  rw[p] at step
  exact step
 |cons e l=>
  have:Instr.findNow (.array n f) key (e::l) 0=none:=rfl
  rw[this]
  rw[p] at step
  exact step
end
theorem bS {α β:Type}{x:Option α}{f:α->Option β}{r:β}{G:Prop}(k:∀a,x=some a->f a=some r->G)(h:ah x f=some r):G:=by
 obtain ⟨a,h1,h2⟩:=fj h
 exact k a h1 h2
def bu:Code->Code
 | .seq _ b=>b
 |c=>c
theorem sI {α:Type}{x r:α}(h:some x=some r):x=r:=Option.some.inj h
theorem an {ro:Addr->Option Value}{own:List (Nat×Obj)}{G:Nat->Prop}(h:∀b,(∀off sp,ro ⟨b,off,sp⟩=none)->ak own b->G b):∀b,dD ⟨ro,own⟩ b->G b:=fun b f=>h b (ep f) (e8 f)
theorem aU:(∀(ro:Addr->Option Value) (b:Nat) (o:Obj) (l:List (Nat×Obj)),az ro ((b,o)::l)=((∀off sp,ro ⟨b,off,sp⟩=none)/\az ro l))/\(∀l:List (Nat×Obj),[]++l=l)/\(∀l:List (Nat×Obj),l++[]=l)/\
  (∀(x:Nat×Obj) (l m:List (Nat×Obj)),x::l++m=x::(l++m))/\∀l m n:List (Nat×Obj),l++m++n=l++(m++n):=
 ⟨fun _ _ _ _=>propext ⟨fun h=>⟨h.hd,h.tl⟩,fun h=>az.cons h.1 h.2⟩,fun _=>rfl,List.append_nil,fun _ _ _=>rfl,List.append_assoc⟩
theorem ax.el {T:Type}{r:bY T}{ro:Addr->Option Value}{ad:Option Addr}{n cap:Nat}{l:List T}(h:ax r ro (.slice ad n cap) l):
  ∀i x,l[i]?=some x->∃p cs,ad=some p/\r.rel ro x cs/\∀j v,cs[j]?=some v->ro ((p.add (i*r.n)).add j)=some v:=by
 obtain ⟨a,b,e,_,_,h⟩:=h
 cases e
 exact h
theorem aL.tl {b:Nat}{ks:List Nat}(h:aL (b::ks)):aL ks:=⟨(List.nodup_cons.1 h.nd).2⟩
theorem aL.cut {l:List (Nat×Obj)}(h:aL (keys l))(i n:Nat):aL (keys (l.take i++l.drop (i+n))):=
 ⟨(((List.Sublist.append_left (show (l.drop (i+n)).Sublist (l.drop i) by rw[<-List.drop_drop];exact List.drop_sublist _ _) (l.take i)).trans (by rw[List.take_append_drop];exact List.Sublist.refl _)).map _).nodup h.nd⟩
theorem aP.dF {T:Type}{r:bY T}{ro:Addr->Option Value}{e:TypeId}{v:Value}{l:List T}{aQ:List (Nat×Obj)}(h:aP r ro e v l aQ){own:List (Nat×Obj)}(pre aZ:List (Nat×Obj))(a:aL (keys own))(b:az ro (pre++aZ))
  (c:own=pre++(aQ++aZ):=by first|rfl|simp only[List.append_nil,List.cons_append,List.nil_append,List.append_assoc]|(simp only[List.append_nil,List.cons_append,List.nil_append,List.append_assoc];rfl)):
  ∃aI,Ext ro aI/\az aI (pre++aZ)/\ax r aI v l/\Le ⟨aI,pre++aZ⟩ ⟨ro,own⟩:=h.ki _ pre aZ c rfl a b
theorem ax.oc {T:Type}{r:bY T}{ro:Addr->Option Value}{s:Value}{l:List T}(h:ax r ro s l):bw s=true:=by
 obtain ⟨_,_,e,_⟩:=h
 rw[e];rfl
theorem DW {p:Nat->Prop}{a:Nat}{l:List Nat}:(∀i,i∈a::l->p i)=(p a/\∀i,i∈l->p i):=propext List.forall_mem_cons
theorem DX {p:Nat->Prop}:(∀i,i∈([]:List Nat)->p i)=True:=propext ⟨fun _=>trivial,fun _ _ h=>(by cases h)⟩
section
variable {P : Program} {main : Bool} {J : Goroutine → ag → Prop} {Q : Ex → Act → ag → Prop} {a : Act} {F : ag}
theorem bN (hJ:Closed P main J){f:FuncId}{args:Array Value}{ro:Addr->Option Value}{own:List (Nat×Obj)}{K:Value->ag->Prop}(R:Value->(Addr->Option Value)->Prop)(h:c9 P f args ro R)
  (a:∀v aI,Ext ro aI->az aI own->R v aI->K v ⟨aI,own⟩):cK P J f args ⟨ro,own⟩ K:=ua hJ R h a
theorem q5 {Φ:Goroutine->ag->Prop}{f:FuncId}{args:Array Value}{ro:Addr->Option Value}{own:List (Nat×Obj)}{K:Value->ag->Prop}(R:Value->(Addr->Option Value)->Prop)(h:oS P f args ro R)
  (a:∀v aI,Ext ro aI->az aI own->R v aI->K v ⟨aI,own⟩):cK P (dP P Φ) f args ⟨ro,own⟩ K:=C4 R h a
theorem cS {α:Type}{b:Bool}{e1 e2:Option α}{r:α}{G:Prop}(h1:b=true->e1=some r->G)(h2:b=false->e2=some r->G)(h:cond b e1 e2=some r):G:=by
 rcases iz h with ⟨a,b⟩|⟨a,b⟩
 ·exact h1 a b
 ·exact h2 a b
theorem jC {α:Type}(hJ:Closed P main J){c:Operand}{x y:Code}{b:Bool}{e1 e2:Option α}{r:α}(d:ev a c= .bool b)(h1:b=true->e1=some r->Wp J x Q a F)(h2:b=false->e2=some r->Wp J y Q a F)(h:cond b e1 e2=some r):Wp J (.cond c x y) Q a F:=by
 refine CW hJ b d (fun e=>h1 e ?_) fun e=>h2 e ?_
 ·rw[e] at h;exact h
 ·rw[e] at h;exact h
structure uL (Q:Ex->Act->ag->Prop)(K:Act->ag->Prop):Prop where
 go:∀{a F},Q .normal a F->K a F
theorem cQ (hJ:Closed P main J)(b:P.follows .mixedOrders=true)(m n:Nat){id:Nat}{ops:Array Oper}(c:Knows ⟨F.ro,F.own.take n⟩ F)(d:k7 ops m=true)
  (h:dI P J ops ⟨F.ro,F.own.take n⟩ (fun e=>er P J ops ⟨F.ro,F.own.take n⟩ (Q .normal) (ops.toList.drop m) true e F) (ops.toList.take m) true a):Wp J (.region id ops true) Q a F:=dY hJ b m _ c d h
theorem oZ (hJ:Closed P main J)(b:P.follows .mixedOrders=true)(m n:Nat){id:Nat}{ops:Array Oper}(c:Knows ⟨F.ro,F.own.take n⟩ F)(d:k7 ops m=true)
  (h:∀K,uL Q K->dI P J ops ⟨F.ro,F.own.take n⟩ (fun e=>er P J ops ⟨F.ro,F.own.take n⟩ K (ops.toList.drop m) true e F) (ops.toList.take m) true a):Wp J (.region id ops true) Q a F:=dY hJ b m _ c d (h _ ⟨fun h=>h⟩)
theorem dZ (hJ:Closed P main J){id:Nat}{ops:Array Oper}(h:∀K,uL Q K->e7 P J ops K ops.toList true a F):Wp J (.region id ops false) Q a F:=af hJ (h _ ⟨fun h=>h⟩)
theorem jF (hJ:Closed P main J)(b:P.follows .mixedOrders=true)(bT:List Nat)(p:b8){id:Nat}{ops:Array Oper}(F0:ag)(c:Knows F0 F)
  (d:(Region.noSelect ops&&decide (p.len<=ops.size)&&p.ok ops bT (Array.replicate ops.size false))=true)
  (h:∀K,uL Q K->cm P J ops F0 K (p.opers ops) true a F):Wp J (.region id ops true) Q a F:=iB hJ b bT p F0 c d (h _ ⟨fun h=>h⟩)
theorem eM {c:Code}(L:List Nat){a:Act}(h:∀A,sz A=sz a->A.defers=a.defers->(∀i∈L,slot A i=slot a i)->Wp J c Q A F):Wp J c Q a F:=h a rfl rfl fun _ _=>rfl
theorem cW.pick {ws:List Nat}{A a:Act}(h:cW ws A a)(L:List Nat)(b:(L.all fun i=>!jw ws i)=true):sz A=sz a/\A.defers=a.defers/\∀i∈L,slot A i=slot a i:=
 ⟨h.size,h.defers,fun i hi=>h.dJ i fun x=>by
  have h1:=List.all_eq_true.1 b i hi
  have h2:jw ws i=true:=by
   unfold In at x
   exact x
  simp[h2] at h1⟩
theorem di {T:Type}{r:bY T}{ro:Addr->Option Value}{aQ:List (Nat×Obj)}{R:Value->ag->Prop}{argTypes:Array TypeId}{d f e h e2:TypeId}{a b:Nat}{s z:Value}{l:List T}{x:T}{cs:Array Value}{own:List (Nat×Obj)}(pre aZ:List (Nat×Obj))
  (hg:aP r ro e s l aQ) (i:aL (keys own)) (j:l.length+[x].length<=1000000) (k:r.rel ro x cs.toList) (m:lk pre b=some (.cells cs e2)) (o:∀off sp,ro ⟨b,off,sp⟩=none)
  (h0:argTypes[0]?=some d) (h1:argTypes[1]?=some f) (he:cT P d=some e) (p:cT P f=some h) (hs:bW P e=some r.n) (q:zeroOf P e=some z) (t:z.cells.size=r.n) (hb:bytesOf P e=some a)
  (u:0<a) (w:a<=10000)
  (y:∀v g,aP r ro e v (l++[x]) g->∀c,c=pre++(g++aZ)->aL (keys c)->∃F0,Le F0 ⟨ro,c⟩/\R v F0)
  (A:own=pre++(aQ++aZ):=by first|rfl|simp only[List.append_nil,List.cons_append,List.nil_append,List.append_assoc]|(simp only[List.append_nil,List.cons_append,List.nil_append,List.append_assoc];rfl)):k4 P argTypes s (.slice (some ⟨b,0,none⟩) 1 1) R ⟨ro,own⟩:=
 qX pre aZ A hg i j k m o h0 h1 he p hs q t hb u w y
theorem lE {T:Type}{r:bY T}{ro:Addr->Option Value}{aQ:List (Nat×Obj)}{R:Value->ag->Prop}{argTypes:Array TypeId}{d f e h:TypeId}{a c:Nat}{ad:Option Addr}{s z:Value}{l xs:List T}{own:List (Nat×Obj)}(pre aZ:List (Nat×Obj))
  (hg:aP r ro e s l aQ) (i:aL (keys own)) (j:l.length+xs.length<=1000000) (k:ax r ro (.slice ad xs.length c) xs)
  (h0:argTypes[0]?=some d) (h1:argTypes[1]?=some f) (he:cT P d=some e) (m:cT P f=some h) (hs:bW P e=some r.n) (o:zeroOf P e=some z) (p:z.cells.size=r.n) (hb:bytesOf P e=some a)
  (q:0<a) (t:a<=10000)
  (u:∀v g,aP r ro e v (l++xs) g->∀b,b=pre++(g++aZ)->aL (keys b)->∃F0,Le F0 ⟨ro,b⟩/\R v F0)
  (w:own=pre++(aQ++aZ):=by first|rfl|simp only[List.append_nil,List.cons_append,List.nil_append,List.append_assoc]|(simp only[List.append_nil,List.cons_append,List.nil_append,List.append_assoc];rfl)):k4 P argTypes s (.slice ad xs.length c) R ⟨ro,own⟩:=
 y6 pre aZ w hg i j k h0 h1 he m hs o p hb q t u
theorem fW (hJ:Closed P main J){f:FuncId}{args:Array Value}{ro:Addr->Option Value}{aQ:List (Nat×Obj)}{K:Value->ag->Prop}{own:List (Nat×Obj)}(pre aZ:List (Nat×Obj))(R:Value->List (Nat×Obj)->Prop)(h:aA P f args ⟨ro,aQ⟩ (fun v G=>∃a,R v a/\Le ⟨ro,a⟩ G))
  (c:∀v a,R v a->∀b,b=pre++(a++aZ)->aL (keys b)->∃F0,Le F0 ⟨ro,b⟩/\K v F0)
  (d:own=pre++(aQ++aZ):=by first|rfl|simp only[List.append_nil,List.cons_append,List.nil_append,List.append_assoc]|(simp only[List.append_nil,List.cons_append,List.nil_append,List.append_assoc];rfl)):cK P J f args ⟨ro,own⟩ K:=y8 hJ pre aZ d R h c
end
end Go.Sep
end
section
namespace Go.Proofs.YtipgiooobncfbaaGreatDoor
open Go Go.Sep Go.Proofs
set_option maxRecDepth 100000
attribute [go_sem] ax.nil
theorem q6:rI.n=1:=rfl
theorem uM:rB.n=1:=rfl
theorem DY {T:Type}(r:bY T):(rL r).n=1:=rfl
attribute [go_sem] q6 uM DY
structure au where
 num:Int
 den:Int
 deriving DecidableEq
def au.v (x:au):Value:=.agg #[.int .i64 x.num,.int .i64 x.den]
def au.cells (x:au):List Value:=[.int .i64 x.num,.int .i64 x.den]
def kq:bY au:=gN 2 au.cells (fun _=>rfl) (fun _ v a=>by simp only[au.cells,List.mem_cons,List.not_mem_nil,or_false] at a;rcases a with rfl|rfl<;>rfl)
theorem DZ:kq.n=2:=rfl
attribute [go_sem] au.v au.cells DZ
structure bZ where
 aK:Int
 high:Int
 deriving DecidableEq
def bZ.cells (x:bZ):List Value:=[.int .i64 x.aK,.int .i64 x.high]
def eN:bY bZ:=gN 2 bZ.cells (fun _=>rfl) (fun _ v a=>by simp only[bZ.cells,List.mem_cons,List.not_mem_nil,or_false] at a;rcases a with rfl|rfl<;>rfl)
theorem D1:eN.n=2:=rfl
attribute [go_sem] bZ.cells D1
structure b6 where
 place:Int
 cV:Int
 deriving DecidableEq
def b6.cells (x:b6):List Value:=[.int .i64 x.place,.int .i64 x.cV]
def ej:bY b6:=gN 2 b6.cells (fun _=>rfl) (fun _ v a=>by simp only[b6.cells,List.mem_cons,List.not_mem_nil,or_false] at a;rcases a with rfl|rfl<;>rfl)
theorem D2:ej.n=2:=rfl
attribute [go_sem] b6.cells D2
structure cr where
 low:Int
 high:Int
 deriving DecidableEq
def cr.v (x:cr):Value:=.agg #[.int .i64 x.low,.int .i64 x.high]
def cr.cells (x:cr):List Value:=[.int .i64 x.low,.int .i64 x.high]
def D3:bY cr:=gN 2 cr.cells (fun _=>rfl) (fun _ v a=>by simp only[cr.cells,List.mem_cons,List.not_mem_nil,or_false] at a;rcases a with rfl|rfl<;>rfl)
theorem D4:D3.n=2:=rfl
attribute [go_sem] cr.v cr.cells D4
structure bV where
 back:Int
 high:cr
 deriving DecidableEq
def bV.cells (x:bV):List Value:=[.int .i64 x.back,.int .i64 x.high.low,.int .i64 x.high.high]
def ek:bY bV:=gN 3 bV.cells (fun _=>rfl) (fun _ v a=>by simp only[bV.cells,List.mem_cons,List.not_mem_nil,or_false] at a;rcases a with rfl|rfl|rfl<;>rfl)
theorem D5:ek.n=3:=rfl
attribute [go_sem] bV.cells D5
structure bx where
 aT:Int
 bg:Bool
 deriving DecidableEq
def bx.v (x:bx):Value:=.agg #[.int .i64 x.aT,.bool x.bg]
def bx.cells (x:bx):List Value:=[.int .i64 x.aT,.bool x.bg]
def cU:bY bx:=gN 2 bx.cells (fun _=>rfl) (fun _ v a=>by simp only[bx.cells,List.mem_cons,List.not_mem_nil,or_false] at a;rcases a with rfl|rfl<;>rfl)
theorem D6:cU.n=2:=rfl
attribute [go_sem] bx.v bx.cells D6
structure aj where
 bF:Int
 bL:Int
 aV:au
 aB:(List bZ)
 props:(List b6)
 aC:(List bV)
 told:(List bx)
 deriving DecidableEq
def aj.rel (ro:Addr->Option Value)(x:aj)(cs:List Value):Prop:=∃a b c d,cs=[.int .i64 x.bF,.int .i64 x.bL,.int .i64 x.aV.num,.int .i64 x.aV.den,a,b,c,d]/\ax eN ro a x.aB/\ax ej ro b x.props/\ax ek ro c x.aC/\ax cU ro d x.told
theorem aj.o3 {ro:Addr->Option Value}{x:aj}{cs:List Value}(h:aj.rel ro x cs):∀v∈cs,bw v=true:=by
 obtain ⟨b,c,d,e,rfl,⟨_,_,rfl,_⟩,⟨_,_,rfl,_⟩,⟨_,_,rfl,_⟩,⟨_,_,rfl,_⟩⟩:=h
 intro v a;simp only[List.mem_cons,List.not_mem_nil,or_false] at a;rcases a with rfl|rfl|rfl|rfl|rfl|rfl|rfl|rfl<;>rfl
def D7:bY aj:=⟨8,aj.rel,fun a ⟨b,c,d,f,e,g,h,i,j⟩=>⟨b,c,d,f,e,g.mono a,h.mono a,i.mono a,j.mono a⟩,fun ⟨b,c,d,f,e,_⟩=>by rw[e];rfl,aj.o3⟩
theorem D8:D7.n=8:=rfl
attribute [go_sem] D8
structure bf where
 back:Int
 high:Int
 deriving DecidableEq
def bf.v (x:bf):Value:=.agg #[.int .i64 x.back,.int .i64 x.high]
def bf.cells (x:bf):List Value:=[.int .i64 x.back,.int .i64 x.high]
def iD:bY bf:=gN 2 bf.cells (fun _=>rfl) (fun _ v a=>by simp only[bf.cells,List.mem_cons,List.not_mem_nil,or_false] at a;rcases a with rfl|rfl<;>rfl)
theorem D9:iD.n=2:=rfl
attribute [go_sem] bf.v bf.cells D9
structure gx where
 aK:Int
 high:au
 deriving DecidableEq
def gx.cells (x:gx):List Value:=[.int .i64 x.aK,.int .i64 x.high.num,.int .i64 x.high.den]
def Ea:bY gx:=gN 3 gx.cells (fun _=>rfl) (fun _ v a=>by simp only[gx.cells,List.mem_cons,List.not_mem_nil,or_false] at a;rcases a with rfl|rfl|rfl<;>rfl)
theorem Eb:Ea.n=3:=rfl
attribute [go_sem] gx.cells Eb
structure bA where
 spot:gx
 at_:Int
 high:au
 deriving DecidableEq
def bA.v (x:bA):Value:=.agg #[.int .i64 x.spot.aK,.int .i64 x.spot.high.num,.int .i64 x.spot.high.den,.int .i64 x.at_,.int .i64 x.high.num,.int .i64 x.high.den]
def bA.cells (x:bA):List Value:=[.int .i64 x.spot.aK,.int .i64 x.spot.high.num,.int .i64 x.spot.high.den,.int .i64 x.at_,.int .i64 x.high.num,.int .i64 x.high.den]
def jG:bY bA:=gN 6 bA.cells (fun _=>rfl) (fun _ v a=>by simp only[bA.cells,List.mem_cons,List.not_mem_nil,or_false] at a;rcases a with rfl|rfl|rfl|rfl|rfl|rfl<;>rfl)
theorem Ec:jG.n=6:=rfl
attribute [go_sem] bA.v bA.cells Ec
structure aX where
 e0:Int
 e1:Int
 e2:Int
 deriving DecidableEq
def aX.v (x:aX):Value:=.agg #[.int .i64 x.e0,.int .i64 x.e1,.int .i64 x.e2]
def aX.cells (x:aX):List Value:=[.int .i64 x.e0,.int .i64 x.e1,.int .i64 x.e2]
def gy:bY aX:=gN 3 aX.cells (fun _=>rfl) (fun _ v a=>by simp only[aX.cells,List.mem_cons,List.not_mem_nil,or_false] at a;rcases a with rfl|rfl|rfl<;>rfl)
theorem Ed:gy.n=3:=rfl
attribute [go_sem] aX.v aX.cells Ed
def aX.get (x:aX)(i:Int):Option Int:=if i=0 then some x.e0 else if i=1 then some x.e1 else if i=2 then some x.e2 else none
theorem aX.get_some {x:aX}{i:Int}{y:Int}(h:aX.get x i=some y):0<=i/\i<((3:Nat):Int)/\([.int .i64 x.e0,.int .i64 x.e1,.int .i64 x.e2]:List Value)[i.toNat]?=some (.int .i64 y):=by
 unfold aX.get at h
 by_cases h0:i=0
 ·subst h0;simp at h;subst h;exact ⟨by omega,by omega,rfl⟩
 by_cases h1:i=1
 ·subst h1;simp at h;subst h;exact ⟨by omega,by omega,rfl⟩
 by_cases h2:i=2
 ·subst h2;simp at h;subst h;exact ⟨by omega,by omega,rfl⟩
 simp[h0,h1,h2] at h
theorem aX.Ee {ro:Addr->Option Value}{b:Nat}{x:aX}{i:Int}{y:Int}(h:aX.get x i=some y)(g0:ro ⟨b,0,none⟩=some (.int .i64 x.e0))(a:ro ⟨b,1,none⟩=some (.int .i64 x.e1))(c:ro ⟨b,2,none⟩=some (.int .i64 x.e2)):ro ⟨b,i.toNat,none⟩=some (.int .i64 y):=by
 unfold aX.get at h
 by_cases h0:i=0
 ·subst h0;simp at h;subst h;exact g0
 by_cases h1:i=1
 ·subst h1;simp at h;subst h;exact a
 by_cases h2:i=2
 ·subst h2;simp at h;subst h;exact c
 simp[h0,h1,h2] at h
structure cL where
 book:aj
 all:(List aX)
 deriving DecidableEq
def cL.rel (ro:Addr->Option Value)(x:cL)(cs:List Value):Prop:=∃a b c d e,cs=[.int .i64 x.book.bF,.int .i64 x.book.bL,.int .i64 x.book.aV.num,.int .i64 x.book.aV.den,a,b,c,d,e]/\ax eN ro a x.book.aB/\ax ej ro b x.book.props/\ax ek ro c x.book.aC/\ax cU ro d x.book.told/\ax gy ro e x.all
theorem cL.o3 {ro:Addr->Option Value}{x:cL}{cs:List Value}(h:cL.rel ro x cs):∀v∈cs,bw v=true:=by
 obtain ⟨b,c,d,e,f,rfl,⟨_,_,rfl,_⟩,⟨_,_,rfl,_⟩,⟨_,_,rfl,_⟩,⟨_,_,rfl,_⟩,⟨_,_,rfl,_⟩⟩:=h
 intro v a;simp only[List.mem_cons,List.not_mem_nil,or_false] at a;rcases a with rfl|rfl|rfl|rfl|rfl|rfl|rfl|rfl|rfl<;>rfl
def Ef:bY cL:=⟨9,cL.rel,fun a ⟨b,c,d,f,g,e,h,i,j,k,l⟩=>⟨b,c,d,f,g,e,h.mono a,i.mono a,j.mono a,k.mono a,l.mono a⟩,fun ⟨b,c,d,f,g,e,_⟩=>by rw[e];rfl,cL.o3⟩
theorem Eg:Ef.n=9:=rfl
attribute [go_sem] Eg
def cR.rel (ro:Addr->Option Value)(g:(aj->Option Int))(cs:List Value):Prop:=∃(b:FuncId) (c d:Array Value),cs=[.func (.func b) c d]/\aG Tryz.prog b=true/\∀(aI:Addr->Option Value),Ext ro aI->∀(a:aj) (e:Value) (f:Value) (h:Value) (i:Value) (z:Int),ax eN aI e a.aB->ax ej aI f a.props->ax ek aI h a.aC->ax cU aI i a.told->g a=some z->aA Tryz.prog b (c++#[.agg #[.int .i64 a.bF,.int .i64 a.bL,.int .i64 a.aV.num,.int .i64 a.aV.den,e,f,h,i]]++d) ⟨aI,[]⟩ (fun v _=>v= .int .i64 z)
theorem cR.Eh {ro aI:Addr->Option Value}{g:(aj->Option Int)}{cs:List Value}(b:Ext ro aI)(h:cR.rel ro g cs):cR.rel aI g cs:=by
 obtain ⟨f,a,c,e,h1,h2⟩:=h
 exact ⟨f,a,c,e,h1,fun d i=>h2 d (b.trans i)⟩
theorem cR.Ei {ro:Addr->Option Value}{g:(aj->Option Int)}{cs:List Value}(h:cR.rel ro g cs):cs.length=1:=by
 obtain ⟨f,a,c,e,_⟩:=h
 rw[e];rfl
theorem cR.o3 {ro:Addr->Option Value}{g:(aj->Option Int)}{cs:List Value}(h:cR.rel ro g cs):∀v∈cs,bw v=true:=by
 obtain ⟨f,a,c,e,_⟩:=h
 intro v b;rw[e] at b;simp at b;subst b;rfl
def cR:bY (aj->Option Int):=⟨1,cR.rel,cR.Eh,cR.Ei,cR.o3⟩
theorem Ej:cR.n=1:=rfl
attribute [go_sem] Ej
abbrev sl {T:Type}(d:Option Addr)(l:List T)(c:Nat):Value:=.slice d l.length c
abbrev bk (x:aj)(a b c d:Value):Obj:=.cells #[.int .i64 x.bF,.int .i64 x.bL,.int .i64 x.aV.num,.int .i64 x.aV.den,a,b,c,d] 29
abbrev bl (x:aj)(a b c d:Value):Obj:=.cells #[.int .i64 x.bF,.int .i64 x.bL,.int .i64 x.aV.num,.int .i64 x.aV.den,a,b,c,d] 83
abbrev bz (t:Nat):Obj:=.cells #[.int .i64 0,.int .i64 0,.int .i64 0,.int .i64 0,.slice none 0 0,.slice none 0 0,.slice none 0 0,.slice none 0 0] t
abbrev kn (x:cL)(a b c d e:Value):Obj:=.cells #[.int .i64 x.book.bF,.int .i64 x.book.bL,.int .i64 x.book.aV.num,.int .i64 x.book.aV.den,a,b,c,d,e] 113
abbrev rt (a b:Int):Obj:=.cells #[.int .i64 a,.int .i64 b] 23
abbrev ic (a:Int):Obj:=.cells #[.int .i64 a] 3
abbrev bv (x:aj)(a b c d:Value):Value:=.agg #[.int .i64 x.bF,.int .i64 x.bL,.int .i64 x.aV.num,.int .i64 x.aV.den,a,b,c,d]
attribute [go_sem] sl bk bl bz kn rt ic bv DW DX List.cons_append List.nil_append List.append_nil List.append_assoc
structure bt (ro:Addr->Option Value)(u:aj)(a b c d:Value):Prop where
 e:ax eN ro a u.aB
 p:ax ej ro b u.props
 y:ax ek ro c u.aC
 t:ax cU ro d u.told
theorem bt.oc {ro:Addr->Option Value}{u:aj}{a b c d:Value}(h:bt ro u a b c d):bw a=true/\bw b=true/\bw c=true/\bw d=true:=⟨h.e.oc,h.p.oc,h.y.oc,h.t.oc⟩
theorem bt.mono {ro aI:Addr->Option Value}{u:aj}{a b c d:Value}(h:bt ro u a b c d)(f:Ext ro aI):bt aI u a b c d:=⟨h.e.mono f,h.p.mono f,h.y.mono f,h.t.mono f⟩
end Go.Proofs.YtipgiooobncfbaaGreatDoor
end

/- A part of the proof of a row and its tied card: part 2. -/
import Derived.Test.YtipgiooobncfbaaGreatDoorQ1
import Derived.WalkKit
import Derived.IntWalk
import Derived.NoCompilerSame
import Derived.Test.YtipgiooobncfbaaGreatDoorProg
import Derived.KernelRfl
set_option linter.all false
section
namespace Go.Sep
open Go Go.Conc
section
variable {α β : Type} {P : Program} {Q : α → af → Prop} {F : af}
@[go_sem] theorem bt (a:α):aO P (Pure.pure a) Q F=Q a F:=rfl
@[go_sem] theorem Hj (a:α):aO P (Sem.pure a) Q F=Q a F:=rfl
@[go_sem] theorem bf {R:β->af->Prop}(x:Sem α)(f:α->Sem β):aO P (x>>= f) R F=aO P x (fun a G=>aO P (f a) R G) F:=propext (v5 x F)
@[go_sem] theorem Hl {R:β->af->Prop}(x:Sem α)(f:α->β):aO P (Functor.map f x) R F=aO P x (fun a G=>R (f a) G) F:=propext (v5 x F)
@[go_sem] theorem cU (c:Prop)[Decidable c](x y:Sem α):aO P (if c then x else y) Q F=if c then aO P x Q F else aO P y Q F:=by split<;>rfl
@[go_sem] theorem wP {Q:Value->af->Prop}(a:Addr):aO P (load a) Q F=∃v,F.get a=some v/\Q v F:=by simp[load,aO]
@[go_sem] theorem AR {Q:Unit->af->Prop}(a:Addr)(v:Value):aO P (store a v) Q F=∃F',F.kg a v=some F'/\Q () F':=by simp[store,aO]
@[go_sem] theorem m6 {Q:Nat->af->Prop}(o:Obj):aO P (newObj o) Q F=(o.isChan=false/\∀b,dn F b->Q b (F.push b o)):=rfl
@[go_sem] theorem iQ {Q:Program->af->Prop}:aO P program Q F=Q P F:=rfl
@[go_sem] theorem rS {Q:Nat->af->Prop}(q:Question):aO P (choose q) Q F=if q.forced then Q 0 F else ∀t,Q (q.cut t) F:=rfl
@[go_sem] theorem lH {Q:Obj->af->Prop}(r:Nat):aO P (getObj r) Q F=∃o,F.ez r=some o/\Q o F:=rfl
@[go_sem] theorem kq {Q:Unit->af->Prop}(r:Nat)(o:Obj):aO P (Go.setObj r o) Q F=(o.isChan=false/\(F.ez r).isSome=true/\Q () (F.put r o)):=rfl
@[go_sem] theorem Ho (s:String):aO P (stuck s:Sem α) Q F=False:=rfl
@[go_sem] theorem Hp {Q:Unit->af->Prop}(m:Mark):aO P (mark m) Q F=(mY m=true/\Q () F):=rfl
@[go_sem] theorem cV {Q:TypeDesc->af->Prop}(t:TypeId):aO P (underlying t) Q F=match P.underlying t with|some d=>Q d F|none=>False:=by
 simp only[underlying,bf,iQ];cases P.underlying t<;>rfl
@[go_sem] theorem m7 {Q:TypeInfo->af->Prop}(t:TypeId):aO P (typeInfo t) Q F=match P.info? t with|some d=>Q d F|none=>False:=by
 simp only[typeInfo,bf,iQ];cases P.info? t<;>rfl
def bQ (P:Program)(t:TypeId):Option Nat:=(P.info? t).map (·.size)
def zeroOf (P:Program)(t:TypeId):Option Value:=(P.info? t).bind (·.zero)
def bytesOf (P:Program)(t:TypeId):Option Nat:=(P.info? t).map (·.bytes)
@[go_sem] theorem ek {Q:Nat->af->Prop}(t:TypeId):aO P (sizeOf t) Q F=match bQ P t with|some n=>Q n F|none=>False:=by
 simp only[sizeOf,bf,m7,bQ];cases P.info? t<;>rfl
@[go_sem] theorem kr {Q:Value->af->Prop}(t:TypeId):aO P (zeroValue t) Q F=match zeroOf P t with|some n=>Q n F|none=>False:=by
 simp only[zeroValue,bf,m7,zeroOf]
 cases P.info? t with
 |none=>rfl
 |some i=>simp only[Option.bind_some];cases i.zero<;>rfl
def cm (P:Program)(t:TypeId):Option Bool:=(P.underlying t).map fun| .struct _=>true| .array _ _=>true|_=>false
@[go_sem] theorem ku {Q:Bool->af->Prop}(t:TypeId):aO P (isAgg t) Q F=match cm P t with|some n=>Q n F|none=>False:=by
 simp only[isAgg,bf,cV,cm]
 cases P.underlying t with
 |none=>rfl
 |some d=>cases d<;>rfl
def af.kz (F:af)(a:Addr):Nat->List Value->Prop
 |_,[]=>True
 |i,v::b=>F.get (a.add i)=some v/\F.kz a (i+1) b
theorem rT {Q:Array Value->af->Prop}(a:Addr):∀(b:List Value) (i:Nat) (acc:Array Value),F.kz a i b->Q (acc++b.toArray) F->aO P (loadCellsFrom a i b.length acc) Q F
 |[],i,acc,_,h=>by simpa [loadCellsFrom,bt] using h
 |v::b,i,acc,hg,h=>by
  simp only[List.length_cons,loadCellsFrom,bf,wP]
  refine ⟨v,hg.1,rT a b (i+1) (acc.push v) hg.2 ?_⟩
  simpa using h
theorem AS {Q:Value->af->Prop}{t:TypeId}{a:Addr}(b:List Value)(ht:cm P t=some true)(hs:bQ P t=some b.length)(hg:F.kz a 0 b)(h:Q (.agg b.toArray) F):aO P (loadVar t a) Q F:=by
 simp only[loadVar,bf,ku,ht,cU,if_true,ek,hs,loadCells]
 exact rT a b 0 #[] hg (by simpa [bt] using h)
theorem AT {Q:Value->af->Prop}{t:TypeId}{a:Addr}(v:Value)(ht:cm P t=some false)(hg:F.get a=some v)(h:Q v F):aO P (loadVar t a) Q F:=by
 simp only[loadVar,bf,ku,ht,cU,wP]
 exact ⟨v,hg,h⟩
def af.iq (F:af)(a:Addr):Nat->List Value->Option af
 |_,[]=>some F
 |i,v::b=>match F.kg (a.add i) v with
  |some F'=>F'.iq a (i+1) b
  |none=>none
theorem oX {Q:Unit->af->Prop}(a:Addr):∀(b:List Value) (i:Nat) (F F':af),F.iq a i b=some F'->Q () F'->aO P (storeCells a b i) Q F
 |[],i,F,F',hg,h=>by simp only[af.iq,Option.some.injEq] at hg;subst hg;simpa [storeCells,bt] using h
 |v::b,i,F,F',hg,h=>by
  simp only[storeCells,bf,AR]
  unfold af.iq at hg
  split at hg
  ·rename_i c d
   exact ⟨c,d,oX a b (i+1) c F' hg h⟩
  ·cases hg
theorem AU {Q:Unit->af->Prop}{t:TypeId}{a:Addr}{v:Value}(F':af)(hs:bQ P t=some v.cells.size)(hg:F.iq a 0 v.cells.toList=some F')(h:Q () F'):aO P (storeVar t a v) Q F:=by
 simp only[storeVar,bf,ek,hs,ne_eq,not_true_eq_false,if_false]
 exact oX a _ 0 F F' hg h
@[go_sem] theorem wQ {Q:Addr->af->Prop}(t:TypeId)(v:Value):aO P (newVar t v) Q F=∀b,dn F b->Q ⟨b,0,none⟩ (F.push b (.cells v.cells t)):=by
 simp only[newVar,newRow,bf,m6,bt]
 simp[Obj.isChan]
@[go_sem] theorem oY {Q:Addr->af->Prop}(t:TypeId)(v:Array Value):aO P (newRow t v) Q F=∀b,dn F b->Q ⟨b,0,none⟩ (F.push b (.cells v t)):=by
 simp only[newRow,bf,m6,bt]
 simp[Obj.isChan]
@[go_sem] theorem oZ {Q:Addr->af->Prop}(a:Addr):aO P (Instr.sureAddr (.pointer (some a))) Q F=Q a F:=rfl
@[go_sem] theorem jA {Q:IntKind×Int->af->Prop}(k:IntKind)(n:Int):aO P (asIntOf (.int k n)) Q F=Q (k,n) F:=rfl
@[go_sem] theorem wR {Q:Int->af->Prop}(k:IntKind)(n:Int):aO P (asInt (.int k n)) Q F=Q n F:=rfl
@[go_sem] theorem AV {Q:Bool->af->Prop}(b:Bool):aO P (asBool (.bool b)) Q F=Q b F:=rfl
@[go_sem] theorem AW {Q:Array Value->af->Prop}(b:Array Value):aO P (asAgg (.agg b)) Q F=Q b F:=rfl
end
def slot (a:Act)(i:Nat):Value:=a.tmps.getD i undef
def sz (a:Act):Nat:=a.tmps.size
def aV (a:Act)(d:Option Tmp)(v:Value):Act:=a.put d v
def ev (a:Act)(x:Operand):Value:=a.eval x
@[go_sem] theorem Hq (a:Act)(t:Nat):ev a (.tmp t)=slot a t:=rfl
@[go_sem] theorem Hr (a:Act)(v:Value):ev a (.const v)=v:=rfl
@[go_sem] theorem Hs (a:Act)(g:Nat):ev a (.global g)= .pointer (some ⟨g,0,none⟩):=rfl
@[go_sem] theorem Ht (a:Act)(f:Nat):ev a (.func f)= .func (.func f) #[] #[]:=rfl
@[go_sem] theorem Hu (a:Act)(v:Value):aV a none v=a:=rfl
@[go_sem] theorem wS (a:Act)(d:Option Tmp)(v:Value):sz (aV a d v)=sz a:=by cases d<;>simp[sz,aV,Act.put]
theorem AX (a:Act)(d:Nat)(v:Value)(h:d<sz a):slot (aV a (some d) v) d=v:=by
 simp only[sz] at h
 simp[slot,aV,Act.put,h]
theorem rU (a:Act)(d i:Nat)(v:Value)(h:¬d=i):slot (aV a (some d) v) i=slot a i:=by
 simp[slot,aV,Act.put,Array.getElem?_setIfInBounds_ne h]
@[go_sem] theorem Hv (a:Act)(d i:Nat)(v:Value)(h:d<sz a):slot (aV a (some d) v) i=if d=i then v else slot a i:=by
 split
 ·rename_i e;subst e;exact AX a d v h
 ·rename_i e;exact rU a d i v e
@[go_sem] theorem wT (a:Act)(d:Option Tmp)(v:Value):(aV a d v).defers=a.defers:=by cases d<;>rfl
theorem ay.start {P:Program}{f:FuncId}{fn:Func}{c:Code}{n:Nat}{args:Array Value}{F:af}{R:Value->af->Prop}(d:P.funcs[f]?=some fn)(hb:fn.body=some c)(b:fn.ntmps=n)(e:args.size<=n)
  (h:∀main J,Closed P main J->∀A:Act,sz A=n->A.defers=[]->(∀i,slot A i=args.getD i undef)->Wp J c (oU P fn R) A F):ay P f args F R:=
 ay.of_wp d hb fun main J hJ=>h main J hJ _ (by simp[sz,b];omega) rfl fun i=>by
  simp only[slot,b,Array.getD_eq_getD_getElem?]
  rcases Nat.lt_or_ge i args.size with a|a
  ·rw[Array.getElem?_append_left a]
  ·rw[Array.getElem?_append_right a,Array.getElem?_replicate,Array.getElem?_eq_none a]
   split<;>rfl
def cL (P:Program)(t:TypeId):Option TypeId:=match P.underlying t with|some (.slice e)=>some e|_=>none
def lI (P:Program)(t:TypeId):Option (Nat×TypeId):=match P.underlying t with|some (.array n e)=>some (n,e)|_=>none
def cx (P:Program)(t:TypeId)(n:Nat):Option Nat:=
 match P.underlying t with
 |some (.struct a)=>match a[n]? with
  |some f=>match bQ P f.type with
   |some (_+1)=>some f.offset
   |_=>none
  |none=>none
 |_=>none
def rV (P:Program)(t:TypeId)(n:Nat):Option (Nat×Nat×Bool):=
 match P.underlying t with
 |some (.struct a)=>match a[n]? with
  |some f=>match bQ P f.type,cm P f.type with
   |some s,some g=>some (f.offset,s,g)
   |_,_=>none
  |none=>none
 |_=>none
def placesOf (P:Program)(t:TypeId):Option (List (Nat×Nat)):=
 match P.underlying t with
 |some (.struct a)=>a.toList.mapM fun f=>(bQ P f.type).map fun s=>(f.offset,s)
 |_=>none
def aD (P:Program)(f:FuncId):Bool:=match P.funcs[f]? with|some fn=>!(fn.body.isNone||fn.name== "runtime.NumGoroutine")|none=>false
def af.cR (F:af)(a:Addr):Nat->Nat->Option (List Value)
 |_,0=>some []
 |i,n+1=>match F.get (a.add i) with
  |some v=>match F.cR a (i+1) n with
   |some b=>some (v::b)
   |none=>none
  |none=>none
theorem rW (F:af)(a:Addr):∀(n i:Nat) (b:List Value),F.cR a i n=some b->F.kz a i b/\b.length=n
 |0,i,b,h=>by simp only[af.cR,Option.some.injEq] at h;subst h;exact ⟨trivial,rfl⟩
 |n+1,i,b,h=>by
  unfold af.cR at h
  split at h
  ·rename_i v c
   split at h
   ·rename_i ws d
    cases h
    obtain ⟨h1,h2⟩:=rW F a n (i+1) ws d
    exact ⟨⟨c,h1⟩,by simp[h2]⟩
   ·cases h
  ·cases h
def eG (P:Program)(F:af)(t:TypeId)(ad:Addr):Option Value:=
 match cm P t with
 |some false=>F.get ad
 |some true=>match bQ P t with
  |some n=>match F.cR ad 0 n with
   |some a=>some (.agg a.toArray)
   |none=>none
  |none=>none
 |none=>none
def o3 (P:Program)(F:af)(t:TypeId)(ad:Addr)(v:Value):Option af:=
 match bQ P t with
 |some n=>if n=v.cells.size then F.iq ad 0 v.cells.toList else none
 |none=>none
theorem wU {P:Program}{F:af}{t:TypeId}{ad:Addr}{v:Value}{Q:Value->af->Prop}(h:eG P F t ad=some v)(a:Q v F):aO P (loadVar t ad) Q F:=by
 unfold eG at h
 split at h
 ·rename_i hg;exact AT v hg h a
 ·rename_i hg
  split at h
  ·rename_i n c
   split at h
   ·rename_i b d
    cases h
    obtain ⟨h1,h2⟩:=rW F ad n 0 b d
    exact AS b hg (by rw[c,h2]) h1 a
   ·cases h
  ·cases h
 ·cases h
theorem AY {P:Program}{F F':af}{t:TypeId}{ad:Addr}{v:Value}{Q:Unit->af->Prop}(h:o3 P F t ad v=some F')(a:Q () F'):aO P (storeVar t ad v) Q F:=by
 unfold o3 at h
 split at h
 ·rename_i n b
  split at h
  ·rename_i e;exact AU F' (by rw[b,e]) h a
  ·cases h
 ·cases h
def lJ (op:BinOp):Value->Value->Option Value
 | .int k a,.int c b=>if k=c then match op with
   | .add=>some (.int k (k.wrap (a+b)))
   | .sub=>some (.int k (k.wrap (a - b)))
   | .mul=>some (.int k (k.wrap (a*b)))
   | .quo=>if b=0 then none else some (.int k (k.wrap (a.tdiv b)))
   | .rem=>if b=0 then none else some (.int k (a.tmod b))
   | .eql=>some (.bool (a==b))
   | .neq=>some (.bool (a != b))
   | .lss=>some (.bool (decide (a<b)))
   | .leq=>some (.bool (decide (a<=b)))
   | .gtr=>some (.bool (decide (a>b)))
   | .geq=>some (.bool (decide (a≥b)))
   | .shl=>if b<0 then none else some (.int k (k.wrap (a*2 ^ min b.toNat k.bits)))
   | .shr=>if b<0 then none else some (.int k (a.fdiv (2 ^ min b.toNat k.bits)))
   | .and=>some (.int k (k.wrap (BitVec.ofInt k.bits a&&& BitVec.ofInt k.bits b).toNat))
   | .or=>some (.int k (k.wrap (BitVec.ofInt k.bits a|||BitVec.ofInt k.bits b).toNat))
   | .andNot=>some (.int k (k.wrap (BitVec.ofInt k.bits a&&& ~~~(BitVec.ofInt k.bits b)).toNat))
   |_=>none
  else none
 |_,_=>none
theorem gP {P:Program}{s:Sem Value}{Q:Next->af->Prop}{F:af}:aO P (do pure (Next.value (<-s)):Sem Next) Q F=aO P s (fun v G=>Q (.value v) G) F:=by
 simp only[bf,bt]
theorem AZ {P:Program}(op:BinOp)(t:TypeId)(x y:Operand)(k c:IntKind)(a b:Int){Q:Unit->af->Prop}{F:af}(h:Q () F):aO P (eqGuard op t x y (.int k a) (.int c b)) Q F:=by
 unfold eqGuard
 cases op<;>simp<;>exact h
theorem A0 {P:Program}{op:BinOp}{t:TypeId}{x y:Operand}{u v w:Value}{Q:Value->af->Prop}{F:af}(h:lJ op u v=some w)(c:Q w F):aO P (do eqGuard op t x y u v;binOp op t u v) Q F:=by
 unfold lJ at h
 split at h
 case h_2=>cases h
 rename_i k a e b
 split at h
 case isFalse=>cases h
 rename_i d
 subst d
 rw[bf]
 refine AZ op t x y k k a b ?_
 cases op<;>simp only[binOp,ne_eq,not_true_eq_false,if_false,Op.intArith,Op.intDiv,Op.intCmp,Op.intBits,Op.shift,cU] at h ⊢<;>first
  |(cases h;done)
  |(cases h;exact c)
  |(split at h
    ·cases h
    ·rename_i hb;rw[if_neg hb];cases h;exact c)
def kA (op:UnOp):Value->Option Value
 | .int k a=>match op with
  | .neg=>some (.int k (k.wrap (0 - a)))
  |_=>none
 | .bool b=>match op with
  | .not=>some (.bool (!b))
  |_=>none
 |_=>none
theorem A1 {P:Program}{op:UnOp}{u w:Value}{Q:Value->af->Prop}{F:af}(h:kA op u=some w)(a:Q w F):aO P (Op.unary op u) Q F:=by
 cases u<;>cases op<;>simp only[kA] at h<;>first|(cases h;done)|(cases h;exact a)
def o5:Value->Value->Option Value
 | .int k x,.int _ y=>some (.int k (if y>x then y else x))
 |_,_=>none
def o6:Value->Value->Option Value
 | .int k x,.int _ y=>some (.int k (if y<x then y else x))
 |_,_=>none
def m8 (P:Program)(t:TypeId):Value->Value->Option Value
 | .slice (some ad) len _,.int _ i=>match cL P t with
  |some e=>match bQ P e with
   |some n=>if 0<=i/\i<(len:Int) then some (.pointer (some (ad.add (i.toNat*n)))) else none
   |none=>none
  |none=>none
 | .pointer (some ad),.int _ i=>match lI P t with
  |some (len,e)=>match bQ P e with
   |some n=>if 0<=i/\i<(len:Int) then some (.pointer (some (ad.add (i.toNat*n)))) else none
   |none=>none
  |none=>none
 |_,_=>none
theorem A2 {P:Program}{t:TypeId}{u v w:Value}{Q:Value->af->Prop}{F:af}(h:m8 P t u v=some w)(d:Q w F):aO P (Instr.indexAt t u v) Q F:=by
 unfold m8 at h
 split at h
 ·rename_i ad len cap k i
  split at h
  case h_2=>cases h
  rename_i e he
  split at h
  case h_2=>cases h
  rename_i n a
  split at h
  case isFalse=>cases h
  rename_i b
  cases h
  have hu:P.underlying t=some (.slice e):=by
   unfold cL at he
   split at he
   ·rename_i f c;cases he;exact c
   ·cases he
  simp only[Instr.indexAt,bf,jA,cV,hu,bt,cU,if_pos b,ek,a]
  exact d
 ·rename_i ad k i
  split at h
  case h_2=>cases h
  rename_i len e he
  split at h
  case h_2=>cases h
  rename_i n a
  split at h
  case isFalse=>cases h
  rename_i b
  cases h
  have hu:P.underlying t=some (.array len e):=by
   unfold lI at he
   split at he
   ·rename_i g f c;cases he;exact c
   ·cases he
  simp only[Instr.indexAt,bf,jA,cV,hu,bt,oZ,cU,if_pos b,ek,a]
  exact d
 ·cases h
def lK (P:Program)(t:TypeId)(x:Value)(a b:Option Value):Option Value:=
 match x,cL P t with
 | .slice ad len cap,some e=>match bQ P e with
  |some n=>
   match (match a with|none=>some 0|some (.int _ i)=>if 0<=i then some i.toNat else none|_=>none),(match b with|none=>some len|some (.int _ i)=>if 0<=i then some i.toNat else none|_=>none) with
   |some l,some h=>if l<=h/\h<=cap then some (.slice (if cap=l then ad else ad.map (·.add (l*n))) (h - l) (cap - l)) else none
   |_,_=>none
  |none=>none
 |_,_=>none
theorem A3 {P:Program}{t:TypeId}{x w:Value}{c g:Option Value}{Q:Value->af->Prop}{F:af}(hlen:∀ad len cap,x= .slice ad len cap->len<=cap)(h:lK P t x c g=some w)(d:Q w F):aO P (Instr.sliceAt t x c g none) Q F:=by
 unfold lK at h
 split at h
 case h_2=>cases h
 rename_i ad len cap e he
 have o:=hlen ad len cap rfl
 have hu:P.underlying t=some (.slice e):=by
  unfold cL at he
  split at he
  ·rename_i p m;cases he;exact m
  ·cases he
 split at h
 case h_2=>cases h
 rename_i n f
 split at h
 case h_2=>cases h
 rename_i l q a b
 split at h
 case isFalse=>cases h
 rename_i hb
 cases h
 simp only[Instr.sliceAt,bf,cV,hu,Instr.slice,Instr.sliceBounds,bt]
 cases g with
 |none=>
  simp only[Option.some.injEq] at b
  subst b
  simp only[bt]
  cases c with
  |none=>
   simp only[Option.some.injEq] at a
   subst a
   simp only[bt,ek,f]
   exact d
  |some v=>
   cases v<;>simp only[reduceCtorEq] at a
   rename_i k i
   split at a
   case isFalse=>cases a
   rename_i h0
   cases a
   have:0<=i/\i<=(len:Int):=⟨h0,by omega⟩
   simp only[Instr.sliceBound,bf,jA,cU,if_pos this,bt,ek,f]
   exact d
 |some v=>
  cases v<;>simp only[reduceCtorEq] at b
  rename_i k i
  split at b
  case isFalse=>cases b
  rename_i h0
  cases b
  have h1:0<=i/\i<=(cap:Int):=⟨h0,by omega⟩
  simp only[Instr.sliceBound,bf,jA,cU,if_pos h1,bt]
  cases c with
  |none=>
   simp only[Option.some.injEq] at a
   subst a
   simp only[bt,ek,f]
   exact d
  |some v=>
   cases v<;>simp only[reduceCtorEq] at a
   rename_i r j
   split at a
   case isFalse=>cases a
   rename_i h2
   cases a
   have h3:0<=j/\j<=((i.toNat:Nat):Int):=⟨h2,by omega⟩
   simp only[bf,jA,cU,if_pos h3,bt,ek,f]
   exact d
def fH:List Value->List Value->Option Bool
 |[],[]=>some true
 | .int k a::xs,.int c b::ys=>if k=c then match fH xs ys with
   |some r=>some (a==b&&r)
   |none=>none
  else none
 | .bool a::xs,.bool b::ys=>match fH xs ys with
   |some r=>some (a==b&&r)
   |none=>none
 |_,_=>none
theorem o7:∀{xs ys:List Value} {us b:List Value} {r:Bool},xs.length=ys.length->fH (xs++us) (ys++b)=some r->∃r1 r2,fH xs ys=some r1/\fH us b=some r2/\r=(r1&&r2)
 |[],[],us,b,r,_,h=>⟨true,r,rfl,h,by simp⟩
 |[],y::ys,_,_,_,a,_=>by simp at a
 |x::xs,[],_,_,_,a,_=>by simp at a
 |x::xs,y::ys,us,b,r,a,h=>by
  have d:xs.length=ys.length:=by simpa using a
  cases x<;>cases y<;>simp only[List.cons_append,fH,reduceCtorEq] at h ⊢
  ·split at h
   ·rename_i e c
    obtain ⟨r1,r2,h1,h2,rfl⟩:=o7 d c
    cases h
    exact ⟨_,r2,by rw[h1],h2,by rw[Bool.and_assoc]⟩
   ·cases h
  ·split at h
   ·rename_i f
    split at h
    ·rename_i e c
     obtain ⟨r1,r2,h1,h2,rfl⟩:=o7 d c
     cases h
     exact ⟨_,r2,by rw[if_pos f,h1],h2,by rw[Bool.and_assoc]⟩
    ·cases h
   ·cases h
def Kd:List Bool->List Value->Prop
 |[],[]=>True
 |true::ks,.int _ _::xs=>Kd ks xs
 |false::ks,.bool _::xs=>Kd ks xs
 |_,_=>False
theorem Kd.length:∀{ks:List Bool} {xs:List Value},Kd ks xs->xs.length=ks.length
 |[],[],_=>rfl
 |[],x::xs,h=>by simp[Kd] at h
 |k::ks,[],h=>by cases k<;>simp[Kd] at h
 |k::ks,x::xs,h=>by
  have:Kd ks xs:=by cases k<;>cases x<;>simp only[Kd] at h<;>exact h
  simp[Kd.length this]
theorem Kd.split:∀{ks:List Bool} {ls:List Bool} {xs:List Value},Kd (ks++ls) xs->Kd ks (xs.take ks.length)/\Kd ls (xs.drop ks.length)
 |[],_,_,h=>⟨by simp[Kd],by simpa using h⟩
 |k::ks,ls,[],h=>by cases k<;>simp[Kd] at h
 |k::ks,ls,x::xs,h=>by
  cases k<;>cases x<;>simp only[List.cons_append,Kd] at h
  all_goals
   obtain ⟨h1,h2⟩:=Kd.split h
   exact ⟨by simpa [Kd] using h1,by simpa using h2⟩
def m9 (P:Program)(g:TypeId->Option (List Bool)):List Field->Nat->Option (List Bool)
 |[],_=>some []
 |f::a,off=>if f.name≠ "_"/\f.offset=off then match g f.type with
   |some ks=>if bQ P f.type=some ks.length then match m9 P g a (off+ks.length) with
     |some ls=>some (ks++ls)
     |none=>none
    else none
   |none=>none
  else none
def iR (P:Program):Nat->TypeId->Option (List Bool)
 |0,_=>none
 |d+1,t=>match P.underlying t with
  |some .bool=>if cm P t=some false then some [false] else none
  |some (.int _)=>if cm P t=some false then some [true] else none
  |some (.struct a)=>if cm P t=some true/\P.stoodInHeld t=false then m9 P (iR P d) a.toList 0 else none
  |some (.array n e)=>if cm P t=some true then match iR P d e with
    |some ks=>if bQ P e=some ks.length then some (List.replicate n ks).flatten else none
    |none=>none
   else none
  |_=>none
def Sc (v:Value):Prop:=(∃k a,v= .int k a)\/∃b,v= .bool b
theorem Kd.sc:∀{ks:List Bool} {xs:List Value},Kd ks xs->∀x∈xs,Sc x
 |[],[],_=>by simp
 |[],x::xs,h=>by simp[Kd] at h
 |k::ks,[],h=>by simp
 |k::ks,x::xs,h=>by
  have:Sc x/\Kd ks xs:=by cases k<;>cases x<;>simp only[Kd] at h<;>first|exact ⟨.inl ⟨_,_,rfl⟩,h⟩|exact ⟨.inr ⟨_,rfl⟩,h⟩
  simpa using ⟨this.1,Kd.sc this.2⟩
theorem Sc.cells {v:Value}(h:Sc v):v.cells=#[v]:=by
 rcases h with ⟨k,a,rfl⟩|⟨b,rfl⟩<;>rfl
def Shape (P:Program)(t:TypeId)(v:Value):Prop:=(cm P t=some true->∃xs,v= .agg xs)/\(cm P t=some false->Sc v)
section
variable {P : Program}
theorem o8 {t:TypeId}{xs:Array Value}{off m:Nat}{g:Bool}{Q:Value->af->Prop}{F:af}(hg:cm P t=some g)(hs:bQ P t=some m)(hm:g=false->m=1)(e:off+m<=xs.size)
  (d:∀x∈xs.toList,Sc x) (h:∀v,v.cells.toList=(xs.toList.drop off).take m->Shape P t v->Q v F):aO P (part t xs off) Q F:=by
 simp only[part,bf,ku,hg,cU]
 cases g with
 |true=>
  simp only[if_true,bf,ek,hs,bt]
  refine h _ ?_ ⟨fun _=>⟨_,rfl⟩,fun a=>by rw[hg] at a;cases a⟩
  simp only[Value.cells,Array.toList_extract,List.extract_eq_take_drop]
  congr 1;omega
 |false=>
  have:=hm rfl
  subst this
  have b:off<xs.size:=by omega
  simp only[Bool.false_eq_true,if_false,Array.getElem?_eq_getElem b,bt]
  have c:=d xs[off] (by simp)
  refine h _ ?_ ⟨fun a=>(by rw[hg] at a;cases a),fun _=>c⟩
  rw[c.cells]
  have:off<xs.toList.length:=by simpa using b
  rw[List.drop_eq_getElem_cons this]
  simp
def rX (P:Program)(d:Nat)(t:TypeId)(ks:List Bool):Prop:=
 ∀(u v:Value) (r:Bool) (Q:Bool->af->Prop) (F:af),Shape P t u->Shape P t v->Kd ks u.cells.toList->Kd ks v.cells.toList->fH u.cells.toList v.cells.toList=some r->Q r F->aO P (Op.equalIn d t u v) Q F
theorem wV {d t:Nat}{ks:List Bool}(h:iR P d t=some ks):∃g,cm P t=some g/\(g=false->ks.length=1):=by
 cases d with
 |zero=>cases h
 |succ d=>
  unfold iR at h
  split at h
  ·split at h
   ·rename_i hg;cases h;exact ⟨_,hg,fun _=>rfl⟩
   ·cases h
  ·split at h
   ·rename_i hg;cases h;exact ⟨_,hg,fun _=>rfl⟩
   ·cases h
  ·split at h
   ·rename_i hg;exact ⟨true,hg.1,fun x=>by cases x⟩
   ·cases h
  ·split at h
   ·rename_i hg;exact ⟨true,hg,fun x=>by cases x⟩
   ·cases h
  ·cases h
theorem wW {d:Nat}(ih:∀t ks,iR P d t=some ks->rX P d t ks){xs ys:Array Value}{Q:Bool->af->Prop}{F:af}(l:∀x∈xs.toList,Sc x)(m:∀x∈ys.toList,Sc x):
  ∀(c:List Field) (off:Nat) (ks:List Bool) (r:Bool),m9 P (iR P d) c off=some ks->Kd ks (xs.toList.drop off)->Kd ks (ys.toList.drop off)->fH (xs.toList.drop off) (ys.toList.drop off)=some r->off<=xs.size->off<=ys.size->Q r F->
  aO P (do
   let x<-forIn c ((none,()):Option Bool×Unit) fun f _=>do
    if f.name≠ "_" then
     if (!(<-Op.equalIn d f.type (<-part f.type xs f.offset) (<-part f.type ys f.offset)))=true then pure (ForInStep.done (some false,())) else pure (ForInStep.yield (none,()))
    else pure (ForInStep.yield (none,()))
   match x.fst with
    |some a=>pure a
    |none=>pure true:Sem Bool) Q F
 |[],off,ks,r,b,e,h,he,_,_,i=>by
  simp only[m9,Option.some.injEq] at b
  subst b
  have h1:=e.length
  have h2:=h.length
  rw[List.eq_nil_of_length_eq_zero h1,List.eq_nil_of_length_eq_zero h2] at he
  cases he
  simp only[List.forIn_nil,bf,bt]
  exact i
 |f::c,off,ks,r,b,e,h,he,D,E,i=>by
  unfold m9 at b
  split at b
  case isFalse=>cases b
  rename_i j
  obtain ⟨j,rfl⟩:=j
  split at b
  case h_2=>cases b
  rename_i k n
  split at b
  case isFalse=>cases b
  rename_i hs
  split at b
  case h_2=>cases b
  rename_i ls w
  cases b
  obtain ⟨g,hg,o⟩:=wV n
  have y:=e.length
  have z:=h.length
  simp only[List.length_drop,Array.length_toList,List.length_append] at y z
  obtain ⟨A,p⟩:=e.split
  obtain ⟨B,q⟩:=h.split
  rw[List.drop_drop] at p q
  have e1:xs.toList.drop f.offset=(xs.toList.drop f.offset).take k.length++xs.toList.drop (f.offset+k.length):=by
   rw[<-List.drop_drop,List.take_append_drop]
  have e2:ys.toList.drop f.offset=(ys.toList.drop f.offset).take k.length++ys.toList.drop (f.offset+k.length):=by
   rw[<-List.drop_drop,List.take_append_drop]
  rw[e1,e2] at he
  obtain ⟨r1,r2,h1,h2,rfl⟩:=o7 (by simp;omega) he
  simp only[List.forIn_cons,bf,if_pos j]
  refine o8 hg hs o (by omega) l fun u hu C=>?_
  refine o8 hg hs o (by omega) m fun v s sv=>?_
  refine ih _ _ n u v r1 _ F C sv (by rw[hu];exact A) (by rw[s];exact B) (by rw[hu,s];exact h1) ?_
  cases r1 with
  |false=>simpa [bt,cU] using i
  |true=>
   have:=wW ih l m c (f.offset+k.length) ls r2 w p q h2 (by omega) (by omega) (Q:=Q) (F:=F) (by simpa using i)
   simpa [bt,cU,bf] using this
theorem wX {d e k:Nat}{ks:List Bool}{g:Bool}(q:rX P d e ks)(h:ks.length=k)(hg:cm P e=some g)(j:g=false->ks.length=1)(hs:bQ P e=some ks.length){xs ys:Array Value}{Q:Bool->af->Prop}{F:af}(s:∀x∈xs.toList,Sc x)(t:∀x∈ys.toList,Sc x):
  ∀(n i:Nat) (r:Bool),Kd (List.replicate n ks).flatten (xs.toList.drop (i*k))->Kd (List.replicate n ks).flatten (ys.toList.drop (i*k))->fH (xs.toList.drop (i*k)) (ys.toList.drop (i*k))=some r->i*k<=xs.size->i*k<=ys.size->Q r F->
  aO P (do
   let x<-forIn (List.range' i n) ((none,()):Option Bool×Unit) fun i _=>do
    if (!(<-Op.equalIn d e (<-part e xs (i*k)) (<-part e ys (i*k))))=true then pure (ForInStep.done (some false,())) else pure (ForInStep.yield (none,()))
   match x.fst with
    |some a=>pure a
    |none=>pure true:Sem Bool) Q F
 |0,i,r,b,c,he,_,_,f=>by
  have h1:=b.length
  have h2:=c.length
  rw[List.eq_nil_of_length_eq_zero h1,List.eq_nil_of_length_eq_zero h2] at he
  cases he
  simp only[List.range'_zero,List.forIn_nil,bf,bt]
  exact f
 |n+1,i,r,b,c,he,C,D,f=>by
  have l:(i+1)*k=i*k+k:=by simp only[Nat.add_mul,Nat.one_mul]
  have z:=b.length
  have A:=c.length
  simp only[List.replicate_succ,List.flatten_cons,List.length_drop,Array.length_toList,List.length_append] at z A
  simp only[List.replicate_succ,List.flatten_cons] at b c
  obtain ⟨w,m⟩:=b.split
  obtain ⟨y,o⟩:=c.split
  rw[h] at w m y o
  rw[List.drop_drop,<-l] at m o
  have e1:xs.toList.drop (i*k)=(xs.toList.drop (i*k)).take k++xs.toList.drop ((i+1)*k):=by
   rw[l,<-List.drop_drop,List.take_append_drop]
  have e2:ys.toList.drop (i*k)=(ys.toList.drop (i*k)).take k++ys.toList.drop ((i+1)*k):=by
   rw[l,<-List.drop_drop,List.take_append_drop]
  rw[e1,e2] at he
  obtain ⟨r1,r2,h1,h2,rfl⟩:=o7 (by simp;omega) he
  simp only[List.range'_succ,List.forIn_cons,bf]
  refine o8 hg hs j (by omega) s fun u hu B=>?_
  refine o8 hg hs j (by omega) t fun v p sv=>?_
  rw[h] at hu p
  refine q u v r1 _ F B sv (by rw[hu];exact w) (by rw[p];exact y) (by rw[hu,p];exact h1) ?_
  cases r1 with
  |false=>simpa [bt,cU] using f
  |true=>
   have:=wX q h hg j hs s t n (i+1) r2 m o h2 (by omega) (by omega) (Q:=Q) (F:=F) (by simpa using f)
   simpa [bt,cU,bf] using this
theorem rY:∀(d t:Nat) (ks:List Bool),iR P d t=some ks->rX P d t ks
 |0,_,_,h=>by cases h
 |d+1,t,ks,h=>by
  intro u v r Q F i sv hu c he j
  unfold iR at h
  split at h
  ·rename_i f
   split at h
   case isFalse=>cases h
   rename_i hg
   cases h
   have a1:=i.2 hg
   have a2:=sv.2 hg
   rw[a1.cells] at he hu
   rw[a2.cells] at he c
   simp only[Op.equalIn,bf,cV,f]
   rcases a1 with ⟨k,a,rfl⟩|⟨a,rfl⟩<;>rcases a2 with ⟨m,b,rfl⟩|⟨b,rfl⟩<;>simp[Kd] at hu c
   simp[fH] at he
   subst he
   simpa [bt] using j
  ·rename_i f
   split at h
   case isFalse=>cases h
   rename_i hg
   cases h
   have a1:=i.2 hg
   have a2:=sv.2 hg
   rw[a1.cells] at he hu
   rw[a2.cells] at he c
   simp only[Op.equalIn,bf,cV,f]
   rcases a1 with ⟨k,a,rfl⟩|⟨a,rfl⟩<;>rcases a2 with ⟨m,b,rfl⟩|⟨b,rfl⟩<;>simp[Kd] at hu c
   simp[fH] at he
   obtain ⟨l,rfl⟩:=he
   simpa [bt,cU,l] using j
  ·rename_i o f
   split at h
   case isFalse=>cases h
   rename_i hg
   obtain ⟨hg,p⟩:=hg
   obtain ⟨xs,rfl⟩:=i.1 hg
   obtain ⟨ys,rfl⟩:=sv.1 hg
   simp only[Op.equalIn,bf,cV,f,iQ,p,Bool.false_eq_true,if_false,cU,bt]
   have:=wW (P:=P) (d:=d) (fun t ks q=>rY d t ks q) (xs:=xs) (ys:=ys) (Q:=Q) (F:=F) hu.sc c.sc o.toList 0 ks r h (by simpa [Value.cells] using hu) (by simpa [Value.cells] using c) (by simpa [Value.cells] using he) (by omega) (by omega) j
   rw[<-Array.forIn_toList]
   simp[bf] at this ⊢
   exact fX (fun a G h=>by rcases a with ⟨_|_,_⟩<;>exact h) _ _ this
  ·rename_i n e f
   split at h
   case isFalse=>cases h
   rename_i hg
   split at h
   case h_2=>cases h
   rename_i k l
   split at h
   case isFalse=>cases h
   rename_i hs
   cases h
   obtain ⟨xs,rfl⟩:=i.1 hg
   obtain ⟨ys,rfl⟩:=sv.1 hg
   obtain ⟨g,s,w⟩:=wV l
   simp only[Op.equalIn,bf,cV,f,ek,hs]
   have:=wX (P:=P) (d:=d) (rY d e k l) rfl s w hs (xs:=xs) (ys:=ys) (Q:=Q) (F:=F) hu.sc c.sc n 0 r (by simpa [Value.cells] using hu) (by simpa [Value.cells] using c) (by simpa [Value.cells] using he) (by simp) (by simp) j
   simp only[Std.Legacy.Range.forIn_eq_forIn_range',Std.Legacy.Range.size,Nat.sub_zero,Nat.add_one_sub_one,Nat.div_one]
   simp[bf] at this ⊢
   exact fX (fun a G h=>by rcases a with ⟨_|_,_⟩<;>exact h) _ _ this
  ·cases h
def gQ:List Bool->List Value->Bool
 |[],[]=>true
 |true::ks,.int _ _::xs=>gQ ks xs
 |false::ks,.bool _::xs=>gQ ks xs
 |_,_=>false
theorem rZ:∀{ks:List Bool} {xs:List Value},gQ ks xs=true->Kd ks xs
 |[],[],_=>trivial
 |[],x::xs,h=>by simp[gQ] at h
 |k::ks,[],h=>by cases k<;>simp[gQ] at h
 |k::ks,x::xs,h=>by
  cases k<;>cases x<;>first
   |(simp only[gQ,reduceCtorEq,Bool.false_eq_true] at h;done)
   |exact rZ (ks:=ks) (xs:=xs) (by simpa only[gQ] using h)
def lM (P:Program)(t:TypeId):Option (List Bool):=if P.eqGuardType P.depth t=false/\cm P t=some true then iR P Op.maxDepth t else none
def kB (P:Program)(t:TypeId):Value->Value->Option Bool
 | .agg xs,.agg ys=>match lM P t with
  |some ks=>if gQ ks xs.toList&&gQ ks ys.toList then fH xs.toList ys.toList else none
  |none=>none
 |_,_=>none
theorem r4 {t:TypeId}{u v:Value}{r:Bool}{Q:Bool->af->Prop}{F:af}(h:kB P t u v=some r)(c:Q r F):aO P (Op.equal t u v) Q F/\P.eqGuardType P.depth t=false/\(∃xs,u= .agg xs)/\∃ys,v= .agg ys:=by
 unfold kB at h
 split at h
 case h_2=>cases h
 rename_i xs ys
 split at h
 case h_2=>cases h
 rename_i ks a
 split at h
 case isFalse=>cases h
 rename_i b
 simp only[Bool.and_eq_true] at b
 unfold lM at a
 split at a
 case isFalse=>cases a
 rename_i hg
 refine ⟨?_,hg.1,⟨_,rfl⟩,_,rfl⟩
 exact rY _ _ _ a _ _ r Q F ⟨fun _=>⟨_,rfl⟩,fun x=>by rw[hg.2] at x;cases x⟩ ⟨fun _=>⟨_,rfl⟩,fun x=>by rw[hg.2] at x;cases x⟩ (rZ b.1) (rZ b.2) h c
def r5 (P:Program)(t:TypeId):Bool:=match P.underlying t with|some .bool=>true|_=>false
def iS (P:Program)(t:TypeId):Bool:=match P.underlying t with|some (.slice _)=>true|_=>false
def nc (P:Program)(t:TypeId):Value->Value->Option Bool
 | .bool a,.bool b=>if r5 P t=true then some (a==b) else none
 | .slice none _ _,.slice b _ _=>if iS P t=true then some b.isNone else none
 | .slice (some _) _ _,.slice none _ _=>if iS P t=true then some false else none
 |_,_=>none
theorem wY {t:TypeId}{u v:Value}{r:Bool}{Q:Bool->af->Prop}{F:af}(h:nc P t u v=some r)(e:Q r F):aO P (Op.equal t u v) Q F/\((∃a b,u= .bool a/\v= .bool b)\/∃a n c b m d,u= .slice a n c/\v= .slice b m d):=by
 obtain ⟨d,hd⟩:∃d,Op.maxDepth=d+1:=⟨_,rfl⟩
 unfold nc at h
 split at h
 ·split at h
  ·rename_i hb
   cases h
   unfold r5 at hb
   split at hb
   ·rename_i hu
    refine ⟨?_,.inl ⟨_,_,rfl,rfl⟩⟩
    unfold Op.equal
    rw[hd]
    simp only[Op.equalIn,bf,cV,hu,bt]
    exact e
   ·cases hb
  ·cases h
 ·split at h
  ·rename_i hb
   cases h
   unfold iS at hb
   split at hb
   ·rename_i hu
    refine ⟨?_,.inr ⟨_,_,_,_,_,_,rfl,rfl⟩⟩
    unfold Op.equal
    rw[hd]
    simp only[Op.equalIn,bf,cV,hu,bt]
    exact e
   ·cases hb
  ·cases h
 ·split at h
  ·rename_i hb
   cases h
   unfold iS at hb
   split at hb
   ·rename_i hu
    refine ⟨?_,.inr ⟨_,_,_,_,_,_,rfl,rfl⟩⟩
    unfold Op.equal
    rw[hd]
    simp only[Op.equalIn,bf,cV,hu,bt]
    exact e
   ·cases hb
  ·cases h
 ·cases h
def ng (P:Program)(op:BinOp)(t:TypeId)(u v:Value):Option Value:=
 match lJ op u v with
 |some w=>some w
 |none=>match op with
  | .eql=>match kB P t u v with
   |some r=>some (.bool r)
   |none=>match nc P t u v with
    |some r=>some (.bool r)
    |none=>none
  | .neq=>match kB P t u v with
   |some r=>some (.bool (!r))
   |none=>match nc P t u v with
    |some r=>some (.bool (!r))
    |none=>none
  |_=>none
theorem A4 {op:BinOp}{t:TypeId}{x y:Operand}{u v w:Value}{Q:Value->af->Prop}{F:af}(h:ng P op t u v=some w)(f:Q w F):aO P (do eqGuard op t x y u v;binOp op t u v) Q F:=by
 unfold ng at h
 split at h
 ·rename_i w' hw;cases h;exact A0 hw f
 ·split at h
  ·split at h
   ·rename_i r e
    cases h
    obtain ⟨h1,h2,⟨xs,rfl⟩,ys,rfl⟩:=r4 (Q:=fun r G=>Q (.bool r) G) e f
    simp only[bf,eqGuard,binOp,iQ,h2,cU,bt]
    simpa using h1
   ·split at h
    ·rename_i r e
     cases h
     obtain ⟨h1,h2⟩:=wY (Q:=fun r G=>Q (.bool r) G) e f
     rcases h2 with ⟨a,b,rfl,rfl⟩|⟨a,n,c,b,m,d,rfl,rfl⟩<;>
     ·simp only[bf,eqGuard,binOp,iQ,cU,bt]
      simpa using h1
    ·cases h
  ·split at h
   ·rename_i r e
    cases h
    obtain ⟨h1,h2,⟨xs,rfl⟩,ys,rfl⟩:=r4 (Q:=fun r G=>Q (.bool (!r)) G) e f
    simp only[bf,eqGuard,binOp,iQ,h2,cU,bt]
    simpa using h1
   ·split at h
    ·rename_i r e
     cases h
     obtain ⟨h1,h2⟩:=wY (Q:=fun r G=>Q (.bool (!r)) G) e f
     rcases h2 with ⟨a,b,rfl,rfl⟩|⟨a,n,c,b,m,d,rfl,rfl⟩<;>
     ·simp only[bf,eqGuard,binOp,iQ,cU,bt]
      simpa using h1
    ·cases h
  ·cases h
end
theorem r6 {P:Program}{t e:TypeId}(h:cL P t=some e):P.underlying t=some (.slice e):=by
 unfold cL at h
 split at h
 ·rename_i a he;cases h;exact he
 ·cases h
theorem wZ (n:Nat):∀(r c:Nat),Builtin.growBy n r c<=2 ^ r*(c+768)
 |0,c=>by simp[Builtin.growBy]
 |r+1,c=>by
  unfold Builtin.growBy
  split
  ·have:1<=2 ^ (r+1):=Nat.one_le_two_pow
   have:=Nat.mul_le_mul_right (c+768) this
   omega
  ·have h:=wZ n r (c+(c+768)/4)
   refine Nat.le_trans h ?_
   rw[Nat.pow_succ,Nat.mul_assoc]
   refine Nat.mul_le_mul_left _ ?_
   omega
theorem nextslicecap_le {n c:Nat}(h:c<n)(b:n<=1000000):Builtin.nextslicecap n c<=20000000:=by
 unfold Builtin.nextslicecap
 split
 ·omega
 ·split
  ·omega
  ·have a:=wZ n 4 c
   have e:(2:Nat) ^ 4=16:=by decide
   rw[e] at a
   refine Nat.le_trans a ?_
   omega
section
variable {P : Program}
theorem A5 {Q:Array Value->af->Prop}{F:af}(a:Addr){n:Nat}{b:List Value}(h:F.cR a 0 n=some b)(c:Q b.toArray F):aO P (loadCells a n) Q F:=by
 obtain ⟨h1,h2⟩:=rW F a n 0 b h
 subst h2
 exact rT a b 0 #[] h1 (by simpa using c)
def fj (F:af)(size:Nat):Value->Option (List Value)
 | .slice (some a) n _=>F.cR a 0 (n*size)
 | .slice none 0 _=>some []
 |_=>none
theorem r7 {Q:Array Value->af->Prop}{F:af}{size n:Nat}{ad:Option Addr}{c:Nat}{b:List Value}(h:fj F size (.slice ad n c)=some b)(d:Q b.toArray F):aO P (Builtin.firstCells size n (.slice ad n c)) Q F:=by
 cases ad with
 |none=>
  cases n with
  |zero=>simp only[fj,Option.some.injEq] at h;subst h;exact d
  |succ n=>simp[fj] at h
 |some a=>exact A5 a h d
theorem r8 {Q:Unit->af->Prop}{F:af}(n:Nat)(h:Q () F):aO P (askRoom n) Q F:=by
 unfold askRoom
 rw[cU]
 split
 ·exact ⟨rfl,h⟩
 ·exact h
theorem r9 {F:af}{Q:Value->af->Prop}{argTypes:Array TypeId}{ty i j e p:TypeId}{size d len cap n c:Nat}{base l:Option Addr}{z:Value}{old new:List Value}
  (h0:argTypes[0]?=some i) (h1:argTypes[1]?=some j) (he:cL P i=some e) (q:cL P j=some p) (hs:bQ P e=some size) (r:zeroOf P e=some z) (hb:bytesOf P e=some d)
  (B:0<d) (s:d<=10000) (u:len+n<=1000000) (hold:fj F size (.slice base len cap)=some old) (m:fj F size (.slice l n c)=some new)
  (f:len+n<=cap->(∃a F',base=some a/\F.iq (a.add (len*size)) 0 new=some F'/\Q (.slice base (len+n) cap) F')\/(base=none/\Q (.slice base (len+n) cap) F))
  (v:cap<len+n->∀k b,len+n<=k->dn F b->Q (.slice (some ⟨b,0,none⟩) (len+n) k) (F.push b (.cells (old.toArray++new.toArray++Builtin.zeroCells z.cells (k - (len+n))) e))):
  aO P (Builtin.append_ argTypes ty #[.slice base len cap,.slice l n c]) Q F:=by
 have hu:=r6 he
 have w:=r6 q
 unfold bytesOf at hb
 obtain ⟨info,x,rfl⟩:=Option.map_eq_some_iff.1 hb
 simp only[Builtin.append_,h0,h1,List.getElem?_toArray,List.getElem?_cons_zero,List.getElem?_cons_succ,bf,cV,hu,w,ek,hs,bt,Builtin.lenOf,Bool.false_eq_true,if_false,cU,Bool.not_false,if_true,m7,x]
 split
 ·rename_i hle
  have f:=f hle
  refine r7 m ?_
  rcases f with ⟨a,F',rfl,y,g⟩|⟨rfl,g⟩
  ·simp only[bf]
   refine oX _ _ 0 F F' (by simpa using y) ?_
   exact g
  ·exact g
 ·rename_i C
  have A:=nextslicecap_le (n:=len+n) (c:=cap) (by omega) u
  have e1:¬(((len+n:Nat):Int)>IntKind.i64.max/\(false=true\/info.bytes=0)):=by
   rintro ⟨_,h|h⟩
   ·cases h
   ·omega
  have e2:¬(Builtin.nextslicecap (len+n) cap*info.bytes>2 ^ 48):=by
   have:Builtin.nextslicecap (len+n) cap*info.bytes<=20000000*10000:=Nat.mul_le_mul A s
   omega
  rw[if_neg (by simpa using e1),if_neg e2]
  rw[rS]
  rw[if_neg (by simp[Question.forced])]
  intro t
  have o:len+n<=(Question.appendCap (len+n) cap e).cut t:=Nat.le_add_right _ _
  generalize (Question.appendCap (len+n) cap e).cut t=k at o ⊢
  refine r8 _ ?_
  refine r7 hold ?_
  refine r7 m ?_
  simp only[bf,kr,r,oY,bt]
  exact fun b hb=>v (by omega) k b o hb
end
theorem sd:∀{pre:List (Nat×Obj)} {b:Nat} {o:Obj},aj pre b->lk (pre++[(b,o)]) b=some o
 |[],b,o,_=>by simp[lk]
 |(c,x)::pre,b,o,h=>by
  have a:¬c=b:=fun e=>h.1 e.symm
  simp[lk,a,sd h.2]
def dz (arr:Array Value)(k:Nat):List Value->Array Value
 |[]=>arr
 |v::a=>dz (arr.setIfInBounds k v) (k+1) a
theorem o9:∀(a:List Value) (arr:Array Value) (k:Nat),(dz arr k a).size=arr.size
 |[],_,_=>rfl
 |v::a,arr,k=>by rw[dz,o9 a];simp
theorem pe:∀(a:List Value) (arr:Array Value) (k:Nat),k+a.length<=arr.size->(dz arr k a).toList=arr.toList.take k++a++arr.toList.drop (k+a.length)
 |[],arr,k,_=>by simp[dz]
 |v::a,arr,k,h=>by
  simp only[List.length_cons] at h
  rw[dz,pe a _ _ (by simp;omega)]
  have b:k<arr.toList.length:=by simp;omega
  rw[Array.toList_setIfInBounds]
  have e1:(arr.toList.set k v).take (k+1)=arr.toList.take k++[v]:=by
   rw[List.take_succ_eq_append_getElem (by simpa using b),List.take_set_of_le (Nat.le_refl _)]
   simp
  have e2:(arr.toList.set k v).drop (k+1+a.length)=arr.toList.drop (k+(v::a).length):=by
   rw[List.drop_set_of_lt (by omega)]
   congr 1
   simp;omega
  rw[e1,e2]
  simp
def Gr (ro:Addr->Option Value)(e:TypeId)(size:Nat)(v:Value)(l:List (List Value))(aN:List (Nat×Obj)):Prop:=
 (v= .slice none 0 0/\l=[]/\aN=[])\/
 ∃b arr cap,v= .slice (some ⟨b,0,none⟩) l.length cap/\aN=[(b,.cells arr e)]/\arr.size=cap*size/\l.length<=cap/\arr.toList.take (l.length*size)=l.flatten/\(∀x∈l,x.length=size)/\∀off sp,ro ⟨b,off,sp⟩=none
theorem gm {size:Nat}:∀{l:List (List Value)},(∀x∈l,x.length=size)->l.flatten.length=l.length*size
 |[],_=>by simp
 |x::l,h=>by
  have ih:l.flatten.length=l.length*size:=gm (fun y a=>h y (List.mem_cons_of_mem _ a))
  simp only[List.flatten_cons,List.length_append,List.length_cons,h x (by simp),ih,Nat.add_mul,Nat.one_mul]
  omega
theorem w5 {ro:Addr->Option Value}{pre:List (Nat×Obj)}{b:Nat}{e:TypeId}{arr:Array Value}(a:aj pre b)(c:∀off sp,ro ⟨b,off,sp⟩=none):∀(n i:Nat),i+n<=arr.size->
  af.cR ⟨ro,pre++[(b,.cells arr e)]⟩ ⟨b,0,none⟩ i n=some ((arr.toList.drop i).take n)
 |0,i,_=>by simp[af.cR]
 |n+1,i,h=>by
  have f:(⟨b,0,none⟩:Addr).add i=⟨b,i,none⟩:=by
   unfold Addr.add
   split
   ·rename_i g;subst g;rfl
   ·simp
  have d:i<arr.size:=by omega
  unfold af.cR
  have ih:=w5 (e:=e) (arr:=arr) a c n (i+1) (by omega)
  simp only[af.get,f,c,if_true,sd a,Option.bind_some,cellOf,Array.getElem?_eq_getElem d,ih]
  have j:i<arr.toList.length:=by simpa using d
  rw[List.drop_eq_getElem_cons j,List.take_succ_cons]
  simp
theorem Gr.fj {ro:Addr->Option Value}{e:TypeId}{size:Nat}{v:Value}{l:List (List Value)}{aN pre:List (Nat×Obj)}(h:Gr ro e size v l aN)(a:∀k∈keys aN,aj pre k):
  Go.Sep.fj ⟨ro,pre++aN⟩ size v=some l.flatten:=by
 rcases h with ⟨rfl,rfl,rfl⟩|⟨b,arr,cap,rfl,rfl,hs,c,ht,f,d⟩
 ·rfl
 ·simp only[Go.Sep.fj]
  have hle:l.length*size<=arr.size:=by rw[hs];exact Nat.mul_le_mul_right _ c
  rw[w5 (a b (by simp[keys])) d _ _ (by omega)]
  simp[ht]
section
variable {P : Program}
end
def nh (P:Program)(t:TypeId)(parts:List (Nat×Value)):Option Value:=
 match zeroOf P t,placesOf P t with
 |some z,some pl=>match Instr.fill (fun i=>pl[i]?) z.cells parts with
  |some cs=>some (.agg cs)
  |none=>none
 |_,_=>none
theorem w6 {P:Program}{Q:Array (Nat×Nat)->af->Prop}{F:af}:∀(a:List Field) (pl:List (Nat×Nat)) (acc:Array (Nat×Nat)),(a.mapM fun f=>(bQ P f.type).map fun s=>(f.offset,s))=some pl->
  Q (acc++pl.toArray) F->aO P (a.foldlM (fun (b:Array (Nat×Nat)) f=>do let s<-sizeOf f.type;pure (b.push (f.offset,s))) acc) Q F
 |[],pl,acc,h,c=>by
  simp at h;subst h
  simpa [bt] using c
 |f::a,pl,acc,h,c=>by
  simp only[List.mapM_cons] at h
  cases hs:bQ P f.type with
  |none=>simp[hs] at h
  |some s=>
   cases d:(a.mapM fun f=>(bQ P f.type).map fun s=>(f.offset,s)) with
   |none=>simp[hs,d] at h
   |some e=>
    simp[hs,d] at h
    subst h
    simp only[List.foldlM_cons,bf,ek,hs,bt]
    exact w6 a e _ d (by simpa using c)
theorem A6 {P:Program}{Q:Array (Nat×Nat)->af->Prop}{F:af}(a:Array Field)(pl:List (Nat×Nat))(h:(a.toList.mapM fun f=>(bQ P f.type).map fun s=>(f.offset,s))=some pl)
  (b:Q pl.toArray F):aO P (a.mapM fun f=>do let s<-sizeOf f.type;pure (f.offset,s)) Q F:=by
 rw[Array.mapM_eq_foldlM,<-Array.foldlM_toList]
 have:=w6 (Q:=Q) (F:=F) a.toList pl #[] h (by simpa using b)
 simpa using this
theorem A7 {P:Program}{t:TypeId}{parts:Array (Nat×Value)}{w:Value}{Q:Value->af->Prop}{F:af}(h:nh P t parts.toList=some w)(b:Q w F):aO P (Instr.build t parts) Q F:=by
 unfold nh at h
 split at h
 case h_2=>cases h
 rename_i z pl c a
 split at h
 case h_2=>cases h
 rename_i cs d
 cases h
 unfold placesOf at a
 split at a
 case h_2=>cases a
 rename_i e f
 simp only[Instr.build,bf,kr,c,cV,f]
 refine A6 e pl a ?_
 simp only[List.getElem?_toArray,d,bt]
 exact b
def pg (P:Program)(t:TypeId)(len:Nat)(parts:List (Nat×Value)):Option (TypeId×Array Value):=
 match cL P t with
 |some e=>match bQ P e,zeroOf P e with
  |some size,some z=>if len*size<=2 ^ 24/\0<len*size then
    match Instr.fill (fun i=>some (i*size,size)) ((Array.range (len*size)).map (z.cells[· % z.cells.size]!)) parts with
    |some cs=>some (e,cs)
    |none=>none
   else if len*size=0/\parts.isEmpty=true then some (e,#[]) else none
  |_,_=>none
 |none=>none
theorem A8 {P:Program}{t:TypeId}{len:Nat}{parts:Array (Nat×Value)}{e:TypeId}{cs:Array Value}{Q:Value->af->Prop}{F:af}(h:pg P t len parts.toList=some (e,cs))
  (c:∀b,dn F b->Q (.slice (some ⟨b,0,none⟩) len len) (F.push b (.cells cs e))):aO P (Instr.buildSlice t len parts) Q F:=by
 unfold pg at h
 split at h
 case h_2=>cases h
 rename_i d he
 split at h
 case h_2=>cases h
 rename_i size z hs f
 split at h
 case isFalse=>
  split at h
  case isFalse=>cases h
  rename_i hb
  cases h
  have hu:P.underlying t=some (.slice e):=by
   unfold cL at he
   split at he
   ·rename_i d a;cases he;exact a
   ·cases he
  have h1:¬(len*size>2 ^ 24):=by rw[hb.1];decide
  have g:parts.toList=[]:=List.isEmpty_iff.1 hb.2
  simp only[Instr.buildSlice,bf,cV,hu,ek,hs,cU,if_neg h1,if_pos hb.1,bt,g]
  rw[hb.1]
  have e0:Array.range 0=#[]:=rfl
  simp only[e0,Array.map_empty,Instr.fill,bf,oY,bt]
  exact c
 rename_i hb
 split at h
 case h_2=>cases h
 rename_i cs' i
 cases h
 have hu:P.underlying t=some (.slice e):=by
  unfold cL at he
  split at he
  ·rename_i d a;cases he;exact a
  ·cases he
 have h1:¬(len*size>2 ^ 24):=by omega
 have h2:¬(len*size=0):=by omega
 simp only[Instr.buildSlice,bf,cV,hu,ek,hs,cU,if_neg h1,if_neg h2,kr,f,bt,i,oY]
 exact c
def ni (P:Program)(t:TypeId)(n:Nat):Value->Option Value
 | .agg cs=>match rV P t n with
  |some (off,s,true)=>some (.agg (cs.extract off (off+s)))
  |some (off,_,false)=>cs[off]?
  |none=>none
 |_=>none
theorem A9 {P:Program}{t:TypeId}{n:Nat}{u w:Value}{Q:Value->af->Prop}{F:af}(h:ni P t n u=some w)(b:Q w F):aO P (Instr.field t u n) Q F:=by
 cases u<;>simp only[ni,reduceCtorEq] at h
 rename_i cs
 unfold rV at h
 cases hu:P.underlying t with
 |none=>simp[hu] at h
 |some d=>
  cases d<;>simp only[hu,reduceCtorEq] at h
  rename_i c
  cases a:c[n]? with
  |none=>simp[a] at h
  |some f=>
   simp only[a] at h
   cases hs:bQ P f.type with
   |none=>simp[hs] at h
   |some s=>
    cases hg:cm P f.type with
    |none=>simp[hs,hg] at h
    |some g=>
     simp only[hs,hg] at h
     simp only[Instr.field,bf,cV,hu,a,AW,part,ku,hg,cU]
     cases g with
     |true=>simp only[Option.some.injEq] at h;subst h;simpa [ek,hs,bt] using b
     |false=>
      simp only at h
      simp only[Bool.false_eq_true,if_false,h]
      exact b
def pn (n:Nat):Value->Option Value
 | .tuple a=>a[n]?
 |_=>none
def kC (P:Program)(src dst:TypeId):Value->Option Value
 | .int _ n=>match P.underlying src,P.underlying dst with
  |some (.int _),some (.int k)=>some (.int k (k.wrap n))
  |_,_=>none
 |_=>none
theorem Ba {P:Program}{src dst:TypeId}{u w:Value}{Q:Value->af->Prop}{F:af}(h:kC P src dst u=some w)(a:Q w F):aO P (convert src dst u) Q F:=by
 cases u<;>simp only[kC,reduceCtorEq] at h
 rename_i k n
 split at h
 ·rename_i k1 b h1 h2
  cases h
  simp only[convert,bf,cV,h1,h2,Conv.intToInt,bt]
  exact a
 ·cases h
def pq (P:Program)(t:TypeId):Value->Option Value
 | .slice _ n _=>match cL P t with
  |some _=>some (.int .i64 n)
  |none=>none
 |_=>none
def nj (P:Program)(t:TypeId):Value->Value->Option Value
 | .agg cs,.int _ i=>match lI P t with
  |some (len,e)=>match bQ P e,cm P e with
   |some s,some true=>if 0<=i/\i<(len:Int) then some (.agg (cs.extract (i.toNat*s) (i.toNat*s+s))) else none
   |some s,some false=>if 0<=i/\i<(len:Int) then cs[i.toNat*s]? else none
   |_,_=>none
  |none=>none
 | .string s,.int _ i=>match P.underlying t with
  |some .string=>if 0<=i then (s[i.toNat]?).map fun b=>.int .u8 b.toNat else none
  |_=>none
 |_,_=>none
theorem Bb {P:Program}{t:TypeId}{u v w:Value}{Q:Value->af->Prop}{F:af}(h:nj P t u v=some w)(c:Q w F):aO P (Instr.index t u v) Q F:=by
 unfold nj at h
 split at h
 case h_3=>cases h
 case h_2=>
  rename_i s k i
  split at h
  case h_2=>cases h
  rename_i hu
  split at h
  case isFalse=>cases h
  rename_i a
  obtain ⟨b,hb,rfl⟩:=Option.map_eq_some_iff.1 h
  simp only[Instr.index,bf,jA,cV,hu,if_pos a,hb,bt]
  exact c
 rename_i cs k i
 split at h
 case h_2=>cases h
 rename_i len e he
 have hu:P.underlying t=some (.array len e):=by
  unfold lI at he
  split at he
  ·rename_i f g d;cases he;exact d
  ·cases he
 split at h
 ·rename_i s hs hg
  split at h
  case isFalse=>cases h
  rename_i a
  cases h
  simp only[Instr.index,bf,jA,cV,hu,cU,if_pos a,ek,hs,part,ku,hg,if_true,bt]
  exact c
 ·rename_i s hs hg
  split at h
  case isFalse=>cases h
  rename_i a
  simp only[Instr.index,bf,jA,cV,hu,cU,if_pos a,ek,hs,part,ku,hg,Bool.false_eq_true,if_false,h,bt]
  exact c
 ·cases h
def kD (P:Program)(argTypes:Array TypeId)(s x:Value)(R:Value->af->Prop)(F:af):Prop:=
 ∀ty,aO P (Builtin.append_ argTypes ty #[s,x]) (fun v F=>∃F0,Le F0 F/\R v F0) F
def Oper.lN (o:Oper):Bool:=match o.op with| .call {callee:=.builtin .append, ..}=>true|_=>false
def fI (P:Program)(J:Goroutine->af->Prop)(y:Value)(args:Array Value)(F:af)(R:Value->af->Prop):Prop:=
 match y with
 | .func (.func fn) first captured=>aD P fn=true/\cC P J fn (first++args++captured) F R
 | .func (.yield l) first captured=>first=#[]/\captured=#[]/\∃r,F.ez l=some (.loop r)/\args.size=r.params.size/\ig J l r.fn ((r.params.zip args).foldl (fun tmps (t,a)=>tmps.setIfInBounds t a) r.tmps) r.assign r.body F R
 |_=>False
theorem fI.mono {P:Program}{J:Goroutine->af->Prop}{y:Value}{args:Array Value}{F:af}{R a:Value->af->Prop}(h:fI P J y args F R)(b:∀v F',R v F'->a v F'):fI P J y args F a:=by
 unfold fI at h ⊢
 split at h
 ·exact ⟨h.1,h.2.mono b⟩
 ·obtain ⟨e1,e2,r,h1,h2,h3⟩:=h;exact ⟨e1,e2,r,h1,h2,h3.mono b⟩
 ·exact h.elim
theorem Bc {P:Program}{J:Goroutine->af->Prop}{fn:FuncId}{first captured args:Array Value}{F:af}{R:Value->af->Prop}:fI P J (.func (.func fn) first captured) args F R=(aD P fn=true/\cC P J fn (first++args++captured) F R):=rfl
def er (P:Program)(m:Sem Value)(R:Value->af->Prop)(F:af):Prop:=aO P m R F
def cz (P:Program)(J:Goroutine->af->Prop)(o:Oper)(R:Value->af->Prop)(a:Act)(F:af):Prop:=
 match o.op with
 | .move x| .assign x=>R (ev a x) F
 | .nilCheck x=>match ev a x with
  | .pointer (some _)=>R (ev a x) F
  |_=>False
 | .pick c x y=>match ev a c with
  | .bool b=>R (if b then ev a x else ev a y) F
  |_=>False
 | .alloc t=>match zeroOf P t with
  |some z=>∀b,dn F b->R (.pointer (some ⟨b,0,none⟩)) (F.push b (.cells z.cells t))
  |none=>False
 | .box t x=>∀b,dn F b->R (.pointer (some ⟨b,0,none⟩)) (F.push b (.cells (ev a x).cells t))
 | .build t parts=>match nh P t (parts.map fun (i,x)=>(i,ev a x)).toList with
  |some v=>R v F
  |none=>False
 | .buildSlice t len parts=>match pg P t len (parts.map fun (i,x)=>(i,ev a x)).toList with
  |some (e,cs)=>∀b,dn F b->R (.slice (some ⟨b,0,none⟩) len len) (F.push b (.cells cs e))
  |none=>False
 | .load t x=>match ev a x with
  | .pointer (some ad)=>match eG P F t ad with
   |some v=>R v F
   |none=>False
  |_=>False
 | .store t x y=>match ev a x with
  | .pointer (some ad)=>match o3 P F t ad (ev a y) with
   |some F'=>R undef F'
   |none=>False
  |_=>False
 | .binOp op t x y _=>match ng P op t (ev a x) (ev a y) with
  |some v=>R v F
  |none=>False
 | .unOp op _ x=>match kA op (ev a x) with
  |some v=>R v F
  |none=>False
 | .convert src dst x=>match kC P src dst (ev a x) with
  |some v=>R v F
  |none=>False
 | .makeFunc fn first captured=>R (.func fn (first.map (ev a)) (captured.map (ev a))) F
 | .slice t x d f none=>(match ev a x with| .slice _ len cap=>len<=cap|_=>False)/\match lK P t (ev a x) (d.map (ev a)) (f.map (ev a)) with
  |some v=>R v F
  |none=>False
 | .fieldAddr s x n=>match ev a x with
  | .pointer (some ad)=>match cx P s n with
   |some k=>R (.pointer (some (ad.add k))) F
   |none=>False
  |_=>False
 | .field s x n=>match ni P s n (ev a x) with
  |some v=>R v F
  |none=>False
 | .indexAddr t x i=>match m8 P t (ev a x) (ev a i) with
  |some v=>R v F
  |none=>False
 | .index t x i=>match nj P t (ev a x) (ev a i) with
  |some v=>R v F
  |none=>False
 | .extract x n=>match pn n (ev a x) with
  |some v=>R v F
  |none=>False
 | .call {callee:=.value x,args, ..}=>fI P J (ev a x) (args.map (ev a)) F R
 | .call {callee:=.builtin .len,args,argTypes}=>match argTypes[0]?,args[0]? with
  |some t,some x=>match pq P t (ev a x) with
   |some v=>R v F
   |none=>er P (Builtin.len_ argTypes o.type (args.map (ev a))) R F
  |_,_=>False
 | .makeMap t r=>er P (Instr.makeMap t (r.map (ev a))) R F
 | .makeSlice t l c=>er P (Instr.makeSlice t (ev a l) (ev a c)) R F
 | .mapUpdate t m k x=>er P (Instr.mapUpdate t (ev a m) (ev a k) (ev a x)>>= fun _=>pure undef) R F
 | .call {callee:=.builtin .clear,args,argTypes}=>er P (Builtin.clear_ argTypes o.type (args.map (ev a))) R F
 | .call {callee:=.builtin .cap,args,argTypes}=>er P (Builtin.cap_ argTypes o.type (args.map (ev a))) R F
 | .call {callee:=.builtin .copy,args,argTypes}=>er P (Builtin.copy_ argTypes o.type (args.map (ev a))) R F
 | .call {callee:=.builtin .append,args,argTypes}=>match args.toList with
  |[x,y]=>kD P argTypes (ev a x) (ev a y) R F
  |_=>False
 | .call {callee:=.builtin .max,args, ..}=>match args.toList with
  |[x,y]=>match o5 (ev a x) (ev a y) with
   |some v=>R v F
   |none=>False
  |_=>False
 | .call {callee:=.builtin .min,args, ..}=>match args.toList with
  |[x,y]=>match o6 (ev a x) (ev a y) with
   |some v=>R v F
   |none=>False
  |_=>False
 |_=>False
theorem dW (a:Act):a.eval=ev a:=rfl
theorem w7 {P:Program}{J:Goroutine->af->Prop}{o:Oper}{R:Value->af->Prop}{D:Deferred->af->Prop}{a:Act}{F:af}(B:Oper.lN o=false)(h:cz P J o R a F):aO P (execOp a.eval o) (eN P J R D) F:=by
 obtain ⟨dst,op,type,pos,after,guard⟩:=o
 unfold execOp
 simp only[dW]
 unfold cz at h
 simp only at h
 cases op<;>simp only at h ⊢
 case move x=>exact h
 case assign x=>exact h
 case nilCheck x=>
  split at h
  ·rename_i ad g
   simp only[g,bt,eN]
   rw[g] at h
   exact h
  ·exact h.elim
 case pick c x y=>
  split at h
  ·rename_i b hb
   simp only[bf,hb,AV,bt,eN]
   exact h
  ·exact h.elim
 case alloc t=>
  split at h
  ·rename_i z C
   simp only[Instr.alloc,bf,kr,C,wQ,bt,eN]
   exact h
  ·exact h.elim
 case box t x=>
  simp only[Instr.box,bf,wQ,bt,eN]
  exact h
 case build t parts=>
  split at h
  ·rename_i v d
   simp only[bf,bt]
   exact A7 d h
  ·exact h.elim
 case buildSlice t len parts=>
  split at h
  ·rename_i e cs d
   simp only[bf,bt]
   exact A8 d h
  ·exact h.elim
 case load t x=>
  split at h
  case h_2=>exact h.elim
  rename_i ad q
  split at h
  case h_2=>exact h.elim
  rename_i v d
  simp only[Instr.loadAt,bf,q,oZ,bt]
  exact wU d h
 case store t x y=>
  split at h
  case h_2=>exact h.elim
  rename_i ad q
  split at h
  case h_2=>exact h.elim
  rename_i F' E
  simp only[Instr.storeAt,bf,q,oZ,bt]
  exact AY E h
 case binOp op t x y U=>
  split at h
  case h_2=>exact h.elim
  rename_i v d
  rw[gP]
  exact A4 d h
 case unOp op t x=>
  split at h
  case h_2=>exact h.elim
  rename_i v d
  rw[gP]
  exact A1 d h
 case convert src dst x=>
  split at h
  case h_2=>exact h.elim
  rename_i v d
  rw[gP]
  exact Ba d h
 case makeFunc fn first captured=>
  simp only[Instr.makeFunc,bf,bt,eN]
  exact h
 case slice t x V W G=>
  cases G with
  |some m=>exact h.elim
  |none=>
   simp only at h
   obtain ⟨h1,h⟩:=h
   split at h
   case h_2=>exact h.elim
   rename_i v d
   rw[gP]
   exact A3 (fun ad len cap e=>by rw[e] at h1;exact h1) d h
 case fieldAddr s x n=>
  split at h
  case h_2=>exact h.elim
  rename_i ad q
  split at h
  case h_2=>exact h.elim
  rename_i k j
  unfold cx at j
  split at j
  case h_2=>cases j
  rename_i X H
  split at j
  case h_2=>cases j
  rename_i f u
  split at j
  case h_2=>cases j
  rename_i m hm
  cases j
  rw[gP]
  simp only[Instr.fieldAt,bf,cV,H,u,q,oZ,fieldPlace,ek,hm]
  simpa [bt,eN] using h
 case field s x n=>
  split at h
  case h_2=>exact h.elim
  rename_i v d
  rw[gP]
  exact A9 d h
 case indexAddr t x i=>
  split at h
  case h_2=>exact h.elim
  rename_i v d
  rw[gP]
  exact A2 d h
 case index t x i=>
  split at h
  case h_2=>exact h.elim
  rename_i v d
  rw[gP]
  exact Bb d h
 case extract x n=>
  split at h
  case h_2=>exact h.elim
  rename_i v d
  rw[gP]
  unfold pn at d
  split at d
  ·rename_i Y I
   simp only[I,Instr.extract,d]
   exact h
  ·cases d
 case makeMap t r=>
  rw[gP]
  exact h
 case makeSlice t l c=>
  rw[gP]
  exact h
 case mapUpdate t m k x=>
  unfold er at h
  rw[bf] at h
  rw[bf]
  exact h
 case call c=>
  obtain ⟨callee,args,argTypes⟩:=c
  cases callee with
  |value x=>
   simp only at h
   unfold fI at h
   split at h
   case h_3=>exact h.elim
   ·rename_i fn first captured g
    obtain ⟨p,K⟩:=h
    unfold aD at p
    split at p
    case h_2=>cases p
    rename_i f u
    simp only[Bool.not_eq_true',Bool.or_eq_false_iff] at p
    simp only[resolve,g,Deferred.ofValue,bf,bt,invoke,callFunc,iQ,u,p.1,p.2,Bool.false_eq_true,if_false,eN]
    exact K
   ·rename_i l first captured g
    obtain ⟨rfl,rfl,r,h1,h2,h3⟩:=h
    simp only[resolve,g,Deferred.ofValue,bf,bt,invoke,Instr.yield,Instr.getLoop,Array.append_empty,Array.empty_append,Array.map_map]
    refine ⟨_,h1,?_⟩
    have L:∀{α:Type} (x:α) (Q:α->af->Prop) (F:af),aO P (Sem.pure x) Q F=Q x F:=fun _ _ _=>rfl
    simp only[bf,L,bt,cU,ne_eq,h2,not_true_eq_false,if_false,eN]
    exact h3
  |invoke r m=>exact h.elim
  |builtin b=>
   cases b<;>simp only at h
   case append=>simp[Oper.lN] at B
   case clear=>
    simp only[resolve,bf,bt,invoke,builtin]
    exact h
   case cap=>
    simp only[resolve,bf,bt,invoke,builtin]
    exact h
   case copy=>
    simp only[resolve,bf,bt,invoke,builtin]
    exact h
   case len=>
    split at h
    case h_2=>exact h.elim
    rename_i t x ht g
    split at h
    case h_2=>
     simp only[resolve,bf,bt,invoke,builtin]
     exact h
    rename_i v d
    unfold pq at d
    split at d
    case h_2=>cases d
    rename_i ad n cap M
    split at d
    case h_2=>cases d
    rename_i e N
    have he:=r6 N
    cases d
    have O:(args.map (ev a))[0]?=some (.slice ad n cap):=by simp[g,M]
    simp only[resolve,bf,bt,invoke,builtin,Builtin.len_,ht,O,cV,he]
    exact h
   case max=>
    split at h
    case h_2=>exact h.elim
    rename_i x y w
    split at h
    case h_2=>exact h.elim
    rename_i v d
    unfold o5 at d
    split at d
    case h_2=>cases d
    rename_i k S T y' g A
    cases d
    simp only[resolve,bf,bt,invoke,builtin,Builtin.max_,Array.toList_map,w,List.map_cons,List.map_nil,List.foldlM_cons,List.foldlM_nil,g,A,Builtin.max2,eN]
    exact h
   case min=>
    split at h
    case h_2=>exact h.elim
    rename_i x y w
    split at h
    case h_2=>exact h.elim
    rename_i v d
    unfold o6 at d
    split at d
    case h_2=>cases d
    rename_i k S T y' g A
    cases d
    simp only[resolve,bf,bt,invoke,builtin,Builtin.min_,Array.toList_map,w,List.map_cons,List.map_nil,List.foldlM_cons,List.foldlM_nil,g,A,Builtin.min2,eN]
    exact h
theorem jB {P:Program}{J:Goroutine->af->Prop}{o:Oper}{R:Value->af->Prop}{D:Deferred->af->Prop}{a:Act}{F:af}(h:cz P J o R a F):aO P (execOp a.eval o) (iO P J R D) F:=
by
 cases b:Oper.lN o with
 |false=>exact fX AH _ _ (w7 b h)
 |true=>
  obtain ⟨dst,op,type,pos,after,guard⟩:=o
  unfold Oper.lN at b
  split at b
  ·rename_i callee args argTypes c
   simp only at c
   subst c
   unfold cz at h
   simp only at h
   split at h
   case h_2=>exact h.elim
   rename_i x y d
   have e:args=#[x,y]:=by rw[<-Array.toList_inj];simpa using d
   subst e
   unfold execOp
   simp only[dW,resolve,bf,bt,invoke,builtin]
   have:=h type
   simpa [iO,eN,bf,bt] using this
  ·cases b
def cp (ops:Array Oper)(o:Oper)(a:Act):Option Bool:=
 match o.guard with
 |none=>some true
 |some (j,want)=>match (ops[j]?).bind (·.dst) with
  |some d=>match slot a d with
   | .bool b=>some (b==want)
   | .tuple _=>some false
   |_=>none
  |none=>none
theorem bV {ops:Array Oper}{o:Oper}{a:Act}{t:Bool}(h:cp ops o a=some t):Region.wanted o (yielded ops a.tmps)=t:=by
 unfold cp at h
 unfold Region.wanted
 split at h
 ·rename_i hg;rw[hg];cases h;rfl
 ·rename_i j want hg
  rw[hg]
  split at h
  ·rename_i d hd
   split at h
   ·rename_i b hb
    cases h
    have ht:a.tmps[d]?=some (.bool b):=by
     unfold slot at hb
     rw[Array.getD_eq_getD_getElem?] at hb
     cases c:a.tmps[d]? with
     |none=>rw[c] at hb;simp[undef] at hb
     |some v=>rw[c] at hb;simpa using hb
    simp only[yielded,hd,Option.bind_some,ht]
    cases b<;>cases want<;>rfl
   ·rename_i b hb
    cases h
    simp only[yielded,hd,Option.bind_some]
    unfold slot at hb
    rw[Array.getD_eq_getD_getElem?] at hb
    cases c:a.tmps[d]? with
    |none=>rfl
    |some v=>
     rw[c] at hb
     simp at hb
     subst hb
     rfl
   ·cases h
  ·cases h
def Oper.calls (o:Oper):Bool:=match o.op with| .call {callee:=.value _, ..}=>true| .call {callee:=.builtin .append, ..}=>true| .call {callee:=.builtin .clear, ..}=>true| .call {callee:=.builtin .cap, ..}=>true| .call {callee:=.builtin .copy, ..}=>true| .makeMap ..=>true| .makeSlice ..=>true| .mapUpdate ..=>true|_=>false
def eT (P:Program)(J:Goroutine->af->Prop)(ops:Array Oper)(K:Act->af->Prop):List Oper->Bool->Act->af->Prop
 |[],_,a,F=>K a F
 |o::rest,_,a,F=>match cp ops o a with
  |some true=>cz P J o (fun v F'=>eT P J ops K rest (!Oper.calls o) (aV a o.dst v) F') a F
  |some false=>eT P J ops K rest true (aV a o.dst undef) F
  |none=>False
theorem w8 {P:Program}{J:Goroutine->af->Prop}{ops:Array Oper}{K:Act->af->Prop}{go:Bool}{a:Act}{F:af}:eT P J ops K [] go a F=K a F:=rfl
theorem w9 {P:Program}{J:Goroutine->af->Prop}{ops:Array Oper}{K:Act->af->Prop}{o:Oper}{rest:List Oper}{a:Act}{F:af}:eT P J ops K (o::rest) true a F=match cp ops o a with
  |some true=>cz P J o (fun v F'=>eT P J ops K rest (!Oper.calls o) (aV a o.dst v) F') a F
  |some false=>eT P J ops K rest true (aV a o.dst undef) F
  |none=>False:=(Eq.refl _).trans (Eq.refl _)
theorem aC {P:Program}{J:Goroutine->af->Prop}{ops:Array Oper}{K:Act->af->Prop}:∀{l:List Oper} {go:Bool} {a:Act} {F:af},eT P J ops K l true a F->eT P J ops K l go a F
 |[],_,_,_,h=>h
 |_::_,_,_,_,h=>h
theorem se {P:Program}{J:Goroutine->af->Prop}{ops:Array Oper}{K:Act->af->Prop}:∀(l:List Oper) (k:Nat) (go:Bool) (a:Act) (F:af),ops.toList.drop k=l->eT P J ops K l go a F->
  e4 P J ops K (List.range' k l.length) a F
 |[],k,_,a,F,_,h=>h
 |o::rest,k,_,a,F,b,h=>by
  have d:ops[k]?=some o:=by
   have:=congrArg List.head? b
   simpa [List.head?_drop] using this
  have c:ops.toList.drop (k+1)=rest:=by
   have:=congrArg List.tail b
   simpa [List.tail_drop] using this
  simp only[List.length_cons,List.range'_succ]
  show dh P J ops k (e4 P J ops K (List.range' (k+1) rest.length)) a F
  unfold dh
  simp only[d]
  unfold eT at h
  split at h
  ·rename_i hg
   rw[if_pos (bV hg)]
   exact fX (m0 (fun v F' e=>se rest (k+1) _ _ F' c e) (fun _ _ x=>x)) _ _ (jB h)
  ·rename_i hg
   rw[if_neg (by rw[bV hg];simp)]
   exact se rest (k+1) _ _ F c h
  ·exact h.elim
theorem ag {P:Program}{main:Bool}{J:Goroutine->af->Prop}{Q:Ex->Act->af->Prop}{a:Act}{F:af}(hJ:Closed P main J){id:Nat}{ops:Array Oper}(h:eT P J ops (Q .normal) ops.toList true a F):Wp J (.region id ops false) Q a F:=by
 refine AO hJ ?_
 have:=se ops.toList 0 true a F (by simp) h
 simpa [List.range_eq_range'] using this
attribute [irreducible] eT
theorem lO {P:Program}{J:Goroutine->af->Prop}{ops:Array Oper}{Q:Act->af->Prop}{S:af->Prop}(i:Nat){b:Oper}(v:Value){fuel:Nat}{listed:Array Bool}{a:Act}{F:af}(d:ops[i]?=some b)
  (e:(Region.noSelect ops&&Region.free .any ops listed i&&(Region.ready .any ops listed).contains i)=true)
  (hg:cp ops b a=some true) (f:∀F R,S F->R v F->cz P J b R a F) (c:S F)
  (h:di P J ops Q S fuel (listed.setIfInBounds i true) (aV a b.dst v) F):di P J ops Q S (fuel+1) listed a F:=
 wC i v d e (.inl ⟨bV hg,fun F R c g=>jB (f F R c g)⟩) c h
theorem xb {P:Program}{J:Goroutine->af->Prop}{ops:Array Oper}{Q:Act->af->Prop}{S:af->Prop}(i:Nat){b:Oper}{fuel:Nat}{listed:Array Bool}{a:Act}{F:af}(c:ops[i]?=some b)
  (d:(Region.noSelect ops&&Region.free .any ops listed i&&(Region.ready .any ops listed).contains i)=true)
  (hg:cp ops b a=some false) (e:S F)
  (h:di P J ops Q S fuel (listed.setIfInBounds i true) (aV a b.dst undef) F):di P J ops Q S (fuel+1) listed a F:=
 wC i undef c d (.inr ⟨bV hg,rfl⟩) e h
theorem xd {P:Program}{J:Goroutine->af->Prop}{ops:Array Oper}{Q:Act->af->Prop}{S:af->Prop}(i:Nat){b:Oper}{fuel:Nat}{listed:Array Bool}{a:Act}{F:af}(c:ops[i]?=some b)
  (d:Region.ready .any ops listed=[i]) (hg:cp ops b a=some true)
  (h:cz P J b (fun v F'=>S F'/\di P J ops Q S fuel (listed.setIfInBounds i true) (aV a b.dst v) F') a F):di P J ops Q S (fuel+1) listed a F:=by
 refine AL i d ?_
 unfold dh
 simp only[c]
 rw[if_pos (bV hg)]
 exact jB h
attribute [go_sem] List.isEmpty_nil List.isEmpty_cons undef w8 w9 Oper.calls Bool.not_true Bool.not_false cp cz af.push af.get af.put lk gN cellOf eG o3 af.cR af.iq af.kg bw frozenAt ng kB nc Option.isNone_none Option.isNone_some fH gQ lJ kA o5 o6 m8 nj lK ni pn kC pq nh pg
theorem add_zero' (a:Addr):a.add 0=a:=rfl
theorem jD (a:Addr)(m n:Nat):(a.add m).add n=a.add (m+n):=by
 unfold Addr.add
 by_cases hm:m=0
 ·subst hm;simp
 ·by_cases b:n=0
  ·subst b;simp[hm]
  ·have:¬m+n=0:=by omega
   simp[hm,b,this,Nat.add_assoc]
theorem jE (b o n:Nat):(⟨b,o,none⟩:Addr).add n=⟨b,o+n,none⟩:=by
 unfold Addr.add
 by_cases a:n=0
 ·subst a;simp
 ·simp[a]
attribute [go_sem] add_zero' jD jE Nat.add_assoc Int.reduceLE Int.reduceLT Int.reduceToNat Int.toNat_zero Int.le_refl
attribute [go_sem] Value.cells Instr.fill oU gj rN wG Bc
attribute [go_sem] and_true true_and Array.getD_eq_getD_getElem? List.getElem?_toArray List.getElem?_cons_zero List.getElem?_cons_succ List.getElem?_nil Option.getD_some Option.getD_none Option.bind_some Option.bind_none Option.map_some Option.map_none
attribute [go_sem] Nat.reduceLT Nat.reduceEqDiff Nat.reduceAdd Nat.reduceMul Nat.reduceSub if_true if_false reduceIte reduceCtorEq List.setIfInBounds_toArray List.set_cons_zero List.set_cons_succ
attribute [go_sem] List.map_toArray List.map_cons List.map_nil List.append_toArray List.cons_append List.nil_append List.append_nil Array.append_empty Array.empty_append List.toList_toArray List.length_cons List.length_nil List.size_toArray ne_eq not_true_eq_false not_false_eq_true forall_const
theorem ee {ro:Addr->Option Value}{own:List (Nat×Obj)}{b:Nat}(h:dn ⟨ro,own⟩ b):∀off sp,ro ⟨b,off,sp⟩=none:=h.ro
theorem eU {ro:Addr->Option Value}{own:List (Nat×Obj)}{b:Nat}(h:dn ⟨ro,own⟩ b):aj own b:=h.own
def nk (P:Program)(F:af)(a:Act):ResultVar->Option Value
 | .tmp t=>some (slot a t)
 | .cell ad t=>match slot a ad with
  | .pointer (some p)=>eG P F t p
  |_=>none
def kE (P:Program)(F:af)(a:Act):List ResultVar->Option (List Value)
 |[]=>some []
 |r::rs=>match nk P F a r with
  |some v=>match kE P F a rs with
   |some b=>some (v::b)
   |none=>none
  |none=>none
def kF (P:Program)(F:af)(a:Act)(rs:List ResultVar):Option Value:=
 match kE P F a rs with
 |some [v]=>some v
 |some b=>some (.tuple b.toArray)
 |none=>none
attribute [go_sem] nk kE kF
theorem si {P:Program}{F:af}{a:Act}{Q:Array Value->af->Prop}:∀(rs:List ResultVar) (d:List Value) (acc:Array Value),kE P F a rs=some d->Q (acc++d.toArray) F->
  aO P (rs.foldlM (fun (b:Array Value) r=>do let x<-(match r with| .tmp t=>pure (a.tmps.getD t undef)| .cell ad t=>do loadVar t (<-asAddr (a.tmps.getD ad undef)):Sem Value);pure (b.push x)) acc) Q F
 |[],d,acc,h,e=>by
  simp only[kE,Option.some.injEq] at h;subst h
  simpa [bt] using e
 |r::rs,d,acc,h,e=>by
  unfold kE at h
  split at h
  case h_2=>cases h
  rename_i v c
  split at h
  case h_2=>cases h
  rename_i ws i
  cases h
  have f:=si rs ws (acc.push v) i (Q:=Q) (by simpa using e)
  simp only[List.foldlM_cons,bf]
  cases r with
  |tmp t=>
   simp only[nk,Option.some.injEq,slot] at c
   subst c
   simpa only[bt] using f
  |cell ad t=>
   simp only[nk] at c
   split at c
   ·rename_i p g
    unfold slot at g
    simp only[bf,g,asAddr,bt]
    exact wU c f
   ·cases c
theorem pz {P:Program}{fn:Func}{rs:List ResultVar}{F:af}{a:Act}{v:Value}{R:Value->af->Prop}(d:fn.results=rs.toArray)(h:kF P F a rs=some v)(c:R v F):aO P (results fn a.tmps) R F:=by
 unfold results
 rw[d,bf,Array.mapM_eq_foldlM,<-Array.foldlM_toList]
 unfold kF at h
 split at h
 case h_3=>cases h
 ·rename_i x b
  cases h
  exact si rs [v] #[] b (by simpa [bt] using c)
 ·rename_i e f b
  cases h
  refine si rs e #[] b ?_
  simp only[Array.empty_append,bt]
  split
  ·rename_i hs
   simp at hs
   obtain ⟨v,rfl⟩:=List.length_eq_one_iff.1 hs
   exact absurd rfl (f v)
  ·exact c
def gR (P:Program)(rs:List ResultVar)(R:Value->af->Prop):Ex->Act->af->Prop
 | .exit _,_,_=>False
 |_,a,F=>a.defers=[]/\match kF P F a rs with|some v=>R v F|none=>False
attribute [go_sem] gR
theorem ay.go {P:Program}{f:FuncId}{fn:Func}{c:Code}{n:Nat}{rs:List ResultVar}{args:Array Value}{F:af}{R:Value->af->Prop}(g:P.funcs[f]?=some fn)(hb:fn.body=some c)(j:fn.ntmps=n)(k:fn.results=rs.toArray)(l:args.size<=n)
  (h:∀main J,Closed P main J->∀A:Act,sz A=n->A.defers=[]->(∀i,slot A i=args.getD i undef)->Wp J c (gR P rs R) A F):ay P f args F R:=
 ay.start g hb j l fun main J hJ A h1 h2 h3=>(h main J hJ A h1 h2 h3).mono fun e a F d=>by
  cases e with
  |exit i=>exact d
  |_=>
   obtain ⟨hd,b⟩:=d
   split at b
   ·rename_i v m
    show gj P a.defers _ F
    rw[hd]
    exact pz k m b
   ·exact b.elim
def cD (n m:Nat):Array Bool:=(Array.range n).map fun i=>decide (i<m)
def nq (ops:Array Oper)(m:Nat):Bool:=
 Region.noSelect ops&&decide (m<=ops.size)&&((List.range m).all fun i=>Region.free .any ops (cD ops.size i) i&&(Region.ready .any ops (cD ops.size i)).contains i)&&
 ((List.range (ops.size - m)).all fun j=>decide (Region.ready .any ops (cD ops.size (m+j))=[m+j]))&&decide (Region.ready .any ops (cD ops.size ops.size)=[])
def Bd (D:List Nat)(L:List (List Nat))(x y:Nat):Bool:=RegionTabs.apart ⟨#[],D.toArray,L.toArray⟩ x y
def sj (A:List (List Nat))(D:List Nat)(L:List (List Nat))(n m:Nat):Bool:=
 decide (m<=n)&&((List.range m).all fun k=>(A.getD k []).all (fun x=>decide (x<k))&&(List.range n).all fun j=>decide (j<=k)||(A.getD j []).contains k||Bd D L k j)&&
 ((List.range (n - m)).all fun t=>(A.getD (m+t) []).all (fun x=>decide (x<m+t))&&(List.range (n - (m+t+1))).all fun u=>!(A.getD (m+t+1+u) []).all (fun x=>decide (x<m+t)))
section
variable {ops : Array Oper}
theorem xe {n k i:Nat}(h:i<n):(cD n k).getD i true=decide (i<k):=by
 simp[cD,Array.getD_eq_getD_getElem?,h]
theorem Be {n k i:Nat}(a:k<=n):(cD n k).getD i false=decide (i<k):=by
 rcases Nat.lt_or_ge i n with h|h
 ·simp[cD,Array.getD_eq_getD_getElem?,h]
 ·have:¬i<k:=by omega
  simp[cD,Array.getD_eq_getD_getElem?,Array.getElem?_eq_none,h,this]
theorem sk {A:List (List Nat)}{k:Nat}(a:Region.tabAfter .any ops=A)(b:k<=ops.size):
  Region.ready .any ops (cD ops.size k)=(List.range ops.size).filter fun i=>!decide (i<k)&&(A.getD i []).all fun x=>decide (x<k):=by
 have hlen:A.length=ops.size:=by rw[<-a];simp[Region.tabAfter]
 rw[<-RegionTabs.ready_eq]
 unfold RegionTabs.ready RegionTabs.of
 simp only[a,List.size_toArray,hlen]
 apply List.filter_congr
 intro i c
 have d:i<ops.size:=List.mem_range.1 c
 rw[xe d]
 congr 1
 rw[List.getElem?_toArray,List.getD_eq_getElem?_getD,List.getElem?_eq_getElem (by omega)]
 simp only[Option.map_some,Option.getD_some]
 congr 1
 funext x
 exact Be b
theorem filter_one {k:Nat}{p:Nat->Bool}(b:p k=true):∀(n:Nat),k<n->(∀i,i<n->i≠k->p i=false)->(List.range n).filter p=[k]
 |0,d,_=>by omega
 |n+1,d,a=>by
  rw[List.range_succ,List.filter_append]
  by_cases e:k=n
  ·subst e
   have:(List.range k).filter p=[]:=by
    rw[List.filter_eq_nil_iff]
    intro i c
    have f:=List.mem_range.1 c
    rw[a i (by omega) (by omega)];simp
   rw[this];simp[b]
  ·rw[filter_one b n (by omega) fun i c=>a i (by omega)]
   simp[a n (by omega) (fun x=>e x.symm)]
theorem Bf {m n:Nat}(A:List (List Nat))(D:List Nat)(L:List (List Nat))(hs:Region.noSelect ops=true)(d:ops.size=n)(a:Region.tabAfter .any ops=A)(f:Region.tabDst ops=D)(g:Region.tabLooks ops=L)(h:sj A D L n m=true):nq ops m=true:=by
 subst d
 have hlen:A.length=ops.size:=by rw[<-a];simp[Region.tabAfter]
 simp only[sj,Bool.and_eq_true,decide_eq_true_eq,List.all_eq_true,List.mem_range] at h
 obtain ⟨⟨hm,h1⟩,h2⟩:=h
 simp only[nq,Bool.and_eq_true,decide_eq_true_eq,List.all_eq_true,List.mem_range]
 refine ⟨⟨⟨⟨hs,hm⟩,fun i b=>⟨?_,?_⟩⟩,fun j c=>?_⟩,?_⟩
 ·rw[<-RegionTabs.free_eq]
  unfold RegionTabs.free
  have e1:(RegionTabs.of .any ops).after=A.toArray:=by simp[RegionTabs.of,a]
  rw[e1,List.size_toArray,hlen]
  simp only[Bool.and_eq_true,decide_eq_true_eq,List.all_eq_true,List.mem_range]
  refine ⟨by omega,fun j c=>?_⟩
  have:=(h1 i b).2 j c
  simp only[Bool.or_eq_true,decide_eq_true_eq] at this
  simp only[Bool.or_eq_true]
  rcases this with (hle|k)|l
  ·rcases Nat.lt_or_eq_of_le hle with x|x
   ·left;left;right
    rw[xe (by omega)];simpa using x
   ·left;left;left;simpa using x
  ·left;right
   simpa [Array.getD_eq_getD_getElem?,List.getD_eq_getElem?_getD] using k
  ·right
   have e:RegionTabs.of .any ops=⟨A.toArray,D.toArray,L.toArray⟩:=by simp[RegionTabs.of,a,f,g]
   rw[e]
   exact l
 ·rw[sk a (by omega)]
  rw[List.contains_iff_mem,List.mem_filter]
  refine ⟨List.mem_range.2 (by omega),?_⟩
  have:=(h1 i b).1
  simpa [List.all_eq_true] using this
 ·have o:m+j<ops.size:=by omega
  rw[sk a (by omega)]
  refine filter_one ?_ _ o fun i b p=>?_
  ·have:=(h2 j c).1
   simpa [List.all_eq_true] using this
  ·rcases Nat.lt_or_ge i (m+j) with x|x
   ·simp[x]
   ·have:=(h2 j c).2 (i - (m+j+1)) (by omega)
    rw[show m+j+1+(i - (m+j+1))=i by omega] at this
    simp only[Bool.not_eq_true'] at this
    simp only[this,Bool.and_false]
 ·rw[sk a (Nat.le_refl _)]
  rw[List.filter_eq_nil_iff]
  intro i b
  have:=List.mem_range.1 b
  simp[this]
def sn (n:Nat)(k:Nat->Bool):Bool:=Nat.casesOn n (k 0) fun m=>k (m+1)
def nt:List Nat->(List Nat->Bool)->Bool
 |[],k=>k []
 |x::xs,k=>sn x fun y=>nt xs fun ys=>k (y::ys)
def nu:List (List Nat)->(List (List Nat)->Bool)->Bool
 |[],k=>k []
 |x::xs,k=>nt x fun y=>nu xs fun ys=>k (y::ys)
theorem xg (n:Nat)(k:Nat->Bool):sn n k=k n:=by cases n<;>rfl
theorem so:∀(l:List Nat) (k:List Nat->Bool),nt l k=k l
 |[],_=>rfl
 |x::xs,k=>by rw[nt,xg,so xs]
theorem xh:∀(l:List (List Nat)) (k:List (List Nat)->Bool),nu l k=k l
 |[],_=>rfl
 |x::xs,k=>by rw[nu,so,xh xs]
def lP (ops:Array Oper)(m:Nat):Bool:=Region.noSelect ops&&nu (Region.tabAfter .any ops) fun A=>nt (Region.tabDst ops) fun D=>nu (Region.tabLooks ops) fun L=>sn ops.size fun n=>sj A D L n m
theorem xj {m:Nat}(h:lP ops m=true):nq ops m=true:=by
 simp only[lP,Bool.and_eq_true,xh,so,xg] at h
 exact Bf _ _ _ h.1 rfl rfl rfl rfl h.2
end
def gS:List (Nat×Obj)->List (Nat×Obj)->Prop
 |[],_=>True
 |(b,o)::l,own=>lk own b=some o/\gS l own
def Knows (F0 F:af):Prop:=(∀a v,F0.ro a=some v->F.ro a=some v)/\(∀a,a.block∈keys F0.own->F0.ro a=none->F.ro a=none)/\gS F0.own F.own
theorem gS.lk:∀{l own:List (Nat×Obj)} {b:Nat} {o:Obj},gS l own->lk l b=some o->Go.Sep.lk own b=some o
 |[],_,_,_,_,h=>by cases h
 |(c,x)::l,own,b,o,a,h=>by
  unfold Go.Sep.lk at h
  split at h
  ·rename_i e;cases h;exact e▸a.1
  ·exact gS.lk a.2 h
theorem Knows.get {F0 F:af}(h:Knows F0 F){a:Addr}{v:Value}(hg:F0.get a=some v):F.get a=some v:=by
 unfold af.get at hg ⊢
 cases b:F0.ro a with
 |some x=>rw[b] at hg;rw[h.1 a x b];exact hg
 |none=>
  rw[b] at hg
  simp only at hg
  split at hg
  ·rename_i hs
   obtain ⟨o,c,d⟩:=Option.bind_eq_some_iff.1 hg
   rw[h.2.1 a (ep (fU c)) b]
   simp only
   rw[if_pos hs,h.2.2.lk c]
   exact d
  ·cases hg
theorem Bg {ro:Addr->Option Value}{l own:List (Nat×Obj)}:Knows ⟨ro,l⟩ ⟨ro,own⟩=gS l own:=
 propext ⟨fun h=>h.2.2,fun h=>⟨fun _ _ x=>x,fun _ _ x=>x,h⟩⟩
theorem Bh {ro aH:Addr->Option Value}{l own:List (Nat×Obj)}(c:∀a v,ro a=some v->aH a=some v)(d:∀b∈keys l,∀off sp,aH ⟨b,off,sp⟩=none)(h:gS l own):Knows ⟨ro,l⟩ ⟨aH,own⟩:=
 ⟨c,fun a e _=>d a.block e a.off a.spot,h⟩
theorem Knows.kz {F0 F:af}(h:Knows F0 F){a:Addr}:∀{n i:Nat} {b:List Value},F0.cR a i n=some b->F.cR a i n=some b
 |0,_,_,hg=>hg
 |n+1,i,b,hg=>by
  unfold af.cR at hg ⊢
  split at hg
  case h_2=>cases hg
  rename_i v c
  split at hg
  case h_2=>cases hg
  rename_i ws d
  rw[h.get c,h.kz d]
  exact hg
theorem Knows.eG {P:Program}{F0 F:af}(h:Knows F0 F){t:TypeId}{ad:Addr}{v:Value}(hg:eG P F0 t ad=some v):Go.Sep.eG P F t ad=some v:=by
 unfold Go.Sep.eG at hg ⊢
 split at hg
 ·exact h.get hg
 ·split at hg
  case h_2=>cases hg
  rename_i n b
  split at hg
  case h_2=>cases hg
  rename_i c a
  rw[h.kz a]
  exact hg
 ·cases hg
def gU (P:Program)(o:Oper)(a:Act):Option Value:=
 match o.op with
 | .move x| .assign x=>some (ev a x)
 | .pick c x y=>match ev a c with
  | .bool b=>some (if b then ev a x else ev a y)
  |_=>none
 | .build t parts=>nh P t (parts.map fun (i,x)=>(i,ev a x)).toList
 | .binOp op t x y _=>ng P op t (ev a x) (ev a y)
 | .unOp op _ x=>kA op (ev a x)
 | .convert src dst x=>kC P src dst (ev a x)
 | .makeFunc fn first captured=>some (.func fn (first.map (ev a)) (captured.map (ev a)))
 | .slice t x d e none=>match ev a x with
  | .slice ad len cap=>if len<=cap then lK P t (.slice ad len cap) (d.map (ev a)) (e.map (ev a)) else none
  |_=>none
 | .fieldAddr s x n=>match ev a x with
  | .pointer (some ad)=>match cx P s n with
   |some k=>some (.pointer (some (ad.add k)))
   |none=>none
  |_=>none
 | .field s x n=>ni P s n (ev a x)
 | .indexAddr t x i=>m8 P t (ev a x) (ev a i)
 | .index t x i=>nj P t (ev a x) (ev a i)
 | .extract x n=>pn n (ev a x)
 | .call {callee:=.builtin .len,args,argTypes}=>match argTypes[0]?,args[0]? with
  |some t,some x=>pq P t (ev a x)
  |_,_=>none
 | .call {callee:=.builtin .max,args, ..}=>match args.toList with
  |[x,y]=>o5 (ev a x) (ev a y)
  |_=>none
 | .call {callee:=.builtin .min,args, ..}=>match args.toList with
  |[x,y]=>o6 (ev a x) (ev a y)
  |_=>none
 |_=>none
theorem pE {P:Program}{J:Goroutine->af->Prop}{o:Oper}{a:Act}{v:Value}{R:Value->af->Prop}{F:af}(h:gU P o a=some v)(d:R v F):cz P J o R a F:=by
 obtain ⟨dst,op,type,pos,after,guard⟩:=o
 unfold gU at h
 unfold cz
 cases op<;>simp only[reduceCtorEq] at h ⊢
 case move x=>cases h;exact d
 case assign x=>cases h;exact d
 case pick c x y=>
  split at h
  ·rename_i b hb;cases h;try rw[hb]
   exact d
  ·cases h
 case build t parts=>rw[h];exact d
 case binOp=>rw[h];exact d
 case unOp=>rw[h];exact d
 case convert=>rw[h];exact d
 case makeFunc=>cases h;exact d
 case slice t x l p g=>
  cases g with
  |some m=>cases h
  |none=>
   simp only at h ⊢
   split at h
   case h_2=>cases h
   rename_i ad len cap e
   split at h
   case isFalse=>cases h
   rename_i i
   rw[e]
   exact ⟨i,by rw[h];exact d⟩
 case fieldAddr s x n=>
  split at h
  case h_2=>cases h
  rename_i ad e
  split at h
  case h_2=>cases h
  rename_i k j
  cases h
  try rw[e]
  try simp only[j]
  exact d
 case field=>rw[h];exact d
 case indexAddr=>rw[h];exact d
 case index=>rw[h];exact d
 case extract=>rw[h];exact d
 case call c=>
  obtain ⟨callee,args,argTypes⟩:=c
  cases callee with
  |value x=>cases h
  |invoke r m=>cases h
  |builtin b=>
   cases b<;>simp only[reduceCtorEq] at h ⊢
   case len=>
    split at h
    case h_2=>cases h
    rename_i t x ht e
    simp only[ht,e,h];exact d
   case max=>
    split at h
    case h_2=>cases h
    rename_i x y f
    simp only[f,h];exact d
   case min=>
    split at h
    case h_2=>cases h
    rename_i x y f
    simp only[f,h];exact d
def Plain (P:Program)(J:Goroutine->af->Prop)(F0:af)(f:FuncId)(args:Array Value)(v:Value):Prop:=
 ∀F,Knows F0 F->cC P J f args F (fun a F'=>a=v/\F'=F)
def dG (P:Program)(J:Goroutine->af->Prop)(ops:Array Oper)(F0:af)(K:Act->Prop):List Oper->Bool->Act->Prop
 |[],_,a=>K a
 |o::rest,_,a=>match cp ops o a with
  |some false=>dG P J ops F0 K rest true (aV a o.dst undef)
  |some true=>match o.op with
   | .load t x=>match ev a x with
    | .pointer (some ad)=>match eG P F0 t ad with
     |some v=>dG P J ops F0 K rest true (aV a o.dst v)
     |none=>False
    |_=>False
   | .call {callee:=.value x,args, ..}=>match ev a x with
    | .func (.func fn) first captured=>aD P fn=true/\∃v,Plain P J F0 fn (first++args.map (ev a)++captured) v/\dG P J ops F0 K rest false (aV a o.dst v)
    |_=>False
   |_=>match gU P o a with
    |some v=>dG P J ops F0 K rest true (aV a o.dst v)
    |none=>False
  |none=>False
theorem Bi {P:Program}{J:Goroutine->af->Prop}{ops:Array Oper}{F0:af}{K:Act->Prop}{go:Bool}{a:Act}:dG P J ops F0 K [] go a=K a:=rfl
theorem Bj {P:Program}{J:Goroutine->af->Prop}{ops:Array Oper}{F0:af}{K:Act->Prop}{o:Oper}{rest:List Oper}{a:Act}:dG P J ops F0 K (o::rest) true a=match cp ops o a with
  |some false=>dG P J ops F0 K rest true (aV a o.dst undef)
  |some true=>match o.op with
   | .load t x=>match ev a x with
    | .pointer (some ad)=>match eG P F0 t ad with
     |some v=>dG P J ops F0 K rest true (aV a o.dst v)
     |none=>False
    |_=>False
   | .call {callee:=.value x,args, ..}=>match ev a x with
    | .func (.func fn) first captured=>aD P fn=true/\∃v,Plain P J F0 fn (first++args.map (ev a)++captured) v/\dG P J ops F0 K rest false (aV a o.dst v)
    |_=>False
   |_=>match gU P o a with
    |some v=>dG P J ops F0 K rest true (aV a o.dst v)
    |none=>False
  |none=>False:=(Eq.refl _).trans (Eq.refl _)
theorem b6 {P:Program}{J:Goroutine->af->Prop}{ops:Array Oper}{F0:af}{K:Act->Prop}:∀{l:List Oper} {go:Bool} {a:Act},dG P J ops F0 K l true a->dG P J ops F0 K l go a
 |[],_,_,h=>h
 |_::_,_,_,h=>h
theorem pF {n m:Nat}(h:m<n):(cD n m).setIfInBounds m true=cD n (m+1):=by
 apply Array.ext
 ·simp[cD]
 ·intro i h1 h2
  simp[cD] at h1 h2
  rw[Array.getElem_setIfInBounds (by simp[cD];omega)]
  by_cases e:m=i
  ·subst e;simp[cD]
  ·simp only[if_neg e,cD,Array.getElem_map,Array.getElem_range]
   rw[decide_eq_decide]
   omega
theorem xk (n:Nat):cD n 0=Array.replicate n false:=by
 apply Array.ext
 ·simp[cD]
 ·intro i h1 h2;simp[cD]
section
variable {P : Program} {main : Bool} {J : Goroutine → af → Prop} {ops : Array Oper} {Q : Act → af → Prop} {F0 : af}
theorem pG {K:Act->Prop}(m:Nat)(hm:m<=ops.size)(r:Region.noSelect ops=true)(s:∀i,i<m->(Region.free .any ops (cD ops.size i) i&&(Region.ready .any ops (cD ops.size i)).contains i)=true)
  {F:af} (b:Knows F0 F) (u:∀a,K a->di P J ops Q (Knows F0) (ops.size - m) (cD ops.size m) a F):
  ∀(l:List Oper) (k:Nat) (go:Bool) (a:Act),(ops.toList.take m).drop k=l->k<=m->dG P J ops F0 K l go a->di P J ops Q (Knows F0) (ops.size - k) (cD ops.size k) a F
 |[],k,_,a,c,A,h=>by
  have:k=m:=by
   have:=congrArg List.length c
   simp at this
   omega
  subst this
  exact u a h
 |o::rest,k,_,a,c,A,h=>by
  have g:k<m:=by
   rcases Nat.lt_or_ge k m with x|x
   ·exact x
   ·rw[List.drop_eq_nil_of_le (by simp;omega)] at c;cases c
  have j:ops[k]?=some o:=by
   have:=congrArg List.head? c
   rw[List.head?_drop,List.getElem?_take_of_lt g] at this
   simpa using this
  have y:(ops.toList.take m).drop (k+1)=rest:=by
   have:=congrArg List.tail c
   simpa [List.tail_drop] using this
  have B:=s k g
  have e:ops.size - k=(ops.size - (k+1))+1:=by omega
  have z:=pF (n:=ops.size) (m:=k) (by omega)
  have p:(Region.noSelect ops&&Region.free .any ops (cD ops.size k) k&&(Region.ready .any ops (cD ops.size k)).contains k)=true:=by
   rw[r,Bool.true_and];exact B
  rw[e]
  unfold dG at h
  split at h
  ·rename_i hg
   exact xb k j p hg b (by rw[z];exact pG m hm r s b u rest (k+1) _ _ y g h)
  ·rename_i hg
   have next:∀go v,dG P J ops F0 K rest go (aV a o.dst v)->di P J ops Q (Knows F0) (ops.size - (k+1)) ((cD ops.size k).setIfInBounds k true) (aV a o.dst v) F:=fun go v d=>by
    rw[z];exact pG m hm r s b u rest (k+1) _ _ y g d
   split at h
   ·rename_i t x w
    split at h
    case h_2=>exact h.elim
    rename_i ad C
    split at h
    case h_2=>exact h.elim
    rename_i v d
    refine lO k v j p hg (fun F R q f=>?_) b (next _ v h)
    unfold cz
    simp only[w,C,q.eG d]
    exact f
   ·rename_i x args argTypes w
    split at h
    case h_2=>exact h.elim
    rename_i fn first captured D
    obtain ⟨E,v,G,h⟩:=h
    refine lO k v j p hg (fun F R q f=>?_) b (next _ v h)
    unfold cz
    simp only[w,D]
    exact ⟨E,(G F q).mono fun I F' H=>by obtain ⟨rfl,rfl⟩:=H;exact f⟩
   ·split at h
    case h_2=>exact h.elim
    rename_i v d
    exact lO k v j p hg (fun F R q f=>pE d f) b (next _ v h)
  ·exact h.elim
def ef (P:Program)(J:Goroutine->af->Prop)(ops:Array Oper)(F0:af)(Q:Act->af->Prop):List Oper->Bool->Act->af->Prop
 |[],_,a,F=>Q a F
 |o::rest,_,a,F=>match cp ops o a with
  |some true=>cz P J o (fun v F'=>Knows F0 F'/\ef P J ops F0 Q rest (!Oper.calls o) (aV a o.dst v) F') a F
  |_=>False
theorem Bl {P:Program}{J:Goroutine->af->Prop}{ops:Array Oper}{F0:af}{Q:Act->af->Prop}{go:Bool}{a:Act}{F:af}:ef P J ops F0 Q [] go a F=Q a F:=rfl
theorem Bm {P:Program}{J:Goroutine->af->Prop}{ops:Array Oper}{F0:af}{Q:Act->af->Prop}{o:Oper}{rest:List Oper}{a:Act}{F:af}:ef P J ops F0 Q (o::rest) true a F=match cp ops o a with
  |some true=>cz P J o (fun v F'=>Knows F0 F'/\ef P J ops F0 Q rest (!Oper.calls o) (aV a o.dst v) F') a F
  |_=>False:=(Eq.refl _).trans (Eq.refl _)
theorem kG {P:Program}{J:Goroutine->af->Prop}{ops:Array Oper}{F0:af}{Q:Act->af->Prop}:∀{l:List Oper} {go:Bool} {a:Act} {F:af},ef P J ops F0 Q l true a F->ef P J ops F0 Q l go a F
 |[],_,_,_,h=>h
 |_::_,_,_,_,h=>h
theorem kH (m:Nat)(g:∀j,j<ops.size - m->Region.ready .any ops (cD ops.size (m+j))=[m+j])(i:Region.ready .any ops (cD ops.size ops.size)=[]):
  ∀(l:List Oper) (k:Nat) (go:Bool) (a:Act) (F:af),m<=k->k<=ops.size->ops.toList.drop k=l->ef P J ops F0 Q l go a F->di P J ops Q (Knows F0) (ops.size - k) (cD ops.size k) a F
 |[],k,_,a,F,q,s,f,h=>by
  have:k=ops.size:=by
   have:=congrArg List.length f
   simp at this
   omega
  subst this
  exact wD i h _
 |o::rest,k,_,a,F,q,s,f,h=>by
  have u:k<ops.size:=by
   rcases Nat.lt_or_ge k ops.size with x|x
   ·exact x
   ·rw[List.drop_eq_nil_of_le (by simpa using x)] at f;cases f
  have w:ops[k]?=some o:=by
   have:=congrArg List.head? f
   simpa [List.head?_drop] using this
  have y:ops.toList.drop (k+1)=rest:=by
   have:=congrArg List.tail f
   simpa [List.tail_drop] using this
  have e:ops.size - k=(ops.size - (k+1))+1:=by omega
  have n:=g (k - m) (by omega)
  rw[show m+(k - m)=k by omega] at n
  rw[e]
  unfold ef at h
  split at h
  ·rename_i hg
   refine xd k w n hg ?_
   refine pH ?_ h
   rintro v F' ⟨h1,h2⟩
   refine ⟨h1,?_⟩
   rw[pF u]
   exact kH m g i rest (k+1) _ _ F' (by omega) (by omega) y h2
  ·exact h.elim
where
 pH {o:Oper} {a:Act} {F:af} {R p:Value->af->Prop} (d:∀v F,R v F->p v F) (h:cz P J o R a F):cz P J o p a F:=by
  obtain ⟨dst,op,type,pos,after,guard⟩:=o
  unfold cz at h ⊢
  cases op<;>simp only at h ⊢<;>first
   |exact h.elim
   |exact d _ _ h
   |exact fun b hb=>d _ _ (h b hb)
   |exact fX (fun v F h=>d v F h) _ _ h
   |(split at h<;>first
     |exact h.elim
     |exact d _ _ h
     |exact fun b hb=>d _ _ (h b hb)
     |(split at h<;>first|exact h.elim|exact d _ _ h|exact fun b hb=>d _ _ (h b hb)))
   |skip
  case slice t x z A B=>
   cases B with
   |some m=>exact h.elim
   |none=>
    refine ⟨h.1,?_⟩
    have h2:=h.2
    revert h2
    cases lK P t (ev a x) (z.map (ev a)) (A.map (ev a)) with
    |some v=>exact fun x=>d _ _ x
    |none=>exact fun x=>x
  case call c=>
   obtain ⟨callee,args,argTypes⟩:=c
   cases callee with
   |value x=>
    exact fI.mono h d
   |invoke r m=>exact h.elim
   |builtin b=>
    cases b<;>simp only at h ⊢<;>first
     |exact h.elim
     |(split at h<;>first|exact h.elim|exact fun ty=>fX (fun v F ⟨F0,hle,h⟩=>⟨F0,hle,d _ _ h⟩) _ _ (h ty))
     |exact fX (fun v F h=>d v F h) _ _ h
     |(split at h<;>first|exact h.elim|(split at h<;>first|exact h.elim|exact d _ _ h|exact fX (fun v F h=>d v F h) _ _ h))
theorem dA {Q:Ex->Act->af->Prop}(hJ:Closed P main J)(d:P.follows .mixedOrders=true)(m:Nat){id:Nat}{a:Act}{F:af}(F0:af)(e:Knows F0 F)(f:lP ops m=true)
  (h:dG P J ops F0 (fun b=>ef P J ops F0 (Q .normal) (ops.toList.drop m) true b F) (ops.toList.take m) true a):Wp J (.region id ops true) Q a F:=by
 have c:=xj f
 simp only[nq,Bool.and_eq_true,decide_eq_true_eq,List.all_eq_true,List.mem_range] at c
 obtain ⟨⟨⟨⟨h1,h2⟩,h3⟩,g⟩,j⟩:=c
 refine rP hJ (Knows F0) d ?_
 rw[<-xk]
 have:=pG (P:=P) (J:=J) (Q:=Q .normal) m h2 h1 (fun i k=>by have:=h3 i k;simpa using this) e (fun b l=>kH m g j _ m _ b F (Nat.le_refl _) h2 rfl l) _ 0 true a (by simp) (Nat.zero_le _) h
 simpa using this
theorem bu (hJ:Closed P main J){F0:af}{f:FuncId}{args:Array Value}{v:Value}(h:∀F,Knows F0 F->ay P f args F.cc (fun a _=>a=v)):Plain P J F0 f args v:=
 fun F b=>m5 (h F b) main J hJ
end
attribute [irreducible] dG ef
attribute [go_sem] gS Bg gU Bi Bj Bl Bm oT List.take_succ_cons List.take_zero List.drop_succ_cons List.drop_zero Array.zipIdx_toArray List.zipIdx_cons List.zipIdx_nil List.foldl_toArray List.foldl_toArray' decide_eq_true_eq Bool.and_false Bool.false_and Bool.and_self Bool.true_and Bool.and_true List.foldl_cons List.foldl_nil decide_false decide_true Bool.or_false Bool.false_or Bool.or_self Bool.or_true Bool.true_or gt_iff_lt Nat.reduceGT Nat.lt_irrefl Bool.false_eq_true Nat.zero_add Nat.add_zero Nat.not_lt_zero
section
variable {P : Program} {main : Bool} {J : Goroutine → af → Prop} {Q : Ex → Act → af → Prop} {a : Act} {F : af}
theorem aJ (hJ:Closed P main J){f:FuncId}{args:Array Value}{F:af}{K:Value->af->Prop}(v:Value)(h:ay P f args F.cc (fun a _=>a=v))(b:K v F):cC P J f args F K:=
 (m5 h main J hJ).mono fun a F' c=>by obtain ⟨rfl,rfl⟩:=c;exact b
theorem bD (hJ:Closed P main J){c:Operand}{x y:Code}(b:ev a c= .bool true)(h:Wp J x Q a F):Wp J (.cond c x y) Q a F:=rM hJ true b h
theorem bK (hJ:Closed P main J){c:Operand}{x y:Code}(b:ev a c= .bool false)(h:Wp J y Q a F):Wp J (.cond c x y) Q a F:=rM hJ false b h
theorem Bn (hJ:Closed P main J){c:Operand}{x y:Code}(b:Bool)(d:ev a c= .bool b)(h1:b=true->Wp J x Q a F)(h2:b=false->Wp J y Q a F):Wp J (.cond c x y) Q a F:=by
 refine rM hJ b d ?_
 cases b
 ·exact h2 rfl
 ·exact h1 rfl
theorem cM (hJ:Closed P main J){c:Code}{F':af}(hle:Le F F')(h:Wp J c Q a F):Wp J c Q a F':=h.le (hJ:=hJ) hle
theorem Le.sub {ro:Addr->Option Value}{l l':List (Nat×Obj)}(h:l.Sublist l'):Le ⟨ro,l⟩ ⟨ro,l'⟩:=by
 have c:(keys l).Sublist (keys l'):=h.map _
 exact ⟨fun w hw=>⟨hw.ro,fun b o hb=>hw.own b o (h.subset hb),c.nodup hw.nodup,fun a v d hm=>hw.apart a v d (c.subset hm)⟩,fun b hb=>c.subset hb,fun a e=>.inl e⟩
theorem sr (hJ:Closed P main J){c:Code}(I:Nat->Act->af->Prop)(n:Nat)(h0:I n a F)(hs:∀n a F,I n a F->Wp J c (oT (fun m a F=>∃F0,Le F0 F/\I m a F0) n Q) a F):Wp J (.loop c) Q a F:=
 wH hJ (fun m a F=>∃F0,Le F0 F/\I m a F0) n ⟨F,Le.refl F,h0⟩ fun n a F ⟨F0,hle,b⟩=>cM hJ hle (hs n a F0 b)
end
def iT:List Nat->Nat->Bool
 |[],_=>false
 |w::ws,i=>i==w||iT ws i
abbrev In (ws:List Nat)(i:Nat):Prop:=iT ws i=true
structure c9 (ws:List Nat)(a a0:Act):Prop where
 size:sz a=sz a0
 defers:a.defers=a0.defers
 eH:∀i,¬In ws i->slot a i=slot a0 i
theorem c9.refl (ws:List Nat)(a:Act):c9 ws a a:=⟨rfl,rfl,fun _ _=>rfl⟩
theorem c9.trans {ws:List Nat}{a b c:Act}(h:c9 ws a b)(k:c9 ws b c):c9 ws a c:=⟨h.size.trans k.size,h.defers.trans k.defers,fun i d=>(h.eH i d).trans (k.eH i d)⟩
theorem c9.sub {ws c:List Nat}{a b:Act}(hs:∀i,In ws i->In c i)(h:c9 ws a b):c9 c a b:=⟨h.size,h.defers,fun i d=>h.eH i fun x=>d (hs i x)⟩
theorem Bo {ws:List Nat}{a:Act}:c9 ws a a=True:=eq_true (c9.refl ws a)
theorem Bp {ws:List Nat}{a a0:Act}{d:Nat}{v:Value}(h:iT ws d=true):c9 ws (aV a (some d) v) a0=c9 ws a a0:=by
 apply propext
 constructor
 ·intro k
  refine ⟨by rw[<-k.size,wS],by rw[<-k.defers,wT],fun i b=>?_⟩
  rw[<-k.eH i b,rU _ _ _ _ (fun e=>b (by subst e;exact h))]
 ·intro k
  refine ⟨by rw[<-k.size,wS],by rw[<-k.defers,wT],fun i b=>?_⟩
  rw[<-k.eH i b,rU _ _ _ _ (fun e=>b (by subst e;exact h))]
def ir (ws a:List Nat):Bool:=ws.all fun w=>iT a w
theorem xl:∀{ws:List Nat} {i:Nat},iT ws i=true->i∈ws
 |[],_,h=>by cases h
 |w::ws,i,h=>by
  simp only[iT,Bool.or_eq_true,beq_iff_eq] at h
  rcases h with h|h
  ·rw[h];exact List.mem_cons_self
  ·exact List.mem_cons_of_mem _ (xl h)
theorem c9.ir {ws c:List Nat}{a b:Act}(h:c9 ws a b)(hs:Sep.ir ws c=true):c9 c a b:=h.sub fun i d=>by
 have:=xl d
 exact List.all_eq_true.1 hs i this
attribute [go_sem] iT Bo Bp or_true true_or or_false false_or Nat.reduceBEq
section
variable {P : Program} {main : Bool} {J : Goroutine → af → Prop} {Q : Ex → Act → af → Prop} {a : Act} {F : af}
theorem bU (hJ:Closed P main J){c:Code}(ws:List Nat)(I:Nat->Act->af->Prop)(n:Nat)(h0:I n a F)
  (hs:∀n b F',c9 ws b a->I n b F'->Wp J c (oT (fun m a2 d=>c9 ws a2 b/\∃F0,Le F0 d/\I m a2 F0) n Q) b F'):Wp J (.loop c) Q a F:=
 wH hJ (fun m a2 d=>c9 ws a2 a/\∃F0,Le F0 d/\I m a2 F0) n ⟨.refl ws a,F,Le.refl F,h0⟩ fun n b F' ⟨g,F0,hle,h⟩=>
  cM hJ hle ((hs n b F0 g h).mono fun e a2 d f=>by
   cases e with
   |normal=>obtain ⟨m,hm,h1,h2⟩:=f;exact ⟨m,hm,h1.trans g,h2⟩
   |exit i=>exact f
   |ret=>exact f)
end
def Ext (ro aH:Addr->Option Value):Prop:=∀a v,ro a=some v->aH a=some v
theorem Ext.refl (ro:Addr->Option Value):Ext ro ro:=fun _ _ h=>h
theorem Ext.trans {r s t:Addr->Option Value}(h:Ext r s)(k:Ext s t):Ext r t:=fun a v x=>k a v (h a v x)
def bI (ro:Addr->Option Value)(b:Nat)(o:Obj):Addr->Option Value:=fun a=>match ro a with
 |some v=>some v
 |none=>if a.block=b/\a.spot=none then cellOf o a.off else none
theorem fl (ro:Addr->Option Value)(b:Nat)(o:Obj):Ext ro (bI ro b o):=fun a v h=>by simp[bI,h]
theorem gW {ro:Addr->Option Value}{b off:Nat}{o:Obj}(h:∀off sp,ro ⟨b,off,sp⟩=none):bI ro b o ⟨b,off,none⟩=cellOf o off:=by simp[bI,h]
theorem iU {ro:Addr->Option Value}{own e:List (Nat×Obj)}{b:Nat}{o:Obj}(i:lk own b=some o)(hs:e.Sublist own)(hb:aj e b):Le ⟨bI ro b o,e⟩ ⟨ro,own⟩:=by
 have g:(keys e).Sublist (keys own):=hs.map _
 have hm:=fU i
 have j:b∉keys e:=by
  clear i hs g hm
  induction e with
  |nil=>simp[keys]
  |cons x l ih=>
   simp only[keys,List.map_cons,List.mem_cons,not_or]
   exact ⟨hb.1,ih hb.2⟩
 refine ⟨fun w hw=>⟨fun a v h=>?_,fun c x d=>hw.own c x (hs.subset d),g.nodup hw.nodup,fun a v h d=>?_⟩,fun c d=>g.subset d,fun a k=>?_⟩
 ·replace h:bI ro b o a=some v:=h
  unfold bI at h
  split at h
  ·rename_i x f;cases h;exact hw.ro _ _ f
  ·split at h
   ·rename_i d
    have:=hw.own b o hm
    rw[<-d.1] at this
    cases o<;>simp only[cellOf,reduceCtorEq] at h
    simp[World.cell?,this,d.2,h]
   ·cases h
 ·replace h:bI ro b o a=some v:=h
  unfold bI at h
  split at h
  ·rename_i x f;exact hw.apart a x f (g.subset d)
  ·split at h
   ·rename_i m;rw[m.1] at d;exact j d
   ·cases h
 ·obtain ⟨v,h⟩:=Option.isSome_iff_exists.1 k
  replace h:bI ro b o a=some v:=h
  unfold bI at h
  split at h
  ·rename_i x f;exact .inl (by simp[f])
  ·split at h
   ·rename_i d;exact .inr (by rw[d.1];exact ep hm)
   ·cases h
def en (P:Program)(f:FuncId)(args:Array Value)(ro:Addr->Option Value)(R:Value->(Addr->Option Value)->Prop):Prop:=
 ay P f args ⟨ro,[]⟩ (fun v G=>∃aH,Ext ro aH/\Le ⟨aH,[]⟩ G/\R v aH)
def kI (F G:af):Prop:=∀a,(G.ro a).isSome=true->a.block∉keys F.own
def su (J:Goroutine->af->Prop)(F:af)(g:Goroutine)(G:af):Prop:=Fits F G->kI F G->J g (G.star F)
theorem xm {P:Program}{main:Bool}{J:Goroutine->af->Prop}(hJ:Closed P main J)(F:af):Closed P main (su J F) where
 mono {g G I} hle h c i:=by
  have n:=c.le hle
  have u:kI F G:=fun a d=>(hle.ro a d).elim (i a) (c.own _)
  refine hJ.mono ⟨fun w hw=>n.both (hle.has w (c.right hw)) (c.left hw),fun b hb=>?_,fun a d=>?_⟩ (h n u)
  ·simp only[af.star,bY,List.mem_append] at hb ⊢
   exact hb.imp (hle.own b) id
  ·rcases iP d with x|x
   ·exact (fG (.inl x)).imp id (fun y=>by simp only[af.star,bY,List.mem_append];exact .inr y)
   ·rcases hle.ro a x with y|y
    ·exact (fG (.inr y)).imp id (fun z=>by simp only[af.star,bY,List.mem_append];exact .inr z)
    ·exact .inr (by simp only[af.star,bY,List.mem_append];exact .inl y)
 step {fr cs G} h c i:=by
  refine hJ.step fun w hw=>?_
  have A:=c.right hw
  have f:=c.left hw
  obtain ⟨g',w',es,k,hgo,hu,p,B,C⟩:=h w A
  have q:Has F w':=by
   refine ⟨fun a v l=>?_,fun b o hb=>?_,f.nodup,f.apart⟩
   ·have h0:=f.ro a v l
    have D:=f.fW (a:=a) (by simp[l])
    unfold World.cell? at h0 ⊢
    rw[hu.frame _ D (c.ro a (by simp[l]))]
    exact h0
   ·rw[hu.frame b (f.lt (ep hb)) (fun hm=>c.own b hm (ep hb))]
    exact f.own b o hb
  have s:Fits F k:=by
   refine ⟨⟨w',p,q⟩,fun b hb hm=>?_,fun a d hm=>?_⟩
   ·rcases hu.own b hb with x|x
    ·exact c.own b x hm
    ·have:=f.lt hm;omega
   ·rcases hu.own _ hm with x|x
    ·exact c.ro a d x
    ·have:=f.fW d;omega
  have E:kI F k:=fun a d hm=>by
   rcases hu.ro a d with x|x|x
   ·exact i a x hm
   ·exact c.own _ x hm
   ·have:=f.lt hm;omega
  refine ⟨g',w',es,k.star F,hgo,⟨hu.os,hu.tape,hu.output,hu.size,fun b hb i=>hu.frame b hb fun hm=>i ?_,fun a d=>?_,fun b hb=>?_⟩,s.both p q,fun e he=>?_,C s E⟩
  ·simp only[af.star,bY,List.mem_append];exact .inl hm
  ·rcases iP d with x|x
   ·exact (fG (.inl x)).imp id (fun y=>.inl (by simp only[af.star,bY,List.mem_append];exact .inr y))
   ·rcases hu.ro a x with y|y|y
    ·exact (fG (.inr y)).imp id (fun z=>.inl (by simp only[af.star,bY,List.mem_append];exact .inr z))
    ·exact .inr (.inl (by simp only[af.star,bY,List.mem_append];exact .inl y))
    ·exact .inr (.inr y)
  ·simp only[af.star,bY,List.mem_append] at hb ⊢
   rcases hb with hb|hb
   ·exact (hu.own b hb).imp .inl id
   ·exact .inl (.inr hb)
  ·have t:∀b,fV G w.heap.size w'.heap.size b->fV (G.star F) w.heap.size w'.heap.size b:=fun b hb=>hb.imp (fun x=>by simp only[af.star,bY,List.mem_append];exact .inl x) id
   rcases B e he with ⟨a,wr,rfl,j|⟨H,j⟩⟩|⟨r,wr,rfl,j⟩|⟨m,rfl,hm⟩
   ·exact .inl ⟨a,wr,rfl,.inl (t _ j)⟩
   ·rcases fG (F:=F) (.inr j) with y|y
    ·exact .inl ⟨a,wr,rfl,.inr ⟨H,y⟩⟩
    ·exact .inl ⟨a,wr,rfl,.inl (.inl (by simp only[af.star,bY,List.mem_append];exact .inr y))⟩
   ·exact .inr (.inl ⟨r,wr,rfl,t _ j⟩)
   ·exact .inr (.inr ⟨m,rfl,hm⟩)
section
variable {P : Program} {main : Bool} {J : Goroutine → af → Prop}
theorem sw (hJ:Closed P main J){f:FuncId}{args:Array Value}{ro:Addr->Option Value}{own:List (Nat×Obj)}{K:Value->af->Prop}(R:Value->(Addr->Option Value)->Prop)(h:en P f args ro R)
  (r:∀v aH,Ext ro aH->(∀b∈keys own,∀off sp,aH ⟨b,off,sp⟩=none)->R v aH->K v ⟨aH,own⟩):cC P J f args ⟨ro,own⟩ K:=by
 intro c cs s
 by_cases hw:∃w,Has ⟨ro,own⟩ w
 ·obtain ⟨i,j⟩:=hw
  let F:af:=⟨fun _=>none,own⟩
  have m:∀w,Has ⟨ro,own⟩ w->Has F w:=fun w hw=>⟨fun a v h=>(by cases h),hw.own,hw.nodup,fun a v h=>(by cases h)⟩
  have n:∀w,Has ⟨ro,own⟩ w->Has ⟨ro,[]⟩ w:=fun w hw=>⟨hw.ro,fun b o hb=>(by cases hb),List.nodup_nil,fun a v e hm=>(by cases hm)⟩
  have p:Fits F ⟨ro,[]⟩:=⟨⟨i,n i j,m i j⟩,fun b hb=>(by cases hb),fun a d hm=>(by cases hm)⟩
  have t:kI F ⟨ro,[]⟩:=fun a d hm=>by
   obtain ⟨v,u⟩:=Option.isSome_iff_exists.1 d
   exact j.apart a v u hm
  have y:su J F (G (Frame.enter P f args .normal) (c::cs)) ⟨ro,[]⟩:=by
   refine h main _ (xm hJ F) c cs fun v G k l A=>?_
   obtain ⟨aH,B,hle,k⟩:=k
   have q:∀a,(aH a).isSome=true->a.block∉keys own:=fun a d=>(hle.ro a d).elim (A a) (l.own _)
   refine hJ.mono (F:=⟨aH,own⟩) ⟨fun w hw=>?_,fun b hb=>?_,fun a d=>?_⟩ (s v ⟨aH,own⟩ (r v aH B (fun b hb off sp=>?_) k))
   ·have C:=hle.has w (l.right hw)
    have g:=l.left hw
    exact ⟨C.ro,g.own,g.nodup,fun a v e=>q a (by simp only at e;simp[e])⟩
   ·simp only[af.star,bY,List.mem_append];exact .inr hb
   ·rcases hle.ro a d with x|x
    ·exact (fG (.inr x)).imp id (fun z=>by simp only[af.star,bY,List.mem_append];exact .inr z)
    ·exact .inr (by simp only[af.star,bY,List.mem_append];exact .inl x)
   ·cases e:aH ⟨b,off,sp⟩ with
    |none=>rfl
    |some v=>exact absurd hb (q ⟨b,off,sp⟩ (by simp[e]))
  refine hJ.mono ⟨fun w hw=>p.both (n w hw) (m w hw),fun b hb=>?_,fun a d=>?_⟩ (y p t)
  ·simpa [af.star,F] using hb
  ·rcases iP d with x|x
   ·cases x
   ·exact .inl x
 ·exact hJ.step fun w g=>absurd ⟨w,g⟩ hw
end
attribute [go_sem] beq_self_eq_true beq_iff_eq beq_true beq_false Int.toNat_natCast Int.natCast_nonneg Int.ofNat_lt Nat.zero_mul Nat.mul_one List.length_map Bool.not_eq_true Bool.not_not decide_not
inductive Fl (σ ρ:Type) where
 |nx (s:σ)
 |bk (s:σ)
 |br (k:Nat) (s:σ)
 |rt (r:ρ)
def ah {α β:Type}(x:Option α)(f:α->Option β):Option β:=match x with
 |some a=>f a
 |none=>none
theorem e5 {α β:Type}{x:Option α}{f:α->Option β}{r:β}(h:ah x f=some r):∃a,x=some a/\f a=some r:=by
 cases x with
 |none=>cases h
 |some a=>exact ⟨a,rfl,h⟩
theorem gX {α:Type}{b:Bool}{x y:Option α}{r:α}(h:cond b x y=some r):(b=true/\x=some r)\/(b=false/\y=some r):=by
 cases b
 ·exact .inr ⟨rfl,h⟩
 ·exact .inl ⟨rfl,h⟩
def aK {σ ρ τ:Type}(o:Fl σ ρ)(f:σ->Option τ)(g:Nat->σ->Option τ)(h:ρ->Option τ):Option τ:=match o with
 | .nx s=>f s
 | .bk s=>f s
 | .br k s=>g k s
 | .rt r=>h r
def bE {σ ρ:Type}(f:σ->Option (Fl σ ρ)):Nat->σ->Option (Fl σ ρ)
 |0,_=>none
 |n+1,s=>ah (f s) fun o=>match o with
  | .nx s'=>bE f n s'
  | .bk s'=>some (.nx s')
  | .br k s'=>some (.br k s')
  | .rt r=>some (.rt r)
def bB {α σ ρ:Type}(f:Nat->α->σ->Option (Fl σ ρ)):Nat->List α->σ->Option (Fl σ ρ)
 |_,[],s=>some (.nx s)
 |i,x::l,s=>ah (f i x s) fun o=>match o with
  | .nx s'=>bB f (i+1) l s'
  | .bk s'=>some (.nx s')
  | .br k s'=>some (.br k s')
  | .rt r=>some (.rt r)
def fu:Nat:=1000000000000000000
def bL {α:Type}(l:List α)(i:Int):Option α:=if 0<=i then l[i.toNat]? else none
theorem cJ {α:Type}{l:List α}{i:Int}{x:α}(h:bL l i=some x):0<=i/\i<l.length/\l[i.toNat]?=some x:=by
 unfold bL at h
 split at h
 ·rename_i h0
  obtain ⟨a,_⟩:=List.getElem?_eq_some_iff.1 h
  exact ⟨h0,by omega,h⟩
 ·cases h
def dr {α:Type}(l xs:List α):Option (List α):=if l.length+xs.length<=1000000 then some (l++xs) else none
theorem cW {α:Type}{l xs r:List α}(h:dr l xs=some r):l.length+xs.length<=1000000/\r=l++xs:=by
 unfold dr at h
 split at h
 ·rename_i h0;cases h;exact ⟨h0,rfl⟩
 ·cases h
def gY {α:Type}(l:List α)(a b:Int):Option (List α):=if 0<=a/\a<=b/\b<=l.length then some ((l.take b.toNat).drop a.toNat) else none
theorem nv {α:Type}{l r:List α}{a b:Int}(h:gY l a b=some r):0<=a/\a<=b/\b<=l.length/\r=(l.take b.toNat).drop a.toNat:=by
 unfold gY at h
 split at h
 ·rename_i h0;cases h;exact ⟨h0.1,h0.2.1,h0.2.2,rfl⟩
 ·cases h
def fJ (a b:Int):Option Int:=if b=0 then none else some (IntKind.i64.wrap (a.tdiv b))
theorem lQ {a b r:Int}(h:fJ a b=some r):¬b=0/\IntKind.i64.wrap (a.tdiv b)=r:=by
 unfold fJ at h
 split at h
 ·cases h
 ·rename_i h0;cases h;exact ⟨h0,rfl⟩
def kJ (a b:Int):Option Int:=if b=0 then none else some (a.tmod b)
theorem sx {a b r:Int}(h:kJ a b=some r):¬b=0/\a.tmod b=r:=by
 unfold kJ at h
 split at h
 ·cases h
 ·rename_i h0;cases h;exact ⟨h0,rfl⟩
def sA (a b:Int):Option Int:=if b<0 then none else some (IntKind.i64.wrap (a*2 ^ min b.toNat 64))
theorem Bq {a b r:Int}(h:sA a b=some r):¬b<0/\IntKind.i64.wrap (a*2 ^ min b.toNat 64)=r:=by
 unfold sA at h
 split at h
 ·cases h
 ·rename_i h0;cases h;exact ⟨h0,rfl⟩
def sB (a b:Int):Option Int:=if b<0 then none else some (a.fdiv (2 ^ min b.toNat 64))
theorem Br {a b r:Int}(h:sB a b=some r):¬b<0/\a.fdiv (2 ^ min b.toNat 64)=r:=by
 unfold sB at h
 split at h
 ·cases h
 ·rename_i h0;cases h;exact ⟨h0,rfl⟩
def xo (a b:Int):Int:=IntKind.i64.wrap (BitVec.ofInt 64 a&&& BitVec.ofInt 64 b).toNat
theorem Bs (a b:Int):IntKind.i64.wrap (BitVec.ofInt IntKind.i64.bits a&&& BitVec.ofInt IntKind.i64.bits b).toNat=xo a b:=rfl
attribute [go_sem ↓] Bs
theorem b9 {n:Nat}(h:n<1000000000000000):IntKind.i64.wrap ((n:Int)+1)=((n+1:Nat):Int):=by
 simp only[IntKind.wrap,IntKind.bits,IntKind.signed]
 simp
 omega
theorem cN {α:Type}{l:List α}{i:Nat}{x:α}(h:l[i]?=some x):l.drop i=x::l.drop (i+1):=by
 obtain ⟨a,rfl⟩:=List.getElem?_eq_some_iff.1 h
 exact List.drop_eq_getElem_cons a
theorem cast_zero:((0:Nat):Int)=0:=rfl
attribute [go_sem] cast_zero
theorem Bt (l:List Value)(i j:Nat):(l.toArray).extract i j=((l.drop i).take (j - i)).toArray:=by
 apply Array.ext'
 simp[List.extract_eq_drop_take]
attribute [go_sem] Bt
structure bT (T:Type) where
 n:Nat
 rel:(Addr->Option Value)->T->List Value->Prop
 mono:∀{ro aH:Addr->Option Value} {x:T} {cs:List Value},Ext ro aH->rel ro x cs->rel aH x cs
 len:∀{ro:Addr->Option Value} {x:T} {cs:List Value},rel ro x cs->cs.length=n
 one:∀{ro:Addr->Option Value} {x:T} {cs:List Value},rel ro x cs->∀v∈cs,bw v=true
def gq {T:Type}(n:Nat)(c:T->List Value)(h:∀x,(c x).length=n)(h1:∀x,∀v∈c x,bw v=true):bT T:=
 ⟨n,fun _ x cs=>cs=c x,fun _ h=>h,fun e=>by rw[e];exact h _,fun e=>by rw[e];exact h1 _⟩
def rI:bT Int:=gq 1 (fun n=>[.int .i64 n]) (fun _=>rfl) (fun _ v a=>by simp at a;subst a;rfl)
def rB:bT Bool:=gq 1 (fun n=>[.bool n]) (fun _=>rfl) (fun _ v a=>by simp at a;subst a;rfl)
def az {T:Type}(r:bT T)(ro:Addr->Option Value)(s:Value)(l:List T):Prop:=
 ∃ad cap,s= .slice ad l.length cap/\l.length<=cap/\l.length<=1000000000000000/\∀i x,l[i]?=some x->∃p cs,ad=some p/\r.rel ro x cs/\∀j v,cs[j]?=some v->ro ((p.add (i*r.n)).add j)=some v
theorem az.mono {T:Type}{r:bT T}{ro aH:Addr->Option Value}{s:Value}{l:List T}(h:az r ro s l)(a:Ext ro aH):az r aH s l:=by
 obtain ⟨ad,cap,h1,h2,b,h3⟩:=h
 refine ⟨ad,cap,h1,h2,b,fun i x c=>?_⟩
 obtain ⟨p,cs,d,e,hm⟩:=h3 i x c
 exact ⟨p,cs,d,r.mono a e,fun j v f=>a _ _ (hm j v f)⟩
theorem az.nil {T:Type}(r:bT T)(ro:Addr->Option Value):az r ro (.slice none 0 0) []:=⟨none,0,rfl,Nat.le_refl _,by simp,fun i x h=>by simp at h⟩
def rL {T:Type}(r:bT T):bT (List T):=
 ⟨1,fun ro l cs=>∃s,cs=[s]/\az r ro s l,fun b ⟨s,h1,h2⟩=>⟨s,h1,h2.mono b⟩,fun ⟨s,h1,_⟩=>by rw[h1];rfl,fun ⟨s,h1,ad,cap,h2,_⟩ v a=>by rw[h1] at a;simp at a;subst a;rw[h2];rfl⟩
theorem az.part {T:Type}{r:bT T}{ro:Addr->Option Value}{ad:Option Addr}{cap:Nat}{l:List T}(h:az r ro (.slice ad l.length cap) l)(a b:Nat)(h1:a<=b)(h2:b<=l.length):
  az r ro (.slice (if cap=a then ad else ad.map (·.add (a*r.n))) (b - a) (cap - a)) ((l.take b).drop a):=by
 obtain ⟨o,q,e,h3,s,d⟩:=h
 cases e
 have hlen:((l.take b).drop a).length=b - a:=by simp;omega
 refine ⟨_,cap - a,by rw[hlen],by rw[hlen];omega,by rw[hlen];omega,fun i x c=>?_⟩
 rw[List.getElem?_drop,List.getElem?_take] at c
 split at c
 case isFalse=>cases c
 obtain ⟨p,cs,f,g,hm⟩:=d _ x c
 have t:a+i<l.length:=(List.getElem?_eq_some_iff.1 c).1
 refine ⟨p.add (a*r.n),cs,?_,g,fun j v k=>?_⟩
 ·have m:¬cap=a:=by omega
  rw[if_neg m,f];rfl
 ·have:=hm j v k
  rw[jD] at this
  rw[jD,jD]
  rw[show a*r.n+(i*r.n+j)=(a+i)*r.n+j by rw[Nat.add_mul];omega]
  exact this
def Apart (ks:List Nat)(aN:List (Nat×Obj)):Prop:=∀k∈keys aN,k∉ks
theorem Apart.nil (ks:List Nat):Apart ks []:=fun k h=>(by cases h)
theorem jF:∀{l:List (Nat×Obj)} {b:Nat},aj l b->b∉keys l
 |[],_,_=>by simp[keys]
 |(c,o)::l,b,h=>by simp only[keys,List.map_cons,List.mem_cons,not_or];exact ⟨h.1,jF h.2⟩
theorem kK:∀{l:List (Nat×Obj)} {b:Nat},b∉keys l->aj l b
 |[],_,_=>trivial
 |(c,o)::l,b,h=>by simp only[keys,List.map_cons,List.mem_cons,not_or] at h;exact ⟨h.1,kK h.2⟩
theorem Apart.push {ks:List Nat}{aN:List (Nat×Obj)}{b:Nat}(h:Apart ks aN)(hb:aj aN b):Apart (b::ks) aN:=fun k a=>by
 simp only[List.mem_cons,not_or]
 exact ⟨fun e=>jF hb (e▸a),h k a⟩
theorem Apart.drop {ks:List Nat}{aN:List (Nat×Obj)}{b:Nat}(h:Apart (b::ks) aN):Apart ks aN:=fun k a=>(by have:=h k a;simp only[List.mem_cons,not_or] at this;exact this.2)
def aW {T:Type}(r:bT T)(ro:Addr->Option Value)(e:TypeId)(v:Value)(l:List T)(aN:List (Nat×Obj)):Prop:=
 ∃ls:List (List Value),Gr ro e r.n v ls aN/\ls.length=l.length/\l.length<=1000000/\∀(i:Nat) (x:T),l[i]?=some x->∃cs:List Value,ls[i]?=some cs/\r.rel ro x cs
theorem aW.nil {T:Type}(r:bT T)(ro:Addr->Option Value)(e:TypeId):aW r ro e (.slice none 0 0) [] []:=⟨[],.inl ⟨rfl,rfl,rfl⟩,rfl,by simp,fun i x h=>by simp at h⟩
theorem aW.len {T:Type}{r:bT T}{ro:Addr->Option Value}{e:TypeId}{v:Value}{l:List T}{aN:List (Nat×Obj)}(h:aW r ro e v l aN):∃ad cap,v= .slice ad l.length cap/\l.length<=cap:=by
 obtain ⟨ls,hg,a,-⟩:=h
 rcases hg with ⟨rfl,rfl,rfl⟩|⟨b,arr,cap,rfl,rfl,hs,hle,-⟩
 ·exact ⟨none,0,by rw[<-a];rfl,by rw[<-a];exact Nat.le_refl _⟩
 ·exact ⟨_,cap,by rw[a],by omega⟩
def aA (ro:Addr->Option Value)(own:List (Nat×Obj)):Prop:=∀b∈keys own,∀off sp,ro ⟨b,off,sp⟩=none
theorem aW.mono {T:Type}{r:bT T}{ro aH:Addr->Option Value}{e:TypeId}{v:Value}{l:List T}{aN:List (Nat×Obj)}(h:aW r ro e v l aN)(a:Ext ro aH)(c:aA aH aN):aW r aH e v l aN:=by
 obtain ⟨ls,hg,d,hm,f⟩:=h
 refine ⟨ls,?_,d,hm,fun i x g=>?_⟩
 ·rcases hg with h|⟨b,arr,cap,h1,h2,h3,j,k,m,n⟩
  ·exact .inl h
  ·exact .inr ⟨b,arr,cap,h1,h2,h3,j,k,m,c b (by rw[h2];simp[keys])⟩
 ·obtain ⟨cs,h1,h2⟩:=f i x g
  exact ⟨cs,h1,r.mono a h2⟩
theorem Apart.fresh {pre aN:List (Nat×Obj)}{ks:List Nat}(h:Apart ks aN)(a:keys pre=ks):∀k∈keys aN,aj pre k:=fun k b=>kK (by rw[a];exact h k b)
theorem ny {n:Nat}:∀(ls:List (List Value)) (i:Nat) (cs:List Value),(∀x∈ls,x.length=n)->ls[i]?=some cs->∀j v,cs[j]?=some v->ls.flatten[i*n+j]?=some v
 |[],i,cs,_,h,_,_,_=>by simp at h
 |y::ls,0,cs,b,h,j,v,a=>by
  simp at h;subst h
  have:j<y.length:=(List.getElem?_eq_some_iff.1 a).1
  simp only[Nat.zero_mul,Nat.zero_add,List.flatten_cons]
  rw[List.getElem?_append_left this]
  exact a
 |y::ls,i+1,cs,b,h,j,v,a=>by
  simp at h
  have ih:=ny ls i cs (fun x d=>b x (by simp[d])) h j v a
  have c:=b y (by simp)
  simp only[List.flatten_cons]
  rw[List.getElem?_append_right (by rw[c,Nat.add_mul];omega)]
  rw[show (i+1)*n+j - y.length=i*n+j by rw[c,Nat.add_mul];omega]
  exact ih
theorem aW.xp {T:Type}{r:bT T}{ro:Addr->Option Value}{e:TypeId}{v:Value}{l:List T}{aN:List (Nat×Obj)}{ks:List Nat}(h:aW r ro e v l aN)(pre:List (Nat×Obj))(m:Apart ks aN)(o:keys pre=ks)(d:aA ro pre):
  ∃aH,Ext ro aH/\aA aH pre/\az r aH v l/\Le ⟨aH,pre⟩ ⟨ro,pre++aN⟩:=by
 obtain ⟨ls,hg,f,hm,p⟩:=h
 rcases hg with ⟨rfl,rfl,rfl⟩|⟨b,arr,cap,rfl,rfl,hs,hle,ht,g,q⟩
 ·have:l=[]:=List.eq_nil_of_length_eq_zero (by simpa using f.symm)
  subst this
  exact ⟨ro,Ext.refl ro,d,az.nil r ro,by rw[List.append_nil];exact Le.refl _⟩
 ·have hb:b∉keys pre:=by rw[o];exact m b (by simp[keys])
  refine ⟨bI ro b (.cells arr e),fl _ _ _,fun c k off sp=>?_,⟨some ⟨b,0,none⟩,cap,by rw[f],by omega,by omega,fun i x s=>?_⟩,iU ?_ (List.sublist_append_left _ _) (kK hb)⟩
  ·have t:¬c=b:=fun e=>hb (e▸k)
   simp[bI,d c k,t]
  ·obtain ⟨cs,h1,h2⟩:=p i x s
   refine ⟨_,cs,rfl,r.mono (fl _ _ _) h2,fun j v u=>?_⟩
   have a:=ny ls i cs g h1 j v u
   rw[jD,jE,Nat.zero_add,gW q]
   have w:i*r.n+j<ls.length*r.n:=by
    have:=(List.getElem?_eq_some_iff.1 a).1
    rw[gm g] at this
    exact this
   rw[<-ht,List.getElem?_take_of_lt w] at a
   simpa [cellOf] using a
  ·have:∀(pre:List (Nat×Obj)),b∉keys pre->lk (pre++[(b,Obj.cells arr e)]) b=some (.cells arr e):=fun pre h=>sd (kK h)
   exact this pre hb
theorem aW.elem {T:Type}{r:bT T}{ro:Addr->Option Value}{e:TypeId}{v:Value}{l:List T}{aN:List (Nat×Obj)}(h:aW r ro e v l aN){i:Nat}{x:T}(d:l[i]?=some x):
  ∃b arr cap cs,v= .slice (some ⟨b,0,none⟩) l.length cap/\aN=[(b,.cells arr e)]/\(∀off sp,ro ⟨b,off,sp⟩=none)/\r.rel ro x cs/\∀j v,cs[j]?=some v->arr[i*r.n+j]?=some v:=by
 obtain ⟨ls,hg,f,hm,g⟩:=h
 obtain ⟨cs,h1,h2⟩:=g i x d
 rcases hg with ⟨rfl,rfl,rfl⟩|⟨b,arr,cap,rfl,rfl,hs,hle,ht,c,k⟩
 ·simp at h1
 ·refine ⟨b,arr,cap,cs,by rw[f],rfl,k,h2,fun j v m=>?_⟩
  have a:=ny ls i cs c h1 j v m
  have o:i*r.n+j<ls.length*r.n:=by
   have:=(List.getElem?_eq_some_iff.1 a).1
   rw[gm c] at this
   exact this
  rw[<-ht,List.getElem?_take_of_lt o] at a
  simpa using a
theorem aI {ro:Addr->Option Value}{own:List (Nat×Obj)}:Ext ro (af.cc ⟨ro,own⟩).ro:=fun a v h=>by simp[af.cc,af.get,h]
theorem bM {ro:Addr->Option Value}{own:List (Nat×Obj)}{F:af}(h:Knows ⟨ro,own⟩ F):Ext ro F.cc.ro:=fun a v b=>by
 have:F.ro a=some v:=h.1 a v b
 simp[af.cc,af.get,this]
def nB (ro:Addr->Option Value)(ks:List Nat):Prop:=∀b∈ks,∀off sp,ro ⟨b,off,sp⟩=none
theorem nB.nil (ro:Addr->Option Value):nB ro []:=fun b h=>by cases h
theorem nB.cons {ro:Addr->Option Value}{b:Nat}{ks:List Nat}(h:∀off sp,ro ⟨b,off,sp⟩=none)(k:nB ro ks):nB ro (b::ks):=fun c a=>by
 rcases List.mem_cons.1 a with rfl|a
 ·exact h
 ·exact k c a
theorem az.nC {T:Type}{r:bT T}{ro:Addr->Option Value}{ad:Option Addr}{cap:Nat}{l x:List T}(h:az r ro (.slice ad l.length cap) l)(a b:Nat)(h1:a<=b)(h2:b<=l.length)(d:x=(l.take b).drop a):
  ∃c,(if cap=a then ad else ad.map (·.add (a*r.n)))=c/\b - a=x.length/\az r ro (.slice c x.length (cap - a)) x:=by
 subst d
 have hlen:((l.take b).drop a).length=b - a:=by simp;omega
 refine ⟨_,rfl,hlen.symm,?_⟩
 rw[hlen]
 exact h.part a b h1 h2
theorem az.one {T:Type}{r:bT T}{ro:Addr->Option Value}{own:List (Nat×Obj)}{b:Nat}{x:T}{cs:Array Value}{e:TypeId}(c:∀off sp,ro ⟨b,off,sp⟩=none)(f:lk own b=some (.cells cs e))(h:r.rel ro x cs.toList):
  az r (bI ro b (.cells cs e)) (.slice (some ⟨b,0,none⟩) 1 1) [x]:=by
 refine ⟨some ⟨b,0,none⟩,1,rfl,Nat.le_refl _,by simp,fun i y a=>?_⟩
 have:i=0/\y=x:=by
  cases i with
  |zero=>simp at a;exact ⟨rfl,a.symm⟩
  |succ i=>simp at a
 obtain ⟨rfl,rfl⟩:=this
 refine ⟨_,_,rfl,r.mono (fl _ _ _) h,fun j v d=>?_⟩
 rw[Nat.zero_mul,add_zero',jE,Nat.zero_add,gW c]
 simpa [cellOf] using d
theorem az.flat {T:Type}{r:bT T}{ro:Addr->Option Value}{b:Nat}{cs:Array Value}{e:TypeId}(c:T->List Value)(l:List T)(a:∀x,r.rel ro x (c x))(d:∀off sp,ro ⟨b,off,sp⟩=none)(f:cs.toList=(l.map c).flatten)(hlen:l.length<=1000000000000000):
  az r (bI ro b (.cells cs e)) (.slice (some ⟨b,0,none⟩) l.length l.length) l:=by
 refine ⟨some ⟨b,0,none⟩,l.length,rfl,Nat.le_refl _,hlen,fun i x g=>⟨_,c x,rfl,r.mono (fl _ _ _) (a x),fun j v h=>?_⟩⟩
 have h1:(l.map c)[i]?=some (c x):=by rw[List.getElem?_map,g];rfl
 have k:∀y∈l.map c,y.length=r.n:=fun y m=>by
  obtain ⟨z,_,rfl⟩:=List.mem_map.1 m
  exact r.len (a z)
 have:=ny (l.map c) i (c x) k h1 j v h
 rw[jE,jE,Nat.zero_add,gW d]
 rw[<-f] at this
 simpa [cellOf] using this
theorem iV {ro:Addr->Option Value}{own:List (Nat×Obj)}{b:Nat}{o:Obj}(e:lk own b=some o):Ext (bI ro b o) (af.cc ⟨ro,own⟩).ro:=fun a v h=>by
 unfold bI at h
 simp only[af.cc,af.get]
 split at h
 ·rename_i x c;rw[c];exact h
 ·rename_i c
  split at h
  ·rename_i d
   rw[c]
   simp only
   rw[if_pos d.2,d.1,e]
   exact h
  ·cases h
section
variable {P : Program} {main : Bool} {J : Goroutine → af → Prop}
theorem fY (hJ:Closed P main J){f:FuncId}{args:Array Value}{F F':af}{K:Value->af->Prop}(hle:Le F F')(h:cC P J f args F K):cC P J f args F' K:=fun c cs k=>hJ.mono hle (h c cs k)
end
theorem aW.bd {T:Type}{r:bT T}{ro:Addr->Option Value}{e:TypeId}{v:Value}{l:List T}{aN:List (Nat×Obj)}(h:aW r ro e v l aN):l.length<=1000000:=by
 obtain ⟨ls,_,_,hm,_⟩:=h
 exact hm
theorem ay.xp {P:Program}{f:FuncId}{args:Array Value}{ro:Addr->Option Value}{R:Value->Prop}(h:ay P f args ⟨ro,[]⟩ (fun v _=>R v)):ay P f args ⟨ro,[]⟩ (fun v G=>R v/\G=⟨ro,[]⟩):=by
 intro main J hJ c cs b
 exact m5 (F:=⟨ro,[]⟩) (R:=R) (by
  have e:af.cc ⟨ro,[]⟩=⟨ro,[]⟩:=by
   simp only[af.cc,af.mk.injEq,and_true]
   funext a
   simp only[af.get]
   cases ro a with
   |none=>simp[lk]
   |some v=>rfl
  rw[e];exact h) main J hJ c cs b
end Go.Sep
end
section
namespace Go.Sep
open Go Go.Conc Go.ConcM
open Go.ConcN (sumTo upd sumTo_upd upd_ne upd_same)
def dH (P:Program)(Φ:Goroutine->af->Prop)(g:Goroutine)(F:af):Prop:=
 ∀(aZ:Loc->Prop) (gs:Array Goroutine) (w:World) (sl:Option (Nat×Nat)) (t:Trace) (q:Nat->Nat),gk P aZ g F gs w t q->
  ∃(N:Nat) (bH:Array Goroutine) (w':World) (c:Option (Nat×Nat)) (a:Trace) (d:Nat->Nat) (g':Goroutine) (F':af) (b:Loc->Prop),
   runNT P N (crowd gs w sl) t=(.next (crowd bH w' c),a)/\gk P b g' F' bH w' a d/\eA F F' w w'/\(∀l,b l->aZ l\/¬l.low w.heap.size)/\Φ g' F'
theorem dH.done {P:Program}{Φ:Goroutine->af->Prop}{g:Goroutine}{F:af}(h:Φ g F):dH P Φ g F:=
 fun aZ gs w sl t q a=>⟨0,gs,w,sl,t,q,g,F,aZ,rfl,a,.refl _ _,fun _ h=>.inl h,h⟩
theorem nD (P:Program)(Φ:Goroutine->af->Prop):Closed P true (dH P Φ) where
 mono hle h aZ gs w sl t q b:=by
  obtain ⟨N,bH,w',v,z,A,g',F',B,g,C,hu,D,E⟩:=h aZ gs w sl t q ⟨b.g0,b.lv,b.eR,hle.has w b.has,fun l hs H=>b.apart l hs (hle.fF H),b.low⟩
  exact ⟨N,bH,w',v,z,A,g',F',B,g,C,hu.le hle,D,E⟩
 step {fr cs F} h aZ gs w sl t q b:=by
  obtain ⟨N,k,d,m,a3,n,t1,I,g,a4,h0,p,J,K⟩:=oV (P:=P) (a:=G fr cs) rfl _ gs w sl t q (Nat.le_refl _) b.g0 b.lv b.eR
  obtain ⟨g',w',es,F',hgo,hu,L,M,hJ⟩:=h (w.at m) (b.has.at m)
  have c:dm F F' w w':=⟨hu.os,hu.tape,hu.output,hu.size,hu.frame,hu.ro,hu.own⟩
  have O:=runT_crowd_go (P:=P) (sl:=n) (i:=0) h0 (show stepG P (0==0) (G fr cs) (w.at m)=_ from hgo)
  have Q:0<k.size:=(Array.getElem?_eq_some_iff.1 h0).1
  have r:=gk.next (P:=P) b.apart b.low c
  obtain ⟨R,S,w2,T,t2,U,V,W,X,Y,Z,ab,ad,ae⟩:=hJ aZ ((k.map (woken P (G fr cs) g' w')).setIfInBounds 0 g') w' n (t1++MemOp.ofEvents 0 (G fr cs).frame.fn (G fr cs).frame.place es) I
   {g0:=by simp[Q]
    lv:=⟨fun j x f s=>by
     have al:0≠j:=by omega
     rw[Array.getElem?_setIfInBounds_ne al,Array.getElem?_map] at s
     obtain ⟨y,ao,rfl⟩:=Option.map_eq_some_iff.1 s
     have u:=p.old j y f ao
     rw[woken_quitsD u,Deaf_other t1 (by omega) _ (fun op o=>by obtain ⟨e,_,rfl⟩:=Go.Conc.mem_ofEvents o;rfl)]
     exact u,fun j f=>by
     rw[Deaf_other t1 (g':=0) (by simp at f;omega) _ (fun op o=>by obtain ⟨e,_,rfl⟩:=Go.Conc.mem_ofEvents o;rfl)]
     exact p.above j (by simpa using f)⟩
    eR:=(J.mono c.size).own fun e he=>wJ b.has c.size b.apart b.low (M e he)
    has:=L
    apart:=r.1
    low:=r.2}
  refine ⟨N+1+R,S,w2,T,t2,U,V,W,X,?_,Z,(eA.m4 c).trans ab,fun l ar=>(ad l ar).imp id fun a0 a2=>a0 (Loc.low_mono c.size a2),ae⟩
  have:runNT P (N+1) (crowd gs w sl) t=(.next (crowd ((k.map (woken P (G fr cs) g' w')).setIfInBounds 0 g') w' n),t1++MemOp.ofEvents 0 (G fr cs).frame.fn (G fr cs).frame.place es):=by
   rw[runNT_add,g]
   simp only[runNT,K,O]
  rw[ij this]
  exact Y
def eV (P:Program)(f:FuncId)(args:Array Value)(F:af)(R:Value->af->Prop):Prop:=∀Φ,cC P (dH P Φ) f args F R
theorem xq {P:Program}{f:FuncId}{args:Array Value}{ro:Addr->Option Value}{own:List (Nat×Obj)}{R:Value->af->Prop}(h:eV P f args ⟨ro,[]⟩ R):
  eV P f args ⟨ro,own⟩ (fun v F'=>∃G,R v G/\F'=G.star ⟨ro,own⟩/\Fits ⟨ro,own⟩ G/\kI ⟨ro,own⟩ G):=by
 intro Φ c cs F aZ gs w sl t q d
 let Fr:af:=⟨ro,own⟩
 have H:gk P aZ (G (Frame.enter P f args .normal) (c::cs)) ⟨ro,[]⟩ gs w t q:=
  ⟨d.g0,d.lv,d.eR,⟨d.has.ro,fun b o hb=>(by cases hb),List.nodup_nil,fun a v j hm=>(by cases hm)⟩,fun l hs i=>d.apart l hs (by
   cases l with
   |cell a=>exact i.elim (fun x=>by cases x) .inr
   |obj r=>cases i
   |_=>exact i),d.low⟩
 obtain ⟨N,bH,w',I,s,u,g',F',A,j,g,hu,n,v,rfl,p⟩:=h (fun g' F'=>∃v,g'=G (c.finish v) cs/\R v F') c cs (fun v F' p=>dH.done ⟨v,rfl,p⟩) aZ gs w sl t q H
 have B:Has Fr w':=⟨fun a v j=>by
  have h0:=d.has.ro a v j
  have J:=d.has.fW (a:=a) (by rw[j];rfl)
  unfold World.cell? at h0 ⊢
  rw[hu.frame _ J (fun hm=>by cases hm)]
  exact h0,fun b o hb=>by
  rw[hu.frame b (d.has.lt (ep hb)) (fun hm=>by cases hm)]
  exact d.has.own b o hb,d.has.nodup,d.has.apart⟩
 have C:Fits Fr F':=⟨⟨w',g.has,B⟩,fun b hb hm=>by
  rcases hu.own b hb with x|x
  ·cases x
  ·have:=d.has.lt (b:=b) hm;omega,fun a k hm=>by
  rcases hu.own _ hm with x|x
  ·cases x
  ·have:=d.has.fW (a:=a) k;omega⟩
 have K:kI Fr F':=fun a k hm=>by
  rcases hu.ro a k with x|x|x
  ·obtain ⟨y,L⟩:=Option.isSome_iff_exists.1 x
   exact d.has.apart a y L hm
  ·cases x
  ·have:=d.has.lt (b:=a.block) hm;omega
 have M:gk P A (G (c.finish v) cs) (F'.star Fr) bH w' s u:=by
  refine ⟨g.g0,g.lv,g.eR,C.both g.has B,fun l hs i=>?_,g.low⟩
  have D:∀b,b∈keys own->(l= .obj b\/∃a,l= .cell a/\a.block=b)->False:=fun b hb m=>by
   rcases n l hs with x|x
   ·refine d.apart l x ?_
    rcases m with rfl|⟨a,rfl,e⟩
    ·exact hb
    ·exact .inl (e▸hb)
   ·refine x ?_
    have:=d.has.lt (b:=b) hb
    rcases m with rfl|⟨a,rfl,e⟩
    ·exact this
    ·show a.block<_;rw[e];exact this
  cases l with
  |cell a=>
   rcases i with x|x
   ·simp only[af.star,bY,List.mem_append] at x
    rcases x with x|x
    ·exact g.apart _ hs (.inl x)
    ·exact D _ x (.inr ⟨a,rfl,rfl⟩)
   ·rcases iP x with y|y
    ·rcases n _ hs with z|z
     ·exact d.apart _ z (.inr y)
     ·exact z (d.has.fW (a:=a) y)
    ·exact g.apart _ hs (.inr y)
  |obj r=>
   simp only[af.fF,af.star,bY,List.mem_append] at i
   rcases i with x|x
   ·exact g.apart _ hs x
   ·exact D _ x (.inl rfl)
  |_=>exact i
 obtain ⟨O,Q,w2,S,t2,T,U,V,W,X,Y,Z,ab,ad⟩:=F v (F'.star Fr) ⟨F',p,rfl,C,K⟩ A bH w' I s u M
 have ae:eA ⟨ro,own⟩ (F'.star Fr) w w':=⟨hu.os,hu.tape,hu.output,hu.size,fun b hb E=>hu.frame b hb (fun x=>by cases x),fun a k=>by
  rcases iP k with y|y
  ·exact .inl y
  ·rcases hu.ro a y with z|z|z
   ·exact .inl z
   ·cases z
   ·exact .inr (.inr z),fun b hb=>by
  simp only[af.star,bY,List.mem_append] at hb
  rcases hb with x|x
  ·rcases hu.own b x with y|y
   ·cases y
   ·exact .inr y
  ·exact .inl x⟩
 exact ⟨N+O,Q,w2,S,t2,T,U,V,W,by rw[ij j];exact X,Y,ae.trans Z,fun l m=>(ab l m).elim (n l) fun E=>.inr fun al=>E (Loc.low_mono hu.size al),ad⟩
theorem eV.go {P:Program}{f:FuncId}{fn:Func}{c:Code}{n:Nat}{rs:List ResultVar}{args:Array Value}{F:af}{R:Value->af->Prop}(k:P.funcs[f]?=some fn)(hb:fn.body=some c)(g:fn.ntmps=n)(l:fn.results=rs.toArray)(o:args.size<=n)
  (h:∀Φ,Closed P true (dH P Φ)->∀A:Act,sz A=n->A.defers=[]->(∀i,slot A i=args.getD i undef)->Wp (dH P Φ) c (gR P rs R) A F):eV P f args F R:=fun Φ=>by
 refine cC.of_wp (nD P Φ) k hb ?_
 refine (h Φ (nD P Φ) _ (by simp[sz,g];omega) rfl fun i=>?_).mono fun e a F j=>?_
 ·simp only[slot,g,Array.getD_eq_getD_getElem?]
  rcases Nat.lt_or_ge i args.size with b|b
  ·rw[Array.getElem?_append_left b]
  ·rw[Array.getElem?_append_right b,Array.getElem?_replicate,Array.getElem?_eq_none b]
   split<;>rfl
 ·cases e with
  |exit i=>exact j
  |_=>
   obtain ⟨hd,d⟩:=j
   split at d
   ·rename_i v m
    show gj P a.defers _ F
    rw[hd]
    exact pz l m d
   ·exact d.elim
def nE (P:Program)(f:FuncId)(args:Array Value)(ro:Addr->Option Value)(R:Value->(Addr->Option Value)->Prop):Prop:=
 eV P f args ⟨ro,[]⟩ (fun v G=>∃aH,Ext ro aH/\Le ⟨aH,[]⟩ G/\R v aH)
theorem Bu {P:Program}{Φ:Goroutine->af->Prop}{f:FuncId}{args:Array Value}{ro:Addr->Option Value}{own:List (Nat×Obj)}{K:Value->af->Prop}(R:Value->(Addr->Option Value)->Prop)
  (h:nE P f args ro R) (k:∀v aH,Ext ro aH->(∀b∈keys own,∀off sp,aH ⟨b,off,sp⟩=none)->R v aH->K v ⟨aH,own⟩):cC P (dH P Φ) f args ⟨ro,own⟩ K:=by
 intro c cs l
 refine xq (own:=own) h Φ c cs fun v F' m=>?_
 obtain ⟨G,⟨aH,n,hle,o⟩,rfl,e,p⟩:=m
 have i:∀a,(aH a).isSome=true->a.block∉keys own:=fun a g=>(hle.ro a g).elim (p a) (e.own _)
 refine (nD P Φ).mono (F:=⟨aH,own⟩) ⟨fun w hw=>?_,fun b hb=>?_,fun a g=>?_⟩ (l v ⟨aH,own⟩ (k v aH n (fun b hb off sp=>?_) o))
 ·have q:=hle.has w (e.right hw)
  have j:=e.left hw
  exact ⟨q.ro,j.own,j.nodup,fun a v d=>i a (by simp only at d;simp[d])⟩
 ·simp only[af.star,bY,List.mem_append];exact .inr hb
 ·rcases hle.ro a g with x|x
  ·exact (fG (.inr x)).imp id (fun z=>by simp only[af.star,bY,List.mem_append];exact .inr z)
  ·exact .inr (by simp only[af.star,bY,List.mem_append];exact .inl x)
 ·cases d:aH ⟨b,off,sp⟩ with
  |none=>rfl
  |some v=>exact absurd hb (i ⟨b,off,sp⟩ (by simp[d]))
theorem xu {P:Program}{Φ:Goroutine->af->Prop}{f:FuncId}{args:Array Value}{ro:Addr->Option Value}{own:List (Nat×Obj)}{K:Value->af->Prop}(v:Value)
  (h:eV P f args ⟨ro,[]⟩ (fun d _=>d=v)) (e:K v ⟨ro,own⟩):cC P (dH P Φ) f args ⟨ro,own⟩ K:=by
 intro c cs g
 refine xq (own:=own) h Φ c cs fun d F' i=>?_
 obtain ⟨G,rfl,rfl,j,l⟩:=i
 refine (nD P Φ).mono (F:=⟨ro,own⟩) ⟨fun w hw=>j.left hw,fun b hb=>?_,fun a k=>?_⟩ (g d ⟨ro,own⟩ e)
 ·simp only[af.star,bY,List.mem_append];exact .inr hb
 ·exact (fG (.inl k)).imp id (fun z=>by simp only[af.star,bY,List.mem_append];exact .inr z)
end Go.Sep
end
section
namespace Go.Sep
open Go Go.Conc Go.ConcM
def xw (P:Program)(R:Value->af->Prop)(g:Goroutine)(F:af):Prop:=
 ∃(fr:Frame) (fn:Func) (t:Nat) (v:Value),g=G fr []/\fr.kind= .normal/\P.inits.idxOf? fr.fn=none/\fr.mode= .returning/\fr.defers=[]/\P.funcs[fr.fn]?=some fn/\fn.results=#[.tmp t]/\fr.tmps.getD t undef=v/\R v F
def kL (P:Program)(f:FuncId)(args:Array Value)(F:af)(R:Value->af->Prop):Prop:=
 ∀Φ:Goroutine->af->Prop,(∀g F',xw P R g F'->Φ g F')->dH P Φ (G (Frame.enter P f args .normal) []) F
theorem kL.go {P:Program}{f:FuncId}{fn:Func}{c:Code}{n t:Nat}{args:Array Value}{F:af}{R:Value->af->Prop}(j:P.funcs[f]?=some fn)(hb:fn.body=some c)(k:fn.ntmps=n)(o:fn.results=[.tmp t].toArray)(u:args.size<=n)(d:P.inits.idxOf? f=none)
  (h:∀Φ,Closed P true (dH P Φ)->∀A:Act,sz A=n->A.defers=[]->(∀i,slot A i=args.getD i undef)->Wp (dH P Φ) c (gR P [.tmp t] R) A F):kL P f args F R:=by
 intro Φ p
 have hJ:=nD P Φ
 let b:Frame:={(default:Frame) with fn:=f,kind:=.normal}
 have q:Frame.enter P f args .normal=on b {tmps:=args++Array.replicate (fn.ntmps - args.size) undef,defers:=[]} [.code c]:=by
  simp[Frame.enter,on,j,hb,b]
  rfl
 rw[q]
 have l:∀(a:Act) (F':af) (fr:Frame),fr.kind= .normal->fr.mode= .returning->fr.defers=a.defers->fr.fn=f->fr.tmps=a.tmps->gR P [.tmp t] R .normal a F'->dH P Φ (G fr []) F':=by
  intro a F' fr h0 h1 h2 h3 r g
  obtain ⟨hd,s⟩:=g
  refine dH.done (p _ _ ⟨fr,fn,t,_,rfl,h0,by rw[h3];exact d,h1,by rw[h2,hd],by rw[h3];exact j,o,rfl,?_⟩)
  rw[r]
  simpa [kF,kE,nk,slot] using s
 refine h Φ hJ _ (by simp[sz,k];omega) rfl (fun i=>?_) b [] [] ⟨by simp[b],.inl rfl⟩ fun e m F' g=>?_
 ·simp only[slot,k,Array.getD_eq_getD_getElem?]
  rcases Nat.lt_or_ge i args.size with d|d
  ·rw[Array.getElem?_append_left d]
  ·rw[Array.getElem?_append_right d,Array.getElem?_replicate,Array.getElem?_eq_none d]
   split<;>rfl
 ·cases e with
  |normal=>exact hJ.move (fun _=>ko rfl) (l m F' _ rfl rfl rfl rfl rfl g)
  |exit i=>exact g.elim
  |ret=>exact fun v=>hJ.move (fun _=>stepG_ret' rfl) (l m F' _ rfl rfl rfl rfl rfl g)
theorem kL.ends {P:Program}{f:FuncId}{args:Array Value}{F:af}{R:Value->af->Prop}(h:kL P f args F R){W:World}(i:Has F W){a:Value->World->Prop}
  (j:∀v F' w',R v F'->eA F F' W w'->a v w'):
  ∃M last o w' b,runNT P (M+1) (solo (G (Frame.enter P f args .normal) []) W) #[]=(.ended o w',b)/\runN P M (solo (G (Frame.enter P f args .normal) []) W)= .next last/\step P last= .ended o w'/\Go.Conc.Good P a last o w' b:=by
 obtain ⟨N,bH,w',k,b,z,g',F',l,g,c,hu,_,fr,fn,t,v,rfl,m,n,h1,h2,h3,p,q,r⟩:=h (xw P R) (fun _ _ x=>x) (fun _=>False) #[G (Frame.enter P f args .normal) []] W none #[] (fun _=>0)
  ⟨rfl,leavers_one P _,past_nil.mono (Nat.zero_le _),i,fun _ x=>x.elim,fun _ x=>x.elim⟩
 have hg:Goes P true AtRel (fun _ _ _=>False) (AtEnd P l w'.heap.size a) 0 (G fr []) w':=by
  refine Goes.stop fun A ⟨d,hd⟩=>?_
  subst hd
  refine ⟨rfl,v,seen P fr.fn #[],?_,fun e he=>?_,j v F' _ r ⟨hu.os,hu.tape,hu.output,hu.size,hu.frame,hu.ro,hu.own⟩⟩
  ·have s:fr.tmps[t]?.getD undef=v:=by rw[<-q,Array.getD_eq_getD_getElem?]
   simp[G,stepG,unwind,h1,h2,h3,results,p,s,doReturn,GStep.after,Sem.runT,m,n]
  ·exact absurd (mem_seen he) (by simp)
 obtain ⟨u,last,o,w2,t2,e1,e2,w,y⟩:=beside_ends (sl:=k) (fun _ _ _ x=>x.elim) c.g0 c.lv c.eR hg
 refine ⟨N+u,last,o,w2,t2,?_,?_,w,y⟩
 ·rw[solo_eq_crowd,Nat.add_assoc,ij g,e1]
 ·rw[solo_eq_crowd,runN_add]
  have:=runNT_fst P N (crowd #[G (Frame.enter P f args .normal) []] W none) #[]
  rw[g] at this
  rw[<-this]
  exact e2
end Go.Sep
end
section
namespace Go.Proofs.YtipgiooobncfbaaGreatDoor
open Go Go.Sep Go.Proofs
set_option maxRecDepth 100000
theorem mixed:Tryz.prog.follows .mixedOrders=true:=by kernel_rfl
@[go_sem] theorem Hw:cm Tryz.prog 3=some false:=by kernel_rfl
@[go_sem] theorem jG:bQ Tryz.prog 3=some 1:=by kernel_rfl
theorem jH:bytesOf Tryz.prog 3=some 8:=by kernel_rfl
@[go_sem] theorem jI:zeroOf Tryz.prog 3=some (.int .i64 0):=by kernel_rfl
@[go_sem] theorem Hx:cm Tryz.prog 4=some false:=by kernel_rfl
@[go_sem] theorem xx:bQ Tryz.prog 4=some 1:=by kernel_rfl
@[go_sem] theorem Bv:zeroOf Tryz.prog 4=some (.bool false):=by kernel_rfl
@[go_sem] theorem Hy:r5 Tryz.prog 4=true:=by kernel_rfl
@[go_sem] theorem Hz:cm Tryz.prog 23=some true:=by kernel_rfl
@[go_sem] theorem Bw:bQ Tryz.prog 23=some 2:=by kernel_rfl
theorem Bx:bytesOf Tryz.prog 23=some 16:=by kernel_rfl
@[go_sem] theorem sC:zeroOf Tryz.prog 23=some (.agg #[.int .i64 0,.int .i64 0]):=by kernel_rfl
@[go_sem] theorem HA:lM Tryz.prog 23=some [true,true]:=by kernel_rfl
@[go_sem] theorem HB:cx Tryz.prog 23 0=some 0:=by kernel_rfl
@[go_sem] theorem HC:cx Tryz.prog 23 1=some 1:=by kernel_rfl
@[go_sem] theorem HD:placesOf Tryz.prog 23=some [(0,1),(1,1)]:=by kernel_rfl
@[go_sem] theorem HE:cm Tryz.prog 24=some false:=by kernel_rfl
@[go_sem] theorem HF:bQ Tryz.prog 24=some 1:=by kernel_rfl
@[go_sem] theorem HG:iS Tryz.prog 24=true:=by kernel_rfl
@[go_sem] theorem xy:cL Tryz.prog 24=some 132:=by kernel_rfl
@[go_sem] theorem HH:cm Tryz.prog 25=some false:=by kernel_rfl
@[go_sem] theorem HI:bQ Tryz.prog 25=some 1:=by kernel_rfl
@[go_sem] theorem HJ:iS Tryz.prog 25=true:=by kernel_rfl
@[go_sem] theorem jJ:cL Tryz.prog 25=some 146:=by kernel_rfl
@[go_sem] theorem HK:cm Tryz.prog 26=some false:=by kernel_rfl
@[go_sem] theorem HL:bQ Tryz.prog 26=some 1:=by kernel_rfl
@[go_sem] theorem HM:iS Tryz.prog 26=true:=by kernel_rfl
@[go_sem] theorem xz:cL Tryz.prog 26=some 148:=by kernel_rfl
@[go_sem] theorem HN:cm Tryz.prog 27=some false:=by kernel_rfl
@[go_sem] theorem HO:bQ Tryz.prog 27=some 1:=by kernel_rfl
@[go_sem] theorem HP:iS Tryz.prog 27=true:=by kernel_rfl
@[go_sem] theorem dR:cL Tryz.prog 27=some 54:=by kernel_rfl
@[go_sem] theorem HQ:cm Tryz.prog 29=some true:=by kernel_rfl
@[go_sem] theorem HR:bQ Tryz.prog 29=some 8:=by kernel_rfl
@[go_sem] theorem HS:zeroOf Tryz.prog 29=some (.agg #[.int .i64 0,.int .i64 0,.int .i64 0,.int .i64 0,.slice none 0 0,.slice none 0 0,.slice none 0 0,.slice none 0 0]):=by kernel_rfl
@[go_sem] theorem HT:cx Tryz.prog 29 0=some 0:=by kernel_rfl
@[go_sem] theorem HU:cx Tryz.prog 29 1=some 1:=by kernel_rfl
@[go_sem] theorem HV:cx Tryz.prog 29 2=some 2:=by kernel_rfl
@[go_sem] theorem HW:cx Tryz.prog 29 3=some 4:=by kernel_rfl
@[go_sem] theorem HX:cx Tryz.prog 29 4=some 5:=by kernel_rfl
@[go_sem] theorem HY:cx Tryz.prog 29 5=some 6:=by kernel_rfl
@[go_sem] theorem HZ:cx Tryz.prog 29 6=some 7:=by kernel_rfl
@[go_sem] theorem H6:placesOf Tryz.prog 29=some [(0,1),(1,1),(2,2),(4,1),(5,1),(6,1),(7,1)]:=by kernel_rfl
@[go_sem] theorem H7:cm Tryz.prog 31=some true:=by kernel_rfl
@[go_sem] theorem H8:bQ Tryz.prog 31=some 2:=by kernel_rfl
@[go_sem] theorem H9:zeroOf Tryz.prog 31=some (.agg #[.int .i64 0,.int .i64 0]):=by kernel_rfl
@[go_sem] theorem Ia:cx Tryz.prog 31 0=some 0:=by kernel_rfl
@[go_sem] theorem Ib:cx Tryz.prog 31 1=some 1:=by kernel_rfl
@[go_sem] theorem Ic:placesOf Tryz.prog 31=some [(0,1),(1,1)]:=by kernel_rfl
@[go_sem] theorem Ie:cm Tryz.prog 46=some false:=by kernel_rfl
@[go_sem] theorem pI:bQ Tryz.prog 46=some 1:=by kernel_rfl
theorem pJ:bytesOf Tryz.prog 46=some 24:=by kernel_rfl
@[go_sem] theorem pK:zeroOf Tryz.prog 46=some (.slice none 0 0):=by kernel_rfl
@[go_sem] theorem Ig:iS Tryz.prog 46=true:=by kernel_rfl
@[go_sem] theorem e6:cL Tryz.prog 46=some 3:=by kernel_rfl
@[go_sem] theorem Ih:cm Tryz.prog 54=some true:=by kernel_rfl
@[go_sem] theorem gr:bQ Tryz.prog 54=some 2:=by kernel_rfl
theorem gu:bytesOf Tryz.prog 54=some 16:=by kernel_rfl
@[go_sem] theorem gv:zeroOf Tryz.prog 54=some (.agg #[.int .i64 0,.bool false]):=by kernel_rfl
@[go_sem] theorem Ii:cx Tryz.prog 54 0=some 0:=by kernel_rfl
@[go_sem] theorem Ij:cx Tryz.prog 54 1=some 1:=by kernel_rfl
@[go_sem] theorem Ik:placesOf Tryz.prog 54=some [(0,1),(1,1)]:=by kernel_rfl
@[go_sem] theorem Il:cm Tryz.prog 56=some true:=by kernel_rfl
@[go_sem] theorem Im:bQ Tryz.prog 56=some 2:=by kernel_rfl
@[go_sem] theorem Io:zeroOf Tryz.prog 56=some (.agg #[.int .i64 0,.int .i64 0]):=by kernel_rfl
@[go_sem] theorem Ip:cx Tryz.prog 56 0=some 0:=by kernel_rfl
@[go_sem] theorem Iq:cx Tryz.prog 56 1=some 1:=by kernel_rfl
@[go_sem] theorem Ir:placesOf Tryz.prog 56=some [(0,1),(1,1)]:=by kernel_rfl
@[go_sem] theorem It:cm Tryz.prog 83=some true:=by kernel_rfl
@[go_sem] theorem Iu:bQ Tryz.prog 83=some 8:=by kernel_rfl
@[go_sem] theorem Iv:zeroOf Tryz.prog 83=some (.agg #[.int .i64 0,.int .i64 0,.int .i64 0,.int .i64 0,.slice none 0 0,.slice none 0 0,.slice none 0 0,.slice none 0 0]):=by kernel_rfl
@[go_sem] theorem Iw:cx Tryz.prog 83 0=some 0:=by kernel_rfl
@[go_sem] theorem Ix:placesOf Tryz.prog 83=some [(0,8)]:=by kernel_rfl
@[go_sem] theorem Iy:cm Tryz.prog 86=some false:=by kernel_rfl
@[go_sem] theorem Iz:bQ Tryz.prog 86=some 1:=by kernel_rfl
@[go_sem] theorem IA:zeroOf Tryz.prog 86=some .nilFunc:=by kernel_rfl
@[go_sem] theorem IB:cm Tryz.prog 90=some true:=by kernel_rfl
@[go_sem] theorem By:bQ Tryz.prog 90=some 2:=by kernel_rfl
theorem Bz:bytesOf Tryz.prog 90=some 16:=by kernel_rfl
@[go_sem] theorem BA:zeroOf Tryz.prog 90=some (.agg #[.int .i64 0,.int .i64 0]):=by kernel_rfl
@[go_sem] theorem IC:lM Tryz.prog 90=some [true,true]:=by kernel_rfl
@[go_sem] theorem ID:cx Tryz.prog 90 0=some 0:=by kernel_rfl
@[go_sem] theorem IE:cx Tryz.prog 90 1=some 1:=by kernel_rfl
@[go_sem] theorem IF:placesOf Tryz.prog 90=some [(0,1),(1,1)]:=by kernel_rfl
@[go_sem] theorem IG:cm Tryz.prog 92=some true:=by kernel_rfl
@[go_sem] theorem II:bQ Tryz.prog 92=some 3:=by kernel_rfl
@[go_sem] theorem IJ:zeroOf Tryz.prog 92=some (.agg #[.int .i64 0,.int .i64 0,.int .i64 0]):=by kernel_rfl
@[go_sem] theorem IK:lM Tryz.prog 92=some [true,true,true]:=by kernel_rfl
@[go_sem] theorem IL:cx Tryz.prog 92 0=some 0:=by kernel_rfl
@[go_sem] theorem IM:cx Tryz.prog 92 1=some 1:=by kernel_rfl
@[go_sem] theorem IN:placesOf Tryz.prog 92=some [(0,1),(1,2)]:=by kernel_rfl
@[go_sem] theorem IP:cm Tryz.prog 94=some true:=by kernel_rfl
@[go_sem] theorem sD:bQ Tryz.prog 94=some 6:=by kernel_rfl
theorem sE:bytesOf Tryz.prog 94=some 48:=by kernel_rfl
@[go_sem] theorem sF:zeroOf Tryz.prog 94=some (.agg #[.int .i64 0,.int .i64 0,.int .i64 0,.int .i64 0,.int .i64 0,.int .i64 0]):=by kernel_rfl
@[go_sem] theorem IQ:cx Tryz.prog 94 0=some 0:=by kernel_rfl
@[go_sem] theorem IS:cx Tryz.prog 94 1=some 3:=by kernel_rfl
@[go_sem] theorem IT:cx Tryz.prog 94 2=some 4:=by kernel_rfl
@[go_sem] theorem IU:rV Tryz.prog 94 2=some (4,2,true):=by kernel_rfl
@[go_sem] theorem IV:placesOf Tryz.prog 94=some [(0,3),(3,1),(4,2)]:=by kernel_rfl
@[go_sem] theorem IW:cm Tryz.prog 99=some true:=by kernel_rfl
@[go_sem] theorem IX:bQ Tryz.prog 99=some 5:=by kernel_rfl
@[go_sem] theorem IY:lI Tryz.prog 99=some (5,86):=by kernel_rfl
@[go_sem] theorem lR:cL Tryz.prog 103=some 94:=by kernel_rfl
@[go_sem] theorem IZ:cm Tryz.prog 111=some false:=by kernel_rfl
@[go_sem] theorem I0:bQ Tryz.prog 111=some 1:=by kernel_rfl
@[go_sem] theorem xA:cL Tryz.prog 111=some 141:=by kernel_rfl
@[go_sem] theorem I1:cm Tryz.prog 113=some true:=by kernel_rfl
@[go_sem] theorem I2:bQ Tryz.prog 113=some 9:=by kernel_rfl
@[go_sem] theorem I3:zeroOf Tryz.prog 113=some (.agg #[.int .i64 0,.int .i64 0,.int .i64 0,.int .i64 0,.slice none 0 0,.slice none 0 0,.slice none 0 0,.slice none 0 0,.slice none 0 0]):=by kernel_rfl
@[go_sem] theorem I4:cx Tryz.prog 113 0=some 0:=by kernel_rfl
@[go_sem] theorem I5:cx Tryz.prog 113 1=some 8:=by kernel_rfl
@[go_sem] theorem I6:placesOf Tryz.prog 113=some [(0,8),(8,1)]:=by kernel_rfl
@[go_sem] theorem I7:cm Tryz.prog 116=some false:=by kernel_rfl
@[go_sem] theorem I8:bQ Tryz.prog 116=some 1:=by kernel_rfl
@[go_sem] theorem I9:zeroOf Tryz.prog 116=some (.slice none 0 0):=by kernel_rfl
@[go_sem] theorem xB:cL Tryz.prog 116=some 90:=by kernel_rfl
@[go_sem] theorem jK:cL Tryz.prog 120=some 46:=by kernel_rfl
@[go_sem] theorem Ja:cm Tryz.prog 132=some true:=by kernel_rfl
@[go_sem] theorem BB:bQ Tryz.prog 132=some 2:=by kernel_rfl
theorem BC:bytesOf Tryz.prog 132=some 16:=by kernel_rfl
@[go_sem] theorem sG:zeroOf Tryz.prog 132=some (.agg #[.int .i64 0,.int .i64 0]):=by kernel_rfl
@[go_sem] theorem Jb:cx Tryz.prog 132 0=some 0:=by kernel_rfl
@[go_sem] theorem Jc:cx Tryz.prog 132 1=some 1:=by kernel_rfl
@[go_sem] theorem Jd:placesOf Tryz.prog 132=some [(0,1),(1,1)]:=by kernel_rfl
@[go_sem] theorem Je:cm Tryz.prog 141=some true:=by kernel_rfl
@[go_sem] theorem BD:bQ Tryz.prog 141=some 3:=by kernel_rfl
theorem BE:bytesOf Tryz.prog 141=some 24:=by kernel_rfl
@[go_sem] theorem BG:zeroOf Tryz.prog 141=some (.agg #[.int .i64 0,.int .i64 0,.int .i64 0]):=by kernel_rfl
@[go_sem] theorem Jf:lI Tryz.prog 141=some (3,3):=by kernel_rfl
@[go_sem] theorem Jg:cm Tryz.prog 146=some true:=by kernel_rfl
@[go_sem] theorem pL:bQ Tryz.prog 146=some 2:=by kernel_rfl
theorem pM:bytesOf Tryz.prog 146=some 16:=by kernel_rfl
@[go_sem] theorem pN:zeroOf Tryz.prog 146=some (.agg #[.int .i64 0,.int .i64 0]):=by kernel_rfl
@[go_sem] theorem Jh:cx Tryz.prog 146 0=some 0:=by kernel_rfl
@[go_sem] theorem Ji:cx Tryz.prog 146 1=some 1:=by kernel_rfl
@[go_sem] theorem Jj:placesOf Tryz.prog 146=some [(0,1),(1,1)]:=by kernel_rfl
@[go_sem] theorem Jk:cm Tryz.prog 148=some true:=by kernel_rfl
@[go_sem] theorem BH:bQ Tryz.prog 148=some 3:=by kernel_rfl
theorem BI:bytesOf Tryz.prog 148=some 24:=by kernel_rfl
@[go_sem] theorem BJ:zeroOf Tryz.prog 148=some (.agg #[.int .i64 0,.int .i64 0,.int .i64 0]):=by kernel_rfl
@[go_sem] theorem Jl:cx Tryz.prog 148 0=some 0:=by kernel_rfl
@[go_sem] theorem Jm:cx Tryz.prog 148 1=some 1:=by kernel_rfl
@[go_sem] theorem Jn:placesOf Tryz.prog 148=some [(0,1),(1,2)]:=by kernel_rfl
@[go_sem] theorem Jo:cm Tryz.prog 154=some false:=by kernel_rfl
@[go_sem] theorem Jp:bQ Tryz.prog 154=some 1:=by kernel_rfl
@[go_sem] theorem Jq:zeroOf Tryz.prog 154=some (.map none):=by kernel_rfl
@[go_sem] theorem xC:cL Tryz.prog 156=some 23:=by kernel_rfl
@[go_sem] theorem Jr:cm Tryz.prog 159=some false:=by kernel_rfl
@[go_sem] theorem Js:cL Tryz.prog 160=some 86:=by kernel_rfl
@[go_sem] theorem Jt:cm Tryz.prog 161=some false:=by kernel_rfl
@[go_sem] theorem Ju:bQ Tryz.prog 161=some 1:=by kernel_rfl
@[go_sem] theorem Jv:zeroOf Tryz.prog 161=some .nilFunc:=by kernel_rfl
@[go_sem] theorem Jw:cm Tryz.prog 168=some false:=by kernel_rfl
@[go_sem] theorem Jx:bQ Tryz.prog 168=some 1:=by kernel_rfl
@[go_sem] theorem Jy:zeroOf Tryz.prog 168=some (.slice none 0 0):=by kernel_rfl
@[go_sem] theorem Jz:cL Tryz.prog 168=some 4:=by kernel_rfl
@[go_sem] theorem JA:cx Tryz.prog 173 0=some 0:=by kernel_rfl
@[go_sem] theorem JB:cx Tryz.prog 173 1=some 1:=by kernel_rfl
@[go_sem] theorem JC:zeroOf Tryz.prog 175=some (.agg #[.int .i32 0,.int .u32 0]):=by kernel_rfl
@[go_sem] theorem JD:cx Tryz.prog 175 1=some 0:=by kernel_rfl
@[go_sem] theorem JE:cx Tryz.prog 180 2=some 0:=by kernel_rfl
@[go_sem] theorem JG:zeroOf Tryz.prog 182=some (.agg #[.int .u64 0,.int .u32 0]):=by kernel_rfl
@[go_sem] theorem JH:cx Tryz.prog 182 1=some 0:=by kernel_rfl
@[go_sem] theorem JI:cx Tryz.prog 182 2=some 1:=by kernel_rfl
@[go_sem] theorem JJ:aD Tryz.prog 2=true:=by kernel_rfl
@[go_sem] theorem JK:aD Tryz.prog 3=true:=by kernel_rfl
@[go_sem] theorem JL:aD Tryz.prog 4=true:=by kernel_rfl
@[go_sem] theorem JM:aD Tryz.prog 5=true:=by kernel_rfl
@[go_sem] theorem JN:aD Tryz.prog 6=true:=by kernel_rfl
@[go_sem] theorem JO:aD Tryz.prog 7=true:=by kernel_rfl
@[go_sem] theorem JP:aD Tryz.prog 8=true:=by kernel_rfl
@[go_sem] theorem JQ:aD Tryz.prog 9=true:=by kernel_rfl
@[go_sem] theorem JR:aD Tryz.prog 10=true:=by kernel_rfl
@[go_sem] theorem JS:aD Tryz.prog 11=true:=by kernel_rfl
@[go_sem] theorem JU:aD Tryz.prog 12=true:=by kernel_rfl
@[go_sem] theorem JV:aD Tryz.prog 13=true:=by kernel_rfl
@[go_sem] theorem JW:aD Tryz.prog 14=true:=by kernel_rfl
@[go_sem] theorem JX:aD Tryz.prog 15=true:=by kernel_rfl
@[go_sem] theorem JY:aD Tryz.prog 16=true:=by kernel_rfl
@[go_sem] theorem JZ:aD Tryz.prog 17=true:=by kernel_rfl
@[go_sem] theorem J0:aD Tryz.prog 18=true:=by kernel_rfl
@[go_sem] theorem J1:aD Tryz.prog 19=true:=by kernel_rfl
@[go_sem] theorem J2:aD Tryz.prog 20=true:=by kernel_rfl
@[go_sem] theorem J3:aD Tryz.prog 21=true:=by kernel_rfl
@[go_sem] theorem J4:aD Tryz.prog 22=true:=by kernel_rfl
@[go_sem] theorem J5:aD Tryz.prog 23=true:=by kernel_rfl
@[go_sem] theorem J6:aD Tryz.prog 24=true:=by kernel_rfl
@[go_sem] theorem J7:aD Tryz.prog 25=true:=by kernel_rfl
@[go_sem] theorem J8:aD Tryz.prog 26=true:=by kernel_rfl
@[go_sem] theorem J9:aD Tryz.prog 27=true:=by kernel_rfl
@[go_sem] theorem Ka:aD Tryz.prog 28=true:=by kernel_rfl
@[go_sem] theorem Kb:aD Tryz.prog 29=true:=by kernel_rfl
@[go_sem] theorem Kc:aD Tryz.prog 30=true:=by kernel_rfl
@[go_sem] theorem Ke:aD Tryz.prog 31=true:=by kernel_rfl
@[go_sem] theorem Kf:aD Tryz.prog 32=true:=by kernel_rfl
@[go_sem] theorem Kg:aD Tryz.prog 33=true:=by kernel_rfl
@[go_sem] theorem Kh:aD Tryz.prog 34=true:=by kernel_rfl
@[go_sem] theorem Ki:aD Tryz.prog 35=true:=by kernel_rfl
@[go_sem] theorem Kj:aD Tryz.prog 36=true:=by kernel_rfl
@[go_sem] theorem Kk:aD Tryz.prog 37=true:=by kernel_rfl
@[go_sem] theorem Kl:aD Tryz.prog 38=true:=by kernel_rfl
@[go_sem] theorem Km:aD Tryz.prog 39=true:=by kernel_rfl
@[go_sem] theorem Kn:aD Tryz.prog 40=true:=by kernel_rfl
@[go_sem] theorem Ko:aD Tryz.prog 41=true:=by kernel_rfl
@[go_sem] theorem Kp:aD Tryz.prog 42=true:=by kernel_rfl
@[go_sem] theorem Kq:aD Tryz.prog 43=true:=by kernel_rfl
@[go_sem] theorem Kr:aD Tryz.prog 44=true:=by kernel_rfl
@[go_sem] theorem Ks:aD Tryz.prog 45=true:=by kernel_rfl
@[go_sem] theorem Kt:aD Tryz.prog 46=true:=by kernel_rfl
@[go_sem] theorem Ku:aD Tryz.prog 47=true:=by kernel_rfl
@[go_sem] theorem Kv:aD Tryz.prog 48=true:=by kernel_rfl
@[go_sem] theorem Kw:aD Tryz.prog 49=true:=by kernel_rfl
@[go_sem] theorem Kx:aD Tryz.prog 50=true:=by kernel_rfl
@[go_sem] theorem Ky:aD Tryz.prog 51=true:=by kernel_rfl
@[go_sem] theorem Kz:aD Tryz.prog 52=true:=by kernel_rfl
@[go_sem] theorem KA:aD Tryz.prog 53=true:=by kernel_rfl
@[go_sem] theorem KB:aD Tryz.prog 54=true:=by kernel_rfl
@[go_sem] theorem KC:aD Tryz.prog 55=true:=by kernel_rfl
@[go_sem] theorem KD:aD Tryz.prog 56=true:=by kernel_rfl
@[go_sem] theorem KE:aD Tryz.prog 57=true:=by kernel_rfl
@[go_sem] theorem KF:aD Tryz.prog 58=true:=by kernel_rfl
@[go_sem] theorem KG:aD Tryz.prog 59=true:=by kernel_rfl
@[go_sem] theorem KH:aD Tryz.prog 60=true:=by kernel_rfl
@[go_sem] theorem KI:aD Tryz.prog 61=true:=by kernel_rfl
@[go_sem] theorem KJ:aD Tryz.prog 62=true:=by kernel_rfl
@[go_sem] theorem KL:aD Tryz.prog 63=true:=by kernel_rfl
@[go_sem] theorem KM:aD Tryz.prog 64=true:=by kernel_rfl
@[go_sem] theorem KN:aD Tryz.prog 65=true:=by kernel_rfl
@[go_sem] theorem KO:aD Tryz.prog 66=true:=by kernel_rfl
@[go_sem] theorem KP:aD Tryz.prog 67=true:=by kernel_rfl
@[go_sem] theorem KQ:aD Tryz.prog 68=true:=by kernel_rfl
@[go_sem] theorem KR:aD Tryz.prog 69=true:=by kernel_rfl
@[go_sem] theorem KS:aD Tryz.prog 70=true:=by kernel_rfl
@[go_sem] theorem KT:aD Tryz.prog 71=true:=by kernel_rfl
@[go_sem] theorem KU:aD Tryz.prog 72=true:=by kernel_rfl
@[go_sem] theorem KV:aD Tryz.prog 73=true:=by kernel_rfl
@[go_sem] theorem KW:aD Tryz.prog 74=true:=by kernel_rfl
@[go_sem] theorem KX:aD Tryz.prog 75=true:=by kernel_rfl
@[go_sem] theorem KY:aD Tryz.prog 76=true:=by kernel_rfl
@[go_sem] theorem KZ:aD Tryz.prog 77=true:=by kernel_rfl
@[go_sem] theorem K0:aD Tryz.prog 78=true:=by kernel_rfl
@[go_sem] theorem K1:aD Tryz.prog 79=true:=by kernel_rfl
@[go_sem] theorem K2:aD Tryz.prog 80=true:=by kernel_rfl
@[go_sem] theorem K3:aD Tryz.prog 81=true:=by kernel_rfl
@[go_sem] theorem K4:aD Tryz.prog 82=true:=by kernel_rfl
@[go_sem] theorem K5:aD Tryz.prog 83=true:=by kernel_rfl
@[go_sem] theorem K6:aD Tryz.prog 84=true:=by kernel_rfl
@[go_sem] theorem K7:aD Tryz.prog 85=true:=by kernel_rfl
@[go_sem] theorem K8:aD Tryz.prog 86=true:=by kernel_rfl
@[go_sem] theorem K9:aD Tryz.prog 87=true:=by kernel_rfl
@[go_sem] theorem La:aD Tryz.prog 88=true:=by kernel_rfl
@[go_sem] theorem Lb:aD Tryz.prog 89=true:=by kernel_rfl
@[go_sem] theorem Lc:aD Tryz.prog 90=true:=by kernel_rfl
@[go_sem] theorem Ld:aD Tryz.prog 91=true:=by kernel_rfl
@[go_sem] theorem Lf:aD Tryz.prog 92=true:=by kernel_rfl
@[go_sem] theorem Lg:aD Tryz.prog 93=true:=by kernel_rfl
@[go_sem] theorem Lh:aD Tryz.prog 94=true:=by kernel_rfl
@[go_sem] theorem Li:aD Tryz.prog 95=true:=by kernel_rfl
@[go_sem] theorem Lj:aD Tryz.prog 96=true:=by kernel_rfl
@[go_sem] theorem Ll:aD Tryz.prog 97=true:=by kernel_rfl
@[go_sem] theorem Lm:aD Tryz.prog 98=true:=by kernel_rfl
@[go_sem] theorem Ln:aD Tryz.prog 99=true:=by kernel_rfl
@[go_sem] theorem Lo:aD Tryz.prog 100=true:=by kernel_rfl
@[go_sem] theorem Lp:aD Tryz.prog 101=true:=by kernel_rfl
@[go_sem] theorem Lq:aD Tryz.prog 102=true:=by kernel_rfl
@[go_sem] theorem Lr:aD Tryz.prog 103=true:=by kernel_rfl
@[go_sem] theorem Ls:aD Tryz.prog 104=true:=by kernel_rfl
@[go_sem] theorem Lt:aD Tryz.prog 105=true:=by kernel_rfl
@[go_sem] theorem Lu:aD Tryz.prog 106=true:=by kernel_rfl
@[go_sem] theorem Lv:aD Tryz.prog 107=true:=by kernel_rfl
@[go_sem] theorem Lx:aD Tryz.prog 108=true:=by kernel_rfl
@[go_sem] theorem Ly:aD Tryz.prog 109=true:=by kernel_rfl
@[go_sem] theorem Lz:aD Tryz.prog 110=true:=by kernel_rfl
@[go_sem] theorem LA:aD Tryz.prog 111=true:=by kernel_rfl
@[go_sem] theorem LB:aD Tryz.prog 112=true:=by kernel_rfl
@[go_sem] theorem LC:aD Tryz.prog 113=true:=by kernel_rfl
@[go_sem] theorem LD:aD Tryz.prog 114=true:=by kernel_rfl
@[go_sem] theorem LF:aD Tryz.prog 115=true:=by kernel_rfl
@[go_sem] theorem LG:aD Tryz.prog 116=true:=by kernel_rfl
@[go_sem] theorem LH:aD Tryz.prog 117=true:=by kernel_rfl
@[go_sem] theorem LI:aD Tryz.prog 118=true:=by kernel_rfl
@[go_sem] theorem LJ:aD Tryz.prog 119=true:=by kernel_rfl
@[go_sem] theorem LK:aD Tryz.prog 120=true:=by kernel_rfl
@[go_sem] theorem LL:aD Tryz.prog 121=true:=by kernel_rfl
@[go_sem] theorem LM:aD Tryz.prog 122=true:=by kernel_rfl
@[go_sem] theorem LN:aD Tryz.prog 123=true:=by kernel_rfl
@[go_sem] theorem LO:aD Tryz.prog 124=true:=by kernel_rfl
@[go_sem] theorem LP:aD Tryz.prog 125=true:=by kernel_rfl
@[go_sem] theorem LQ:aD Tryz.prog 126=true:=by kernel_rfl
@[go_sem] theorem LR:aD Tryz.prog 127=true:=by kernel_rfl
@[go_sem] theorem LS:aD Tryz.prog 128=true:=by kernel_rfl
@[go_sem] theorem xD:aD Tryz.prog 129=true:=by kernel_rfl
@[go_sem] theorem LU:aD Tryz.prog 130=true:=by kernel_rfl
@[go_sem] theorem LV:aD Tryz.prog 131=true:=by kernel_rfl
@[go_sem] theorem LW:aD Tryz.prog 132=true:=by kernel_rfl
@[go_sem] theorem LX:aD Tryz.prog 133=true:=by kernel_rfl
@[go_sem] theorem BK:aD Tryz.prog 134=true:=by kernel_rfl
@[go_sem] theorem BL:aD Tryz.prog 135=true:=by kernel_rfl
@[go_sem] theorem BM:aD Tryz.prog 136=true:=by kernel_rfl
@[go_sem] theorem LY:aD Tryz.prog 137=true:=by kernel_rfl
@[go_sem] theorem LZ:aD Tryz.prog 138=true:=by kernel_rfl
@[go_sem] theorem L0:aD Tryz.prog 139=true:=by kernel_rfl
@[go_sem] theorem L1:aD Tryz.prog 140=true:=by kernel_rfl
@[go_sem] theorem L2:aD Tryz.prog 141=true:=by kernel_rfl
@[go_sem] theorem L3:aD Tryz.prog 142=true:=by kernel_rfl
@[go_sem] theorem L4:aD Tryz.prog 143=true:=by kernel_rfl
@[go_sem] theorem L5:aD Tryz.prog 144=true:=by kernel_rfl
@[go_sem] theorem L6:aD Tryz.prog 145=true:=by kernel_rfl
@[go_sem] theorem L7:aD Tryz.prog 146=true:=by kernel_rfl
@[go_sem] theorem L8:aD Tryz.prog 147=true:=by kernel_rfl
@[go_sem] theorem L9:aD Tryz.prog 148=true:=by kernel_rfl
@[go_sem] theorem Ma:aD Tryz.prog 149=true:=by kernel_rfl
@[go_sem] theorem Mb:aD Tryz.prog 150=true:=by kernel_rfl
@[go_sem] theorem Mc:aD Tryz.prog 157=true:=by kernel_rfl
@[go_sem] theorem xE:aD Tryz.prog 158=true:=by kernel_rfl
@[go_sem] theorem sH:aD Tryz.prog 160=true:=by kernel_rfl
@[go_sem] theorem BN:aD Tryz.prog 161=true:=by kernel_rfl
@[go_sem] theorem Md:aD Tryz.prog 164=true:=by kernel_rfl
@[go_sem] theorem BO:aD Tryz.prog 165=true:=by kernel_rfl
@[go_sem] theorem BP:aD Tryz.prog 166=true:=by kernel_rfl
@[go_sem] theorem BQ:aD Tryz.prog 169=true:=by kernel_rfl
@[go_sem] theorem Me:aD Tryz.prog 172=true:=by kernel_rfl
@[go_sem] theorem Mf:aD Tryz.prog 173=true:=by kernel_rfl
@[go_sem] theorem Mg:aD Tryz.prog 174=true:=by kernel_rfl
@[go_sem] theorem Mh:aD Tryz.prog 175=true:=by kernel_rfl
@[go_sem] theorem Mi:aD Tryz.prog 176=true:=by kernel_rfl
@[go_sem] theorem Mj:aD Tryz.prog 181=true:=by kernel_rfl
@[go_sem] theorem BR:aD Tryz.prog 183=true:=by kernel_rfl
@[go_sem] theorem BS:aD Tryz.prog 185=true:=by kernel_rfl
@[go_sem] theorem Mk:aD Tryz.prog 187=true:=by kernel_rfl
@[go_sem] theorem Ml:aD Tryz.prog 188=true:=by kernel_rfl
@[go_sem] theorem Mm:aD Tryz.prog 189=true:=by kernel_rfl
@[go_sem] theorem Mn:aD Tryz.prog 190=true:=by kernel_rfl
@[go_sem] theorem Mo:aD Tryz.prog 191=true:=by kernel_rfl
@[go_sem] theorem Mq:aD Tryz.prog 192=true:=by kernel_rfl
@[go_sem] theorem Mr:aD Tryz.prog 193=true:=by kernel_rfl
@[go_sem] theorem Ms:aD Tryz.prog 194=true:=by kernel_rfl
@[go_sem] theorem Mt:aD Tryz.prog 195=true:=by kernel_rfl
@[go_sem] theorem Mv:aD Tryz.prog 196=true:=by kernel_rfl
@[go_sem] theorem Mw:aD Tryz.prog 197=true:=by kernel_rfl
@[go_sem] theorem Mx:aD Tryz.prog 198=true:=by kernel_rfl
@[go_sem] theorem My:aD Tryz.prog 206=true:=by kernel_rfl
@[go_sem] theorem Mz:aD Tryz.prog 207=true:=by kernel_rfl
@[go_sem] theorem MA:aD Tryz.prog 208=true:=by kernel_rfl
@[go_sem] theorem MB:aD Tryz.prog 209=true:=by kernel_rfl
@[go_sem] theorem MC:aD Tryz.prog 210=true:=by kernel_rfl
@[go_sem] theorem MD:aD Tryz.prog 211=true:=by kernel_rfl
@[go_sem] theorem ME:aD Tryz.prog 228=true:=by kernel_rfl
@[go_sem] theorem MF:aD Tryz.prog 229=true:=by kernel_rfl
@[go_sem] theorem MG:aD Tryz.prog 230=true:=by kernel_rfl
@[go_sem] theorem MH:aD Tryz.prog 231=true:=by kernel_rfl
@[go_sem] theorem MI:aD Tryz.prog 232=true:=by kernel_rfl
@[go_sem] theorem MJ:aD Tryz.prog 236=true:=by kernel_rfl
end Go.Proofs.YtipgiooobncfbaaGreatDoor
end
section
namespace Go.Sep
open Go Go.Conc
def iW (o:Oper):Option (TypeId×Nat):=match o.op,o.dst,o.guard with
 | .alloc t,some d,none=>some (t,d)
 |_,_,_=>none
def xF (ops:Array Oper)(m:Nat):Bool:=
 lP ops (m+1)&&decide (m+2<=ops.size)&&
 (match (ops[m]?).bind iW,(ops[m+1]?).bind iW with|some (_,d),some (_,a)=>!(d==a)|_,_=>false)&&
 decide (Region.ready .any ops (cD ops.size m)=[m,m+1])&&decide (Region.ready .any ops ((cD ops.size m).setIfInBounds (m+1) true)=[m])
theorem xG {ro:Addr->Option Value}{x y:Nat×Obj}{l:List (Nat×Obj)}:Le ⟨ro,x::y::l⟩ ⟨ro,y::x::l⟩:=by
 have c:∀b,b∈keys (x::y::l)↔b∈keys (y::x::l):=fun b=>by
  simp only[keys,List.map_cons,List.mem_cons]
  exact ⟨fun h=>by rcases h with h|h|h;exact .inr (.inl h);exact .inl h;exact .inr (.inr h),fun h=>by rcases h with h|h|h;exact .inr (.inl h);exact .inl h;exact .inr (.inr h)⟩
 refine ⟨fun w hw=>⟨hw.ro,fun b o hb=>hw.own b o ?_,?_,fun a v h hm=>hw.apart a v h ((c _).1 hm)⟩,fun b hb=>(c b).1 hb,fun a d=>.inl d⟩
 ·rcases List.mem_cons.1 hb with h|h
  ·exact List.mem_cons_of_mem _ (h▸List.mem_cons_self)
  ·rcases List.mem_cons.1 h with h|h
   ·exact h▸List.mem_cons_self
   ·exact List.mem_cons_of_mem _ (List.mem_cons_of_mem _ h)
 ·have:=hw.nodup
  simp only[keys,List.map_cons,List.nodup_cons,List.mem_cons,not_or] at this ⊢
  exact ⟨⟨fun e=>this.1.1 e.symm,this.2.1⟩,this.1.2,this.2.2⟩
section
variable {P : Program} {main : Bool} {J : Goroutine → af → Prop} {ops : Array Oper} {Q : Act → af → Prop} {F0 : af}
theorem xH {o:Oper}{t:TypeId}{d:Nat}(h:iW o=some (t,d)):o.op= .alloc t/\o.dst=some d/\o.guard=none:=by
 unfold iW at h
 split at h
 ·rename_i h1 h2 h3;cases h;exact ⟨h1,h2,h3⟩
 ·cases h
theorem nF {o:Oper}{a:Act}(h:o.guard=none):cp ops o a=some true:=by unfold cp;rw[h]
theorem sJ {o:Oper}{t:TypeId}{a:Act}{F:af}{z:Value}{R:Value->af->Prop}{D:Deferred->af->Prop}(d:o.op= .alloc t)(e:zeroOf P t=some z)
  (h:∀b,dn F b->∃c,Le c (F.push b (.cells z.cells t))/\R (.pointer (some ⟨b,0,none⟩)) c):aO P (execOp a.eval o) (iO P J R D) F:=by
 have:Oper.lN o=false:=by unfold Oper.lN;rw[d]
 refine w7 (R:=fun v F=>∃c,Le c F/\R v c) this ?_
 unfold cz
 rw[d]
 simp only[e]
 exact h
theorem BT (m:Nat){o1 o2:Oper}{rest:List Oper}{t1 t2 d1 d2:Nat}(hm:m+2<=ops.size)(w:ops[m]?=some o1)(y:ops[m+1]?=some o2)(L:iW o1=some (t1,d1))(M:iW o2=some (t2,d2)){q:Value}(A:zeroOf P t2=some q)(hd:¬d1=d2)
  (B:ops.toList.drop (m+2)=rest) (C:Region.ready .any ops (cD ops.size m)=[m,m+1]) (D:Region.ready .any ops ((cD ops.size m).setIfInBounds (m+1) true)=[m])
  (E:∀j,j<ops.size - (m+1)->Region.ready .any ops (cD ops.size (m+1+j))=[m+1+j]) (G:Region.ready .any ops (cD ops.size ops.size)=[])
  {a:Act} {F:af} (r:Knows F0 F) (h:ef P J ops F0 Q (o1::o2::rest) true a F):di P J ops Q (Knows F0) (ops.size - m) (cD ops.size m) a F:=by
 obtain ⟨e1,s,t⟩:=xH L
 obtain ⟨e2,H,I⟩:=xH M
 have N:ops.size - m=(ops.size - (m+1))+1:=by omega
 have O:ops.size - (m+1)=(ops.size - (m+2))+1:=by omega
 unfold ef at h
 rw[nF t] at h
 simp only at h
 have p:∃z,zeroOf P t1=some z:=by
  unfold cz at h
  rw[e1] at h
  simp only at h
  split at h
  ·rename_i z R;exact ⟨z,R⟩
  ·exact h.elim
 obtain ⟨k,p⟩:=p
 have h1:∀b,dn F b->Knows F0 (F.push b (.cells k.cells t1))/\ef P J ops F0 Q (o2::rest) (!Oper.calls o1) (aV a (some d1) (.pointer (some ⟨b,0,none⟩))) (F.push b (.cells k.cells t1)):=by
  unfold cz at h
  rw[e1] at h
  simp only[p,s] at h
  exact h
 have h2:∀b,dn F b->∀f,dn (F.push b (.cells k.cells t1)) f->Knows F0 ((F.push b (.cells k.cells t1)).push f (.cells q.cells t2))/\
   ef P J ops F0 Q rest (!Oper.calls o2) (aV (aV a (some d1) (.pointer (some ⟨b,0,none⟩))) (some d2) (.pointer (some ⟨f,0,none⟩))) ((F.push b (.cells k.cells t1)).push f (.cells q.cells t2)):=by
  intro b hb
  have:=(h1 b hb).2
  unfold ef at this
  rw[nF I] at this
  simp only at this
  unfold cz at this
  rw[e2] at this
  simp only[A,H] at this
  exact this
 have K:=pF (n:=ops.size) (m:=m) (by omega)
 have S:=pF (n:=ops.size) (m:=m+1) (by omega)
 rw[N]
 refine ⟨fun h0=>(by rw[C] at h0;cases h0),fun i g=>?_⟩
 rw[C] at g
 simp only[List.mem_cons,List.not_mem_nil,or_false] at g
 rcases g with g|g
 ·subst g
  unfold dh
  simp only[w]
  rw[if_pos (bV (nF t))]
  refine sJ e1 p fun b hb=>⟨_,Le.refl _,(h1 b hb).1,?_⟩
  rw[K,s]
  exact kH (i+1) E G (o2::rest) (i+1) _ _ _ (Nat.le_refl _) (by omega) (by
   have:=List.drop_eq_getElem_cons (l:=ops.toList) (i:=i+1) (by simp;omega)
   rw[this,B]
   obtain ⟨_,he⟩:=Array.getElem?_eq_some_iff.1 y
   simp[he]) (h1 b hb).2
 ·subst g
  unfold dh
  simp only[y]
  rw[if_pos (bV (nF I))]
  refine sJ e2 A fun f u=>⟨_,Le.refl _,?_,?_⟩
  ·refine ⟨r.1,r.2.1,?_⟩
   have T:∀(l own:List (Nat×Obj)),aj own f->gS l own->gS l ((f,.cells q.cells t2)::own):=fun l own U v=>by
    induction l with
    |nil=>trivial
    |cons x l ih=>
     obtain ⟨c,o⟩:=x
     refine ⟨?_,ih v.2⟩
     have V:¬f=c:=fun e=>jF U (e▸ep (fU v.1))
     simp only[lk,if_neg V]
     exact v.1
   exact T _ _ u.own r.2.2
  ·rw[O]
   refine ⟨fun h0=>(by rw[D] at h0;cases h0),fun i g=>?_⟩
   rw[D] at g
   simp only[List.mem_cons,List.not_mem_nil,or_false] at g
   subst g
   unfold dh
   simp only[w]
   rw[if_pos (bV (nF t))]
   refine sJ e1 p fun b hb=>?_
   have W:dn F b:=⟨hb.ro,hb.own.2⟩
   have X:¬f=b:=fun e=>hb.own.1 e.symm
   have Y:dn (F.push b (.cells k.cells t1)) f:=⟨u.ro,⟨X,u.own⟩⟩
   obtain ⟨Z,ab⟩:=h2 b W f Y
   refine ⟨_,xG,Z,?_⟩
   have ad:aV (aV a o2.dst (.pointer (some ⟨f,0,none⟩))) o1.dst (.pointer (some ⟨b,0,none⟩))=aV (aV a (some d1) (.pointer (some ⟨b,0,none⟩))) (some d2) (.pointer (some ⟨f,0,none⟩)):=by
    rw[s,H]
    exact Act.put_comm a _ _ (fun d ae=>by cases ae;intro e;cases e;exact hd rfl)
   have hs:((cD ops.size i).setIfInBounds (i+1) true).setIfInBounds i true=cD ops.size (i+2):=by
    rw[Array.setIfInBounds_comm _ _ (by omega:i+1≠i),K,S]
   show di P J ops Q (Knows F0) (ops.size - (i+2)) _ (aV (aV a o2.dst _) o1.dst _) _
   rw[hs,ad]
   exact kH (i+1) E G rest (i+2) _ _ _ (by omega) hm B ab
theorem pO {Q:Ex->Act->af->Prop}(hJ:Closed P main J)(o:P.follows .mixedOrders=true)(m:Nat){id:Nat}{a:Act}{F:af}(F0:af)(e:Knows F0 F)(f:xF ops m=true)(t2:TypeId){p:Value}(g:((ops[m+1]?).bind iW).map (·.1)=some t2)(q:zeroOf P t2=some p)
  (h:dG P J ops F0 (fun j=>ef P J ops F0 (Q .normal) (ops.toList.drop m) true j F) (ops.toList.take m) true a):Wp J (.region id ops true) Q a F:=by
 simp only[xF,Bool.and_eq_true,decide_eq_true_eq] at f
 obtain ⟨⟨⟨⟨r,hm⟩,b⟩,s⟩,t⟩:=f
 have k:=xj r
 simp only[nq,Bool.and_eq_true,decide_eq_true_eq,List.all_eq_true,List.mem_range] at k
 obtain ⟨⟨⟨⟨h1,h2⟩,h3⟩,u⟩,v⟩:=k
 cases c:(ops[m]?).bind iW with
 |none=>rw[c] at b;cases b
 |some w=>
  cases d:(ops[m+1]?).bind iW with
  |none=>rw[c,d] at b;cases b
  |some x=>
   obtain ⟨t1,d1⟩:=w
   obtain ⟨y,d2⟩:=x
   rw[d] at g
   obtain rfl:y=t2:=by simpa using g
   rw[c,d] at b
   obtain ⟨o1,e1,a1⟩:=Option.bind_eq_some_iff.1 c
   obtain ⟨o2,e2,a2⟩:=Option.bind_eq_some_iff.1 d
   have hd:¬d1=d2:=by simpa using b
   have z:ops.toList.drop m=o1::o2::ops.toList.drop (m+2):=by
    obtain ⟨A,c1⟩:=Array.getElem?_eq_some_iff.1 e1
    obtain ⟨b2,c2⟩:=Array.getElem?_eq_some_iff.1 e2
    rw[List.drop_eq_getElem_cons (l:=ops.toList) (i:=m) (by simpa using A),List.drop_eq_getElem_cons (l:=ops.toList) (i:=m+1) (by simpa using b2)]
    simp[c1,c2]
   refine rP hJ (Knows F0) o ?_
   rw[<-xk]
   have:=pG (P:=P) (J:=J) (Q:=Q .normal) m (by omega) h1 (fun i B=>by have:=h3 i (by omega);simpa using this) e (fun j n=>by
    rw[z] at n
    exact BT (F0:=F0) m hm e1 e2 a1 a2 q hd rfl s t u v e n) _ 0 true a (by simp) (Nat.zero_le _) h
   simpa using this
end
def pick (ops:Array Oper):List Nat->List Oper
 |[]=>[]
 |i::is=>match ops[i]? with
  |some o=>o::pick ops is
  |none=>pick ops is
def sK:List Nat->Array Bool->Array Bool
 |[],L=>L
 |i::is,L=>sK is (L.setIfInBounds i true)
def pP (ops:Array Oper):List Nat->Array Bool->Bool
 |[],_=>true
 |i::is,L=>Region.free .any ops L i&&(Region.ready .any ops L).contains i&&(ops[i]?).isSome&&pP ops is (L.setIfInBounds i true)
def nG (ops:Array Oper):List Nat->Array Bool->Bool
 |[],L=>decide (Region.ready .any ops L=[])
 |i::is,L=>decide (Region.ready .any ops L=[i])&&(ops[i]?).isSome&&nG ops is (L.setIfInBounds i true)
def xI (ops:Array Oper)(is a:List Nat):Bool:=
 Region.noSelect ops&&pP ops is (Array.replicate ops.size false)&&nG ops a (sK is (Array.replicate ops.size false))&&decide (is.length+a.length=ops.size)
section
variable {P : Program} {main : Bool} {J : Goroutine → af → Prop} {ops : Array Oper} {Q : Act → af → Prop} {F0 : af}
theorem xJ {K:Act->Prop}(m:Region.noSelect ops=true){F:af}(b:Knows F0 F)(fuel:Nat):
  ∀(is:List Nat) (L:Array Bool) (go:Bool) (a:Act),pP ops is L=true->dG P J ops F0 K (pick ops is) go a->(∀n,K n->di P J ops Q (Knows F0) fuel (sK is L) n F)->
   di P J ops Q (Knows F0) (fuel+is.length) L a F
 |[],L,go,a,_,h,k=>by unfold pick dG at h;exact k a h
 |i::is,L,go,a,p,h,k=>by
  simp only[pP,Bool.and_eq_true] at p
  obtain ⟨⟨⟨c1,c2⟩,c3⟩,c4⟩:=p
  obtain ⟨o,c⟩:=Option.isSome_iff_exists.1 c3
  have g:(Region.noSelect ops&&Region.free .any ops L i&&(Region.ready .any ops L).contains i)=true:=by rw[m,c1,c2];rfl
  have q:pick ops (i::is)=o::pick ops is:=by simp only[pick,c]
  rw[q] at h
  have e:fuel+(i::is).length=(fuel+is.length)+1:=by simp only[List.length_cons];omega
  rw[e]
  have next:∀go v,dG P J ops F0 K (pick ops is) go (aV a o.dst v)->di P J ops Q (Knows F0) (fuel+is.length) (L.setIfInBounds i true) (aV a o.dst v) F:=fun go v d=>
   xJ m b fuel is _ go _ c4 d k
  unfold dG at h
  split at h
  ·rename_i hg
   exact xb i c g hg b (next true undef h)
  ·rename_i hg
   split at h
   ·rename_i t x l
    split at h
    case h_2=>exact h.elim
    rename_i ad r
    split at h
    case h_2=>exact h.elim
    rename_i v d
    refine lO i v c g hg (fun F R j f=>?_) b (next _ v h)
    unfold cz
    simp only[l,r,j.eG d]
    exact f
   ·rename_i x args argTypes l
    split at h
    case h_2=>exact h.elim
    rename_i fn first captured s
    obtain ⟨u,v,w,h⟩:=h
    refine lO i v c g hg (fun F R j f=>?_) b (next _ v h)
    unfold cz
    simp only[l,s]
    exact ⟨u,(w F j).mono fun z F' y=>by obtain ⟨rfl,rfl⟩:=y;exact f⟩
   ·split at h
    case h_2=>exact h.elim
    rename_i v d
    exact lO i v c g hg (fun F R j f=>pE d f) b (next _ v h)
  ·exact h.elim
theorem xK:∀(b:List Nat) (L:Array Bool) (go:Bool) (a:Act) (F:af),nG ops b L=true->ef P J ops F0 Q (pick ops b) go a F->di P J ops Q (Knows F0) b.length L a F
 |[],L,go,a,F,c,h=>by
  simp only[nG,decide_eq_true_eq] at c
  unfold pick ef at h
  exact wD c h _
 |j::b,L,go,a,F,c,h=>by
  simp only[nG,Bool.and_eq_true,decide_eq_true_eq] at c
  obtain ⟨⟨c1,c3⟩,c4⟩:=c
  obtain ⟨o,d⟩:=Option.isSome_iff_exists.1 c3
  have e:pick ops (j::b)=o::pick ops b:=by simp only[pick,d]
  rw[e] at h
  unfold ef at h
  split at h
  ·rename_i hg
   refine xd j d c1 hg ?_
   refine kH.pH ?_ h
   rintro v F' ⟨h1,h2⟩
   exact ⟨h1,xK b _ _ _ F' c4 h2⟩
  ·exact h.elim
theorem BU {Q:Ex->Act->af->Prop}(hJ:Closed P main J)(e:P.follows .mixedOrders=true)(is b:List Nat){id:Nat}{a:Act}{F:af}(F0:af)(f:Knows F0 F)(d:xI ops is b=true)
  (h:dG P J ops F0 (fun c=>ef P J ops F0 (Q .normal) (pick ops b) true c F) (pick ops is) true a):Wp J (.region id ops true) Q a F:=by
 simp only[xI,Bool.and_eq_true,decide_eq_true_eq] at d
 obtain ⟨⟨⟨h1,h2⟩,h3⟩,i⟩:=d
 refine rP hJ (Knows F0) e ?_
 have:=xJ (P:=P) (J:=J) (Q:=Q .normal) h1 f b.length is _ true a h2 h (fun c g=>xK b _ true c F h3 g)
 rwa [show b.length+is.length=ops.size by omega] at this
end
attribute [go_sem] pick
inductive iX where
 |done
 |rd (i:Nat) (p:iX)
 |one (i:Nat) (p:iX)
 |two (i:Nat) (p:iX) (j:Nat) (q:iX)
inductive jL where
 |done
 |rd (o:Oper) (p:jL)
 |one (o:Oper) (p:jL)
 |two (o:Oper) (p:jL) (o':Oper) (q:jL)
 |bad
def iX.opers (ops:Array Oper):iX->jL
 | .done=>.done
 | .rd i p=>match ops[i]? with
  |some o=>.rd o (p.opers ops)
  |none=>.bad
 | .one i p=>match ops[i]? with
  |some o=>.one o (p.opers ops)
  |none=>.bad
 | .two i p j q=>match ops[i]?,ops[j]? with
  |some o,some o'=>.two o (p.opers ops) o' (q.opers ops)
  |_,_=>.bad
def iX.len:iX->Nat
 | .done=>0
 | .rd _ p=>p.len+1
 | .one _ p=>p.len+1
 | .two _ p _ q=>max p.len q.len+1
def e7 (P:Program)(J:Goroutine->af->Prop)(ops:Array Oper)(F0:af)(Q:Act->af->Prop):jL->Bool->Act->af->Prop
 | .done,_,a,F=>Q a F
 | .bad,_,_,_=>False
 | .rd o p,_,a,F=>match cp ops o a with
  |some false=>e7 P J ops F0 Q p true (aV a o.dst undef) F
  |some true=>match o.op with
   | .load t x=>match ev a x with
    | .pointer (some ad)=>match eG P F0 t ad with
     |some v=>e7 P J ops F0 Q p true (aV a o.dst v) F
     |none=>False
    |_=>False
   | .call {callee:=.value x,args, ..}=>match ev a x with
    | .func (.func fn) first captured=>aD P fn=true/\∃v,Plain P J F0 fn (first++args.map (ev a)++captured) v/\e7 P J ops F0 Q p false (aV a o.dst v) F
    |_=>False
   |_=>match gU P o a with
    |some v=>e7 P J ops F0 Q p true (aV a o.dst v) F
    |none=>False
  |none=>False
 | .one o p,_,a,F=>match cp ops o a with
  |some true=>cz P J o (fun v F'=>Knows F0 F'/\e7 P J ops F0 Q p (!Oper.calls o) (aV a o.dst v) F') a F
  |_=>False
 | .two o p o' q,_,a,F=>(match cp ops o a with
  |some true=>cz P J o (fun v F'=>Knows F0 F'/\e7 P J ops F0 Q p (!Oper.calls o) (aV a o.dst v) F') a F
  |_=>False)/\(match cp ops o' a with
  |some true=>cz P J o' (fun v F'=>Knows F0 F'/\e7 P J ops F0 Q q (!Oper.calls o') (aV a o'.dst v) F') a F
  |_=>False)
section
variable {P : Program} {main : Bool} {J : Goroutine → af → Prop} {ops : Array Oper} {Q : Act → af → Prop} {F0 : af}
end
theorem BV {P:Program}{J:Goroutine->af->Prop}{ops:Array Oper}{F0:af}{Q:Act->af->Prop}{go:Bool}{a:Act}{F:af}:e7 P J ops F0 Q .done go a F=Q a F:=rfl
theorem BW {P:Program}{J:Goroutine->af->Prop}{ops:Array Oper}{F0:af}{Q:Act->af->Prop}{o:Oper}{p:jL}{a:Act}{F:af}:e7 P J ops F0 Q (.rd o p) true a F=match cp ops o a with
  |some false=>e7 P J ops F0 Q p true (aV a o.dst undef) F
  |some true=>match o.op with
   | .load t x=>match ev a x with
    | .pointer (some ad)=>match eG P F0 t ad with
     |some v=>e7 P J ops F0 Q p true (aV a o.dst v) F
     |none=>False
    |_=>False
   | .call {callee:=.value x,args, ..}=>match ev a x with
    | .func (.func fn) first captured=>aD P fn=true/\∃v,Plain P J F0 fn (first++args.map (ev a)++captured) v/\e7 P J ops F0 Q p false (aV a o.dst v) F
    |_=>False
   |_=>match gU P o a with
    |some v=>e7 P J ops F0 Q p true (aV a o.dst v) F
    |none=>False
  |none=>False:=(Eq.refl _).trans (Eq.refl _)
theorem BX {P:Program}{J:Goroutine->af->Prop}{ops:Array Oper}{F0:af}{Q:Act->af->Prop}{o:Oper}{p:jL}{a:Act}{F:af}:e7 P J ops F0 Q (.one o p) true a F=match cp ops o a with
  |some true=>cz P J o (fun v F'=>Knows F0 F'/\e7 P J ops F0 Q p (!Oper.calls o) (aV a o.dst v) F') a F
  |_=>False:=(Eq.refl _).trans (Eq.refl _)
attribute [irreducible] e7
attribute [go_sem] BV BW BX iX.opers
theorem xL {F:af}{a:Addr}:∀(cs:List Value) (i:Nat),(∀j v,cs[j]?=some v->F.get (a.add (i+j))=some v)->F.cR a i cs.length=some cs
 |[],i,_=>rfl
 |v::cs,i,h=>by
  have h0:=h 0 v rfl
  rw[Nat.add_zero] at h0
  have ih:=xL cs (i+1) (fun j w hw=>by
   have:=h (j+1) w (by simpa using hw)
   rwa [show i+(j+1)=i+1+j by omega] at this)
  simp only[List.length_cons,af.cR,h0,ih]
theorem xM {F:af}{a:Addr}:∀(m i k:Nat) (c b:List Value),F.cR a i m=some c->F.cR a (i+m) k=some b->F.cR a i (m+k)=some (c++b)
 |0,i,k,c,b,h1,h2=>by
  simp only[af.cR,Option.some.injEq] at h1
  subst h1
  rw[Nat.zero_add]
  simpa using h2
 |m+1,i,k,c,b,h1,h2=>by
  unfold af.cR at h1
  split at h1
  case h_2=>cases h1
  rename_i v d
  split at h1
  case h_2=>cases h1
  rename_i e f
  cases h1
  have ih:=xM m (i+1) k e b f (by rwa [show i+1+m=i+(m+1) by omega])
  rw[show m+1+k=(m+k)+1 by omega]
  simp only[af.cR,d,ih,List.cons_append]
theorem az.cells {T:Type}{r:bT T}{ro:Addr->Option Value}{ad:Option Addr}{c:Nat}{l:List T}(h:az r ro (.slice ad l.length c) l)(F:af)(t:∀a v,ro a=some v->F.get a=some v):
  ∃b:List (List Value),b.length=l.length/\(∀x∈b,x.length=r.n/\∀v∈x,bw v=true)/\(∀(i:Nat) (x:T),l[i]?=some x->∃cs,b[i]?=some cs/\r.rel ro x cs)/\fj F r.n (.slice ad l.length c)=some b.flatten:=by
 obtain ⟨C,D,e,_,_,he⟩:=h
 cases e
 cases f:l with
 |nil=>subst f;refine ⟨[],rfl,by simp,by simp,?_⟩;cases ad<;>simp[fj,af.cR]
 |cons u l0=>
  obtain ⟨p,E,w,-,-⟩:=he 0 u (by rw[f];rfl)
  subst w
  rw[<-f]
  have key:∀k,k<=l.length->∃b:List (List Value),b.length=k/\(∀x∈b,x.length=r.n/\∀v∈x,bw v=true)/\(∀(i:Nat) (x:T),i<k->l[i]?=some x->∃cs,b[i]?=some cs/\r.rel ro x cs)/\F.cR p 0 (k*r.n)=some b.flatten:=by
   intro k
   induction k with
   |zero=>intro _;exact ⟨[],rfl,by simp,by simp,by simp[af.cR]⟩
   |succ k ih=>
    intro G
    obtain ⟨b,h1,h2,h3,m⟩:=ih (by omega)
    have d:l[k]?=some l[k]:=List.getElem?_eq_getElem (by omega)
    obtain ⟨H,cs,z,o,hm⟩:=he k _ d
    cases z
    have s:=r.len o
    refine ⟨b++[cs],by simp[h1],fun y A=>?_,fun i x I q=>?_,?_⟩
    ·rcases List.mem_append.1 A with h|h
     ·exact h2 y h
     ·simp only[List.mem_singleton] at h;subst h;exact ⟨s,r.one o⟩
    ·rcases Nat.lt_or_ge i k with h|h
     ·obtain ⟨cs',a1,a2⟩:=h3 i x h q
      exact ⟨cs',by rw[List.getElem?_append_left (by omega)];exact a1,a2⟩
     ·have:i=k:=by omega
      subst this
      rw[d] at q
      obtain rfl:=Option.some.inj q
      exact ⟨cs,by rw[List.getElem?_append_right (by omega)];simp[h1],o⟩
    ·rw[Nat.succ_mul]
     have g:=xL (F:=F) (a:=p) cs (k*r.n) (fun j v B=>t _ _ (by have:=hm j v B;rwa [jD] at this))
     rw[s] at g
     have:=xM (k*r.n) 0 r.n b.flatten cs m (by rw[Nat.zero_add];exact g)
     rw[this]
     simp
  obtain ⟨b,h1,h2,h3,m⟩:=key l.length (Nat.le_refl _)
  exact ⟨b,h1,h2,fun i x d=>h3 i x (List.getElem?_eq_some_iff.1 d).1 d,m⟩
theorem aW.empty {T:Type}{r:bT T}{ro:Addr->Option Value}{e:TypeId}{b:Nat}(a:∀off sp,ro ⟨b,off,sp⟩=none):aW r ro e (.slice (some ⟨b,0,none⟩) 0 0) [] [(b,.cells #[] e)]:=
 ⟨[],.inr ⟨b,#[],0,rfl,rfl,by simp,Nat.le_refl _,by simp,by simp,a⟩,rfl,by simp,fun i x h=>by simp at h⟩
theorem xN {ro:Addr->Option Value}{x:Nat×Obj}{l:List (Nat×Obj)}:Le ⟨ro,l++[x]⟩ ⟨ro,x::l⟩:=by
 have d:∀b,b∈keys (l++[x])↔b∈keys (x::l):=fun b=>by
  simp only[keys,List.map_append,List.map_cons,List.map_nil,List.mem_append,List.mem_cons,List.not_mem_nil,or_false]
  exact Or.comm
 refine ⟨fun w hw=>⟨hw.ro,fun b o hb=>hw.own b o ?_,?_,fun a v h hm=>hw.apart a v h ((d _).1 hm)⟩,fun b hb=>(d b).1 hb,fun a c=>.inl c⟩
 ·rcases List.mem_append.1 hb with h|h
  ·exact List.mem_cons_of_mem _ h
  ·simp only[List.mem_singleton] at h;rw[h];exact List.mem_cons_self
 ·have:=hw.nodup
  simp only[keys,List.map_cons,List.nodup_cons] at this
  simp only[keys,List.map_append,List.map_cons,List.map_nil]
  rw[List.nodup_append]
  refine ⟨this.2,by simp,fun a c b hb e=>?_⟩
  simp only[List.mem_singleton] at hb
  subst hb
  exact this.1 (e▸c)
theorem nJ {P:Program}{T:Type}{r:bT T}{ro:Addr->Option Value}{rest:List (Nat×Obj)}{ks:List Nat}{R:Value->af->Prop}{argTypes:Array TypeId}{m o e y:TypeId}{f b c:Nat}{ad:Option Addr}{z:Value}{xs:List T}
  (A:∀off sp,ro ⟨b,off,sp⟩=none) (B:aj rest b) (p:keys rest=ks) (hlen:xs.length<=1000000) (C:az r ro (.slice ad xs.length c) xs)
  (h0:argTypes[0]?=some m) (h1:argTypes[1]?=some o) (he:cL P m=some e) (D:cL P o=some y) (hs:bQ P e=some r.n) (E:zeroOf P e=some z) (F:z.cells.size=r.n) (hb:bytesOf P e=some f)
  (G:0<f) (H:f<=10000)
  (q:∀v g,aW r ro e v xs g->Apart ks g->R v ⟨ro,rest++g⟩):kD P argTypes (.slice (some ⟨b,0,none⟩) 0 0) (.slice ad xs.length c) R ⟨ro,(b,.cells #[] e)::rest⟩:=by
 intro ty
 obtain ⟨d,k1,I,J,K⟩:=C.cells ⟨ro,(b,.cells #[] e)::rest⟩ (fun a v h=>by simp[af.get,h])
 have s:∀x∈d,x.length=r.n:=fun x h=>(I x h).1
 have i:=gm s
 refine r9 (old:=[]) h0 h1 he D hs E hb G H (by simpa using hlen) (by simp[fj,af.cR]) K (fun L=>?_) (fun L k t l u=>?_)
 ·have M:xs.length=0:=by omega
  have N:xs=[]:=List.eq_nil_of_length_eq_zero M
  have O:d=[]:=List.eq_nil_of_length_eq_zero (by omega)
  subst N O
  refine .inl ⟨_,_,rfl,rfl,⟨ro,rest++[(b,.cells #[] e)]⟩,xN,q _ _ (aW.empty A) fun k l=>?_⟩
  simp only[keys,List.map_cons,List.map_nil,List.mem_singleton] at l
  subst l
  rw[<-p]
  exact jF B
 ·refine ⟨⟨ro,rest++[(t,.cells (([]:List Value).toArray++d.flatten.toArray++Builtin.zeroCells z.cells (k - (0+xs.length))) e)]⟩,xN.trans (Le.sub (.cons₂ _ (.cons _ (List.Sublist.refl _)))),q _ _ ?_ fun j w=>?_⟩
  ·refine ⟨d,.inr ⟨t,_,k,by rw[k1,Nat.zero_add],rfl,?_,by omega,?_,s,u.ro⟩,k1,hlen,J⟩
   ·simp only[List.nil_append,Array.size_append,List.size_toArray,List.length_nil,Builtin.zeroCells,Array.size_map,Array.size_range,i,F,k1]
    rw[Nat.zero_add,<-Nat.add_mul]
    congr 1;omega
   ·simp only[Array.toList_append,List.nil_append]
    rw[List.take_append_of_le_length (by simp[i])]
    rw[List.take_of_length_le (by simp[i])]
  ·simp only[keys,List.map_cons,List.map_nil,List.mem_singleton] at w
   subst w
   rw[<-p]
   exact jF u.own.2
theorem pQ:∀{pre aS:List (Nat×Obj)} {b:Nat} {o:Obj},aj pre b->lk (pre++((b,o)::aS)) b=some o
 |[],aS,b,o,_=>by simp[lk]
 |(c,x)::pre,aS,b,o,h=>by
  have a:¬c=b:=fun e=>h.1 e.symm
  simp[lk,a,pQ h.2]
theorem xO:∀{pre aS:List (Nat×Obj)} {b:Nat} {o x:Obj},aj pre b->gN (pre++((b,o)::aS)) b x=pre++((b,x)::aS)
 |[],aS,b,o,x,_=>by simp[gN]
 |(c,y)::pre,aS,b,o,x,h=>by
  have a:¬c=b:=fun e=>h.1 e.symm
  simp[gN,a,xO h.2]
theorem sL {ro:Addr->Option Value}{pre aS:List (Nat×Obj)}{b:Nat}{e:TypeId}(c:aj pre b)(o:Nat):∀(a:List Value) (arr:Array Value) (i:Nat),(∀v∈a,bw v=true)->o+i+a.length<=arr.size->
  af.iq ⟨ro,pre++((b,.cells arr e)::aS)⟩ ⟨b,o,none⟩ i a=some ⟨ro,pre++((b,.cells (dz arr (o+i) a) e)::aS)⟩
 |[],arr,i,_,_=>rfl
 |v::a,arr,i,h1,h=>by
  simp only[List.length_cons] at h
  have d:(⟨b,o,none⟩:Addr).add i=⟨b,o+i,none⟩:=by
   unfold Addr.add
   split
   ·rename_i f;subst f;rfl
   ·rfl
  unfold af.iq
  have:af.kg ⟨ro,pre++((b,.cells arr e)::aS)⟩ ((⟨b,o,none⟩:Addr).add i) v=some ⟨ro,pre++((b,.cells (arr.setIfInBounds (o+i) v) e)::aS)⟩:=by
   have g:o+i<arr.size:=by omega
   simp[af.kg,d,pQ c,h1 v (by simp),g,frozenAt,af.put,xO c]
  rw[this]
  simp only
  rw[sL c o a _ (i+1) (fun x j=>h1 x (by simp[j])) (by simp;omega)]
  rw[dz]
  congr 1
theorem xP {ro:Addr->Option Value}{pre aS:List (Nat×Obj)}{b:Nat}{e:TypeId}{arr:Array Value}(a:aj pre b)(c:∀off sp,ro ⟨b,off,sp⟩=none):∀(n i:Nat),i+n<=arr.size->
  af.cR ⟨ro,pre++((b,.cells arr e)::aS)⟩ ⟨b,0,none⟩ i n=some ((arr.toList.drop i).take n)
 |0,i,_=>by simp[af.cR]
 |n+1,i,h=>by
  have f:(⟨b,0,none⟩:Addr).add i=⟨b,i,none⟩:=by
   unfold Addr.add
   split
   ·rename_i g;subst g;rfl
   ·simp
  have d:i<arr.size:=by omega
  unfold af.cR
  have ih:=xP (e:=e) (arr:=arr) (aS:=aS) a c n (i+1) (by omega)
  simp only[af.get,f,c,if_true,pQ a,Option.bind_some,cellOf,Array.getElem?_eq_getElem d,ih]
  have j:i<arr.toList.length:=by simpa using d
  rw[List.drop_eq_getElem_cons j,List.take_succ_cons]
  simp
theorem Gr.BY {ro:Addr->Option Value}{e:TypeId}{size:Nat}{v:Value}{l:List (List Value)}{aN pre aS:List (Nat×Obj)}(h:Gr ro e size v l aN)(a:∀k∈keys aN,aj pre k):
  Go.Sep.fj ⟨ro,pre++(aN++aS)⟩ size v=some l.flatten:=by
 rcases h with ⟨rfl,rfl,rfl⟩|⟨b,arr,cap,rfl,rfl,hs,c,ht,f,d⟩
 ·rfl
 ·simp only[Go.Sep.fj,List.cons_append,List.nil_append]
  have hle:l.length*size<=arr.size:=by rw[hs];exact Nat.mul_le_mul_right _ c
  rw[xP (a b (by simp[keys])) d _ _ (by omega)]
  simp[ht]
theorem Le.ps {ro:Addr->Option Value}{l m l':List (Nat×Obj)}(e:l.Perm m)(hs:m.Sublist l'):Le ⟨ro,l⟩ ⟨ro,l'⟩:=by
 have c:(keys m).Sublist (keys l'):=hs.map _
 have d:(keys l).Perm (keys m):=e.map _
 exact ⟨fun w hw=>⟨hw.ro,fun b o hb=>hw.own b o (hs.subset (e.subset hb)),d.nodup_iff.2 (c.nodup hw.nodup),fun a v f hm=>hw.apart a v f (c.subset (d.subset hm))⟩,fun b hb=>c.subset (d.subset hb),fun a g=>.inl g⟩
structure aM (ks:List Nat):Prop where
 nd:ks.Nodup
abbrev Nd (l:List (Nat×Obj)):Prop:=(keys l).Nodup
theorem Nd.fresh {pre aN aS:List (Nat×Obj)}(h:Nd (pre++(aN++aS))):∀k∈keys aN,aj pre k:=fun k a=>by
 refine kK fun hm=>?_
 simp only[Nd,bY] at h
 exact (List.nodup_append.1 h).2.2 k hm k (List.mem_append_left _ a) rfl
theorem Nd.push {l:List (Nat×Obj)}{b:Nat}{o:Obj}(h:Nd l)(hb:aj l b):Nd ((b,o)::l):=by
 simp only[Nd,keys,List.map_cons,List.nodup_cons]
 exact ⟨jF hb,h⟩
theorem Nd.drop {pre aN aS:List (Nat×Obj)}(h:Nd (pre++(aN++aS))):Nd (pre++aS):=
 ((List.Sublist.append_left (List.sublist_append_right aN aS) pre).map _).nodup h
theorem Nd.ins {pre aN aS:List (Nat×Obj)}{b:Nat}{o:Obj}(h:Nd (pre++(aN++aS)))(hb:aj (pre++(aN++aS)) b):Nd (pre++([(b,o)]++aS)):=by
 have h2:Nd ((b,o)::(pre++aS)):=h.drop.push (kK fun hm=>jF hb (((List.Sublist.append_left (List.sublist_append_right aN aS) pre).map _).subset hm))
 have:(pre++([(b,o)]++aS)).Perm ((b,o)::(pre++aS)):=List.perm_middle
 exact (this.map _).nodup_iff.2 h2
section
variable {P : Program}
theorem xQ {ro:Addr->Option Value}{pre aN aS:List (Nat×Obj)}{R:Value->af->Prop}{argTypes:Array TypeId}{ty B C e N:TypeId}{size p n c:Nat}{D:Option Addr}{s z:Value}{l xs:List (List Value)}
  (h0:argTypes[0]?=some B) (h1:argTypes[1]?=some C) (he:cL P B=some e) (d:cL P C=some N) (hs:bQ P e=some size) (E:zeroOf P e=some z) (O:z.cells.size=size) (hb:bytesOf P e=some p)
  (G:0<p) (H:p<=10000) (hg:Gr ro e size s l aN) (j:Nd (pre++(aN++aS))) (Q:n=xs.length) (I:∀x∈xs,x.length=size/\∀v∈x,bw v=true) (J:fj ⟨ro,pre++(aN++aS)⟩ size (.slice D n c)=some xs.flatten)
  (K:l.length+xs.length<=1000000)
  (q:∀v r,Gr ro e size v (l++xs) r->Nd (pre++(r++aS))->∃F0,Le F0 ⟨ro,pre++(r++aS)⟩/\R v F0):
  aO P (Builtin.append_ argTypes ty #[s,.slice D n c]) (fun v F=>∃F0,Le F0 F/\R v F0) ⟨ro,pre++(aN++aS)⟩:=by
 subst Q
 have L:=j.fresh
 have hold:=hg.BY (aS:=aS) L
 have t:∀x∈xs,x.length=size:=fun x h=>(I x h).1
 have a:=gm t
 have out:∀(k b:Nat) (old:List Value),old=l.flatten->(∀x∈l,x.length=size)->l.length+xs.length<=k->dn ⟨ro,pre++(aN++aS)⟩ b->
   ∃F0,Le F0 (af.push ⟨ro,pre++(aN++aS)⟩ b (.cells (old.toArray++xs.flatten.toArray++Builtin.zeroCells z.cells (k - (l.length+xs.length))) e))/\R (.slice (some ⟨b,0,none⟩) (l.length+xs.length) k) F0:=by
  intro k b old S u i f
  subst S
  have w:=gm u
  have y:=q (.slice (some ⟨b,0,none⟩) (l.length+xs.length) k) [(b,.cells (l.flatten.toArray++xs.flatten.toArray++Builtin.zeroCells z.cells (k - (l.length+xs.length))) e)] (.inr ⟨b,_,k,by simp,rfl,?_,by simpa using i,?_,?_,f.ro⟩) (j.ins f.own)
  ·obtain ⟨F0,hle,y⟩:=y
   refine ⟨F0,hle.trans ?_,y⟩
   exact Le.ps (m:=(b,.cells (l.flatten.toArray++xs.flatten.toArray++Builtin.zeroCells z.cells (k - (l.length+xs.length))) e)::(pre++aS)) List.perm_middle (.cons₂ _ (List.Sublist.append_left (List.sublist_append_right aN aS) pre))
  ·simp only[Array.size_append,List.size_toArray,Builtin.zeroCells,Array.size_map,Array.size_range,w,a,O]
   rw[<-Nat.add_mul,<-Nat.add_mul]
   congr 1;omega
  ·simp only[Array.toList_append,List.length_append,List.flatten_append]
   rw[List.take_append_of_le_length (by simp[w,a,Nat.add_mul])]
   rw[List.take_of_length_le (by simp[w,a,Nat.add_mul])]
  ·intro x d
   rcases List.mem_append.1 d with h|h
   ·exact u x h
   ·exact t x h
 rcases id hg with ⟨rfl,rfl,rfl⟩|⟨b,arr,cap,rfl,rfl,A,u,ht,o,T⟩
 ·refine r9 h0 h1 he d hs E hb G H (by simpa using K) hold J (fun g=>.inr ⟨rfl,?_⟩) (fun g k b i f=>?_)
  ·have:xs=[]:=List.eq_nil_of_length_eq_zero (by omega)
   subst this
   exact q _ _ (.inl ⟨rfl,rfl,rfl⟩) j
  ·have:=out k b [] rfl (by simp) (by simpa using i) f
   simpa using this
 ·refine r9 h0 h1 he d hs E hb G H K hold J (fun g=>.inl ⟨_,⟨ro,pre++([(b,.cells (dz arr (l.length*size) xs.flatten) e)]++aS)⟩,rfl,?_,?_⟩) (fun g k U i f=>out k U _ rfl o i f)
  ·have V:(⟨b,0,none⟩:Addr).add (l.length*size)=⟨b,l.length*size,none⟩:=by
    unfold Addr.add
    split
    ·rename_i W;rw[W]
    ·simp
   rw[V]
   have M:l.length*size+xs.length*size<=arr.size:=by rw[A,<-Nat.add_mul];exact Nat.mul_le_mul_right _ g
   have:=sL (ro:=ro) (e:=e) (aS:=aS) (L b (by simp[keys])) (l.length*size) xs.flatten arr 0 (fun v X=>by
    obtain ⟨x,Y,Z⟩:=List.mem_flatten.1 X
    exact (I x Y).2 v Z) (by rw[a];omega)
   simpa using this
  ·refine q _ _ (.inr ⟨b,_,cap,by simp,rfl,by rw[o9];exact A,by simpa using g,?_,?_,T⟩) (by simpa [Nd,keys] using j)
   ·have M:l.length*size+xs.length*size<=arr.size:=by rw[A,<-Nat.add_mul];exact Nat.mul_le_mul_right _ g
    rw[pe _ _ _ (by rw[a];exact M),ht,List.length_append,List.flatten_append,a]
    rw[List.take_append_of_le_length (by simp[gm o,a,Nat.add_mul])]
    rw[List.take_of_length_le (by simp[gm o,a,Nat.add_mul])]
   ·intro x d
    rcases List.mem_append.1 d with h|h
    ·exact o x h
    ·exact t x h
theorem xR:∀{pre own:List (Nat×Obj)} {b:Nat} {o:Obj},lk pre b=some o->lk (pre++own) b=some o
 |(c,x)::pre,own,b,o,h=>by
  simp only[List.cons_append,lk] at h ⊢
  split
  ·rename_i a;rw[if_pos a] at h;exact h
  ·rename_i a;rw[if_neg a] at h;exact xR h
theorem xS {ro:Addr->Option Value}{own:List (Nat×Obj)}{b:Nat}{cs:Array Value}{e:TypeId}(a:lk own b=some (.cells cs e))(c:∀off sp,ro ⟨b,off,sp⟩=none):∀n i,i+n<=cs.toList.length->af.cR ⟨ro,own⟩ ⟨b,0,none⟩ i n=some ((cs.toList.drop i).take n)
 |0,i,_=>by simp[af.cR]
 |n+1,i,d=>by
  have f:i<cs.toList.length:=by omega
  unfold af.cR
  have g:(⟨b,0,none⟩:Addr).add i=⟨b,i,none⟩:=by
   unfold Addr.add
   split
   ·rename_i d;subst d;rfl
   ·simp
  have h:i<cs.size:=by simpa using f
  simp only[af.get,g,c,if_true,a,Option.bind_some,cellOf,Array.getElem?_eq_getElem h,xS a c n (i+1) (by omega)]
  rw[List.drop_eq_getElem_cons f,List.take_succ_cons]
  simp
theorem aW.more {T:Type}{r:bT T}{ro:Addr->Option Value}{e:TypeId}{l xs:List T}{ls ys:List (List Value)}{v:Value}{b:List (Nat×Obj)}(hg:Gr ro e r.n v (ls++ys) b)(c:ls.length=l.length)(d:ys.length=xs.length)
  (f:∀(i:Nat) (x:T),l[i]?=some x->∃cs:List Value,ls[i]?=some cs/\r.rel ro x cs) (g:∀(i:Nat) (x:T),xs[i]?=some x->∃cs:List Value,ys[i]?=some cs/\r.rel ro x cs) (j:l.length+xs.length<=1000000):aW r ro e v (l++xs) b:=by
 refine ⟨_,hg,by simp[c,d],by simpa using j,fun i y a=>?_⟩
 rcases Nat.lt_or_ge i l.length with h|h
 ·rw[List.getElem?_append_left h] at a
  rw[List.getElem?_append_left (by omega)]
  exact f i y a
 ·rw[List.getElem?_append_right h] at a
  rw[List.getElem?_append_right (by omega),c]
  exact g _ y a
theorem xT {T:Type}{r:bT T}{ro:Addr->Option Value}{aN:List (Nat×Obj)}{R:Value->af->Prop}{argTypes:Array TypeId}{h j e q e2:TypeId}{b c:Nat}{s z:Value}{l:List T}{x:T}{cs:Array Value}{own:List (Nat×Obj)}(pre aS:List (Nat×Obj))(t:own=pre++(aN++aS))
  (hg:aW r ro e s l aN) (u:aM (keys own)) (k:l.length+[x].length<=1000000) (d:r.rel ro x cs.toList) (w:lk pre c=some (.cells cs e2)) (A:∀off sp,ro ⟨c,off,sp⟩=none)
  (h0:argTypes[0]?=some h) (h1:argTypes[1]?=some j) (he:cL P h=some e) (B:cL P j=some q) (hs:bQ P e=some r.n) (C:zeroOf P e=some z) (D:z.cells.size=r.n) (hb:bytesOf P e=some b)
  (E:0<b) (F:b<=10000)
  (G:∀v a,aW r ro e v (l++[x]) a->∀f,f=pre++(a++aS)->aM (keys f)->∃F0,Le F0 ⟨ro,f⟩/\R v F0):kD P argTypes s (.slice (some ⟨c,0,none⟩) 1 1) R ⟨ro,own⟩:=by
 subst t
 obtain ⟨ls,H,o,hm,I⟩:=hg
 have J:=u.nd
 intro ty
 have hlen:cs.toList.length=r.n:=r.len d
 refine xQ (xs:=[cs.toList]) (e:=e) (size:=r.n) (z:=z) (l:=ls) h0 h1 he B hs C D hb E F H J rfl (fun y p=>?_) ?_ (by simpa [o] using k) (fun v a K L=>G v a (aW.more K o rfl I (fun i y g=>?_) k) _ rfl ⟨L⟩)
 ·simp only[List.mem_singleton] at p;subst p;exact ⟨hlen,r.one d⟩
 ·simp only[fj,Nat.one_mul]
  rw[xS (xR w) A _ _ (by omega)]
  rw[List.drop_zero,List.take_of_length_le (by omega)]
  simp
 ·cases i with
  |zero=>simp at g;subst g;exact ⟨cs.toList,rfl,d⟩
  |succ m=>simp at g
theorem BZ {T:Type}{r:bT T}{ro:Addr->Option Value}{aN:List (Nat×Obj)}{R:Value->af->Prop}{argTypes:Array TypeId}{g i e m:TypeId}{d c:Nat}{ad:Option Addr}{s z:Value}{l xs:List T}{own:List (Nat×Obj)}(pre aS:List (Nat×Obj))(o:own=pre++(aN++aS))
  (hg:aW r ro e s l aN) (p:aM (keys own)) (j:l.length+xs.length<=1000000) (q:az r ro (.slice ad xs.length c) xs)
  (h0:argTypes[0]?=some g) (h1:argTypes[1]?=some i) (he:cL P g=some e) (t:cL P i=some m) (hs:bQ P e=some r.n) (u:zeroOf P e=some z) (w:z.cells.size=r.n) (hb:bytesOf P e=some d)
  (x:0<d) (y:d<=10000)
  (A:∀v b,aW r ro e v (l++xs) b->∀f,f=pre++(b++aS)->aM (keys f)->∃F0,Le F0 ⟨ro,f⟩/\R v F0):kD P argTypes s (.slice ad xs.length c) R ⟨ro,own⟩:=by
 subst o
 obtain ⟨ls,B,k,hm,C⟩:=hg
 have D:=p.nd
 intro ty
 obtain ⟨E,k1,F,G,H⟩:=q.cells ⟨ro,pre++(aN++aS)⟩ (fun a v h=>by simp[af.get,h])
 exact xQ (xs:=E) (e:=e) (size:=r.n) (z:=z) (l:=ls) h0 h1 he t hs u w hb x y B D k1.symm F H (by rw[k,k1];exact j) (fun v b I J=>A v b (aW.more I k k1 C G j) _ rfl ⟨J⟩)
theorem aW.jM {T:Type}{r:bT T}{ro:Addr->Option Value}{e:TypeId}{v:Value}{l:List T}{aN:List (Nat×Obj)}(h:aW r ro e v l aN){own:List (Nat×Obj)}(a pre aS:List (Nat×Obj))(d:own=pre++(aN++aS))(f:a=pre++aS)(g:aM (keys own))(i:aA ro a):
  ∃aH,Ext ro aH/\aA aH a/\az r aH v l/\Le ⟨aH,a⟩ ⟨ro,own⟩:=by
 subst d f
 have b:Nd (pre++(aN++aS)):=g.nd
 have j:Apart (keys (pre++aS)) aN:=fun k c hm=>by
  simp only[Nd,bY] at b
  have h2:=List.nodup_append.1 b
  simp only[bY,List.mem_append] at hm
  rcases hm with hm|hm
  ·exact h2.2.2 k hm k (List.mem_append_left _ c) rfl
  ·exact (List.nodup_append.1 h2.2.1).2.2 k c k hm rfl
 obtain ⟨aH,h1,h2,h3,m⟩:=h.xp (pre++aS) j rfl i
 refine ⟨aH,h1,h2,h3,m.trans ?_⟩
 have n:((pre++aS)++aN).Perm (pre++(aN++aS)):=by
  rw[List.append_assoc]
  exact List.Perm.append_left pre List.perm_append_comm
 exact Le.ps n (List.Sublist.refl _)
theorem aW.setAt {T:Type}{r:bT T}{ro:Addr->Option Value}{e:TypeId}{l:List T}{b n cap:Nat}{arr:Array Value}(h:aW r ro e (.slice (some ⟨b,0,none⟩) n cap) l [(b,.cells arr e)]){i:Nat}{x y:T}(o:l[i]?=some x){cs:List Value}(m:r.rel ro y cs):
  aW r ro e (.slice (some ⟨b,0,none⟩) n cap) (l.set i y) [(b,.cells (dz arr (i*r.n) cs) e)]:=by
 obtain ⟨ls,hg,p,hm,q⟩:=h
 have C:i<l.length:=(List.getElem?_eq_some_iff.1 o).1
 have a:=r.len m
 rcases hg with ⟨k,_,_⟩|⟨D,E,s,k,t,hs,hle,ht,c,u⟩
 ·cases k
 ·cases t
  obtain ⟨rfl,rfl⟩:n=ls.length/\cap=s:=by cases k;exact ⟨rfl,rfl⟩
  have v:i*r.n+cs.length<=arr.size:=by
   rw[hs,a,<-Nat.succ_mul]
   exact Nat.mul_le_mul_right _ (by omega)
  refine ⟨ls.set i cs,.inr ⟨b,_,cap,by simp,rfl,by rw[o9];exact hs,by simpa using hle,?_,?_,u⟩,by simp[p],by simpa using hm,fun j z d=>?_⟩
  ·rw[pe _ _ _ v]
   have F:=gm c
   have f:i<ls.length:=by omega
   have e1:(ls.set i cs).flatten=(ls.take i).flatten++cs++(ls.drop (i+1)).flatten:=by
    rw[List.set_eq_take_append_cons_drop,if_pos f]
    simp
   have e2:ls.flatten=(ls.take i).flatten++(ls.drop i).flatten:=by rw[<-List.flatten_append,List.take_append_drop]
   have t1:((ls.take i).flatten).length=i*r.n:=by rw[gm (fun x h=>c x (List.mem_of_mem_take h)),List.length_take,Nat.min_eq_left (by omega)]
   have w:(ls.drop i).flatten=ls[i]++(ls.drop (i+1)).flatten:=by rw[List.drop_eq_getElem_cons f,List.flatten_cons]
   have t2:ls[i].length=r.n:=c _ (List.getElem_mem f)
   have a1:arr.toList.take (i*r.n)=(ls.take i).flatten:=by
    have:=congrArg (List.take (i*r.n)) ht
    rw[List.take_take,Nat.min_eq_left (Nat.mul_le_mul_right _ (by omega)),e2,List.take_append_of_le_length (Nat.le_of_eq t1.symm),List.take_of_length_le (Nat.le_of_eq t1)] at this
    exact this
   have a2:(arr.toList.take (ls.length*r.n)).drop (i*r.n+cs.length)=(ls.drop (i+1)).flatten:=by
    have t3:((ls.take i).flatten++ls[i]).length=i*r.n+cs.length:=by rw[List.length_append,t1,t2,a]
    rw[ht,e2,w,<-List.append_assoc,List.drop_append_of_le_length (Nat.le_of_eq t3.symm),List.drop_eq_nil_of_le (Nat.le_of_eq t3),List.nil_append]
   rw[a1,e1]
   simp only[List.length_set]
   have A:ls.length*r.n=(i*r.n+cs.length)+(ls.length*r.n - (i*r.n+cs.length)):=by
    have:i*r.n+cs.length<=ls.length*r.n:=by rw[a,<-Nat.succ_mul];exact Nat.mul_le_mul_right _ f
    omega
   rw[A,List.take_append]
   rw[List.take_of_length_le (by rw[List.length_append,t1];omega)]
   congr 1
   have:i*r.n+cs.length+(ls.length*r.n - (i*r.n+cs.length)) - ((ls.take i).flatten++cs).length=ls.length*r.n - (i*r.n+cs.length):=by simp only[List.length_append,t1];omega
   rw[this,<-a2,List.drop_take]
  ·intro z B
   rcases List.mem_or_eq_of_mem_set B with h|h
   ·exact c z h
   ·rw[h];exact a
  ·rcases Nat.decEq i j with g|g
   ·rw[List.getElem?_set_ne g] at d
    obtain ⟨cs',h1,h2⟩:=q j z d
    exact ⟨cs',by rw[List.getElem?_set_ne g];exact h1,h2⟩
   ·subst g
    rw[List.getElem?_set_self (by omega)] at d
    obtain rfl:=Option.some.inj d
    exact ⟨cs,List.getElem?_set_self (by omega),m⟩
end
section
variable {P : Program} {main : Bool} {J : Goroutine → af → Prop}
theorem aL (hJ:Closed P main J){c:Code}{Q:Ex->Act->af->Prop}{a:Act}{F:af}(h:aM (keys F.own)->Wp J c Q a F):Wp J c Q a F:=by
 intro b k cs hb d
 by_cases hw:∃w,Has F w
 ·obtain ⟨w,hw⟩:=hw
  exact h ⟨hw.nodup⟩ b k cs hb d
 ·exact hJ.step fun w e=>absurd ⟨w,e⟩ hw
end
theorem aM.cons {l:List (Nat×Obj)}{b:Nat}(hb:aj l b)(h:aM (keys l)):aM (b::keys l):=⟨List.nodup_cons.2 ⟨jF hb,h.nd⟩⟩
theorem aA.nil (ro:Addr->Option Value):aA ro []:=fun b h=>by cases h
theorem aA.cons {ro:Addr->Option Value}{b:Nat}{o:Obj}{l:List (Nat×Obj)}(hb:∀off sp,ro ⟨b,off,sp⟩=none)(h:aA ro l):aA ro ((b,o)::l):=fun c a=>by
 simp only[keys,List.map_cons,List.mem_cons] at a
 rcases a with rfl|a
 ·exact hb
 ·exact h c a
theorem aA.app {ro:Addr->Option Value}{l l':List (Nat×Obj)}(h:aA ro l)(b:aA ro l'):aA ro (l++l'):=fun c a=>by
 rw[bY] at a
 exact (List.mem_append.1 a).elim (h c) (b c)
theorem aA.hd {ro:Addr->Option Value}{b:Nat}{o:Obj}{l:List (Nat×Obj)}(h:aA ro ((b,o)::l)):∀off sp,ro ⟨b,off,sp⟩=none:=h b (by simp[keys])
theorem aA.tl {ro:Addr->Option Value}{x:Nat×Obj}{l:List (Nat×Obj)}(h:aA ro (x::l)):aA ro l:=fun c a=>h c (by simp only[keys,List.map_cons,List.mem_cons];exact .inr a)
theorem aA.l {ro:Addr->Option Value}{l l':List (Nat×Obj)}(h:aA ro (l++l')):aA ro l:=fun c a=>h c (by rw[bY];exact List.mem_append_left _ a)
theorem aA.r {ro:Addr->Option Value}{l l':List (Nat×Obj)}(h:aA ro (l++l')):aA ro l':=fun c a=>h c (by rw[bY];exact List.mem_append_right _ a)
theorem aW.iu {T:Type}{r:bT T}{ro:Addr->Option Value}{e:TypeId}{v:Value}{l:List T}{aN:List (Nat×Obj)}(h:aW r ro e v l aN):aA ro aN:=by
 obtain ⟨ls,hg,-⟩:=h
 rcases hg with ⟨_,_,rfl⟩|⟨b,arr,cap,_,rfl,_,_,_,_,a⟩
 ·exact aA.nil _
 ·exact aA.cons a (aA.nil _)
theorem Le.back {ro:Addr->Option Value}{l l':List (Nat×Obj)}(A B O S:List (Nat×Obj))(h1:l=A++(B++(O++S)))(h2:l'=A++(O++(B++S))):Le ⟨ro,l⟩ ⟨ro,l'⟩:=by
 subst h1 h2
 refine Le.ps (m:=A++(O++(B++S))) (List.Perm.append_left A ?_) (List.Sublist.refl _)
 rw[<-List.append_assoc,<-List.append_assoc]
 exact List.Perm.append_right S List.perm_append_comm
section
variable {P : Program} {main : Bool} {J : Goroutine → af → Prop}
def pR (J:Goroutine->af->Prop)(iw:Frame)(F:af)(R:Value->af->Prop):Prop:=
 ∀(c:Frame) (cs:List Frame),(∀v F',R v F'->J (G (c.finish v) cs) F')->J (G iw (c::cs)) F
theorem xU (hJ:Closed P main J){iw:Frame}{ro:Addr->Option Value}{aN:List (Nat×Obj)}{K:Value->af->Prop}{own:List (Nat×Obj)}(pre aS:List (Nat×Obj))(q:own=pre++(aN++aS))(R:Value->List (Nat×Obj)->Prop)(h:∀(main:Bool) (J:Goroutine->af->Prop),Closed P main J->pR J iw ⟨ro,aN⟩ (fun v G=>∃d,R v d/\Le ⟨ro,d⟩ G))
  (L:∀v d,R v d->∀r,r=pre++(d++aS)->aM (keys r)->∃F0,Le F0 ⟨ro,r⟩/\K v F0):pR J iw ⟨ro,own⟩ K:=by
 subst q
 intro c cs M
 by_cases hw:∃w,Has ⟨ro,pre++(aN++aS)⟩ w
 ·obtain ⟨s,k⟩:=hw
  let F:af:=⟨fun _=>none,pre++aS⟩
  have t:(pre++aS).Sublist (pre++(aN++aS)):=List.Sublist.append_left (List.sublist_append_right aN aS) pre
  have u:aN.Sublist (pre++(aN++aS)):=(List.sublist_append_left aN aS).trans (List.sublist_append_right pre _)
  have B:∀w,Has ⟨ro,pre++(aN++aS)⟩ w->Has F w:=fun w hw=>⟨fun a v h=>(by cases h),fun b o hb=>hw.own b o (t.subset hb),(t.map _).nodup hw.nodup,fun a v h=>(by cases h)⟩
  have C:∀w,Has ⟨ro,pre++(aN++aS)⟩ w->Has ⟨ro,aN⟩ w:=fun w hw=>⟨hw.ro,fun b o hb=>hw.own b o (u.subset hb),(u.map _).nodup hw.nodup,fun a v i hm=>hw.apart a v i ((u.map _).subset hm)⟩
  have hd:∀b,b∈keys aN->b∉keys (pre++aS):=fun b hb hm=>by
   have l:=k.nodup
   simp only[bY] at l
   have h2:=List.nodup_append.1 l
   simp only[bY,List.mem_append] at hm
   rcases hm with hm|hm
   ·exact h2.2.2 b hm b (List.mem_append_left _ hb) rfl
   ·exact (List.nodup_append.1 h2.2.1).2.2 b hb b hm rfl
  have D:Fits F ⟨ro,aN⟩:=⟨⟨s,C s k,B s k⟩,hd,fun a f hm=>(by cases f)⟩
  have N:kI F ⟨ro,aN⟩:=fun a f hm=>by
   obtain ⟨v,O⟩:=Option.isSome_iff_exists.1 f
   exact k.apart a v O ((t.map _).subset hm)
  have q:su J F (G iw (c::cs)) ⟨ro,aN⟩:=by
   refine h main _ (xm hJ F) c cs fun v E A m l=>?_
   obtain ⟨d,A,hle⟩:=A
   have H:Le ⟨ro,pre++(d++aS)⟩ (E.star F):=by
    refine ⟨fun w hw=>?_,fun b hb=>?_,fun a f=>?_⟩
    ·have n:=hle.has w (m.right hw)
     have g:=m.left hw
     have Q:∀b,b∈keys d->b∉keys (pre++aS):=fun b hb=>m.own b (hle.own b hb)
     have j:(pre++(d++aS)).Perm (d++(pre++aS)):=by
      rw[<-List.append_assoc,<-List.append_assoc]
      exact List.Perm.append_right aS List.perm_append_comm
     refine ⟨n.ro,fun b o hb=>?_,?_,fun a v i hm=>?_⟩
     ·rcases List.mem_append.1 (j.subset hb) with x|x
      ·exact n.own b o x
      ·exact g.own b o x
     ·refine (j.map _).nodup_iff.2 ?_
      rw[List.map_append]
      exact List.nodup_append.2 ⟨n.nodup,g.nodup,fun a f b hb e=>Q a f (e▸hb)⟩
     ·have I:=(j.map (·.1)).subset hm
      rw[List.map_append] at I
      rcases List.mem_append.1 I with x|x
      ·exact n.apart a v i x
      ·rcases hle.ro a (by simp only at i;simp[i]) with y|y
       ·exact l a y x
       ·exact m.own _ y x
    ·simp only[af.star,bY,List.mem_append] at hb ⊢
     rcases hb with x|x|x
     ·exact .inr (show b∈keys (pre++aS) by rw[bY];exact List.mem_append_left _ x)
     ·exact .inl (hle.own b x)
     ·exact .inr (show b∈keys (pre++aS) by rw[bY];exact List.mem_append_right _ x)
    ·rcases hle.ro a f with x|x
     ·exact (fG (.inr x)).imp id (fun z=>by simp only[af.star,bY,List.mem_append];exact .inr z)
     ·exact .inr (by simp only[af.star,bY,List.mem_append];exact .inl x)
   have S:∃fr cs',G (c.finish v) cs=G fr cs':=⟨_,_,rfl⟩
   obtain ⟨fr,cs',T⟩:=S
   by_cases p:∃w,Has (E.star F) w
   ·obtain ⟨w1,p⟩:=p
    obtain ⟨F0,U,V⟩:=L v d A _ rfl ⟨(H.has w1 p).nodup⟩
    exact hJ.mono (U.trans H) (M v F0 V)
   ·rw[T]
    exact hJ.step fun w g=>absurd ⟨w,g⟩ p
  refine hJ.mono ⟨fun w hw=>D.both (C w hw) (B w hw),fun b hb=>?_,fun a f=>?_⟩ (q D N)
  ·have j:(aN++(pre++aS)).Perm (pre++(aN++aS)):=by
    rw[<-List.append_assoc,<-List.append_assoc]
    exact List.Perm.append_right aS List.perm_append_comm
   exact (j.map _).subset hb
  ·rcases iP f with x|x
   ·cases x
   ·exact .inl x
 ·exact hJ.step fun w g=>absurd ⟨w,g⟩ hw
theorem xV (hJ:Closed P main J){f:FuncId}{args:Array Value}{ro:Addr->Option Value}{aN:List (Nat×Obj)}{K:Value->af->Prop}{own:List (Nat×Obj)}(pre aS:List (Nat×Obj))(c:own=pre++(aN++aS))(R:Value->List (Nat×Obj)->Prop)(h:ay P f args ⟨ro,aN⟩ (fun v G=>∃a,R v a/\Le ⟨ro,a⟩ G))
  (d:∀v a,R v a->∀b,b=pre++(a++aS)->aM (keys b)->∃F0,Le F0 ⟨ro,b⟩/\K v F0):cC P J f args ⟨ro,own⟩ K:=
 xU hJ (iw:=Frame.enter P f args .normal) pre aS c R h d
end
attribute [go_sem] Array.size_setIfInBounds
theorem az.op {T:Type}{r:bT T}{ro:Addr->Option Value}{ad:Option Addr}{n cap:Nat}{l:List T}(h:az r ro (.slice ad n cap) l):
  l.length<=cap/\l.length<=1000000000000000/\∀i x,l[i]?=some x->∃p cs,ad=some p/\r.rel ro x cs/\∀j v,cs[j]?=some v->ro ((p.add (i*r.n)).add j)=some v:=by
 obtain ⟨a,b,e,h1,h2,h3⟩:=h
 cases e
 exact ⟨h1,h2,h3⟩
theorem aM.sub {l l':List (Nat×Obj)}(A O S:List (Nat×Obj))(h1:l=A++S)(h2:l'=A++(O++S))(h:aM (keys l')):aM (keys l):=by
 subst h1 h2
 exact
 ⟨((List.Sublist.append_left (List.sublist_append_right O S) A).map _).nodup h.nd⟩
theorem aM.back {l l':List (Nat×Obj)}(A B O S:List (Nat×Obj))(h1:l=A++(B++(O++S)))(h2:l'=A++(O++(B++S)))(h:aM (keys l')):aM (keys l):=by
 subst h1 h2
 refine ⟨(List.Perm.map _ (List.Perm.append_left A ?_)).nodup_iff.2 h.nd⟩
 rw[<-List.append_assoc,<-List.append_assoc]
 exact List.Perm.append_right S List.perm_append_comm
theorem e8 {ro:Addr->Option Value}{b:Nat}{o:Obj}(pre aS:List (Nat×Obj))(f:aM (keys (pre++((b,o)::aS))))(_hr:∀off sp,ro ⟨b,off,sp⟩=none)(g:aA ro (pre++aS)):
  Ext ro (bI ro b o)/\aA (bI ro b o) (pre++aS)/\Le ⟨bI ro b o,pre++aS⟩ ⟨ro,pre++((b,o)::aS)⟩:=by
 have a:(pre++((b,o)::aS)).Perm ((b,o)::(pre++aS)):=List.perm_middle
 have h2:Nd ((b,o)::(pre++aS)):=(a.map _).nodup_iff.1 f.nd
 have hb:b∉keys (pre++aS):=(List.nodup_cons.1 h2).1
 refine ⟨fl _ _ _,fun c d off sp=>?_,?_⟩
 ·have h:¬c=b:=fun e=>hb (e▸d)
  simp[bI,g c d,h]
 ·have h3:Le ⟨bI ro b o,pre++aS⟩ ⟨ro,(b,o)::(pre++aS)⟩:=iU (by simp[lk]) (.cons _ (List.Sublist.refl _)) (kK hb)
  exact h3.trans (Le.ps a.symm (List.Sublist.refl _))
section
variable {P : Program} {main : Bool} {J : Goroutine → af → Prop}
theorem fo (hJ:Closed P main J){c:Code}{Q:Ex->Act->af->Prop}{a:Act}{F:af}(h:aM (keys F.own)->aA F.ro F.own->Wp J c Q a F):Wp J c Q a F:=by
 intro b k cs hb d
 by_cases hw:∃w,Has F w
 ·obtain ⟨w,hw⟩:=hw
  refine h ⟨hw.nodup⟩ (fun b hb off sp=>?_) b k cs hb d
  cases e:F.ro ⟨b,off,sp⟩ with
  |none=>rfl
  |some v=>exact absurd hb (hw.apart _ v e)
 ·exact hJ.step fun w f=>absurd ⟨w,f⟩ hw
end
theorem sM:∀(a:List Value) (arr:Array Value) (k:Nat),k+a.length<=arr.size->∀q,(dz arr k a)[q]?=if k<=q/\q<k+a.length then a[q - k]? else arr[q]?
 |[],arr,k,h,q=>by
  have:¬(k<=q/\q<k+([]:List Value).length):=by simp
  rw[if_neg this];rfl
 |v::a,arr,k,h,q=>by
  simp only[List.length_cons] at h
  rw[dz,sM a _ (k+1) (by simp;omega)]
  simp only[List.length_cons]
  by_cases h1:k=q
  ·subst h1
   rw[if_neg (by omega),if_pos (by omega),Array.getElem?_setIfInBounds_self_of_lt (by omega)]
   simp
  ·by_cases h2:k+1<=q/\q<k+1+a.length
   ·rw[if_pos h2,if_pos (by omega)]
    rw[show q - k=(q - (k+1))+1 by omega]
    simp
   ·rw[if_neg h2,if_neg (by omega),Array.getElem?_setIfInBounds_ne h1]
theorem aW.part {T:Type}{r:bT T}{ro:Addr->Option Value}{e:TypeId}{l:List T}{b n cap:Nat}{arr:Array Value}(h:aW r ro e (.slice (some ⟨b,0,none⟩) n cap) l [(b,.cells arr e)]){i:Nat}{x y:T}(m:l[i]?=some x)(o:Nat)(a cs cs':List Value)
  (hm:∀j v,cs[j]?=some v->arr[i*r.n+j]?=some v) (hlen:cs.length=r.n) (f:cs'=cs.take o++a++cs.drop (o+a.length)) (t:o+a.length<=cs.length) (g:r.rel ro y cs'):
  aW r ro e (.slice (some ⟨b,0,none⟩) n cap) (l.set i y) [(b,.cells (dz arr (i*r.n+o) a) e)]:=by
 have h2:=h.setAt m g
 have d:=r.len g
 have p:i*r.n+r.n<=arr.size:=by
  rcases Nat.eq_zero_or_pos r.n with h0|u
  ·rw[h0];omega
  ·have c:r.n - 1<cs.length:=by omega
   have:=hm (r.n - 1) cs[r.n - 1] (List.getElem?_eq_getElem c)
   have:=(Array.getElem?_eq_some_iff.1 this).1
   omega
 have e1:dz arr (i*r.n) cs'=dz arr (i*r.n+o) a:=by
  apply Array.ext_getElem?
  intro q
  rw[sM cs' arr _ (by rw[d];exact p),sM a arr _ (by omega)]
  by_cases h1:i*r.n+o<=q/\q<i*r.n+o+a.length
  ·rw[if_pos h1,if_pos (by rw[d];omega),f]
   rw[List.append_assoc,List.getElem?_append_right (by simp;omega),List.getElem?_append_left (by simp;omega)]
   congr 1
   simp;omega
  ·rw[if_neg h1]
   by_cases h3:i*r.n<=q/\q<i*r.n+cs'.length
   ·rw[if_pos h3]
    rw[d] at h3
    have s:arr[q]?=cs[q - i*r.n]?:=by
     have c:q - i*r.n<cs.length:=by omega
     have:=hm (q - i*r.n) _ (List.getElem?_eq_getElem c)
     rw[show i*r.n+(q - i*r.n)=q by omega] at this
     rw[this,List.getElem?_eq_getElem c]
    rw[s,f]
    rcases Nat.lt_or_ge (q - i*r.n) o with k|k
    ·rw[List.append_assoc,List.getElem?_append_left (by simp;omega),List.getElem?_take_of_lt k]
    ·have w:o+a.length<=q - i*r.n:=by omega
     rw[List.getElem?_append_right (by simp;omega),List.getElem?_drop]
     congr 1
     simp;omega
   ·rw[if_neg h3]
 rw[e1] at h2
 exact h2
theorem aW.elemAt {T:Type}{r:bT T}{ro:Addr->Option Value}{e:TypeId}{b n cap:Nat}{l:List T}{aN:List (Nat×Obj)}(h:aW r ro e (.slice (some ⟨b,0,none⟩) n cap) l aN){i:Nat}{x:T}(a:l[i]?=some x):
  ∃arr cs,aN=[(b,.cells arr e)]/\(∀off sp,ro ⟨b,off,sp⟩=none)/\r.rel ro x cs/\∀j v,cs[j]?=some v->arr[i*r.n+j]?=some v:=by
 obtain ⟨k,arr,m,cs,c,d,f,g,hm⟩:=h.elem a
 cases c
 exact ⟨arr,cs,d,f,g,hm⟩
theorem aW.xW {T:Type}{r:bT T}{ro:Addr->Option Value}{e:TypeId}{ad:Option Addr}{n cap:Nat}{l:List T}{aN:List (Nat×Obj)}(h:aW r ro e (.slice ad n cap) l aN){i:Nat}{x:T}(a:l[i]?=some x):
  ∃b arr cs,ad=some ⟨b,0,none⟩/\aN=[(b,.cells arr e)]/\(∀off sp,ro ⟨b,off,sp⟩=none)/\r.rel ro x cs/\∀j v,cs[j]?=some v->arr[i*r.n+j]?=some v:=by
 obtain ⟨c,arr,m,cs,d,f,g,k,hm⟩:=h.elem a
 injection d with h1 h2 h3
 exact ⟨c,arr,cs,h1,f,g,k,hm⟩
theorem aW.jN {T:Type}{r:bT T}{ro:Addr->Option Value}{e:TypeId}{b n cap:Nat}{l:List T}{arr:Array Value}(h:aW r ro e (.slice (some ⟨b,0,none⟩) n cap) l [(b,.cells arr e)]){i:Nat}{x:T}(c:l[i]?=some x):
  ∃cs,r.rel ro x cs/\∀j v,cs[j]?=some v->arr[i*r.n+j]?=some v:=by
 obtain ⟨f,cs,a,g,d,hm⟩:=h.elemAt c
 simp only[List.cons.injEq,Prod.mk.injEq,Obj.cells.injEq,true_and,and_true] at a
 subst a
 exact ⟨cs,d,hm⟩
theorem aW.sN {T:Type}{r:bT T}{ro:Addr->Option Value}{e:TypeId}{l:List T}{b n cap:Nat}{arr:Array Value}(h:aW r ro e (.slice (some ⟨b,0,none⟩) n cap) l [(b,.cells arr e)]){i:Nat}{y:T}(a:i<l.length){cs:List Value}(c:r.rel ro y cs):
  aW r ro e (.slice (some ⟨b,0,none⟩) n cap) (l.set i y) [(b,.cells (dz arr (i*r.n) cs) e)]:=h.setAt (List.getElem?_eq_getElem a) c
theorem aW.sO {T:Type}{r:bT T}{ro:Addr->Option Value}{e:TypeId}{ad:Option Addr}{n cap:Nat}{l:List T}{aN:List (Nat×Obj)}(h:aW r ro e (.slice ad n cap) l aN)(a:l.isEmpty=false):
  ∃b arr,ad=some ⟨b,0,none⟩/\aN=[(b,.cells arr e)]/\(∀off sp,ro ⟨b,off,sp⟩=none):=by
 cases l with
 |nil=>cases a
 |cons x l=>
  obtain ⟨b,arr,cs,h1,h2,h3,_⟩:=h.xW (i:=0) rfl
  exact ⟨b,arr,h1,h2,h3⟩
theorem aW.B1 {T:Type}{r:bT T}{ro:Addr->Option Value}{e:TypeId}{b n cap:Nat}{l:List T}{aN:List (Nat×Obj)}(h:aW r ro e (.slice (some ⟨b,0,none⟩) n cap) l aN):∃arr,aN=[(b,.cells arr e)]:=by
 obtain ⟨ls,hg,-⟩:=h
 rcases hg with ⟨a,_,_⟩|⟨d,arr,f,a,c,_⟩
 ·cases a
 ·cases a
  exact ⟨arr,c⟩
theorem aW.count {T:Type}{r:bT T}{ro:Addr->Option Value}{e:TypeId}{ad:Option Addr}{n cap:Nat}{l:List T}{aN:List (Nat×Obj)}(h:aW r ro e (.slice ad n cap) l aN):l.length=n:=by
 obtain ⟨b,c,a,_⟩:=h.len
 cases a
 rfl
def nL (ops:Array Oper)(bN:List Nat)(i:Nat):Bool:=bN.all fun j=>match ops[j]? with
 |some o=>o.after.any fun e=>Region.binds .any e&&e.on==i
 |none=>true
section
variable {P : Program} {main : Bool} {J : Goroutine → af → Prop} {ops : Array Oper} {Q : Act → af → Prop} {S : af → Prop} {bN : List Nat}
def dB (P:Program)(J:Goroutine->af->Prop)(ops:Array Oper)(Q:Act->af->Prop)(S:af->Prop)(bN:List Nat):Nat->Array Bool->Act->af->Prop
 |0,listed,a,F=>Region.ready .any ops listed=[]/\Q a F
 |fuel+1,listed,a,F=>(Region.ready .any ops listed=[]->Q a F)/\
  ∀i∈Region.ready .any ops listed,dh P J ops i (fun b F'=>(¬i∈bN->S F->S F')/\dB P J ops Q S bN fuel (listed.setIfInBounds i true) b F') a F
theorem B2:∀(fuel t:Nat) (listed:Array Bool) (a:Act) (F:af),dB P J ops Q S bN fuel listed a F->
  e4 P J ops Q (Region.linearise.go .any ops fuel t listed []) a F:=by
 intro fuel
 induction fuel with
 |zero=>intro t listed a F h;simpa [Region.linearise.go,e4] using h.2
 |succ fuel ih=>
  intro t listed a F h
  obtain ⟨c,d⟩:=h
  simp only[Region.linearise.go]
  change e4 P J ops Q (match (Region.ready .any ops listed)[t % (Region.ready .any ops listed).length]? with
   |some i=>Region.linearise.go .any ops fuel (t/(Region.ready .any ops listed).length) (listed.setIfInBounds i true) [i]
   |none=>[].reverse) a F
  cases b:(Region.ready .any ops listed)[t % (Region.ready .any ops listed).length]? with
  |none=>
   have e:Region.ready .any ops listed=[]:=by
    cases f:Region.ready .any ops listed with
    |nil=>rfl
    |cons x xs=>
     rw[f] at b
     have g:t % (x::xs).length<(x::xs).length:=Nat.mod_lt _ (by simp)
     simp at b
     simp at g
     omega
   simpa [e4] using c e
  |some i=>
   simp only[]
   rw[linearise_go_acc,List.reverse_singleton,List.singleton_append]
   exact m3 (fun a F h=>ih _ _ a F h.2) (d i (List.mem_of_getElem? b))
theorem B3 {i:Nat}{g:Oper}{v:Value}(r:ops[i]?=some g)(l:nL ops bN i=true)(t:∀(j:Nat) (o:Oper) cs b,ops[j]?=some o->o.op≠ .select cs b):
  ∀(fuel:Nat) (listed:Array Bool) (a:Act) (F:af),
   (∀j d,ops[j]?=some d->j≠i->listed.getD j true=false->(∀e∈d.after,Region.binds .any e=true->e.on≠i)->g.apart ops d=true)->
   i∈Region.ready .any ops listed->eO P J ops S g v a->S F->
   dB P J ops Q S bN fuel (listed.setIfInBounds i true) (a.put g.dst v) F->dB P J ops Q S bN (fuel+1) listed a F:=by
 intro fuel
 induction fuel with
 |zero=>
  intro listed a F _ f m n H
  refine ⟨fun h=>(by rw[h] at f;cases f),fun j p=>?_⟩
  by_cases c:j=i
  ·subst c;exact m.lG r n ⟨fun _ h=>h,H⟩
  ·have:=ready_mono p c
   rw[H.1] at this
   cases this
 |succ fuel ih=>
  intro listed a F u f m n H
  refine ⟨fun h=>(by rw[h] at f;cases f),fun j p=>?_⟩
  by_cases c:j=i
  ·subst c;exact m.lG r n ⟨fun _ h=>h,H⟩
  ·have h1:=H.2 j (ready_mono p c)
   obtain ⟨w,d,q,B⟩:=mem_ready.1 p
   have y:∀e∈d.after,Region.binds .any e=true->e.on≠i:=fun e he hb heq=>by
    have h1:=B e he hb
    have h0:=(mem_ready.1 f).1
    rw[heq] at h1
    rcases Nat.lt_or_ge i listed.size with s|s
    ·simp[s] at h0 h1;rw[h0] at h1;cases h1
    ·simp[Array.getElem?_eq_none s] at h1
   have C:¬j∈bN:=fun e=>by
    have l:=List.all_eq_true.1 l j e
    simp only[q,Array.any_eq_true,Bool.and_eq_true,beq_iff_eq] at l
    obtain ⟨x,D,h1,h2⟩:=l
    exact y _ (Array.getElem_mem D) h1 h2
   have h2:=rK q (u j d q c w y) (fun cs b=>t i g cs b r) (fun cs b=>t j d cs b q) m h1
   have E:∀k ok,ops[k]?=some ok->k≠i->(listed.setIfInBounds j true).getD k true=false->
     (∀e∈ok.after,Region.binds .any e=true->e.on≠i)->g.apart ops ok=true:=fun k ok G I z K=>by
    refine u k ok G I ?_ K
    by_cases A:j=k
    ·subst A;exact w
    ·rw[getD_set_ne true A] at z;exact z
   refine m3 (fun L F' h3=>⟨h3.2.1,ih (listed.setIfInBounds j true) L F' E (ready_mono f (Ne.symm c)) h3.1 (h3.2.1 C n) ?_⟩) h2
   rw[Array.setIfInBounds_comm _ _ c]
   exact h3.2.2
theorem B4 {i:Nat}{g:Oper}{v:Value}(n:ops[i]?=some g)(r:∀(j:Nat) (o:Oper) cs b,ops[j]?=some o->o.op≠ .select cs b):
  ∀(fuel:Nat) (listed:Array Bool) (a:Act) (F:af),
   (∀j d,ops[j]?=some d->j≠i->listed.getD j true=false->(∀e∈d.after,Region.binds .any e=true->e.on≠i)->g.apart ops d=true)->
   i∈Region.ready .any ops listed->eO P J ops (fun _=>True) g v a->
   dB P J ops Q S bN fuel (listed.setIfInBounds i true) (a.put g.dst v) F->dB P J ops Q S bN (fuel+1) listed a F:=by
 intro fuel
 induction fuel with
 |zero=>
  intro listed a F _ f l H
  refine ⟨fun h=>(by rw[h] at f;cases f),fun j m=>?_⟩
  by_cases c:j=i
  ·subst c;exact l.lG n trivial ⟨fun _ h=>h,H⟩
  ·have:=ready_mono m c
   rw[H.1] at this
   cases this
 |succ fuel ih=>
  intro listed a F s f l H
  refine ⟨fun h=>(by rw[h] at f;cases f),fun j m=>?_⟩
  by_cases c:j=i
  ·subst c;exact l.lG n trivial ⟨fun _ h=>h,H⟩
  ·have h1:=H.2 j (ready_mono m c)
   obtain ⟨t,d,p,x⟩:=mem_ready.1 m
   have y:∀e∈d.after,Region.binds .any e=true->e.on≠i:=fun e he hb heq=>by
    have h1:=x e he hb
    have h0:=(mem_ready.1 f).1
    rw[heq] at h1
    rcases Nat.lt_or_ge i listed.size with q|q
    ·simp[q] at h0 h1;rw[h0] at h1;cases h1
    ·simp[Array.getElem?_eq_none q] at h1
   have h2:=rK p (s j d p c t y) (fun cs b=>r i g cs b n) (fun cs b=>r j d cs b p) l h1
   have z:∀k ok,ops[k]?=some ok->k≠i->(listed.setIfInBounds j true).getD k true=false->
     (∀e∈ok.after,Region.binds .any e=true->e.on≠i)->g.apart ops ok=true:=fun k ok A B u C=>by
    refine s k ok A B ?_ C
    by_cases w:j=k
    ·subst w;exact t
    ·rw[getD_set_ne true w] at u;exact u
   refine m3 (fun D F' h3=>⟨h3.2.1,ih (listed.setIfInBounds j true) D F' z (ready_mono f (Ne.symm c)) h3.1 ?_⟩) h2
   rw[Array.setIfInBounds_comm _ _ c]
   exact h3.2.2
theorem xX (i:Nat){c:Oper}(v:Value){fuel:Nat}{listed:Array Bool}{a:Act}{F:af}(d:ops[i]?=some c)
  (b:(Region.noSelect ops&&Region.free .any ops listed i&&(Region.ready .any ops listed).contains i)=true)
  (e:nL ops bN i=true) (f:eO P J ops S c v a) (g:S F)
  (h:dB P J ops Q S bN fuel (listed.setIfInBounds i true) (a.put c.dst v) F):dB P J ops Q S bN (fuel+1) listed a F:=by
 simp only[Bool.and_eq_true] at b
 exact B3 d e (Region.noSelect_spec b.1.1) fuel listed a F (Region.free_spec d b.1.2) (by simpa using b.2) f g h
theorem sP {rs:List Nat}{fuel:Nat}{listed:Array Bool}{a:Act}{F:af}(b:Region.ready .any ops listed=rs)(c:rs≠[])
  (h:∀i∈rs,dh P J ops i (fun d F'=>(¬i∈bN->S F->S F')/\dB P J ops Q S bN fuel (listed.setIfInBounds i true) d F') a F):dB P J ops Q S bN (fuel+1) listed a F:=
 ⟨fun h0=>absurd (b▸h0) c,b▸h⟩
theorem xY (i:Nat){fuel:Nat}{listed:Array Bool}{a:Act}{F:af}(b:Region.ready .any ops listed=[i])
  (h:dh P J ops i (fun c F'=>(¬i∈bN->S F->S F')/\dB P J ops Q S bN fuel (listed.setIfInBounds i true) c F') a F):dB P J ops Q S bN (fuel+1) listed a F:=
 sP b (by simp) (by simpa using h)
theorem xZ {listed:Array Bool}{a:Act}{F:af}(b:Region.ready .any ops listed=[])(h:Q a F):∀fuel,dB P J ops Q S bN fuel listed a F
 |0=>⟨b,h⟩
 |_+1=>⟨fun _=>h,by rw[b];simp⟩
end
theorem sQ {P:Program}{J:Goroutine->af->Prop}{ops:Array Oper}{Q:Act->af->Prop}{S:af->Prop}{bN:List Nat}(i:Nat){b:Oper}(v:Value){fuel:Nat}{listed:Array Bool}{a:Act}{F:af}(d:ops[i]?=some b)
  (e:(Region.noSelect ops&&Region.free .any ops listed i&&(Region.ready .any ops listed).contains i)=true)
  (f:nL ops bN i=true) (hg:cp ops b a=some true) (g:∀F R,S F->R v F->cz P J b R a F) (c:S F)
  (h:dB P J ops Q S bN fuel (listed.setIfInBounds i true) (aV a b.dst v) F):dB P J ops Q S bN (fuel+1) listed a F:=
 xX i v d e f (.inl ⟨bV hg,fun F R c j=>jB (g F R c j)⟩) c h
theorem B5 {P:Program}{J:Goroutine->af->Prop}{ops:Array Oper}{Q:Act->af->Prop}{S:af->Prop}{bN:List Nat}(i:Nat){b:Oper}{fuel:Nat}{listed:Array Bool}{a:Act}{F:af}(c:ops[i]?=some b)
  (d:(Region.noSelect ops&&Region.free .any ops listed i&&(Region.ready .any ops listed).contains i)=true)
  (e:nL ops bN i=true) (hg:cp ops b a=some false) (f:S F)
  (h:dB P J ops Q S bN fuel (listed.setIfInBounds i true) (aV a b.dst undef) F):dB P J ops Q S bN (fuel+1) listed a F:=
 xX i undef c d e (.inr ⟨bV hg,rfl⟩) f h
theorem x2 {P:Program}{J:Goroutine->af->Prop}{ops:Array Oper}{Q:Act->af->Prop}{S:af->Prop}{bN:List Nat}(i:Nat){c:Oper}(v:Value){fuel:Nat}{listed:Array Bool}{a:Act}{F:af}(d:ops[i]?=some c)
  (b:(Region.noSelect ops&&Region.free .any ops listed i&&(Region.ready .any ops listed).contains i)=true)
  (e:eO P J ops (fun _=>True) c v a)
  (h:dB P J ops Q S bN fuel (listed.setIfInBounds i true) (aV a c.dst v) F):dB P J ops Q S bN (fuel+1) listed a F:=by
 simp only[Bool.and_eq_true] at b
 exact B4 d (Region.noSelect_spec b.1.1) fuel listed a F (Region.free_spec d b.1.2) (by simpa using b.2) e h
inductive bW where
 |done
 |rd (i:Nat) (p:bW)
 |one (i:Nat) (p:bW)
 |two (i:Nat) (p:bW) (j:Nat) (q:bW)
 |three (i:Nat) (p:bW) (j:Nat) (q:bW) (k:Nat) (r:bW)
 |last (i:Nat) (p:bW)
 |pure (i:Nat) (p:bW)
inductive eW where
 |done
 |rd (o:Oper) (p:eW)
 |one (o:Oper) (p:eW)
 |two (o:Oper) (p:eW) (o':Oper) (q:eW)
 |three (o:Oper) (p:eW) (o':Oper) (q:eW) (iY:Oper) (r:eW)
 |last (o:Oper) (p:eW)
 |pure (o:Oper) (p:eW)
 |bad
def bW.opers (ops:Array Oper):bW->eW
 | .done=>.done
 | .rd i p=>match ops[i]? with
  |some o=>.rd o (p.opers ops)
  |none=>.bad
 | .one i p=>match ops[i]? with
  |some o=>.one o (p.opers ops)
  |none=>.bad
 | .two i p j q=>match ops[i]?,ops[j]? with
  |some o,some o'=>.two o (p.opers ops) o' (q.opers ops)
  |_,_=>.bad
 | .three i p j q k r=>match ops[i]?,ops[j]?,ops[k]? with
  |some o,some o',some iY=>.three o (p.opers ops) o' (q.opers ops) iY (r.opers ops)
  |_,_,_=>.bad
 | .last i p=>match ops[i]? with
  |some o=>.last o (p.opers ops)
  |none=>.bad
 | .pure i p=>match ops[i]? with
  |some o=>.pure o (p.opers ops)
  |none=>.bad
def bW.tl:bW->Bool
 | .done=>true
 | .last _ p=>p.tl
 | .pure _ p=>p.tl
 |_=>false
def bW.ok (ops:Array Oper)(bN:List Nat):bW->Array Bool->Bool
 | .done,L=>decide (Region.ready .any ops L=[])
 | .rd i p,L=>Region.free .any ops L i&&(Region.ready .any ops L).contains i&&(ops[i]?).isSome&&nL ops bN i&&p.ok ops bN (L.setIfInBounds i true)
 | .one i p,L=>decide (Region.ready .any ops L=[i])&&(ops[i]?).isSome&&p.ok ops bN (L.setIfInBounds i true)
 | .two i p j q,L=>decide (Region.ready .any ops L=[i,j])&&(ops[i]?).isSome&&(ops[j]?).isSome&&p.ok ops bN (L.setIfInBounds i true)&&q.ok ops bN (L.setIfInBounds j true)
 | .three i p j q k r,L=>decide (Region.ready .any ops L=[i,j,k])&&(ops[i]?).isSome&&(ops[j]?).isSome&&(ops[k]?).isSome&&p.ok ops bN (L.setIfInBounds i true)&&q.ok ops bN (L.setIfInBounds j true)&&r.ok ops bN (L.setIfInBounds k true)
 | .pure i p,L=>Region.free .any ops L i&&(Region.ready .any ops L).contains i&&(ops[i]?).isSome&&p.ok ops bN (L.setIfInBounds i true)
 | .last i p,L=>bN.contains i&&decide (Region.ready .any ops L=[i])&&p.tl&&(ops[i]?).isSome&&p.ok ops bN (L.setIfInBounds i true)
def bW.len:bW->Nat
 | .done=>0
 | .rd _ p=>p.len+1
 | .one _ p=>p.len+1
 | .two _ p _ q=>max p.len q.len+1
 | .three _ p _ q _ r=>max p.len (max q.len r.len)+1
 | .last _ p=>p.len+1
 | .pure _ p=>p.len+1
def cg (P:Program)(J:Goroutine->af->Prop)(ops:Array Oper)(F0:af)(Q:Act->af->Prop):eW->Bool->Act->af->Prop
 | .done,_,a,F=>Q a F
 | .bad,_,_,_=>False
 | .rd o p,_,a,F=>match cp ops o a with
  |some false=>cg P J ops F0 Q p true (aV a o.dst undef) F
  |some true=>match o.op with
   | .load t x=>match ev a x with
    | .pointer (some ad)=>match eG P F0 t ad with
     |some v=>cg P J ops F0 Q p true (aV a o.dst v) F
     |none=>False
    |_=>False
   | .call {callee:=.value x,args, ..}=>match ev a x with
    | .func (.func fn) first captured=>aD P fn=true/\∃v,Plain P J F0 fn (first++args.map (ev a)++captured) v/\cg P J ops F0 Q p false (aV a o.dst v) F
    |_=>False
   |_=>match gU P o a with
    |some v=>cg P J ops F0 Q p true (aV a o.dst v) F
    |none=>False
  |none=>False
 | .one o p,_,a,F=>match cp ops o a with
  |some true=>cz P J o (fun v F'=>Knows F0 F'/\cg P J ops F0 Q p (!Oper.calls o) (aV a o.dst v) F') a F
  |_=>False
 | .two o p o' q,_,a,F=>(match cp ops o a with
  |some true=>cz P J o (fun v F'=>Knows F0 F'/\cg P J ops F0 Q p (!Oper.calls o) (aV a o.dst v) F') a F
  |_=>False)/\(match cp ops o' a with
  |some true=>cz P J o' (fun v F'=>Knows F0 F'/\cg P J ops F0 Q q (!Oper.calls o') (aV a o'.dst v) F') a F
  |_=>False)
 | .three o p o' q iY r,_,a,F=>(match cp ops o a with
  |some true=>cz P J o (fun v F'=>Knows F0 F'/\cg P J ops F0 Q p (!Oper.calls o) (aV a o.dst v) F') a F
  |_=>False)/\(match cp ops o' a with
  |some true=>cz P J o' (fun v F'=>Knows F0 F'/\cg P J ops F0 Q q (!Oper.calls o') (aV a o'.dst v) F') a F
  |_=>False)/\(match cp ops iY a with
  |some true=>cz P J iY (fun v F'=>Knows F0 F'/\cg P J ops F0 Q r (!Oper.calls iY) (aV a iY.dst v) F') a F
  |_=>False)
 | .pure o p,_,a,F=>match cp ops o a with
  |some false=>cg P J ops F0 Q p true (aV a o.dst undef) F
  |some true=>match gU P o a with
   |some v=>cg P J ops F0 Q p true (aV a o.dst v) F
   |none=>False
  |none=>False
 | .last o p,_,a,F=>match cp ops o a with
  |some true=>cz P J o (fun v F'=>cg P J ops F0 Q p (!Oper.calls o) (aV a o.dst v) F') a F
  |_=>False
section
variable {P : Program} {main : Bool} {J : Goroutine → af → Prop} {ops : Array Oper} {Q : Act → af → Prop} {F0 : af} {bN : List Nat}
theorem lS {p:bW}{i:Nat}{o:Oper}{fuel:Nat}{L:Array Bool}{a:Act}{F:af}(b:ops[i]?=some o)
  (ih:∀go a F,Knows F0 F->cg P J ops F0 Q (p.opers ops) go a F->dB P J ops Q (Knows F0) bN fuel (L.setIfInBounds i true) a F)
  (h:match cp ops o a with
   |some true=>cz P J o (fun v F'=>Knows F0 F'/\cg P J ops F0 Q (p.opers ops) (!Oper.calls o) (aV a o.dst v) F') a F
   |_=>False):dh P J ops i (fun c F'=>(¬i∈bN->Knows F0 F->Knows F0 F')/\dB P J ops Q (Knows F0) bN fuel (L.setIfInBounds i true) c F') a F:=by
 split at h
 ·rename_i hg
  unfold dh
  simp only[b]
  rw[if_pos (bV hg)]
  refine jB (kH.pH ?_ h)
  rintro v F' ⟨h1,h2⟩
  exact ⟨fun _ _=>h1,ih _ _ F' h1 h2⟩
 ·exact h.elim
theorem x3 {p:bW}{i:Nat}{fuel:Nat}{L:Array Bool}{go:Bool}{a:Act}{F:af}(e:Region.noSelect ops=true)(c:(bW.pure i p).ok ops bN L=true)
  (ih:∀go v a,p.ok ops bN (L.setIfInBounds i true)=true->cg P J ops F0 Q (p.opers ops) go (aV a ((ops[i]?).bind (·.dst)) v) F->dB P J ops Q (Knows F0) bN fuel (L.setIfInBounds i true) (aV a ((ops[i]?).bind (·.dst)) v) F)
  (h:cg P J ops F0 Q ((bW.pure i p).opers ops) go a F):dB P J ops Q (Knows F0) bN (fuel+1) L a F:=by
 simp only[bW.ok,Bool.and_eq_true] at c
 obtain ⟨⟨⟨c1,c2⟩,c3⟩,c4⟩:=c
 obtain ⟨o,b⟩:=Option.isSome_iff_exists.1 c3
 have d:(Region.noSelect ops&&Region.free .any ops L i&&(Region.ready .any ops L).contains i)=true:=by rw[e,c1,c2];rfl
 have f:bW.opers ops (.pure i p)= .pure o (p.opers ops):=by simp only[bW.opers,b]
 rw[f] at h
 have hd:(ops[i]?).bind (·.dst)=o.dst:=by rw[b];rfl
 rw[hd] at ih
 unfold cg at h
 split at h
 ·rename_i hg
  exact x2 i undef b d (.inr ⟨bV hg,rfl⟩) (ih _ _ _ c4 h)
 ·rename_i hg
  split at h
  ·rename_i v g
   exact x2 i v b d (.inl ⟨bV hg,fun F R _ j=>jB (pE g j)⟩) (ih _ _ _ c4 h)
  ·exact h.elim
 ·exact h.elim
theorem sR (d:Region.noSelect ops=true):∀(p:bW) (fuel:Nat) (L:Array Bool) (go:Bool) (a:Act) (F:af),p.tl=true->p.len<=fuel->p.ok ops bN L=true->cg P J ops F0 Q (p.opers ops) go a F->dB P J ops Q (Knows F0) bN fuel L a F
 | .done,fuel,L,go,a,F,_,c,b,h=>by
  simp only[bW.ok,decide_eq_true_eq] at b
  unfold bW.opers cg at h
  exact xZ b h _
 | .last i p,fuel,L,go,a,F,ht,c,b,h=>by
  simp only[bW.ok,Bool.and_eq_true,decide_eq_true_eq] at b
  obtain ⟨⟨⟨⟨c1,c2⟩,c3⟩,c4⟩,g⟩:=b
  obtain ⟨o,e⟩:=Option.isSome_iff_exists.1 c4
  have j:bW.opers ops (.last i p)= .last o (p.opers ops):=by simp only[bW.opers,e]
  rw[j] at h
  simp only[bW.len] at c
  obtain ⟨fuel,rfl⟩:∃f,fuel=f+1:=⟨fuel - 1,by omega⟩
  unfold cg at h
  refine xY i c2 ?_
  split at h
  ·rename_i hg
   unfold dh
   simp only[e]
   rw[if_pos (bV hg)]
   refine jB (kH.pH ?_ h)
   exact fun v F' k=>⟨fun l _=>absurd (by simpa using c1) l,sR d p fuel _ _ _ F' c3 (by omega) g k⟩
  ·exact h.elim
 | .pure i p,fuel,L,go,a,F,ht,c,b,h=>by
  simp only[bW.len] at c
  obtain ⟨fuel,rfl⟩:∃f,fuel=f+1:=⟨fuel - 1,by omega⟩
  exact x3 d b (fun go v a c4 m=>sR d p fuel _ go _ F ht (by omega) c4 m) h
 | .rd _ _,_,_,_,_,_,ht,_,_,_=>by cases ht
 | .one _ _,_,_,_,_,_,ht,_,_,_=>by cases ht
 | .two ..,_,_,_,_,_,ht,_,_,_=>by cases ht
 | .three ..,_,_,_,_,_,ht,_,_,_=>by cases ht
theorem iZ (g:Region.noSelect ops=true):∀(p:bW) (fuel:Nat) (L:Array Bool) (go:Bool) (a:Act) (F:af),Knows F0 F->p.len<=fuel->p.ok ops bN L=true->cg P J ops F0 Q (p.opers ops) go a F->dB P J ops Q (Knows F0) bN fuel L a F
 | .done,fuel,L,go,a,F,b,e,c,h=>by
  simp only[bW.ok,decide_eq_true_eq] at c
  unfold bW.opers cg at h
  exact xZ c h _
 | .rd i p,fuel,L,go,a,F,b,e,c,h=>by
  simp only[bW.ok,Bool.and_eq_true] at c
  obtain ⟨⟨⟨⟨c1,c2⟩,c3⟩,l⟩,c4⟩:=c
  obtain ⟨o,d⟩:=Option.isSome_iff_exists.1 c3
  have y:(Region.noSelect ops&&Region.free .any ops L i&&(Region.ready .any ops L).contains i)=true:=by rw[g,c1,c2];rfl
  have m:bW.opers ops (.rd i p)= .rd o (p.opers ops):=by simp only[bW.opers,d]
  rw[m] at h
  simp only[bW.len] at e
  obtain ⟨fuel,rfl⟩:∃f,fuel=f+1:=⟨fuel - 1,by omega⟩
  have next:∀go v,cg P J ops F0 Q (p.opers ops) go (aV a o.dst v) F->dB P J ops Q (Knows F0) bN fuel (L.setIfInBounds i true) (aV a o.dst v) F:=fun go v n=>
   iZ g p fuel _ go _ F b (by omega) c4 n
  unfold cg at h
  split at h
  ·rename_i hg
   exact B5 i d y l hg b (next true undef h)
  ·rename_i hg
   split at h
   ·rename_i t x A
    split at h
    case h_2=>exact h.elim
    rename_i ad C
    split at h
    case h_2=>exact h.elim
    rename_i v n
    refine sQ i v d y l hg (fun F R z u=>?_) b (next _ v h)
    unfold cz
    simp only[A,C,z.eG n]
    exact u
   ·rename_i x args argTypes A
    split at h
    case h_2=>exact h.elim
    rename_i fn first captured s
    obtain ⟨D,v,E,h⟩:=h
    refine sQ i v d y l hg (fun F R z u=>?_) b (next _ v h)
    unfold cz
    simp only[A,s]
    exact ⟨D,(E F z).mono fun K F' G=>by obtain ⟨rfl,rfl⟩:=G;exact u⟩
   ·split at h
    case h_2=>exact h.elim
    rename_i v n
    exact sQ i v d y l hg (fun F R z u=>pE n u) b (next _ v h)
  ·exact h.elim
 | .one i p,fuel,L,go,a,F,b,e,c,h=>by
  simp only[bW.ok,Bool.and_eq_true,decide_eq_true_eq] at c
  obtain ⟨⟨c1,c3⟩,c4⟩:=c
  obtain ⟨o,d⟩:=Option.isSome_iff_exists.1 c3
  have m:bW.opers ops (.one i p)= .one o (p.opers ops):=by simp only[bW.opers,d]
  rw[m] at h
  simp only[bW.len] at e
  obtain ⟨fuel,rfl⟩:∃f,fuel=f+1:=⟨fuel - 1,by omega⟩
  unfold cg at h
  exact xY i c1 (lS d (fun go a F b h=>iZ g p fuel _ go a F b (by omega) c4 h) h)
 | .two i p j q,fuel,L,go,a,F,b,e,c,h=>by
  simp only[bW.ok,Bool.and_eq_true,decide_eq_true_eq] at c
  obtain ⟨⟨⟨⟨c1,c2⟩,c3⟩,c4⟩,l⟩:=c
  obtain ⟨o,d⟩:=Option.isSome_iff_exists.1 c2
  obtain ⟨o',w⟩:=Option.isSome_iff_exists.1 c3
  have m:bW.opers ops (.two i p j q)= .two o (p.opers ops) o' (q.opers ops):=by simp only[bW.opers,d,w]
  rw[m] at h
  simp only[bW.len] at e
  obtain ⟨fuel,rfl⟩:∃f,fuel=f+1:=⟨fuel - 1,by omega⟩
  unfold cg at h
  refine sP c1 (by simp) fun x s=>?_
  simp only[List.mem_cons,List.not_mem_nil,or_false] at s
  rcases s with rfl|rfl
  ·exact lS d (fun go a F b h=>iZ g p fuel _ go a F b (by omega) c4 h) h.1
  ·exact lS w (fun go a F b h=>iZ g q fuel _ go a F b (by omega) l h) h.2
 | .three i p j q k r,fuel,L,go,a,F,b,e,c,h=>by
  simp only[bW.ok,Bool.and_eq_true,decide_eq_true_eq] at c
  obtain ⟨⟨⟨⟨⟨⟨c1,c2⟩,c3⟩,c4⟩,l⟩,H⟩,I⟩:=c
  obtain ⟨o,d⟩:=Option.isSome_iff_exists.1 c2
  obtain ⟨o',w⟩:=Option.isSome_iff_exists.1 c3
  obtain ⟨iY,B⟩:=Option.isSome_iff_exists.1 c4
  have m:bW.opers ops (.three i p j q k r)= .three o (p.opers ops) o' (q.opers ops) iY (r.opers ops):=by simp only[bW.opers,d,w,B]
  rw[m] at h
  simp only[bW.len] at e
  obtain ⟨fuel,rfl⟩:∃f,fuel=f+1:=⟨fuel - 1,by omega⟩
  unfold cg at h
  refine sP c1 (by simp) fun x s=>?_
  simp only[List.mem_cons,List.not_mem_nil,or_false] at s
  rcases s with rfl|rfl|rfl
  ·exact lS d (fun go a F b h=>iZ g p fuel _ go a F b (by omega) l h) h.1
  ·exact lS w (fun go a F b h=>iZ g q fuel _ go a F b (by omega) H h) h.2.1
  ·exact lS B (fun go a F b h=>iZ g r fuel _ go a F b (by omega) I h) h.2.2
 | .last i p,fuel,L,go,a,F,b,e,c,h=>sR g (.last i p) fuel L go a F (by simp only[bW.ok,Bool.and_eq_true] at c;exact c.1.1.2) e c h
 | .pure i p,fuel,L,go,a,F,b,e,c,h=>by
  simp only[bW.len] at e
  obtain ⟨fuel,rfl⟩:∃f,fuel=f+1:=⟨fuel - 1,by omega⟩
  exact x3 g c (fun go v a c4 n=>iZ g p fuel _ go _ F b (by omega) c4 n) h
theorem iy {Q:Ex->Act->af->Prop}(hJ:Closed P main J)(d:P.follows .mixedOrders=true)(bN:List Nat)(p:bW){id:Nat}{a:Act}{F:af}(F0:af)(e:Knows F0 F)
  (c:(Region.noSelect ops&&decide (p.len<=ops.size)&&p.ok ops bN (Array.replicate ops.size false))=true)
  (h:cg P J ops F0 (Q .normal) (p.opers ops) true a F):Wp J (.region id ops true) Q a F:=by
 simp only[Bool.and_eq_true,decide_eq_true_eq] at c
 obtain ⟨⟨h1,h2⟩,h3⟩:=c
 intro b k cs hb f
 refine hJ.step fun w hw=>?_
 refine ⟨_,_,_,F,wu,.drawn _ _ _,hw.drawn _,by simp,?_⟩
 refine oS (K:=Q .normal) hJ (rO hb) (fun g F' i=>f .normal g F' i) _ _ _ ?_
 simp only[Region.schedule,d,Bool.true_or,if_true]
 exact B2 ops.size _ _ a F (iZ (bN:=bN) h1 p ops.size _ true a F e h2 h3 h)
end
theorem B6 {P:Program}{J:Goroutine->af->Prop}{ops:Array Oper}{F0:af}{Q:Act->af->Prop}{go:Bool}{a:Act}{F:af}:cg P J ops F0 Q .done go a F=Q a F:=rfl
theorem B7 {P:Program}{J:Goroutine->af->Prop}{ops:Array Oper}{F0:af}{Q:Act->af->Prop}{o:Oper}{p:eW}{a:Act}{F:af}:cg P J ops F0 Q (.rd o p) true a F=match cp ops o a with
  |some false=>cg P J ops F0 Q p true (aV a o.dst undef) F
  |some true=>match o.op with
   | .load t x=>match ev a x with
    | .pointer (some ad)=>match eG P F0 t ad with
     |some v=>cg P J ops F0 Q p true (aV a o.dst v) F
     |none=>False
    |_=>False
   | .call {callee:=.value x,args, ..}=>match ev a x with
    | .func (.func fn) first captured=>aD P fn=true/\∃v,Plain P J F0 fn (first++args.map (ev a)++captured) v/\cg P J ops F0 Q p false (aV a o.dst v) F
    |_=>False
   |_=>match gU P o a with
    |some v=>cg P J ops F0 Q p true (aV a o.dst v) F
    |none=>False
  |none=>False:=(Eq.refl _).trans (Eq.refl _)
theorem x4 {P:Program}{J:Goroutine->af->Prop}{ops:Array Oper}{F0:af}{Q:Act->af->Prop}{o:Oper}{p:eW}{a:Act}{F:af}:cg P J ops F0 Q (.one o p) true a F=match cp ops o a with
  |some true=>cz P J o (fun v F'=>Knows F0 F'/\cg P J ops F0 Q p (!Oper.calls o) (aV a o.dst v) F') a F
  |_=>False:=(Eq.refl _).trans (Eq.refl _)
theorem ja {P:Program}{J:Goroutine->af->Prop}{ops:Array Oper}{F0:af}{Q:Act->af->Prop}{o o':Oper}{p q:eW}{go:Bool}{a:Act}{F:af}(h1:cg P J ops F0 Q (.one o p) true a F)(h2:cg P J ops F0 Q (.one o' q) true a F):cg P J ops F0 Q (.two o p o' q) go a F:=by
 rw[x4] at h1 h2
 unfold cg
 exact ⟨h1,h2⟩
theorem B8 {P:Program}{J:Goroutine->af->Prop}{ops:Array Oper}{F0:af}{Q:Act->af->Prop}{o:Oper}{p:eW}{a:Act}{F:af}:cg P J ops F0 Q (.last o p) true a F=match cp ops o a with
  |some true=>cz P J o (fun v F'=>cg P J ops F0 Q p (!Oper.calls o) (aV a o.dst v) F') a F
  |_=>False:=(Eq.refl _).trans (Eq.refl _)
theorem B9 {P:Program}{J:Goroutine->af->Prop}{ops:Array Oper}{F0:af}{Q:Act->af->Prop}{o:Oper}{p:eW}{a:Act}{F:af}:cg P J ops F0 Q (.pure o p) true a F=match cp ops o a with
  |some false=>cg P J ops F0 Q p true (aV a o.dst undef) F
  |some true=>match gU P o a with
   |some v=>cg P J ops F0 Q p true (aV a o.dst v) F
   |none=>False
  |none=>False:=(Eq.refl _).trans (Eq.refl _)
theorem bO {P:Program}{J:Goroutine->af->Prop}{ops:Array Oper}{F0:af}{Q:Act->af->Prop}:∀{p:eW} {go:Bool} {a:Act} {F:af},cg P J ops F0 Q p true a F->cg P J ops F0 Q p go a F
 | .done,_,_,_,h=>h
 | .bad,_,_,_,h=>h
 | .rd ..,_,_,_,h=>h
 | .one ..,_,_,_,h=>h
 | .two ..,_,_,_,h=>h
 | .three ..,_,_,_,h=>h
 | .last ..,_,_,_,h=>h
 | .pure ..,_,_,_,h=>h
attribute [irreducible] cg
attribute [go_sem] B6 B7 x4 B8 B9 bW.opers
theorem eu {ro aH:Addr->Option Value}{l:List (Nat×Obj)}(a:Ext ro aH)(b:aA aH l)(own:List (Nat×Obj)):Knows ⟨ro,l⟩ ⟨aH,own⟩=gS l own:=
 propext ⟨fun h=>h.2.2,Bh a b⟩
section
variable {P : Program} {main : Bool} {J : Goroutine → af → Prop} {a : Act} {F : af}
def kM (l:Nat)(R:Value->af->Prop)(st:LoopState)(jump:Option Code)(F:af):Prop:=
 ∃a,F.ez l=some (.loop a)/\R (.bool jump.isNone) (F.put l (.loop {a with state:=st,pending:=jump}))
def pS (l:Nat)(R:Value->af->Prop):Ex->Act->af->Prop
 | .normal,_,F=>kM l R .ready none F
 | .exit id,_,F=>kM l R .done (some (.exit id)) F
 | .ret,_,F=>kM l R .done (some .ret) F
def nM (J:Goroutine->af->Prop)(l:Nat)(body:Code)(R:Value->af->Prop):Ex->Act->af->Prop
 | .normal,a,F=>∃b,F.ez l=some (.loop b)/\b.state= .ready/\Wp J body (pS l R) a (F.put l (.loop {b with state:=.busy}))
 |_,_,_=>False
theorem sS {l:Nat}{R:Value->af->Prop}{st:LoopState}{jump:Option Code}(a:st=if jump.isNone then .ready else .done)(h:kM l R st jump F):aO P (Instr.endRound l jump) R F:=by
 obtain ⟨b,h1,h2⟩:=h
 simp only[Instr.endRound,Instr.getLoop,bf,lH]
 refine ⟨_,h1,?_⟩
 simp only[bt,bf,kq,h1,Option.isSome_some,Obj.isChan,true_and]
 rw[a] at h2
 exact h2
theorem sU (hJ:Closed P main J){l:Nat}{b:Frame}{a:Act}{todo:List Item}{jump:Option Code}{c:Frame}{cs:List Frame}(f:b.kind= .normal)
  (hs:∀w,stepG P main (G (on b a todo) (c::cs)) w=GStep.after (seen P b.fn ((Instr.endRound l jump).runT P w #[]).2) (match ((Instr.endRound l jump).runT P w #[]).1 with
    | .ok v w=>doReturn P main (on b a todo) (c::cs) none v w
    | .halt _ w=>.ended (.stuck "range over a function: no such loop" ((on b a todo).pos P)) w))
  (h:aO P (Instr.endRound l jump) (fun v F'=>J (G (c.finish v) cs) F') F):J (G (on b a todo) (c::cs)) F:=by
 refine hJ.step fun w hw=>?_
 obtain ⟨v,w',F',es,H⟩:=jz _ F w #[] h hw
 have d:=H.run
 rw[Array.empty_append] at d
 refine ⟨G (c.finish v) cs,w',seen P b.fn es,F',?_,H.upd,H.has,fun e he=>H.gi e (mem_seen he),H.post⟩
 rw[hs w,d]
 have g:(on b a todo).kind= .normal:=f
 simp only[doReturn,g,GStep.after,G]
 simp
theorem ig.of_wp (hJ:Closed P main J){l:Nat}{f:FuncId}{tmps:Array Value}{assign body:Code}{R:Value->af->Prop}(hd:eP assign=true)(p:eP body=true)
  (h:Wp J assign (nM J l body R) {tmps:=tmps,defers:=[]} F):ig J l f tmps assign body F R:=by
 intro c cs g
 let b:Frame:={(default:Frame) with fn:=f,kind:=.normal,roundOf:=some l}
 have he:Frame.round l f tmps assign body .normal=on b {tmps:=tmps,defers:=[]} (.code assign::[.beginRound,.code body]):=rfl
 rw[he]
 refine h b [.beginRound,.code body] (c::cs) ⟨by simp[b],.inr hd⟩ fun e k F' a=>?_
 cases e with
 |exit i=>exact a.elim
 |ret=>exact a.elim
 |normal=>
  obtain ⟨d,h1,h2,h3⟩:=a
  show J (G (on b k [.beginRound,.code body]) (c::cs)) F'
  have q:aO P (do Instr.beginRound l;pure Next.skip:Sem Next) (fun n j=>n= .skip/\j=F'.put l (.loop {d with state:=.busy})) F':=by
   simp only[Instr.beginRound,Instr.getLoop,bf,lH]
   refine ⟨_,h1,?_⟩
   simp only[bt,bf,kq,h1,Option.isSome_some,Obj.isChan,true_and,h2]
   all_goals first|trivial|exact ⟨rfl,rfl⟩
  refine hJ.step fun w hw=>?_
  obtain ⟨n,w',j,es,H⟩:=jz _ F' w #[] q hw
  have m:=H.run
  rw[Array.empty_append] at m
  obtain ⟨rfl,rfl⟩:=H.post
  refine ⟨G (on b k [.code body]) (c::cs),w',seen P b.fn es,_,?_,H.upd,H.has,fun e he=>H.gi e (mem_seen he),?_⟩
  ·have r:b.roundOf=some l:=rfl
   simp only[G,stepG,stepG.exec,on,r,Option.elim,stepG.apply,if_true]
   have s:(b.kind==CallKind.early)=false:=rfl
   simp only[m,s,Bool.false_eq_true,if_false,GStep.after]
   simp[Frame.finish,undef]
  ·refine h3 b [] (c::cs) ⟨by simp[b],.inr p⟩ fun e a2 j a=>?_
   cases e with
   |normal=>
    refine sU hJ (l:=l) (jump:=none) rfl (fun w=>?_) (sS rfl (R:=fun v F'=>J (G (c.finish v) cs) F') ?_)
    ·simp only[G,stepG,stepG.exec,on]
     rfl
    ·obtain ⟨d,h1,h2⟩:=a
     exact ⟨d,h1,g _ _ h2⟩
   |exit i=>
    intro o t
    refine sU hJ (l:=l) (jump:=some (.exit i)) rfl (fun w=>?_) (sS rfl (R:=fun v F'=>J (G (c.finish v) cs) F') ?_)
    ·have u:exitTo i o=none:=t
     simp only[G,stepG,stepG.exec,on,u,Option.elim]
     rfl
    ·obtain ⟨d,h1,h2⟩:=a
     exact ⟨d,h1,g _ _ h2⟩
   |ret=>
    intro o
    refine sU hJ (l:=l) (jump:=some .ret) rfl (fun w=>?_) (sS rfl (R:=fun v F'=>J (G (c.finish v) cs) F') ?_)
    ·simp only[G,stepG,stepG.exec,on]
     rfl
    ·obtain ⟨d,h1,h2⟩:=a
     exact ⟨d,h1,g _ _ h2⟩
def pU (Q:Ex->Act->af->Prop)(a:Act)(F:af):Option Code->Prop
 |none=>Q .normal a F
 |some (.exit id)=>Q (.exit id) a F
 |some .ret=>Q .ret a F
 |_=>False
def lT (b:FuncId)(a:Act)(params:Array Tmp)(assign body:Code)(d:Nat):Loop:={state:=.ready,pending:=none,fn:=b,tmps:=a.tmps,params:=params,assign:=assign,body:=body,defers:=d}
theorem Ca (hJ:Closed P main J){x:Operand}{params:Array Tmp}{assign body:Code}{Q:Ex->Act->af->Prop}{fn:FuncId}{first captured:Array Value}
  (I:ev a x= .func (.func fn) first captured) (L:aD P fn=true)
  (M:∀N d l,dn F d->dn (F.push d (.deferred (some []))) l->
   cC P J fn (first++#[.func (.yield l) #[] #[]]++captured) ((F.push d (.deferred (some []))).push l (.loop (lT N a params assign body d)))
    (fun _ F'=>∃f,F'.ez l=some (.loop f)/\f.state≠ .busy/\pU Q {a with defers:=⟨.collected d,#[]⟩::a.defers} (F'.put l (.loop {f with state:=.exhausted})) f.pending)):
  Wp J (.rangeFunc x params assign body) Q a F:=by
 intro b k cs hb q
 have u:b.roundOf=none:=hb.round.elim id fun h=>by simp[eP] at h
 obtain ⟨z,O,R,S,T,s,a2⟩:=b
 simp only at u
 subst u
 let b:Frame:=⟨z,O,R,S,T,s,none⟩
 have U:a.eval x= .func (.func fn) first captured:=I
 have m:=L
 unfold aD at m
 split at m
 case h_2=>cases m
 rename_i a3 V
 simp only[Bool.not_eq_true',Bool.or_eq_false_iff] at m
 let K:Nat×List Deferred->af->Prop:=fun r F'=>∃d l,r=(l,[⟨.collected d,#[]⟩])/\dn F d/\dn (F.push d (.deferred (some []))) l/\F'=(F.push d (.deferred (some []))).push l (.loop (lT b.fn a params assign body d))
 have h1:aO P (Instr.enterLoop b.fn a.tmps params assign body none) K F:=by
  simp only[Instr.enterLoop,bf,m6,bt]
  exact ⟨rfl,fun d hd=>⟨rfl,fun l t=>⟨d,l,rfl,hd,t,rfl⟩⟩⟩
 refine hJ.step fun w hw=>?_
 obtain ⟨r,w1,a4,A,H1⟩:=jz _ F w #[] h1 hw
 have B:=H1.run
 rw[Array.empty_append] at B
 obtain ⟨d,l,rfl,hd,t,rfl⟩:=H1.post
 let fr':Frame:={on b a (.inRangeFunc l::k) with defers:=[⟨.collected d,#[]⟩]++a.defers}
 have W:fr'=on b {a with defers:=⟨.collected d,#[]⟩::a.defers} (.inRangeFunc l::k):=rfl
 have X:fr'.eval x= .func (.func fn) first captured:=by rw[W,rF];exact U
 have h2:aO P (do let o<-resolve fr'.eval {callee:=.value x,args:=#[.const (.func (.yield l) #[] #[])],argTypes:=#[]} 0;invoke o.target o.args:Sem Next)
   (fun n p=>n= .enter fn (first++#[.func (.yield l) #[] #[]]++captured)/\p=(F.push d (.deferred (some []))).push l (.loop (lT b.fn a params assign body d))) ((F.push d (.deferred (some []))).push l (.loop (lT b.fn a params assign body d))):=by
  have Y:fr'.eval (.const (.func (.yield l) #[] #[]))= .func (.yield l) #[] #[]:=rfl
  simp only[resolve,X,Deferred.ofValue,bf,bt,invoke,callFunc,iQ,V,m.1,m.2,Bool.false_eq_true,if_false,List.map_toArray,List.map_cons,List.map_nil,Y]
  simp
 obtain ⟨n,w2,p,Z,i⟩:=jz _ _ w1 #[] h2 H1.has
 have C:=i.run
 rw[Array.empty_append] at C
 obtain ⟨rfl,rfl⟩:=i.post
 refine ⟨G (Frame.enter P fn (first++#[.func (.yield l) #[] #[]]++captured) .normal) (fr'::cs),w2,seen P b.fn A++seen P b.fn Z,_,?_,H1.upd.trans i.upd,i.has,fun e he=>?_,?_⟩
 ·have ab:(s==CallKind.early)=false:=by have:=hb.kind;cases s<;>simp_all
  have hs:∀e:Array Event,stepG P main (G (on b a (.code (.rangeFunc x params assign body)::k)) cs) w=GStep.after (seen P z A) (stepG.apply P true fr' cs none (do let o<-resolve fr'.eval {callee:=.value x,args:=#[.const (.func (.yield l) #[] #[])],argTypes:=#[]} 0;invoke o.target o.args) w1):=fun _=>by
   simp only[G,stepG,stepG.exec,on,b]
   rw[B]
   rfl
  show stepG P main (G (on b a (.code (.rangeFunc x params assign body)::k)) cs) w=_
  rw[hs #[]]
  unfold stepG.apply
  simp only[if_true,C]
  have ad:(fr'.kind==CallKind.early)=false:=ab
  simp only[ad,Bool.false_eq_true,if_false,GStep.after]
  rfl
 ·rcases Array.mem_append.1 he with h|h
  ·refine (H1.gi e (mem_seen h)).mono (fun _ x=>x) fun b hb=>hb.imp id fun y=>⟨y.1,Nat.lt_of_lt_of_le y.2 i.upd.size⟩
  ·refine (i.gi e (mem_seen h)).mono (fun a ae=>ae) fun b hb=>?_
   rcases hb with hb|hb
   ·rcases H1.upd.own b hb with x|x
    ·exact .inl x
    ·exact .inr ⟨x,Nat.lt_of_lt_of_le (H1.has.lt hb) i.upd.size⟩
   ·exact .inr ⟨Nat.le_trans H1.upd.size hb.1,hb.2⟩
 ·refine M b.fn d l hd t fr' cs fun v F' al=>?_
  obtain ⟨f,D,ao,g⟩:=al
  have ar:fr'.finish v=on b {a with defers:=⟨.collected d,#[]⟩::a.defers} (.endRangeFunc l::k):=rfl
  rw[ar]
  have h3:aO P (Instr.endLoop l) (fun j p=>j=f.pending/\p=F'.put l (.loop {f with state:=.exhausted})) F':=by
   simp only[Instr.endLoop,Instr.getLoop,bf,lH]
   refine ⟨_,D,?_⟩
   have a0:¬(f.state== .busy)=true:=by simpa using ao
   simp only[bt,bf,kq,D,Option.isSome_some,Obj.isChan,true_and,cU,a0]
   all_goals first|trivial|exact ⟨rfl,rfl⟩
  refine hJ.step fun w hw=>?_
  obtain ⟨j,w',a5,es,H⟩:=jz _ F' w #[] h3 hw
  have E:=H.run
  rw[Array.empty_append] at E
  obtain ⟨rfl,rfl⟩:=H.post
  refine ⟨G (on b {a with defers:=⟨.collected d,#[]⟩::a.defers} ((f.pending.map Item.code).toList++k)) cs,w',seen P b.fn es,_,?_,H.upd,H.has,fun e he=>H.gi e (mem_seen he),?_⟩
  ·simp only[G,stepG,stepG.exec,on,E,GStep.after]
   simp
  ·revert g
   cases f.pending with
   |none=>exact fun g=>q .normal _ _ g
   |some c=>
    intro g
    cases c<;>simp only[pU] at g<;>first
     |exact g.elim
     |exact q (.exit _) _ _ g k rfl
     |exact q .ret _ _ g k
end
def eB {H σ:Type}(step:σ->H->Option (Bool×σ)):List (Option H)->σ->Option (Bool×σ)
 |[],s=>some (true,s)
 |none::_,_=>none
 |some x::l,s=>match step s x with
  |some (true,s')=>eB step l s'
  |some (false,s')=>some (false,s')
  |none=>none
theorem x5 {H σ:Type}(step:σ->H->Option (Bool×σ)):∀(l l':List (Option H)) (s:σ),eB step (l++l') s=match eB step l s with
  |some (true,s')=>eB step l' s'
  |some (false,s')=>some (false,s')
  |none=>none
 |[],l',s=>rfl
 |none::l,l',s=>rfl
 |some x::l,l',s=>by
  simp only[List.cons_append,eB]
  split<;>first|rfl|exact x5 step l l' _
def kN {H σ ρ:Type}(f:H->σ->Option (Fl σ ρ)):List (Option H)->σ->Option (Fl σ ρ)
 |[],s=>some (.nx s)
 |none::_,_=>none
 |some x::l,s=>ah (f x s) fun o=>match o with
  | .nx s'=>kN f l s'
  | .bk s'=>some (.nx s')
  | .br k s'=>some (.br k s')
  | .rt _=>none
def sV {H σ:Type}(P:Program)(y:Value)(enc:H->Value)(step:σ->H->Option (Bool×σ))(ro:Addr->Option Value)(I:σ->List (Nat×Obj)->Prop):Prop:=
 ∀s x b s',step s x=some (b,s')->∀(main:Bool) (J:Goroutine->af->Prop),Closed P main J->∀own,I s own->
  fI P J y #[enc x] ⟨ro,own⟩ (fun v F'=>∃a,Le ⟨ro,a⟩ F'/\v= .bool b/\I s' a)
def kO {H:Type}(P:Program)(f:FuncId)(first cap:Array Value)(enc:H->Value)(L:List (Option H))(ro:Addr->Option Value):Prop:=
 aD P f=true/\∀(aH:Addr->Option Value),Ext ro aH->∀(σ:Type) (step:σ->H->Option (Bool×σ)) (I:σ->List (Nat×Obj)->Prop) (a:Fn) (c d:Array Value),sV P (.func a c d) enc step aH I->
  ∀s b s',eB step L s=some (b,s')->∀(main:Bool) (J:Goroutine->af->Prop),Closed P main J->∀own,I s own->
   cC P J f (first++#[.func a c d]++cap) ⟨aH,own⟩ (fun _ F'=>∃e,Le ⟨aH,e⟩ F'/\I s' e)
theorem kO.mono {H:Type}{P:Program}{f:FuncId}{first cap:Array Value}{enc:H->Value}{L:List (Option H)}{ro a:Addr->Option Value}(h:kO P f first cap enc L ro)(b:Ext ro a):kO P f first cap enc L a:=
 ⟨h.1,fun aH c=>h.2 aH (b.trans c)⟩
def pV:Nat:=1000000000
def kP (k:Nat):Code:=if k=pV then .ret else .exit k
def sW (Q:Ex->Act->af->Prop)(k:Nat):Act->af->Prop:=if k=pV then Q .ret else Q (.exit k)
def x6 {σ ρ:Type}(c:Nat)(ro:Addr->Option Value)(l d:Nat)(S:σ->List (Nat×Obj)->Prop)(e:Loop)(b:Fl σ ρ)(v:Value)(F:af):Prop:=
 ∃a,Le ⟨ro,(l,.loop {e with state:=(match b with| .nx _=>.ready|_=>.done),pending:=(match b with| .nx _=>none| .bk _=>some (kP c)| .br k _=>some (kP k)| .rt _=>none)})::(d,.deferred (some []))::a⟩ F/\
  match b with
  | .nx s'=>v= .bool true/\S s' a
  | .bk s'=>v= .bool false/\S s' a
  | .br _ s'=>v= .bool false/\S s' a
  | .rt _=>False
section
variable {P : Program} {main : Bool} {J : Goroutine → af → Prop} {a : Act}
theorem x7 {H σ ρ:Type}{f:H->σ->Option (Fl σ ρ)}(a:Nat):∀(L:List (Option H)) (s:σ) (o:Fl σ ρ),kN f L s=some o->
  ∃b s' pend,eB (σ:=σ×Option Nat) (fun st x=>match st with
   |(s,none)=>match f x s with
    |some (.nx s')=>some (true,(s',none))
    |some (.bk s')=>some (false,(s',some a))
    |some (.br k s')=>some (false,(s',some k))
    |_=>none
   |_=>none) L (s,none)=some (b,(s',pend))/\((o= .nx s'/\(pend=none\/pend=some a))\/∃k,o= .br k s'/\pend=some k)
 |[],s,o,h=>by
  cases h
  exact ⟨true,s,none,rfl,.inl ⟨rfl,.inl rfl⟩⟩
 |none::L,s,o,h=>by cases h
 |some x::L,s,o,h=>by
  unfold kN at h
  obtain ⟨c,h1,h2⟩:=e5 h
  cases c with
  |nx s'=>
   obtain ⟨b,s2,pend,h3,d⟩:=x7 a L s' o h2
   refine ⟨b,s2,pend,?_,d⟩
   unfold eB
   simp only[h1]
   exact h3
  |bk s'=>
   cases h2
   refine ⟨false,s',some a,?_,.inl ⟨rfl,.inr rfl⟩⟩
   unfold eB
   simp only[h1]
  |br k s'=>
   cases h2
   refine ⟨false,s',some k,?_,.inr ⟨k,rfl,rfl⟩⟩
   unfold eB
   simp only[h1]
  |rt r=>cases h2
theorem x8 {ro:Addr->Option Value}{l:Nat}{o:Obj}{own:List (Nat×Obj)}(h1:Obj.mZ o=false)(h2:o.isChan=false):af.ez ⟨ro,(l,o)::own⟩ l=some o:=by
 simp[af.ez,lk,h1,h2]
def nN (a:Act)(d:Nat):Act:={a with defers:=⟨.collected d,#[]⟩::a.defers}
theorem Cb (a:Act)(d i:Nat):slot (nN a d) i=slot a i:=rfl
theorem Cc (a:Act)(d:Nat):sz (nN a d)=sz a:=rfl
theorem Cd (a:Act)(d:Nat):(nN a d).defers=⟨.collected d,#[]⟩::a.defers:=rfl
def kQ (a:Act)(p:Tmp)(v:Value):Act:={tmps:=a.tmps.setIfInBounds p v,defers:=[]}
theorem lU (a:Act)(p:Tmp)(v:Value)(i:Nat):slot (kQ a p v) i=slot (aV a (some p) v) i:=rfl
theorem sX (a:Act)(p:Tmp)(v:Value):sz (kQ a p v)=sz a:=by simp[sz,kQ]
theorem sY {H σ ρ:Type}(hJ:Closed P main J){x:Operand}{p:Tmp}{assign body:Code}{Q:Ex->Act->af->Prop}{fn:FuncId}{first captured:Array Value}{ro:Addr->Option Value}{own:List (Nat×Obj)}{j:Nat}
  (enc:H->Value) {L:List (Option H)} (V:ev a x= .func (.func fn) first captured) (M:kO P fn first captured enc L ro)
  (W:eP assign=true) (X:eP body=true)
  (S:σ->List (Nat×Obj)->Prop) {f:H->σ->Option (Fl σ ρ)} {A:σ} {o:Fl σ ρ} (Y:kN f L A=some o) (Z:S A own)
  (ab:∀(d l:Nat) (g:Loop),g.state= .ready->∀(s:σ) (y:H) (u:Fl σ ρ),f y s=some u->∀(main:Bool) (J:Goroutine->af->Prop),Closed P main J->∀own,S s own->
   Wp J assign (nM J l body (x6 j ro l d S g u)) (kQ a p (enc y)) ⟨ro,(l,.loop g)::(d,.deferred (some []))::own⟩)
  (ad:¬j=pV)
  (ae:∀d l g m s',S s' m->aM (keys ((l,.loop g)::(d,.deferred (some []))::m))->aA ro ((l,.loop g)::(d,.deferred (some []))::m)->(o= .nx s'->Q .normal (nN a d) ⟨ro,(l,.loop g)::(d,.deferred (some []))::m⟩)/\
   (∀k,o= .br k s'->sW Q k (nN a d) ⟨ro,(l,.loop g)::(d,.deferred (some []))::m⟩))
  (al:∀k s',o= .br k s'->¬k=j):Wp J (.block j (.rangeFunc x #[p] assign body)) Q a ⟨ro,own⟩:=by
 refine aU hJ (Wp.mono (Q:=fun e B F'=>match e with| .exit i=>if i=j then Q .normal B F' else Q (.exit i) B F'|e=>Q e B F') ?_ fun e a F h=>by cases e<;>exact h)
 obtain ⟨b,s',pend,ao,ar⟩:=x7 j L A o Y
 refine Ca hJ V M.1 fun C d l hd bd=>?_
 let g:Loop:=lT C a #[p] assign body d
 let q:Option Nat->Loop:=fun pend=>{g with state:=(match pend with|none=>.ready|some _=>.done),pending:=pend.map kP}
 let I:σ×Option Nat->List (Nat×Obj)->Prop:=fun st a0=>∃aN,a0=(l,.loop (q st.2))::(d,.deferred (some []))::aN/\S st.1 aN
 have a2:sV P (.func (.yield l) #[] #[]) enc (fun (st:σ×Option Nat) x=>match st with
   |(s,none)=>match f x s with
    |some (.nx s')=>some (true,(s',none))
    |some (.bk s')=>some (false,(s',some j))
    |some (.br k s')=>some (false,(s',some k))
    |_=>none
   |_=>none) ro I:=by
  rintro ⟨s,pend⟩ y bj ⟨s1,bl⟩ n a3 N O a4 ⟨aN,rfl,a5⟩
  cases pend with
  |some k=>cases n
  |none=>
   simp only at n
   refine ⟨rfl,rfl,g,x8 rfl rfl,rfl,?_⟩
   cases D:f y s with
   |none=>rw[D] at n;cases n
   |some u=>
    have E:=ig.of_wp O (R:=x6 j ro l d S g u) (f:=C) W X (ab d l g rfl s y u D a3 N O aN a5)
    rw[D] at n
    have a6:(g.params.zip #[enc y]).foldl (fun tmps (t,a)=>tmps.setIfInBounds t a) g.tmps=a.tmps.setIfInBounds p (enc y):=by simp[g,lT]
    show ig N l C ((g.params.zip #[enc y]).foldl (fun tmps (t,a)=>tmps.setIfInBounds t a) g.tmps) assign body _ _
    rw[a6]
    refine E.mono fun v F' G=>?_
    obtain ⟨m,hle,hm⟩:=G
    cases u with
    |nx s2=>
     simp only[Option.some.injEq,Prod.mk.injEq] at n
     obtain ⟨rfl,rfl,rfl⟩:=n
     exact ⟨_,hle,hm.1,m,rfl,hm.2⟩
    |bk s2=>
     simp only[Option.some.injEq,Prod.mk.injEq] at n
     obtain ⟨rfl,rfl,rfl⟩:=n
     exact ⟨_,hle,hm.1,m,rfl,hm.2⟩
    |br k s2=>
     simp only[Option.some.injEq,Prod.mk.injEq] at n
     obtain ⟨rfl,rfl,rfl⟩:=n
     exact ⟨_,hle,hm.1,m,rfl,hm.2⟩
    |rt r=>exact hm.elim
 have a7:=M.2 ro (Ext.refl ro) _ _ I _ _ _ a2 (A,none) b (s',pend) ao main J hJ ((l,.loop g)::(d,.deferred (some []))::own) ⟨own,rfl,Z⟩
 intro c cs a8
 refine a7 c cs fun v F' G=>?_
 obtain ⟨a4,hle,m,rfl,a9⟩:=G
 by_cases hw:∃w,Has F' w
 case neg=>exact hJ.step fun w ba=>absurd ⟨w,ba⟩ hw
 obtain ⟨w,hw⟩:=hw
 have T:=hle.has w hw
 refine hJ.mono hle (a8 v _ ⟨q pend,x8 rfl rfl,?_,?_⟩)
 ·cases pend<;>simp[q]
 ·obtain ⟨U,bb⟩:=ae d l {q pend with state:=.exhausted} m s' a9 ⟨T.nodup⟩ (fun b hb off sp=>by
   cases E:ro ⟨b,off,sp⟩ with
   |none=>rfl
   |some v=>exact absurd hb (T.apart _ v E))
  have bc:af.put ⟨ro,(l,.loop (q pend))::(d,.deferred (some []))::m⟩ l (.loop {q pend with state:=.exhausted})=⟨ro,(l,.loop {q pend with state:=.exhausted})::(d,.deferred (some []))::m⟩:=by simp[af.put,gN]
  rw[bc]
  rcases ar with ⟨rfl,rfl|rfl⟩|⟨k,rfl,rfl⟩
  ·exact U rfl
  ·show pU _ _ _ (some (kP j))
   have:kP j= .exit j:=if_neg ad
   rw[this]
   show (if j=j then Q .normal _ _ else Q (.exit j) _ _)
   rw[if_pos rfl]
   exact U rfl
  ·have z:=bb k rfl
   show pU _ _ _ (some (kP k))
   unfold sW at z
   unfold kP
   split
   ·rename_i K
    rw[if_pos K] at z
    exact z
   ·rename_i K
    rw[if_neg K] at z
    show (if k=j then Q .normal _ _ else Q (.exit k) _ _)
    rw[if_neg (al k s' rfl)]
    exact z
theorem Ce {R:List Deferred->af->Prop}{r:Nat}{F:af}:aO P (Instr.takeDeferred r) R F=match F.ez r with
  |some (.deferred (some a))=>R a (F.put r (.deferred none))
  |_=>False:=by
 unfold Instr.takeDeferred
 rw[bf,lH]
 refine propext ⟨fun ⟨o,h1,h2⟩=>?_,fun h=>?_⟩
 ·rw[h1]
  cases o<;>first|exact (show False from h2).elim|skip
  rename_i a
  cases a with
  |none=>exact (show False from h2).elim
  |some a=>
   simp only[bf,kq,bt] at h2
   exact h2.2.2
 ·split at h
  ·rename_i a b
   refine ⟨_,b,?_⟩
   simp only[bf,kq,bt]
   exact ⟨rfl,by rw[b];rfl,h⟩
  ·exact h.elim
theorem Cf (hJ:Closed P main J){y:Value}{args:Array Value}{ro:Addr->Option Value}{own:List (Nat×Obj)}{R:Value->List (Nat×Obj)->Prop}(pre:List (Nat×Obj))
  (h:∀(main:Bool) (J:Goroutine->af->Prop),Closed P main J->fI P J y args ⟨ro,own⟩ (fun v F'=>∃a,Le ⟨ro,a⟩ F'/\R v a)) (j:aM (keys (pre++own))) {K:Value->af->Prop}
  (k:∀v a,R v a->aM (keys (pre++a))->K v ⟨ro,pre++a⟩):fI P J y args ⟨ro,pre++own⟩ K:=by
 have key:∀iw:Frame,(∀(main:Bool) (J:Goroutine->af->Prop),Closed P main J->pR J iw ⟨ro,own⟩ (fun v F'=>∃a,Le ⟨ro,a⟩ F'/\R v a))->pR J iw ⟨ro,pre++own⟩ K:=fun iw h0=>
  xU hJ pre [] (by simp) R (fun m b d c cs n=>h0 m b d c cs fun v F' p=>n v F' (by obtain ⟨o,h1,h2⟩:=p;exact ⟨o,h2,h1⟩)) fun v s t a g e=>by
   rw[List.append_nil] at g
   subst g
   exact ⟨_,Le.refl _,k v s t e⟩
 have h0:=h main J hJ
 unfold fI at h0 ⊢
 split at h0
 ·rename_i fn first captured
  refine ⟨h0.1,key _ fun m b d=>?_⟩
  have:=h m b d
  unfold fI at this
  exact this.2
 ·rename_i l first captured
  obtain ⟨e1,e2,r,h1,h2,_⟩:=h0
  refine ⟨e1,e2,r,?_,h2,key _ fun m b d=>?_⟩
  ·have hm:l∈keys own:=by
    unfold af.ez at h1
    split at h1
    ·rename_i o u;exact ep (fU u)
    ·cases h1
   have e:l∉keys pre:=fun w=>by
    have:=j.nd
    rw[bY] at this
    exact (List.nodup_append.1 this).2.2 l w l hm rfl
   have x:∀(pre:List (Nat×Obj)),l∉keys pre->lk (pre++own) l=lk own l:=fun pre=>by
    induction pre with
    |nil=>intro _;rfl
    |cons q pre ih=>
     intro f
     simp only[keys,List.map_cons,List.mem_cons,not_or] at f
     simp only[List.cons_append,lk,if_neg (Ne.symm f.1)]
     exact ih f.2
   unfold af.ez at h1 ⊢
   simp only at h1 ⊢
   rw[x pre e]
   exact h1
  ·have:=h m b d
   unfold fI at this
   obtain ⟨_,_,A,i,B,z⟩:=this
   rw[h1] at i
   cases i
   exact z
 ·exact h0.elim
theorem cC.less (hJ:Closed P main J){f:FuncId}{args:Array Value}{F:af}{R:Value->af->Prop}(h:cC P J f args F (fun v F'=>∃F0,Le F0 F'/\R v F0)):cC P J f args F R:=
 fun c cs a=>h c cs fun v F' ⟨F0,hle,b⟩=>hJ.mono hle (a v F0 b)
def x9 (P:Program)(rs:List ResultVar)(R:Value->af->Prop):Ex->Act->af->Prop
 | .exit _,_,_=>False
 |_,a,F=>gj P a.defers (fun F=>match kF P F a rs with|some v=>R v F|none=>False) F
theorem ya {K b:af->Prop}(h:∀F,K F->b F):∀(a:List Deferred) (F:af),gj P a K F->gj P a b F
 |[],F,x=>h F x
 |d::a,F,⟨r,h1,h2⟩=>⟨r,h1,fX (fun calls F' c=>⟨c.1,ya h a F' c.2⟩) _ _ h2⟩
theorem ay.sZ {f:FuncId}{fn:Func}{c:Code}{n:Nat}{rs:List ResultVar}{args:Array Value}{F:af}{R:Value->af->Prop}(g:P.funcs[f]?=some fn)(hb:fn.body=some c)(j:fn.ntmps=n)(k:fn.results=rs.toArray)(l:args.size<=n)
  (h:∀main J,Closed P main J->∀A:Act,sz A=n->A.defers=[]->(∀i,slot A i=args.getD i undef)->Wp J c (x9 P rs R) A F):ay P f args F R:=
 ay.start g hb j l fun main J hJ A h1 h2 h3=>(h main J hJ A h1 h2 h3).mono fun e a F b=>by
  have key:gj P a.defers (fun F=>match kF P F a rs with|some v=>R v F|none=>False) F->gj P a.defers (fun F=>aO P (results fn a.tmps) R F) F:=ya (fun F d=>by
   split at d
   ·rename_i v m;exact pz k m d
   ·exact d.elim) _ _
  cases e with
  |exit i=>exact b
  |normal=>exact key b
  |ret=>exact key b
theorem cC.go (hJ:Closed P main J){f:FuncId}{fn:Func}{c:Code}{n:Nat}{rs:List ResultVar}{args:Array Value}{F:af}{R:Value->af->Prop}(k:P.funcs[f]?=some fn)(hb:fn.body=some c)(g:fn.ntmps=n)(l:fn.results=rs.toArray)(o:args.size<=n)
  (h:∀A:Act,sz A=n->A.defers=[]->(∀i,slot A i=args.getD i undef)->Wp J c (gR P rs R) A F):cC P J f args F R:=by
 refine cC.of_wp hJ k hb ?_
 refine (h _ (by simp[sz,g];omega) rfl fun i=>?_).mono fun e a F j=>?_
 ·simp only[slot,g,Array.getD_eq_getD_getElem?]
  rcases Nat.lt_or_ge i args.size with b|b
  ·rw[Array.getElem?_append_left b]
  ·rw[Array.getElem?_append_right b,Array.getElem?_replicate,Array.getElem?_eq_none b]
   split<;>rfl
 ·cases e with
  |exit i=>exact j
  |_=>
   obtain ⟨hd,d⟩:=j
   split at d
   ·rename_i v m
    show gj P a.defers _ F
    rw[hd]
    exact pz l m d
   ·exact d.elim
theorem Cg {d:Nat}{X:Nat->Prop}:(∃r,Target.collected d=Target.collected r/\X r)=X d:=propext ⟨fun ⟨r,h1,h2⟩=>by cases h1;exact h2,fun h=>⟨d,rfl,h⟩⟩
attribute [go_sem] Cg Cb Cc Cd x9 Ce af.ez Obj.mZ Obj.isChan
end
section
variable {P : Program}
theorem yb {argTypes:Array TypeId}{t e ty:TypeId}{R:Value->af->Prop}{F:af}{ad:Option Addr}{n c:Nat}(ht:argTypes[0]?=some t)(hu:P.underlying t=some (.slice e))(h:R (.int .i64 c) F):er P (Builtin.cap_ argTypes ty #[.slice ad n c]) R F:=by
 unfold er
 simp only[Builtin.cap_,ht,List.getElem?_toArray,List.getElem?_cons_zero,bf,cV,hu,bt]
 exact h
theorem Ch (z:Value)(n:Nat):(Builtin.zeroCells #[z] n).toList=List.replicate n z:=by
 simp only[Builtin.zeroCells,List.size_toArray,List.length_cons,List.length_nil,Nat.zero_add,Nat.mul_one,Nat.mod_one]
 rw[Array.toList_map,Array.toList_range]
 apply List.ext_getElem
 ·simp
 ·intro i h1 h2;simp
theorem Ci {ro:Addr->Option Value}{pre aS:List (Nat×Obj)}{argTypes:Array TypeId}{t e ty:TypeId}{R:Value->af->Prop}{b off n c:Nat}{arr:Array Value}{z zc:Value}(ht:argTypes[0]?=some t)(hu:P.underlying t=some (.slice e))(a:zeroOf P e=some z)(d:z.cells=#[zc])(f:bw zc=true)
  (l:0<n) (g:aj pre b) (i:off+n<=arr.size)
  (h:R (.tuple #[]) ⟨ro,pre++((b,.cells (dz arr off (List.replicate n zc)) e)::aS)⟩):
  er P (Builtin.clear_ argTypes ty #[.slice (some ⟨b,off,none⟩) n c]) R ⟨ro,pre++((b,.cells arr e)::aS)⟩:=by
 unfold er
 have m:n≠0:=by omega
 obtain ⟨k,rfl⟩:∃k,n=k+1:=⟨n - 1,by omega⟩
 simp only[Builtin.clear_,ht,List.getElem?_toArray,List.getElem?_cons_zero,bf,cV,hu,kr,a,d]
 refine oX _ _ 0 _ ⟨ro,pre++((b,.cells (dz arr off (List.replicate (k+1) zc)) e)::aS)⟩ ?_ ?_
 ·rw[Ch]
  have:=sL (ro:=ro) (aS:=aS) (e:=e) g off (List.replicate (k+1) zc) arr 0 (fun v j=>by rw[List.eq_of_mem_replicate j];exact f) (by simpa using i)
  simpa using this
 ·simp only[bt]
  exact h
end
theorem aW.yc {T:Type}{r:bT T}{ro:Addr->Option Value}{e:TypeId}{v:Value}{l:List T}{aN:List (Nat×Obj)}(h:aW r ro e v l aN){own:List (Nat×Obj)}(pre aS:List (Nat×Obj))(f:own=pre++(aN++aS))(g:aM (keys own)):az r (af.cc ⟨ro,own⟩).ro v l:=by
 subst f
 obtain ⟨ls,hg,c,hm,k⟩:=h
 rcases hg with ⟨rfl,rfl,rfl⟩|⟨b,arr,cap,rfl,rfl,hs,hle,ht,d,m⟩
 ·have:l=[]:=List.eq_nil_of_length_eq_zero (by simpa using c.symm)
  subst this
  exact az.nil r _
 ·have o:aj pre b:=Nd.fresh g.nd b (by simp[keys])
  refine ⟨some ⟨b,0,none⟩,cap,by rw[c],by omega,by omega,fun i x p=>?_⟩
  obtain ⟨cs,h1,h2⟩:=k i x p
  refine ⟨_,cs,rfl,r.mono aI h2,fun j v q=>?_⟩
  have a:=ny ls i cs d h1 j v q
  rw[jD,jE,Nat.zero_add]
  have s:i*r.n+j<ls.length*r.n:=by
   have:=(List.getElem?_eq_some_iff.1 a).1
   rw[gm d] at this
   exact this
  rw[<-ht,List.getElem?_take_of_lt s] at a
  show af.get ⟨ro,pre++([(b,Obj.cells arr e)]++aS)⟩ ⟨b,i*r.n+j,none⟩=some v
  simp only[af.get,m,if_true,List.cons_append,List.nil_append,pQ o,Option.bind_some,cellOf]
  simpa using a
theorem az.two {T:Type}{r:bT T}{ro:Addr->Option Value}{own:List (Nat×Obj)}{b:Nat}{x y:T}{v u:Value}{e:TypeId}(d:∀off sp,ro ⟨b,off,sp⟩=none)(f:lk own b=some (.cells #[v,u] e))(h1:r.n=1)(h:r.rel ro x [v])(k:r.rel ro y [u]):
  az r (bI ro b (.cells #[v,u] e)) (.slice (some ⟨b,0,none⟩) 2 2) [x,y]:=by
 refine ⟨some ⟨b,0,none⟩,2,rfl,Nat.le_refl _,by simp,fun i z a=>?_⟩
 have:(i=0/\z=x)\/(i=1/\z=y):=by
  cases i with
  |zero=>simp at a;exact .inl ⟨rfl,a.symm⟩
  |succ i=>cases i with
   |zero=>simp at a;exact .inr ⟨rfl,a.symm⟩
   |succ i=>simp at a
 rcases this with ⟨rfl,rfl⟩|⟨rfl,rfl⟩
 ·refine ⟨_,_,rfl,r.mono (fl _ _ _) h,fun j w c=>?_⟩
  cases j with
  |zero=>
   rw[Nat.zero_mul,add_zero',jE,Nat.zero_add,gW d]
   simpa [cellOf] using c
  |succ j=>simp at c
 ·refine ⟨_,_,rfl,r.mono (fl _ _ _) k,fun j w c=>?_⟩
  cases j with
  |zero=>
   rw[h1,jD,jE,gW d]
   simpa [cellOf] using c
  |succ j=>simp at c
theorem aW.clear {ro:Addr->Option Value}{e:TypeId}{b n cap k:Nat}{x:List Int}{arr:Array Value}(h:aW rI ro e (.slice (some ⟨b,0,none⟩) n cap) x [(b,.cells arr e)])(s:k<=x.length):
  aW rI ro e (.slice (some ⟨b,0,none⟩) k cap) (x.take k) [(b,.cells (dz arr k (List.replicate (n - k) (.int .i64 0))) e)]:=by
 obtain ⟨ls,hg,t,hm,l⟩:=h
 rcases hg with ⟨a,_,_⟩|⟨u,w,m,a,o,hs,hle,ht,f,p⟩
 ·cases a
 ·cases o
  obtain ⟨rfl,rfl⟩:n=ls.length/\cap=m:=by cases a;exact ⟨rfl,rfl⟩
  have d:rI.n=1:=rfl
  rw[d] at hs ht f
  simp only[Nat.mul_one] at hs ht
  have c:(ls.take k).length=k:=by rw[List.length_take];omega
  refine ⟨ls.take k,.inr ⟨b,_,cap,by rw[c],rfl,by rw[o9];rw[d,Nat.mul_one];exact hs,by rw[c];omega,?_,?_,p⟩,by rw[c,List.length_take];omega,by rw[List.length_take];omega,?_⟩
  ·rw[pe _ _ _ (by simp;omega),c,d,Nat.mul_one,List.append_assoc,List.take_append_of_le_length (by rw[List.length_take,Array.length_toList];omega),List.take_take,Nat.min_self]
   have e1:arr.toList.take k=(arr.toList.take ls.length).take k:=by rw[List.take_take,Nat.min_eq_left (by omega)]
   rw[e1,ht]
   have e2:ls.flatten=(ls.take k).flatten++(ls.drop k).flatten:=by rw[<-List.flatten_append,List.take_append_drop]
   have j:(ls.take k).flatten.length=k:=by rw[gm (size:=1) (fun z g=>f z (List.mem_of_mem_take g)),c,Nat.mul_one]
   rw[e2,List.take_append_of_le_length (Nat.le_of_eq j.symm),List.take_of_length_le (Nat.le_of_eq j)]
  ·intro z g
   rw[d];exact f z (List.mem_of_mem_take g)
  ·intro i v a
   obtain ⟨q,r⟩:i<k/\x[i]?=some v:=by
    rw[List.getElem?_take] at a
    split at a
    ·exact ⟨‹_›,a⟩
    ·cases a
   obtain ⟨cs,h1,h2⟩:=l i v r
   exact ⟨cs,by rw[List.getElem?_take,if_pos q];exact h1,h2⟩
section
variable {P : Program}
theorem Cj {t:TypeId}{R:Value->af->Prop}{F:af}(h:∀b,dn F b->R (.map (some b)) (F.push b (.map #[] 0))):er P (Instr.makeMap t none) R F:=by
 unfold er
 simp only[Instr.makeMap,bf,m6,bt]
 exact ⟨rfl,h⟩
theorem Ck {argTypes:Array TypeId}{t a b ty:TypeId}{r:Nat}{es:Array MapEntry}{clock:Nat}{R:Value->af->Prop}{F:af}(ht:argTypes[0]?=some t)(hu:P.underlying t=some (.map a b))(c:F.ez r=some (.map es clock))(h:R (.int .i64 (es.size:Int)) F):
  er P (Builtin.len_ argTypes ty #[.map (some r)]) R F:=by
 unfold er
 simp only[Builtin.len_,ht,List.getElem?_toArray,List.getElem?_cons_zero,bf,cV,hu,lH]
 exact ⟨_,c,h⟩
theorem yd {c:TypeId}{key:Value}{F:af}{Q:Option (Nat×Value)->af->Prop}:∀(l:List MapEntry) (i:Nat),
  (∀e∈l,∃b,(∀(Q:Bool->af->Prop),Q b F->aO P (Op.equal c key e.key) Q F)/\(b=true↔e.key=key))->
  (∀j e,l[j]?=some e->e.key=key->Q (some (i+j,e.val)) F)->((∀e∈l,¬e.key=key)->Q none F)->aO P (Instr.findAsking c key l i) Q F
 |[],i,_,_,h2=>h2 (by simp)
 |e::l,i,d,h1,h2=>by
  obtain ⟨b,hb,f⟩:=d e (by simp)
  simp only[Instr.findAsking,bf]
  refine hb _ ?_
  cases b with
  |true=>exact h1 0 e rfl (f.1 rfl)
  |false=>
   have g:¬e.key=key:=fun x=>by have:=f.2 x;cases this
   refine yd l (i+1) (fun x a=>d x (by simp[a])) (fun j x a he=>?_) (fun h=>h2 (by simpa [g] using h))
   have:=h1 (j+1) x (by simpa using a) he
   rwa [show i+1+j=i+(j+1) by omega]
theorem modify_keys {es:Array MapEntry}{i:Nat}{key val:Value}{e:MapEntry}(b:es[i]?=some e)(he:e.key=key):(es.modify i fun e=>{e with key:=key,val:=val}).toList.map (·.key)=es.toList.map (·.key):=by
 apply List.ext_getElem?
 intro j
 simp only[List.getElem?_map,Array.toList_modify,List.getElem?_modify]
 by_cases a:i=j
 ·subst a
  have:es.toList[i]?=some e:=by simpa using b
  simp[this,he]
 ·simp[a]
theorem Cl {t c q f n:TypeId}{r:Nat}{es:Array MapEntry}{clock:Nat}{key val:Value}{R:Value->af->Prop}{F:af}(hu:P.underlying t=some (.map c q))(g:F.ez r=some (.map es clock))
  (s:∀Q:Unit->af->Prop,Q () F->aO P (Instr.checkKey false 10000 c key) Q F) (u:P.underlying c=some (.array n f))
  (v:∀e∈es.toList,∃b,(∀(Q:Bool->af->Prop),Q b F->aO P (Op.equal c key e.key) Q F)/\(b=true↔e.key=key))
  (h:∀d w,((key∈es.toList.map (·.key)/\d.toList.map (·.key)=es.toList.map (·.key))\/(key∉es.toList.map (·.key)/\d.toList.map (·.key)=es.toList.map (·.key)++[key]))->R undef (F.put r (.map d w))):
  er P (Instr.mapUpdate t (.map (some r)) key val>>= fun _=>pure undef) R F:=by
 unfold er
 simp only[Instr.mapUpdate,bf,cV,hu,lH]
 refine ⟨_,g,?_⟩
 simp only[bf]
 refine s _ ?_
 have k:(F.ez r).isSome=true:=by rw[g];rfl
 have step:aO P (Instr.findAsking c key es.toList) (fun a G=>aO P (match a with
   |some (i,_)=>do
    let key<-Instr.keyThatStays (((es[i]?).map (·.key)).getD key) key
    setObj r (.map (es.modify i fun e=>{e with key,val}) clock)
   |none=>setObj r (.map (es.push {key,val,born:=clock}) (clock+1))) (fun _ G=>aO P (pure undef) R G) G) F:=by
  refine yd _ 0 v (fun j e m he=>?_) (fun x=>?_)
  ·simp only[Nat.zero_add,bf]
   have o:es[j]?=some e:=by simpa using m
   rw[o]
   simp only[Option.map_some,Option.getD_some,he]
   have fin:aO P (setObj r (.map (es.modify j fun e=>{e with key:=key,val:=val}) clock)) (fun _ G=>aO P (pure undef) R G) F:=by
    simp only[kq,bt]
    refine ⟨rfl,k,h _ _ (.inl ⟨?_,modify_keys o he⟩)⟩
    rw[<-he]
    exact List.mem_map_of_mem (List.mem_of_getElem? m)
   unfold Instr.keyThatStays
   rw[cU]
   split
   ·exact fin
   ·simp only[bf,rS]
    split
    ·simp only[bt,ite_self];exact fin
    ·intro t;simp only[bt,ite_self];exact fin
  ·simp only[kq,bt]
   refine ⟨rfl,k,h _ _ (.inr ⟨?_,by simp⟩)⟩
   intro hm
   obtain ⟨e,he,y⟩:=List.mem_map.1 hm
   exact x e he y
 unfold Instr.findKey
 simp only[bf,cV,u]
 cases p:es.toList with
 |nil=>
  rw[p] at step
  exact step
 |cons e l=>
  have:Instr.findNow (.array n f) key (e::l) 0=none:=rfl
  rw[this]
  rw[p] at step
  exact step
end
theorem bS {α β:Type}{x:Option α}{f:α->Option β}{r:β}{G:Prop}(k:∀a,x=some a->f a=some r->G)(h:ah x f=some r):G:=by
 obtain ⟨a,h1,h2⟩:=e5 h
 exact k a h1 h2
def bp:Code->Code
 | .seq _ b=>b
 |c=>c
theorem sI {α:Type}{x r:α}(h:some x=some r):x=r:=Option.some.inj h
theorem au {ro:Addr->Option Value}{own:List (Nat×Obj)}{G:Nat->Prop}(h:∀b,(∀off sp,ro ⟨b,off,sp⟩=none)->aj own b->G b):∀b,dn ⟨ro,own⟩ b->G b:=fun b f=>h b (ee f) (eU f)
theorem bg:(∀(ro:Addr->Option Value) (b:Nat) (o:Obj) (l:List (Nat×Obj)),aA ro ((b,o)::l)=((∀off sp,ro ⟨b,off,sp⟩=none)/\aA ro l))/\(∀l:List (Nat×Obj),[]++l=l)/\(∀l:List (Nat×Obj),l++[]=l)/\
  (∀(x:Nat×Obj) (l m:List (Nat×Obj)),x::l++m=x::(l++m))/\∀l m n:List (Nat×Obj),l++m++n=l++(m++n):=
 ⟨fun _ _ _ _=>propext ⟨fun h=>⟨h.hd,h.tl⟩,fun h=>aA.cons h.1 h.2⟩,fun _=>rfl,List.append_nil,fun _ _ _=>rfl,List.append_assoc⟩
theorem az.el {T:Type}{r:bT T}{ro:Addr->Option Value}{ad:Option Addr}{n cap:Nat}{l:List T}(h:az r ro (.slice ad n cap) l):
  ∀i x,l[i]?=some x->∃p cs,ad=some p/\r.rel ro x cs/\∀j v,cs[j]?=some v->ro ((p.add (i*r.n)).add j)=some v:=by
 obtain ⟨a,b,e,_,_,h⟩:=h
 cases e
 exact h
theorem aM.tl {b:Nat}{ks:List Nat}(h:aM (b::ks)):aM ks:=⟨(List.nodup_cons.1 h.nd).2⟩
theorem aM.cut {l:List (Nat×Obj)}(h:aM (keys l))(i n:Nat):aM (keys (l.take i++l.drop (i+n))):=
 ⟨(((List.Sublist.append_left (show (l.drop (i+n)).Sublist (l.drop i) by rw[<-List.drop_drop];exact List.drop_sublist _ _) (l.take i)).trans (by rw[List.take_append_drop];exact List.Sublist.refl _)).map _).nodup h.nd⟩
theorem aW.eC {T:Type}{r:bT T}{ro:Addr->Option Value}{e:TypeId}{v:Value}{l:List T}{aN:List (Nat×Obj)}(h:aW r ro e v l aN){own:List (Nat×Obj)}(pre aS:List (Nat×Obj))(a:aM (keys own))(b:aA ro (pre++aS))
  (c:own=pre++(aN++aS):=by first|rfl|simp only[List.append_nil,List.cons_append,List.nil_append,List.append_assoc]|(simp only[List.append_nil,List.cons_append,List.nil_append,List.append_assoc];rfl)):
  ∃aH,Ext ro aH/\aA aH (pre++aS)/\az r aH v l/\Le ⟨aH,pre++aS⟩ ⟨ro,own⟩:=h.jM _ pre aS c rfl a b
theorem az.oc {T:Type}{r:bT T}{ro:Addr->Option Value}{s:Value}{l:List T}(h:az r ro s l):bw s=true:=by
 obtain ⟨_,_,e,_⟩:=h
 rw[e];rfl
theorem Cm {p:Nat->Prop}{a:Nat}{l:List Nat}:(∀i,i∈a::l->p i)=(p a/\∀i,i∈l->p i):=propext List.forall_mem_cons
theorem Cn {p:Nat->Prop}:(∀i,i∈([]:List Nat)->p i)=True:=propext ⟨fun _=>trivial,fun _ _ h=>(by cases h)⟩
section
variable {P : Program} {main : Bool} {J : Goroutine → af → Prop} {Q : Ex → Act → af → Prop} {a : Act} {F : af}
theorem bX (hJ:Closed P main J){f:FuncId}{args:Array Value}{ro:Addr->Option Value}{own:List (Nat×Obj)}{K:Value->af->Prop}(R:Value->(Addr->Option Value)->Prop)(h:en P f args ro R)
  (a:∀v aH,Ext ro aH->aA aH own->R v aH->K v ⟨aH,own⟩):cC P J f args ⟨ro,own⟩ K:=sw hJ R h a
theorem pW {Φ:Goroutine->af->Prop}{f:FuncId}{args:Array Value}{ro:Addr->Option Value}{own:List (Nat×Obj)}{K:Value->af->Prop}(R:Value->(Addr->Option Value)->Prop)(h:nE P f args ro R)
  (a:∀v aH,Ext ro aH->aA aH own->R v aH->K v ⟨aH,own⟩):cC P (dH P Φ) f args ⟨ro,own⟩ K:=Bu R h a
theorem cS {α:Type}{b:Bool}{e1 e2:Option α}{r:α}{G:Prop}(h1:b=true->e1=some r->G)(h2:b=false->e2=some r->G)(h:cond b e1 e2=some r):G:=by
 rcases gX h with ⟨a,b⟩|⟨a,b⟩
 ·exact h1 a b
 ·exact h2 a b
theorem jC {α:Type}(hJ:Closed P main J){c:Operand}{x y:Code}{b:Bool}{e1 e2:Option α}{r:α}(d:ev a c= .bool b)(h1:b=true->e1=some r->Wp J x Q a F)(h2:b=false->e2=some r->Wp J y Q a F)(h:cond b e1 e2=some r):Wp J (.cond c x y) Q a F:=by
 refine Bn hJ b d (fun e=>h1 e ?_) fun e=>h2 e ?_
 ·rw[e] at h;exact h
 ·rw[e] at h;exact h
structure s0 (Q:Ex->Act->af->Prop)(K:Act->af->Prop):Prop where
 go:∀{a F},Q .normal a F->K a F
theorem dc (hJ:Closed P main J)(b:P.follows .mixedOrders=true)(m n:Nat){id:Nat}{ops:Array Oper}(c:Knows ⟨F.ro,F.own.take n⟩ F)(d:lP ops m=true)
  (h:dG P J ops ⟨F.ro,F.own.take n⟩ (fun e=>ef P J ops ⟨F.ro,F.own.take n⟩ (Q .normal) (ops.toList.drop m) true e F) (ops.toList.take m) true a):Wp J (.region id ops true) Q a F:=dA hJ b m _ c d h
theorem nO (hJ:Closed P main J)(b:P.follows .mixedOrders=true)(m n:Nat){id:Nat}{ops:Array Oper}(c:Knows ⟨F.ro,F.own.take n⟩ F)(d:lP ops m=true)
  (h:∀K,s0 Q K->dG P J ops ⟨F.ro,F.own.take n⟩ (fun e=>ef P J ops ⟨F.ro,F.own.take n⟩ K (ops.toList.drop m) true e F) (ops.toList.take m) true a):Wp J (.region id ops true) Q a F:=dA hJ b m _ c d (h _ ⟨fun h=>h⟩)
theorem dS (hJ:Closed P main J){id:Nat}{ops:Array Oper}(h:∀K,s0 Q K->eT P J ops K ops.toList true a F):Wp J (.region id ops false) Q a F:=ag hJ (h _ ⟨fun h=>h⟩)
theorem jb (hJ:Closed P main J)(b:P.follows .mixedOrders=true)(bN:List Nat)(p:bW){id:Nat}{ops:Array Oper}(F0:af)(c:Knows F0 F)
  (d:(Region.noSelect ops&&decide (p.len<=ops.size)&&p.ok ops bN (Array.replicate ops.size false))=true)
  (h:∀K,s0 Q K->cg P J ops F0 K (p.opers ops) true a F):Wp J (.region id ops true) Q a F:=iy hJ b bN p F0 c d (h _ ⟨fun h=>h⟩)
theorem dU {c:Code}(L:List Nat){a:Act}(h:∀A,sz A=sz a->A.defers=a.defers->(∀i∈L,slot A i=slot a i)->Wp J c Q A F):Wp J c Q a F:=h a rfl rfl fun _ _=>rfl
theorem c9.pick {ws:List Nat}{A a:Act}(h:c9 ws A a)(L:List Nat)(b:(L.all fun i=>!iT ws i)=true):sz A=sz a/\A.defers=a.defers/\∀i∈L,slot A i=slot a i:=
 ⟨h.size,h.defers,fun i c=>h.eH i fun x=>by
  have h1:=List.all_eq_true.1 b i c
  have h2:iT ws i=true:=by
   unfold In at x
   exact x
  simp[h2] at h1⟩
theorem dI {T:Type}{r:bT T}{ro:Addr->Option Value}{aN:List (Nat×Obj)}{R:Value->af->Prop}{argTypes:Array TypeId}{d f e h e2:TypeId}{a b:Nat}{s z:Value}{l:List T}{x:T}{cs:Array Value}{own:List (Nat×Obj)}(pre aS:List (Nat×Obj))
  (hg:aW r ro e s l aN) (i:aM (keys own)) (j:l.length+[x].length<=1000000) (k:r.rel ro x cs.toList) (m:lk pre b=some (.cells cs e2)) (o:∀off sp,ro ⟨b,off,sp⟩=none)
  (h0:argTypes[0]?=some d) (h1:argTypes[1]?=some f) (he:cL P d=some e) (p:cL P f=some h) (hs:bQ P e=some r.n) (q:zeroOf P e=some z) (t:z.cells.size=r.n) (hb:bytesOf P e=some a)
  (u:0<a) (w:a<=10000)
  (y:∀v g,aW r ro e v (l++[x]) g->∀c,c=pre++(g++aS)->aM (keys c)->∃F0,Le F0 ⟨ro,c⟩/\R v F0)
  (A:own=pre++(aN++aS):=by first|rfl|simp only[List.append_nil,List.cons_append,List.nil_append,List.append_assoc]|(simp only[List.append_nil,List.cons_append,List.nil_append,List.append_assoc];rfl)):kD P argTypes s (.slice (some ⟨b,0,none⟩) 1 1) R ⟨ro,own⟩:=
 xT pre aS A hg i j k m o h0 h1 he p hs q t hb u w y
theorem nP {T:Type}{r:bT T}{ro:Addr->Option Value}{aN:List (Nat×Obj)}{R:Value->af->Prop}{argTypes:Array TypeId}{d f e h:TypeId}{a c:Nat}{ad:Option Addr}{s z:Value}{l xs:List T}{own:List (Nat×Obj)}(pre aS:List (Nat×Obj))
  (hg:aW r ro e s l aN) (i:aM (keys own)) (j:l.length+xs.length<=1000000) (k:az r ro (.slice ad xs.length c) xs)
  (h0:argTypes[0]?=some d) (h1:argTypes[1]?=some f) (he:cL P d=some e) (m:cL P f=some h) (hs:bQ P e=some r.n) (o:zeroOf P e=some z) (p:z.cells.size=r.n) (hb:bytesOf P e=some a)
  (q:0<a) (t:a<=10000)
  (u:∀v g,aW r ro e v (l++xs) g->∀b,b=pre++(g++aS)->aM (keys b)->∃F0,Le F0 ⟨ro,b⟩/\R v F0)
  (w:own=pre++(aN++aS):=by first|rfl|simp only[List.append_nil,List.cons_append,List.nil_append,List.append_assoc]|(simp only[List.append_nil,List.cons_append,List.nil_append,List.append_assoc];rfl)):kD P argTypes s (.slice ad xs.length c) R ⟨ro,own⟩:=
 BZ pre aS w hg i j k h0 h1 he m hs o p hb q t u
theorem fK (hJ:Closed P main J){f:FuncId}{args:Array Value}{ro:Addr->Option Value}{aN:List (Nat×Obj)}{K:Value->af->Prop}{own:List (Nat×Obj)}(pre aS:List (Nat×Obj))(R:Value->List (Nat×Obj)->Prop)(h:ay P f args ⟨ro,aN⟩ (fun v G=>∃a,R v a/\Le ⟨ro,a⟩ G))
  (c:∀v a,R v a->∀b,b=pre++(a++aS)->aM (keys b)->∃F0,Le F0 ⟨ro,b⟩/\K v F0)
  (d:own=pre++(aN++aS):=by first|rfl|simp only[List.append_nil,List.cons_append,List.nil_append,List.append_assoc]|(simp only[List.append_nil,List.cons_append,List.nil_append,List.append_assoc];rfl)):cC P J f args ⟨ro,own⟩ K:=xV hJ pre aS d R h c
end
end Go.Sep
end
section
namespace Go.Proofs.YtipgiooobncfbaaGreatDoor
open Go Go.Sep Go.Proofs
set_option maxRecDepth 100000
attribute [go_sem] az.nil
theorem pX:rI.n=1:=rfl
theorem s3:rB.n=1:=rfl
theorem Co {T:Type}(r:bT T):(rL r).n=1:=rfl
attribute [go_sem] pX s3 Co
structure ak where
 num:Int
 den:Int
 deriving DecidableEq
def ak.v (x:ak):Value:=.agg #[.int .i64 x.num,.int .i64 x.den]
def ak.cells (x:ak):List Value:=[.int .i64 x.num,.int .i64 x.den]
def jO:bT ak:=gq 2 ak.cells (fun _=>rfl) (fun _ v a=>by simp only[ak.cells,List.mem_cons,List.not_mem_nil,or_false] at a;rcases a with rfl|rfl<;>rfl)
theorem Cp:jO.n=2:=rfl
attribute [go_sem] ak.v ak.cells Cp
structure bZ where
 aG:Int
 high:Int
 deriving DecidableEq
def bZ.cells (x:bZ):List Value:=[.int .i64 x.aG,.int .i64 x.high]
def eD:bT bZ:=gq 2 bZ.cells (fun _=>rfl) (fun _ v a=>by simp only[bZ.cells,List.mem_cons,List.not_mem_nil,or_false] at a;rcases a with rfl|rfl<;>rfl)
theorem Cq:eD.n=2:=rfl
attribute [go_sem] bZ.cells Cq
structure b7 where
 place:Int
 cX:Int
 deriving DecidableEq
def b7.cells (x:b7):List Value:=[.int .i64 x.place,.int .i64 x.cX]
def dX:bT b7:=gq 2 b7.cells (fun _=>rfl) (fun _ v a=>by simp only[b7.cells,List.mem_cons,List.not_mem_nil,or_false] at a;rcases a with rfl|rfl<;>rfl)
theorem Cr:dX.n=2:=rfl
attribute [go_sem] b7.cells Cr
structure dw where
 low:Int
 high:Int
 deriving DecidableEq
def dw.v (x:dw):Value:=.agg #[.int .i64 x.low,.int .i64 x.high]
def dw.cells (x:dw):List Value:=[.int .i64 x.low,.int .i64 x.high]
def Cs:bT dw:=gq 2 dw.cells (fun _=>rfl) (fun _ v a=>by simp only[dw.cells,List.mem_cons,List.not_mem_nil,or_false] at a;rcases a with rfl|rfl<;>rfl)
theorem Ct:Cs.n=2:=rfl
attribute [go_sem] dw.v dw.cells Ct
structure cA where
 back:Int
 high:dw
 deriving DecidableEq
def cA.cells (x:cA):List Value:=[.int .i64 x.back,.int .i64 x.high.low,.int .i64 x.high.high]
def ew:bT cA:=gq 3 cA.cells (fun _=>rfl) (fun _ v a=>by simp only[cA.cells,List.mem_cons,List.not_mem_nil,or_false] at a;rcases a with rfl|rfl|rfl<;>rfl)
theorem Cu:ew.n=3:=rfl
attribute [go_sem] cA.cells Cu
structure bP where
 aX:Int
 bn:Bool
 deriving DecidableEq
def bP.v (x:bP):Value:=.agg #[.int .i64 x.aX,.bool x.bn]
def bP.cells (x:bP):List Value:=[.int .i64 x.aX,.bool x.bn]
def cO:bT bP:=gq 2 bP.cells (fun _=>rfl) (fun _ v a=>by simp only[bP.cells,List.mem_cons,List.not_mem_nil,or_false] at a;rcases a with rfl|rfl<;>rfl)
theorem Cv:cO.n=2:=rfl
attribute [go_sem] bP.v bP.cells Cv
structure an where
 bF:Int
 bJ:Int
 aT:ak
 aB:(List bZ)
 props:(List b7)
 aR:(List cA)
 told:(List bP)
 deriving DecidableEq
def an.rel (ro:Addr->Option Value)(x:an)(cs:List Value):Prop:=∃a b c d,cs=[.int .i64 x.bF,.int .i64 x.bJ,.int .i64 x.aT.num,.int .i64 x.aT.den,a,b,c,d]/\az eD ro a x.aB/\az dX ro b x.props/\az ew ro c x.aR/\az cO ro d x.told
theorem an.nS {ro:Addr->Option Value}{x:an}{cs:List Value}(h:an.rel ro x cs):∀v∈cs,bw v=true:=by
 obtain ⟨b,c,d,e,rfl,⟨_,_,rfl,_⟩,⟨_,_,rfl,_⟩,⟨_,_,rfl,_⟩,⟨_,_,rfl,_⟩⟩:=h
 intro v a;simp only[List.mem_cons,List.not_mem_nil,or_false] at a;rcases a with rfl|rfl|rfl|rfl|rfl|rfl|rfl|rfl<;>rfl
def Cw:bT an:=⟨8,an.rel,fun a ⟨b,c,d,f,e,g,h,i,j⟩=>⟨b,c,d,f,e,g.mono a,h.mono a,i.mono a,j.mono a⟩,fun ⟨b,c,d,f,e,_⟩=>by rw[e];rfl,an.nS⟩
theorem Cx:Cw.n=8:=rfl
attribute [go_sem] Cx
structure aP where
 back:Int
 high:Int
 deriving DecidableEq
def aP.v (x:aP):Value:=.agg #[.int .i64 x.back,.int .i64 x.high]
def aP.cells (x:aP):List Value:=[.int .i64 x.back,.int .i64 x.high]
def gZ:bT aP:=gq 2 aP.cells (fun _=>rfl) (fun _ v a=>by simp only[aP.cells,List.mem_cons,List.not_mem_nil,or_false] at a;rcases a with rfl|rfl<;>rfl)
theorem Cz:gZ.n=2:=rfl
attribute [go_sem] aP.v aP.cells Cz
structure fZ where
 aG:Int
 high:ak
 deriving DecidableEq
def fZ.cells (x:fZ):List Value:=[.int .i64 x.aG,.int .i64 x.high.num,.int .i64 x.high.den]
def CA:bT fZ:=gq 3 fZ.cells (fun _=>rfl) (fun _ v a=>by simp only[fZ.cells,List.mem_cons,List.not_mem_nil,or_false] at a;rcases a with rfl|rfl|rfl<;>rfl)
theorem CB:CA.n=3:=rfl
attribute [go_sem] fZ.cells CB
structure bq where
 spot:fZ
 at_:Int
 high:ak
 deriving DecidableEq
def bq.v (x:bq):Value:=.agg #[.int .i64 x.spot.aG,.int .i64 x.spot.high.num,.int .i64 x.spot.high.den,.int .i64 x.at_,.int .i64 x.high.num,.int .i64 x.high.den]
def bq.cells (x:bq):List Value:=[.int .i64 x.spot.aG,.int .i64 x.spot.high.num,.int .i64 x.spot.high.den,.int .i64 x.at_,.int .i64 x.high.num,.int .i64 x.high.den]
def jc:bT bq:=gq 6 bq.cells (fun _=>rfl) (fun _ v a=>by simp only[bq.cells,List.mem_cons,List.not_mem_nil,or_false] at a;rcases a with rfl|rfl|rfl|rfl|rfl|rfl<;>rfl)
theorem CC:jc.n=6:=rfl
attribute [go_sem] bq.v bq.cells CC
structure aY where
 e0:Int
 e1:Int
 e2:Int
 deriving DecidableEq
def aY.v (x:aY):Value:=.agg #[.int .i64 x.e0,.int .i64 x.e1,.int .i64 x.e2]
def aY.cells (x:aY):List Value:=[.int .i64 x.e0,.int .i64 x.e1,.int .i64 x.e2]
def ga:bT aY:=gq 3 aY.cells (fun _=>rfl) (fun _ v a=>by simp only[aY.cells,List.mem_cons,List.not_mem_nil,or_false] at a;rcases a with rfl|rfl|rfl<;>rfl)
theorem CD:ga.n=3:=rfl
attribute [go_sem] aY.v aY.cells CD
def aY.get (x:aY)(i:Int):Option Int:=if i=0 then some x.e0 else if i=1 then some x.e1 else if i=2 then some x.e2 else none
theorem aY.get_some {x:aY}{i:Int}{y:Int}(h:aY.get x i=some y):0<=i/\i<((3:Nat):Int)/\([.int .i64 x.e0,.int .i64 x.e1,.int .i64 x.e2]:List Value)[i.toNat]?=some (.int .i64 y):=by
 unfold aY.get at h
 by_cases h0:i=0
 ·subst h0;simp at h;subst h;exact ⟨by omega,by omega,rfl⟩
 by_cases h1:i=1
 ·subst h1;simp at h;subst h;exact ⟨by omega,by omega,rfl⟩
 by_cases h2:i=2
 ·subst h2;simp at h;subst h;exact ⟨by omega,by omega,rfl⟩
 simp[h0,h1,h2] at h
theorem aY.CE {ro:Addr->Option Value}{b:Nat}{x:aY}{i:Int}{y:Int}(h:aY.get x i=some y)(g0:ro ⟨b,0,none⟩=some (.int .i64 x.e0))(a:ro ⟨b,1,none⟩=some (.int .i64 x.e1))(c:ro ⟨b,2,none⟩=some (.int .i64 x.e2)):ro ⟨b,i.toNat,none⟩=some (.int .i64 y):=by
 unfold aY.get at h
 by_cases h0:i=0
 ·subst h0;simp at h;subst h;exact g0
 by_cases h1:i=1
 ·subst h1;simp at h;subst h;exact a
 by_cases h2:i=2
 ·subst h2;simp at h;subst h;exact c
 simp[h0,h1,h2] at h
structure cI where
 book:an
 all:(List aY)
 deriving DecidableEq
def cI.rel (ro:Addr->Option Value)(x:cI)(cs:List Value):Prop:=∃a b c d e,cs=[.int .i64 x.book.bF,.int .i64 x.book.bJ,.int .i64 x.book.aT.num,.int .i64 x.book.aT.den,a,b,c,d,e]/\az eD ro a x.book.aB/\az dX ro b x.book.props/\az ew ro c x.book.aR/\az cO ro d x.book.told/\az ga ro e x.all
theorem cI.nS {ro:Addr->Option Value}{x:cI}{cs:List Value}(h:cI.rel ro x cs):∀v∈cs,bw v=true:=by
 obtain ⟨b,c,d,e,f,rfl,⟨_,_,rfl,_⟩,⟨_,_,rfl,_⟩,⟨_,_,rfl,_⟩,⟨_,_,rfl,_⟩,⟨_,_,rfl,_⟩⟩:=h
 intro v a;simp only[List.mem_cons,List.not_mem_nil,or_false] at a;rcases a with rfl|rfl|rfl|rfl|rfl|rfl|rfl|rfl|rfl<;>rfl
def CF:bT cI:=⟨9,cI.rel,fun a ⟨b,c,d,f,g,e,h,i,j,k,l⟩=>⟨b,c,d,f,g,e,h.mono a,i.mono a,j.mono a,k.mono a,l.mono a⟩,fun ⟨b,c,d,f,g,e,_⟩=>by rw[e];rfl,cI.nS⟩
theorem CG:CF.n=9:=rfl
attribute [go_sem] CG
def cK.rel (ro:Addr->Option Value)(g:(an->Option Int))(cs:List Value):Prop:=∃(b:FuncId) (c d:Array Value),cs=[.func (.func b) c d]/\aD Tryz.prog b=true/\∀(aH:Addr->Option Value),Ext ro aH->∀(a:an) (e:Value) (f:Value) (h:Value) (i:Value) (z:Int),az eD aH e a.aB->az dX aH f a.props->az ew aH h a.aR->az cO aH i a.told->g a=some z->ay Tryz.prog b (c++#[.agg #[.int .i64 a.bF,.int .i64 a.bJ,.int .i64 a.aT.num,.int .i64 a.aT.den,e,f,h,i]]++d) ⟨aH,[]⟩ (fun v _=>v= .int .i64 z)
theorem cK.CH {ro aH:Addr->Option Value}{g:(an->Option Int)}{cs:List Value}(b:Ext ro aH)(h:cK.rel ro g cs):cK.rel aH g cs:=by
 obtain ⟨f,a,c,e,h1,h2⟩:=h
 exact ⟨f,a,c,e,h1,fun d i=>h2 d (b.trans i)⟩
theorem cK.CI {ro:Addr->Option Value}{g:(an->Option Int)}{cs:List Value}(h:cK.rel ro g cs):cs.length=1:=by
 obtain ⟨f,a,c,e,_⟩:=h
 rw[e];rfl
theorem cK.nS {ro:Addr->Option Value}{g:(an->Option Int)}{cs:List Value}(h:cK.rel ro g cs):∀v∈cs,bw v=true:=by
 obtain ⟨f,a,c,e,_⟩:=h
 intro v b;rw[e] at b;simp at b;subst b;rfl
def cK:bT (an->Option Int):=⟨1,cK.rel,cK.CH,cK.CI,cK.nS⟩
theorem CJ:cK.n=1:=rfl
attribute [go_sem] CJ
abbrev sl {T:Type}(d:Option Addr)(l:List T)(c:Nat):Value:=.slice d l.length c
abbrev bk (x:an)(a b c d:Value):Obj:=.cells #[.int .i64 x.bF,.int .i64 x.bJ,.int .i64 x.aT.num,.int .i64 x.aT.den,a,b,c,d] 29
abbrev bl (x:an)(a b c d:Value):Obj:=.cells #[.int .i64 x.bF,.int .i64 x.bJ,.int .i64 x.aT.num,.int .i64 x.aT.den,a,b,c,d] 83
abbrev bz (t:Nat):Obj:=.cells #[.int .i64 0,.int .i64 0,.int .i64 0,.int .i64 0,.slice none 0 0,.slice none 0 0,.slice none 0 0,.slice none 0 0] t
abbrev kn (x:cI)(a b c d e:Value):Obj:=.cells #[.int .i64 x.book.bF,.int .i64 x.book.bJ,.int .i64 x.book.aT.num,.int .i64 x.book.aT.den,a,b,c,d,e] 113
abbrev rt (a b:Int):Obj:=.cells #[.int .i64 a,.int .i64 b] 23
abbrev ic (a:Int):Obj:=.cells #[.int .i64 a] 3
abbrev bv (x:an)(a b c d:Value):Value:=.agg #[.int .i64 x.bF,.int .i64 x.bJ,.int .i64 x.aT.num,.int .i64 x.aT.den,a,b,c,d]
attribute [go_sem] sl bk bl bz kn rt ic bv Cm Cn List.cons_append List.nil_append List.append_nil List.append_assoc
structure bx (ro:Addr->Option Value)(u:an)(a b c d:Value):Prop where
 e:az eD ro a u.aB
 p:az dX ro b u.props
 y:az ew ro c u.aR
 t:az cO ro d u.told
theorem bx.oc {ro:Addr->Option Value}{u:an}{a b c d:Value}(h:bx ro u a b c d):bw a=true/\bw b=true/\bw c=true/\bw d=true:=⟨h.e.oc,h.p.oc,h.y.oc,h.t.oc⟩
theorem bx.mono {ro aH:Addr->Option Value}{u:an}{a b c d:Value}(h:bx ro u a b c d)(f:Ext ro aH):bx aH u a b c d:=⟨h.e.mono f,h.p.mono f,h.y.mono f,h.t.mono f⟩
end Go.Proofs.YtipgiooobncfbaaGreatDoor
end

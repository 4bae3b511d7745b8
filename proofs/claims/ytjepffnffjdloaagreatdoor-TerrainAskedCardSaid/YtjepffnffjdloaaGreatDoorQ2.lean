/- A part of the proof of a row and its tied card: Q2. -/
import Derived.Test.YtjepffnffjdloaaGreatDoorQ1
import Derived.WalkKit
import Derived.IntWalk
import Derived.NoCompilerSame
import Derived.Test.YtjepffnffjdloaaGreatDoorProg
import Derived.KernelRfl
set_option linter.all false
section
namespace Go.Sep
open Go Go.Conc
section
variable {α β : Type} {P : Program} {Q : α → af → Prop} {F : af}
@[go_sem] theorem bF (a:α):aT P (Pure.pure a) Q F=Q a F:=rfl
@[go_sem] theorem Mh (a:α):aT P (Sem.pure a) Q F=Q a F:=rfl
@[go_sem] theorem bn {R:β->af->Prop}(x:Sem α)(f:α->Sem β):aT P (x>>= f) R F=aT P x (fun a G=>aT P (f a) R G) F:=propext (zg x F)
@[go_sem] theorem Mi {R:β->af->Prop}(x:Sem α)(f:α->β):aT P (Functor.map f x) R F=aT P x (fun a G=>R (f a) G) F:=propext (zg x F)
@[go_sem] theorem c9 (c:Prop)[Decidable c](x y:Sem α):aT P (if c then x else y) Q F=if c then aT P x Q F else aT P y Q F:=by split<;>rfl
@[go_sem] theorem zK {Q:Value->af->Prop}(a:Addr):aT P (load a) Q F=∃v,F.get a=some v/\Q v F:=by simp[load,aT]
@[go_sem] theorem D7 {Q:Unit->af->Prop}(a:Addr)(v:Value):aT P (store a v) Q F=∃F',F.mb a v=some F'/\Q () F':=by simp[store,aT]
@[go_sem] theorem pH {Q:Nat->af->Prop}(o:Obj):aT P (newObj o) Q F=(o.isChan=false/\∀b,dL F b->Q b (F.push b o)):=rfl
@[go_sem] theorem j4 {Q:Program->af->Prop}:aT P program Q F=Q P F:=rfl
@[go_sem] theorem vb {Q:Nat->af->Prop}(q:Question):aT P (choose q) Q F=if q.forced then Q 0 F else ∀t,Q (q.cut t) F:=rfl
@[go_sem] theorem nF {Q:Obj->af->Prop}(r:Nat):aT P (getObj r) Q F=∃o,F.e4 r=some o/\Q o F:=rfl
@[go_sem] theorem mg {Q:Unit->af->Prop}(r:Nat)(o:Obj):aT P (Go.setObj r o) Q F=(o.isChan=false/\(F.e4 r).isSome=true/\Q () (F.put r o)):=rfl
@[go_sem] theorem Mj (s:String):aT P (stuck s:Sem α) Q F=False:=rfl
@[go_sem] theorem Mk {Q:Unit->af->Prop}(m:Mark):aT P (mark m) Q F=(pn m=true/\Q () F):=rfl
@[go_sem] theorem dh {Q:TypeDesc->af->Prop}(t:TypeId):aT P (underlying t) Q F=match P.underlying t with|some d=>Q d F|none=>False:=by
 simp only[underlying,bn,j4];cases P.underlying t<;>rfl
@[go_sem] theorem pI {Q:TypeInfo->af->Prop}(t:TypeId):aT P (typeInfo t) Q F=match P.info? t with|some d=>Q d F|none=>False:=by
 simp only[typeInfo,bn,j4];cases P.info? t<;>rfl
def bW (P:Program)(t:TypeId):Option Nat:=(P.info? t).map (·.size)
def zeroOf (P:Program)(t:TypeId):Option Value:=(P.info? t).bind (·.zero)
def bytesOf (P:Program)(t:TypeId):Option Nat:=(P.info? t).map (·.bytes)
@[go_sem] theorem eN {Q:Nat->af->Prop}(t:TypeId):aT P (sizeOf t) Q F=match bW P t with|some n=>Q n F|none=>False:=by
 simp only[sizeOf,bn,pI,bW];cases P.info? t<;>rfl
@[go_sem] theorem mh {Q:Value->af->Prop}(t:TypeId):aT P (zeroValue t) Q F=match zeroOf P t with|some n=>Q n F|none=>False:=by
 simp only[zeroValue,bn,pI,zeroOf]
 cases P.info? t with
 |none=>rfl
 |some i=>simp only[Option.bind_some];cases i.zero<;>rfl
def cv (P:Program)(t:TypeId):Option Bool:=(P.underlying t).map fun| .struct _=>true| .array _ _=>true|_=>false
@[go_sem] theorem mj {Q:Bool->af->Prop}(t:TypeId):aT P (isAgg t) Q F=match cv P t with|some n=>Q n F|none=>False:=by
 simp only[isAgg,bn,dh,cv]
 cases P.underlying t with
 |none=>rfl
 |some d=>cases d<;>rfl
def af.mm (F:af)(a:Addr):Nat->List Value->Prop
 |_,[]=>True
 |i,v::b=>F.get (a.add i)=some v/\F.mm a (i+1) b
theorem vc {Q:Array Value->af->Prop}(a:Addr):∀(b:List Value) (i:Nat) (acc:Array Value),F.mm a i b->Q (acc++b.toArray) F->aT P (loadCellsFrom a i b.length acc) Q F
 |[],i,acc,_,h=>by simpa [loadCellsFrom,bF] using h
 |v::b,i,acc,hg,h=>by
  simp only[List.length_cons,loadCellsFrom,bn,zK]
  refine ⟨v,hg.1,vc a b (i+1) (acc.push v) hg.2 ?_⟩
  simpa using h
theorem D8 {Q:Value->af->Prop}{t:TypeId}{a:Addr}(b:List Value)(ht:cv P t=some true)(hs:bW P t=some b.length)(hg:F.mm a 0 b)(h:Q (.agg b.toArray) F):aT P (loadVar t a) Q F:=by
 simp only[loadVar,bn,mj,ht,c9,if_true,eN,hs,loadCells]
 exact vc a b 0 #[] hg (by simpa [bF] using h)
theorem D9 {Q:Value->af->Prop}{t:TypeId}{a:Addr}(v:Value)(ht:cv P t=some false)(hg:F.get a=some v)(h:Q v F):aT P (loadVar t a) Q F:=by
 simp only[loadVar,bn,mj,ht,c9,zK]
 exact ⟨v,hg,h⟩
def af.jB (F:af)(a:Addr):Nat->List Value->Option af
 |_,[]=>some F
 |i,v::b=>match F.mb (a.add i) v with
  |some F'=>F'.jB a (i+1) b
  |none=>none
theorem q8 {Q:Unit->af->Prop}(a:Addr):∀(b:List Value) (i:Nat) (F F':af),F.jB a i b=some F'->Q () F'->aT P (storeCells a b i) Q F
 |[],i,F,F',hg,h=>by simp only[af.jB,Option.some.injEq] at hg;subst hg;simpa [storeCells,bF] using h
 |v::b,i,F,F',hg,h=>by
  simp only[storeCells,bn,D7]
  unfold af.jB at hg
  split at hg
  ·rename_i c d
   exact ⟨c,d,q8 a b (i+1) c F' hg h⟩
  ·cases hg
theorem Ea {Q:Unit->af->Prop}{t:TypeId}{a:Addr}{v:Value}(F':af)(hs:bW P t=some v.cells.size)(hg:F.jB a 0 v.cells.toList=some F')(h:Q () F'):aT P (storeVar t a v) Q F:=by
 simp only[storeVar,bn,eN,hs,ne_eq,not_true_eq_false,if_false]
 exact q8 a _ 0 F F' hg h
@[go_sem] theorem zL {Q:Addr->af->Prop}(t:TypeId)(v:Value):aT P (newVar t v) Q F=∀b,dL F b->Q ⟨b,0,none⟩ (F.push b (.cells v.cells t)):=by
 simp only[newVar,newRow,bn,pH,bF]
 simp[Obj.isChan]
@[go_sem] theorem q9 {Q:Addr->af->Prop}(t:TypeId)(v:Array Value):aT P (newRow t v) Q F=∀b,dL F b->Q ⟨b,0,none⟩ (F.push b (.cells v t)):=by
 simp only[newRow,bn,pH,bF]
 simp[Obj.isChan]
@[go_sem] theorem rf {Q:Addr->af->Prop}(a:Addr):aT P (Instr.sureAddr (.pointer (some a))) Q F=Q a F:=rfl
@[go_sem] theorem k8 {Q:IntKind×Int->af->Prop}(k:IntKind)(n:Int):aT P (asIntOf (.int k n)) Q F=Q (k,n) F:=rfl
@[go_sem] theorem zM {Q:Int->af->Prop}(k:IntKind)(n:Int):aT P (asInt (.int k n)) Q F=Q n F:=rfl
@[go_sem] theorem Eb {Q:Bool->af->Prop}(b:Bool):aT P (asBool (.bool b)) Q F=Q b F:=rfl
@[go_sem] theorem Ec {Q:Array Value->af->Prop}(b:Array Value):aT P (asAgg (.agg b)) Q F=Q b F:=rfl
end
def slot (a:Act)(i:Nat):Value:=a.tmps.getD i undef
def sz (a:Act):Nat:=a.tmps.size
def aX (a:Act)(d:Option Tmp)(v:Value):Act:=a.put d v
def ev (a:Act)(x:Operand):Value:=a.eval x
@[go_sem] theorem Ml (a:Act)(t:Nat):ev a (.tmp t)=slot a t:=rfl
@[go_sem] theorem Mm (a:Act)(v:Value):ev a (.const v)=v:=rfl
@[go_sem] theorem Mn (a:Act)(g:Nat):ev a (.global g)= .pointer (some ⟨g,0,none⟩):=rfl
@[go_sem] theorem Mo (a:Act)(f:Nat):ev a (.func f)= .func (.func f) #[] #[]:=rfl
@[go_sem] theorem Mq (a:Act)(v:Value):aX a none v=a:=rfl
@[go_sem] theorem zN (a:Act)(d:Option Tmp)(v:Value):sz (aX a d v)=sz a:=by cases d<;>simp[sz,aX,Act.put]
theorem Ed (a:Act)(d:Nat)(v:Value)(h:d<sz a):slot (aX a (some d) v) d=v:=by
 simp only[sz] at h
 simp[slot,aX,Act.put,h]
theorem ve (a:Act)(d i:Nat)(v:Value)(h:¬d=i):slot (aX a (some d) v) i=slot a i:=by
 simp[slot,aX,Act.put,Array.getElem?_setIfInBounds_ne h]
@[go_sem] theorem Mr (a:Act)(d i:Nat)(v:Value)(h:d<sz a):slot (aX a (some d) v) i=if d=i then v else slot a i:=by
 split
 ·rename_i e;subst e;exact Ed a d v h
 ·rename_i e;exact ve a d i v e
@[go_sem] theorem zO (a:Act)(d:Option Tmp)(v:Value):(aX a d v).defers=a.defers:=by cases d<;>rfl
theorem aC.start {P:Program}{f:FuncId}{fn:Func}{c:Code}{n:Nat}{args:Array Value}{F:af}{R:Value->af->Prop}(a:P.funcs[f]?=some fn)(hb:fn.body=some c)(hn:fn.ntmps=n)(b:args.size<=n)
  (h:∀main J,Closed P main J->∀A:Act,sz A=n->A.defers=[]->(∀i,slot A i=args.getD i undef)->Wp J c (q5 P fn R) A F):aC P f args F R:=
 aC.of_wp a hb fun main J hJ=>h main J hJ _ (by simp[sz,hn];omega) rfl fun i=>by
  simp only[slot,hn,Array.getD_eq_getD_getElem?]
  rcases Nat.lt_or_ge i args.size with hi|hi
  ·rw[Array.getElem?_append_left hi]
  ·rw[Array.getElem?_append_right hi,Array.getElem?_replicate,Array.getElem?_eq_none hi]
   split<;>rfl
def cW (P:Program)(t:TypeId):Option TypeId:=match P.underlying t with|some (.slice e)=>some e|_=>none
def nG (P:Program)(t:TypeId):Option (Nat×TypeId):=match P.underlying t with|some (.array n e)=>some (n,e)|_=>none
def cG (P:Program)(t:TypeId)(n:Nat):Option Nat:=
 match P.underlying t with
 |some (.struct fs)=>match fs[n]? with
  |some f=>match bW P f.type with
   |some (_+1)=>some f.offset
   |_=>none
  |none=>none
 |_=>none
def vf (P:Program)(t:TypeId)(n:Nat):Option (Nat×Nat×Bool):=
 match P.underlying t with
 |some (.struct fs)=>match fs[n]? with
  |some f=>match bW P f.type,cv P f.type with
   |some s,some g=>some (f.offset,s,g)
   |_,_=>none
  |none=>none
 |_=>none
def placesOf (P:Program)(t:TypeId):Option (List (Nat×Nat)):=
 match P.underlying t with
 |some (.struct fs)=>fs.toList.mapM fun f=>(bW P f.type).map fun s=>(f.offset,s)
 |_=>none
def aJ (P:Program)(f:FuncId):Bool:=match P.funcs[f]? with|some fn=>!(fn.body.isNone||fn.name== "runtime.NumGoroutine")|none=>false
def af.dc (F:af)(a:Addr):Nat->Nat->Option (List Value)
 |_,0=>some []
 |i,n+1=>match F.get (a.add i) with
  |some v=>match F.dc a (i+1) n with
   |some b=>some (v::b)
   |none=>none
  |none=>none
theorem vg (F:af)(a:Addr):∀(n i:Nat) (b:List Value),F.dc a i n=some b->F.mm a i b/\b.length=n
 |0,i,b,h=>by simp only[af.dc,Option.some.injEq] at h;subst h;exact ⟨trivial,rfl⟩
 |n+1,i,b,h=>by
  unfold af.dc at h
  split at h
  ·rename_i v c
   split at h
   ·rename_i ws d
    cases h
    obtain ⟨h1,h2⟩:=vg F a n (i+1) ws d
    exact ⟨⟨c,h1⟩,by simp[h2]⟩
   ·cases h
  ·cases h
def fh (P:Program)(F:af)(t:TypeId)(ad:Addr):Option Value:=
 match cv P t with
 |some false=>F.get ad
 |some true=>match bW P t with
  |some n=>match F.dc ad 0 n with
   |some a=>some (.agg a.toArray)
   |none=>none
  |none=>none
 |none=>none
def ri (P:Program)(F:af)(t:TypeId)(ad:Addr)(v:Value):Option af:=
 match bW P t with
 |some n=>if n=v.cells.size then F.jB ad 0 v.cells.toList else none
 |none=>none
theorem zP {P:Program}{F:af}{t:TypeId}{ad:Addr}{v:Value}{Q:Value->af->Prop}(h:fh P F t ad=some v)(a:Q v F):aT P (loadVar t ad) Q F:=by
 unfold fh at h
 split at h
 ·rename_i hg;exact D9 v hg h a
 ·rename_i hg
  split at h
  ·rename_i n hn
   split at h
   ·rename_i b c
    cases h
    obtain ⟨h1,h2⟩:=vg F ad n 0 b c
    exact D8 b hg (by rw[hn,h2]) h1 a
   ·cases h
  ·cases h
 ·cases h
theorem Ee {P:Program}{F F':af}{t:TypeId}{ad:Addr}{v:Value}{Q:Unit->af->Prop}(h:ri P F t ad v=some F')(a:Q () F'):aT P (storeVar t ad v) Q F:=by
 unfold ri at h
 split at h
 ·rename_i n hn
  split at h
  ·rename_i e;exact Ea F' (by rw[hn,e]) h a
  ·cases h
 ·cases h
def nJ (op:BinOp):Value->Value->Option Value
 | .int k a,.int c b=>if k=c then match op with
   | .add=>some (.int k (k.wrap (a+b)))
   | .sub=>some (.int k (k.wrap (a - b)))
   | .mul=>some (.int k (k.wrap (a*b)))
   | .quo=>if b=0 then none else some (.int k (k.wrap (a.tdiv b)))
   | .rem=>if b=0 then none else some (.int k (a.tmod b))
   | .eql=>some (.bool (a==b))
   | .neq=>some (.bool (a != b))
   | .lss=>some (.bool (decide (a<b)))
   | .leq=>some (.bool (decide (a<=b)))
   | .gtr=>some (.bool (decide (a>b)))
   | .geq=>some (.bool (decide (a≥b)))
   | .shl=>if b<0 then none else some (.int k (k.wrap (a*2 ^ min b.toNat k.bits)))
   | .shr=>if b<0 then none else some (.int k (a.fdiv (2 ^ min b.toNat k.bits)))
   | .and=>some (.int k (k.wrap (BitVec.ofInt k.bits a&&& BitVec.ofInt k.bits b).toNat))
   | .or=>some (.int k (k.wrap (BitVec.ofInt k.bits a|||BitVec.ofInt k.bits b).toNat))
   | .andNot=>some (.int k (k.wrap (BitVec.ofInt k.bits a&&& ~~~(BitVec.ofInt k.bits b)).toNat))
   |_=>none
  else none
 |_,_=>none
theorem iR {P:Program}{s:Sem Value}{Q:Next->af->Prop}{F:af}:aT P (do pure (Next.value (<-s)):Sem Next) Q F=aT P s (fun v G=>Q (.value v) G) F:=by
 simp only[bn,bF]
theorem zQ {P:Program}(op:BinOp)(t:TypeId)(x y:Operand)(k c:IntKind)(a b:Int){Q:Unit->af->Prop}{F:af}(h:Q () F):aT P (eqGuard op t x y (.int k a) (.int c b)) Q F:=by
 unfold eqGuard
 cases op<;>simp<;>exact h
theorem Ef {P:Program}{op:BinOp}{t:TypeId}{x y:Operand}{u v w:Value}{Q:Value->af->Prop}{F:af}(h:nJ op u v=some w)(c:Q w F):aT P (do eqGuard op t x y u v;binOp op t u v) Q F:=by
 unfold nJ at h
 split at h
 case h_2=>cases h
 rename_i k a e b
 split at h
 case isFalse=>cases h
 rename_i d
 subst d
 rw[bn]
 refine zQ op t x y k k a b ?_
 cases op<;>simp only[binOp,ne_eq,not_true_eq_false,if_false,Op.intArith,Op.intDiv,Op.intCmp,Op.intBits,Op.shift,c9] at h ⊢<;>first
  |(cases h;done)
  |(cases h;exact c)
  |(split at h
    ·cases h
    ·rename_i hb;rw[if_neg hb];cases h;exact c)
def mo (op:UnOp):Value->Option Value
 | .int k a=>match op with
  | .neg=>some (.int k (k.wrap (0 - a)))
  |_=>none
 | .bool b=>match op with
  | .not=>some (.bool (!b))
  |_=>none
 |_=>none
theorem Eg {P:Program}{op:UnOp}{u w:Value}{Q:Value->af->Prop}{F:af}(h:mo op u=some w)(a:Q w F):aT P (Op.unary op u) Q F:=by
 cases u<;>cases op<;>simp only[mo] at h<;>first|(cases h;done)|(cases h;exact a)
def rj:Value->Value->Option Value
 | .int k x,.int _ y=>some (.int k (if y>x then y else x))
 |_,_=>none
def rm:Value->Value->Option Value
 | .int k x,.int _ y=>some (.int k (if y<x then y else x))
 |_,_=>none
def pJ (P:Program)(t:TypeId):Value->Value->Option Value
 | .slice (some ad) len _,.int _ i=>match cW P t with
  |some e=>match bW P e with
   |some n=>if 0<=i/\i<(len:Int) then some (.pointer (some (ad.add (i.toNat*n)))) else none
   |none=>none
  |none=>none
 | .pointer (some ad),.int _ i=>match nG P t with
  |some (len,e)=>match bW P e with
   |some n=>if 0<=i/\i<(len:Int) then some (.pointer (some (ad.add (i.toNat*n)))) else none
   |none=>none
  |none=>none
 |_,_=>none
theorem Eh {P:Program}{t:TypeId}{u v w:Value}{Q:Value->af->Prop}{F:af}(h:pJ P t u v=some w)(b:Q w F):aT P (Instr.indexAt t u v) Q F:=by
 unfold pJ at h
 split at h
 ·rename_i ad len cap k i
  split at h
  case h_2=>cases h
  rename_i e he
  split at h
  case h_2=>cases h
  rename_i n hn
  split at h
  case isFalse=>cases h
  rename_i hi
  cases h
  have hu:P.underlying t=some (.slice e):=by
   unfold cW at he
   split at he
   ·rename_i c a;cases he;exact a
   ·cases he
  simp only[Instr.indexAt,bn,k8,dh,hu,bF,c9,if_pos hi,eN,hn]
  exact b
 ·rename_i ad k i
  split at h
  case h_2=>cases h
  rename_i len e he
  split at h
  case h_2=>cases h
  rename_i n hn
  split at h
  case isFalse=>cases h
  rename_i hi
  cases h
  have hu:P.underlying t=some (.array len e):=by
   unfold nG at he
   split at he
   ·rename_i d c a;cases he;exact a
   ·cases he
  simp only[Instr.indexAt,bn,k8,dh,hu,bF,rf,c9,if_pos hi,eN,hn]
  exact b
 ·cases h
def nL (P:Program)(t:TypeId)(x:Value)(lo hi:Option Value):Option Value:=
 match x,cW P t with
 | .slice ad len cap,some e=>match bW P e with
  |some n=>
   match (match lo with|none=>some 0|some (.int _ i)=>if 0<=i then some i.toNat else none|_=>none),(match hi with|none=>some len|some (.int _ i)=>if 0<=i then some i.toNat else none|_=>none) with
   |some l,some h=>if l<=h/\h<=cap then some (.slice (if cap=l then ad else ad.map (·.add (l*n))) (h - l) (cap - l)) else none
   |_,_=>none
  |none=>none
 |_,_=>none
theorem Ei {P:Program}{t:TypeId}{x w:Value}{lo hi:Option Value}{Q:Value->af->Prop}{F:af}(hlen:∀ad len cap,x= .slice ad len cap->len<=cap)(h:nL P t x lo hi=some w)(c:Q w F):aT P (Instr.sliceAt t x lo hi none) Q F:=by
 unfold nL at h
 split at h
 case h_2=>cases h
 rename_i ad len cap e he
 have f:=hlen ad len cap rfl
 have hu:P.underlying t=some (.slice e):=by
  unfold cW at he
  split at he
  ·rename_i g d;cases he;exact d
  ·cases he
 split at h
 case h_2=>cases h
 rename_i n hn
 split at h
 case h_2=>cases h
 rename_i l m a b
 split at h
 case isFalse=>cases h
 rename_i hb
 cases h
 simp only[Instr.sliceAt,bn,dh,hu,Instr.slice,Instr.sliceBounds,bF]
 cases hi with
 |none=>
  simp only[Option.some.injEq] at b
  subst b
  simp only[bF]
  cases lo with
  |none=>
   simp only[Option.some.injEq] at a
   subst a
   simp only[bF,eN,hn]
   exact c
  |some v=>
   cases v<;>simp only[reduceCtorEq] at a
   rename_i k i
   split at a
   case isFalse=>cases a
   rename_i h0
   cases a
   have:0<=i/\i<=(len:Int):=⟨h0,by omega⟩
   simp only[Instr.sliceBound,bn,k8,c9,if_pos this,bF,eN,hn]
   exact c
 |some v=>
  cases v<;>simp only[reduceCtorEq] at b
  rename_i k i
  split at b
  case isFalse=>cases b
  rename_i h0
  cases b
  have h1:0<=i/\i<=(cap:Int):=⟨h0,by omega⟩
  simp only[Instr.sliceBound,bn,k8,c9,if_pos h1,bF]
  cases lo with
  |none=>
   simp only[Option.some.injEq] at a
   subst a
   simp only[bF,eN,hn]
   exact c
  |some v=>
   cases v<;>simp only[reduceCtorEq] at a
   rename_i o j
   split at a
   case isFalse=>cases a
   rename_i h2
   cases a
   have h3:0<=j/\j<=((i.toNat:Nat):Int):=⟨h2,by omega⟩
   simp only[bn,k8,c9,if_pos h3,bF,eN,hn]
   exact c
def gI:List Value->List Value->Option Bool
 |[],[]=>some true
 | .int k a::xs,.int c b::ys=>if k=c then match gI xs ys with
   |some r=>some (a==b&&r)
   |none=>none
  else none
 | .bool a::xs,.bool b::ys=>match gI xs ys with
   |some r=>some (a==b&&r)
   |none=>none
 |_,_=>none
theorem rq:∀{xs ys:List Value} {us b:List Value} {r:Bool},xs.length=ys.length->gI (xs++us) (ys++b)=some r->∃r1 r2,gI xs ys=some r1/\gI us b=some r2/\r=(r1&&r2)
 |[],[],us,b,r,_,h=>⟨true,r,rfl,h,by simp⟩
 |[],y::ys,_,_,_,a,_=>by simp at a
 |x::xs,[],_,_,_,a,_=>by simp at a
 |x::xs,y::ys,us,b,r,a,h=>by
  have d:xs.length=ys.length:=by simpa using a
  cases x<;>cases y<;>simp only[List.cons_append,gI,reduceCtorEq] at h ⊢
  ·split at h
   ·rename_i e c
    obtain ⟨r1,r2,h1,h2,rfl⟩:=rq d c
    cases h
    exact ⟨_,r2,by rw[h1],h2,by rw[Bool.and_assoc]⟩
   ·cases h
  ·split at h
   ·rename_i f
    split at h
    ·rename_i e c
     obtain ⟨r1,r2,h1,h2,rfl⟩:=rq d c
     cases h
     exact ⟨_,r2,by rw[if_pos f,h1],h2,by rw[Bool.and_assoc]⟩
    ·cases h
   ·cases h
def Kd:List Bool->List Value->Prop
 |[],[]=>True
 |true::ks,.int _ _::xs=>Kd ks xs
 |false::ks,.bool _::xs=>Kd ks xs
 |_,_=>False
theorem Kd.length:∀{ks:List Bool} {xs:List Value},Kd ks xs->xs.length=ks.length
 |[],[],_=>rfl
 |[],x::xs,h=>by simp[Kd] at h
 |k::ks,[],h=>by cases k<;>simp[Kd] at h
 |k::ks,x::xs,h=>by
  have:Kd ks xs:=by cases k<;>cases x<;>simp only[Kd] at h<;>exact h
  simp[Kd.length this]
theorem Kd.split:∀{ks:List Bool} {ls:List Bool} {xs:List Value},Kd (ks++ls) xs->Kd ks (xs.take ks.length)/\Kd ls (xs.drop ks.length)
 |[],_,_,h=>⟨by simp[Kd],by simpa using h⟩
 |k::ks,ls,[],h=>by cases k<;>simp[Kd] at h
 |k::ks,ls,x::xs,h=>by
  cases k<;>cases x<;>simp only[List.cons_append,Kd] at h
  all_goals
   obtain ⟨h1,h2⟩:=Kd.split h
   exact ⟨by simpa [Kd] using h1,by simpa using h2⟩
def pK (P:Program)(g:TypeId->Option (List Bool)):List Field->Nat->Option (List Bool)
 |[],_=>some []
 |f::fs,off=>if f.name≠ "_"/\f.offset=off then match g f.type with
   |some ks=>if bW P f.type=some ks.length then match pK P g fs (off+ks.length) with
     |some ls=>some (ks++ls)
     |none=>none
    else none
   |none=>none
  else none
def j5 (P:Program):Nat->TypeId->Option (List Bool)
 |0,_=>none
 |d+1,t=>match P.underlying t with
  |some .bool=>if cv P t=some false then some [false] else none
  |some (.int _)=>if cv P t=some false then some [true] else none
  |some (.struct fs)=>if cv P t=some true/\P.stoodInHeld t=false then pK P (j5 P d) fs.toList 0 else none
  |some (.array n e)=>if cv P t=some true then match j5 P d e with
    |some ks=>if bW P e=some ks.length then some (List.replicate n ks).flatten else none
    |none=>none
   else none
  |_=>none
def Sc (v:Value):Prop:=(∃k a,v= .int k a)\/∃b,v= .bool b
theorem Kd.sc:∀{ks:List Bool} {xs:List Value},Kd ks xs->∀x∈xs,Sc x
 |[],[],_=>by simp
 |[],x::xs,h=>by simp[Kd] at h
 |k::ks,[],h=>by simp
 |k::ks,x::xs,h=>by
  have:Sc x/\Kd ks xs:=by cases k<;>cases x<;>simp only[Kd] at h<;>first|exact ⟨.inl ⟨_,_,rfl⟩,h⟩|exact ⟨.inr ⟨_,rfl⟩,h⟩
  simpa using ⟨this.1,Kd.sc this.2⟩
theorem Sc.cells {v:Value}(h:Sc v):v.cells=#[v]:=by
 rcases h with ⟨k,a,rfl⟩|⟨b,rfl⟩<;>rfl
def Shape (P:Program)(t:TypeId)(v:Value):Prop:=(cv P t=some true->∃xs,v= .agg xs)/\(cv P t=some false->Sc v)
section
variable {P : Program}
theorem ru {t:TypeId}{xs:Array Value}{off m:Nat}{g:Bool}{Q:Value->af->Prop}{F:af}(hg:cv P t=some g)(hs:bW P t=some m)(hm:g=false->m=1)(e:off+m<=xs.size)
  (d:∀x∈xs.toList,Sc x) (h:∀v,v.cells.toList=(xs.toList.drop off).take m->Shape P t v->Q v F):aT P (part t xs off) Q F:=by
 simp only[part,bn,mj,hg,c9]
 cases g with
 |true=>
  simp only[if_true,bn,eN,hs,bF]
  refine h _ ?_ ⟨fun _=>⟨_,rfl⟩,fun a=>by rw[hg] at a;cases a⟩
  simp only[Value.cells,Array.toList_extract,List.extract_eq_take_drop]
  congr 1;omega
 |false=>
  have:=hm rfl
  subst this
  have b:off<xs.size:=by omega
  simp only[Bool.false_eq_true,if_false,Array.getElem?_eq_getElem b,bF]
  have c:=d xs[off] (by simp)
  refine h _ ?_ ⟨fun a=>(by rw[hg] at a;cases a),fun _=>c⟩
  rw[c.cells]
  have:off<xs.toList.length:=by simpa using b
  rw[List.drop_eq_getElem_cons this]
  simp
def vh (P:Program)(d:Nat)(t:TypeId)(ks:List Bool):Prop:=
 ∀(u v:Value) (r:Bool) (Q:Bool->af->Prop) (F:af),Shape P t u->Shape P t v->Kd ks u.cells.toList->Kd ks v.cells.toList->gI u.cells.toList v.cells.toList=some r->Q r F->aT P (Op.equalIn d t u v) Q F
theorem zR {d t:Nat}{ks:List Bool}(h:j5 P d t=some ks):∃g,cv P t=some g/\(g=false->ks.length=1):=by
 cases d with
 |zero=>cases h
 |succ d=>
  unfold j5 at h
  split at h
  ·split at h
   ·rename_i hg;cases h;exact ⟨_,hg,fun _=>rfl⟩
   ·cases h
  ·split at h
   ·rename_i hg;cases h;exact ⟨_,hg,fun _=>rfl⟩
   ·cases h
  ·split at h
   ·rename_i hg;exact ⟨true,hg.1,fun x=>by cases x⟩
   ·cases h
  ·split at h
   ·rename_i hg;exact ⟨true,hg,fun x=>by cases x⟩
   ·cases h
  ·cases h
theorem zS {d:Nat}(ih:∀t ks,j5 P d t=some ks->vh P d t ks){xs ys:Array Value}{Q:Bool->af->Prop}{F:af}(i:∀x∈xs.toList,Sc x)(j:∀x∈ys.toList,Sc x):
  ∀(fs:List Field) (off:Nat) (ks:List Bool) (r:Bool),pK P (j5 P d) fs off=some ks->Kd ks (xs.toList.drop off)->Kd ks (ys.toList.drop off)->gI (xs.toList.drop off) (ys.toList.drop off)=some r->off<=xs.size->off<=ys.size->Q r F->
  aT P (do
   let x<-forIn fs ((none,()):Option Bool×Unit) fun f _=>do
    if f.name≠ "_" then
     if (!(<-Op.equalIn d f.type (<-part f.type xs f.offset) (<-part f.type ys f.offset)))=true then pure (ForInStep.done (some false,())) else pure (ForInStep.yield (none,()))
    else pure (ForInStep.yield (none,()))
   match x.fst with
    |some a=>pure a
    |none=>pure true:Sem Bool) Q F
 |[],off,ks,r,b,c,e,he,_,_,h=>by
  simp only[pK,Option.some.injEq] at b
  subst b
  have h1:=c.length
  have h2:=e.length
  rw[List.eq_nil_of_length_eq_zero h1,List.eq_nil_of_length_eq_zero h2] at he
  cases he
  simp only[List.forIn_nil,bn,bF]
  exact h
 |f::fs,off,ks,r,b,c,e,he,B,C,h=>by
  unfold pK at b
  split at b
  case isFalse=>cases b
  rename_i hn
  obtain ⟨hn,rfl⟩:=hn
  split at b
  case h_2=>cases b
  rename_i k l
  split at b
  case isFalse=>cases b
  rename_i hs
  split at b
  case h_2=>cases b
  rename_i ls q
  cases b
  obtain ⟨g,hg,m⟩:=zR l
  have s:=c.length
  have w:=e.length
  simp only[List.length_drop,Array.length_toList,List.length_append] at s w
  obtain ⟨y,n⟩:=c.split
  obtain ⟨z,o⟩:=e.split
  rw[List.drop_drop] at n o
  have e1:xs.toList.drop f.offset=(xs.toList.drop f.offset).take k.length++xs.toList.drop (f.offset+k.length):=by
   rw[<-List.drop_drop,List.take_append_drop]
  have e2:ys.toList.drop f.offset=(ys.toList.drop f.offset).take k.length++ys.toList.drop (f.offset+k.length):=by
   rw[<-List.drop_drop,List.take_append_drop]
  rw[e1,e2] at he
  obtain ⟨r1,r2,h1,h2,rfl⟩:=rq (by simp;omega) he
  simp only[List.forIn_cons,bn,if_pos hn]
  refine ru hg hs m (by omega) i fun u hu A=>?_
  refine ru hg hs m (by omega) j fun v p sv=>?_
  refine ih _ _ l u v r1 _ F A sv (by rw[hu];exact y) (by rw[p];exact z) (by rw[hu,p];exact h1) ?_
  cases r1 with
  |false=>simpa [bF,c9] using h
  |true=>
   have:=zS ih i j fs (f.offset+k.length) ls r2 q n o h2 (by omega) (by omega) (Q:=Q) (F:=F) (by simpa using h)
   simpa [bF,c9,bn] using this
theorem zT {d e k:Nat}{ks:List Bool}{g:Bool}(q:vh P d e ks)(h:ks.length=k)(hg:cv P e=some g)(j:g=false->ks.length=1)(hs:bW P e=some ks.length){xs ys:Array Value}{Q:Bool->af->Prop}{F:af}(s:∀x∈xs.toList,Sc x)(t:∀x∈ys.toList,Sc x):
  ∀(n i:Nat) (r:Bool),Kd (List.replicate n ks).flatten (xs.toList.drop (i*k))->Kd (List.replicate n ks).flatten (ys.toList.drop (i*k))->gI (xs.toList.drop (i*k)) (ys.toList.drop (i*k))=some r->i*k<=xs.size->i*k<=ys.size->Q r F->
  aT P (do
   let x<-forIn (List.range' i n) ((none,()):Option Bool×Unit) fun i _=>do
    if (!(<-Op.equalIn d e (<-part e xs (i*k)) (<-part e ys (i*k))))=true then pure (ForInStep.done (some false,())) else pure (ForInStep.yield (none,()))
   match x.fst with
    |some a=>pure a
    |none=>pure true:Sem Bool) Q F
 |0,i,r,b,c,he,_,_,f=>by
  have h1:=b.length
  have h2:=c.length
  rw[List.eq_nil_of_length_eq_zero h1,List.eq_nil_of_length_eq_zero h2] at he
  cases he
  simp only[List.range'_zero,List.forIn_nil,bn,bF]
  exact f
 |n+1,i,r,b,c,he,C,D,f=>by
  have l:(i+1)*k=i*k+k:=by simp only[Nat.add_mul,Nat.one_mul]
  have z:=b.length
  have A:=c.length
  simp only[List.replicate_succ,List.flatten_cons,List.length_drop,Array.length_toList,List.length_append] at z A
  simp only[List.replicate_succ,List.flatten_cons] at b c
  obtain ⟨w,m⟩:=b.split
  obtain ⟨y,o⟩:=c.split
  rw[h] at w m y o
  rw[List.drop_drop,<-l] at m o
  have e1:xs.toList.drop (i*k)=(xs.toList.drop (i*k)).take k++xs.toList.drop ((i+1)*k):=by
   rw[l,<-List.drop_drop,List.take_append_drop]
  have e2:ys.toList.drop (i*k)=(ys.toList.drop (i*k)).take k++ys.toList.drop ((i+1)*k):=by
   rw[l,<-List.drop_drop,List.take_append_drop]
  rw[e1,e2] at he
  obtain ⟨r1,r2,h1,h2,rfl⟩:=rq (by simp;omega) he
  simp only[List.range'_succ,List.forIn_cons,bn]
  refine ru hg hs j (by omega) s fun u hu B=>?_
  refine ru hg hs j (by omega) t fun v p sv=>?_
  rw[h] at hu p
  refine q u v r1 _ F B sv (by rw[hu];exact w) (by rw[p];exact y) (by rw[hu,p];exact h1) ?_
  cases r1 with
  |false=>simpa [bF,c9] using f
  |true=>
   have:=zT q h hg j hs s t n (i+1) r2 m o h2 (by omega) (by omega) (Q:=Q) (F:=F) (by simpa using f)
   simpa [bF,c9,bn] using this
theorem vi:∀(d t:Nat) (ks:List Bool),j5 P d t=some ks->vh P d t ks
 |0,_,_,h=>by cases h
 |d+1,t,ks,h=>by
  intro u v r Q F i sv hu c he j
  unfold j5 at h
  split at h
  ·rename_i f
   split at h
   case isFalse=>cases h
   rename_i hg
   cases h
   have a1:=i.2 hg
   have a2:=sv.2 hg
   rw[a1.cells] at he hu
   rw[a2.cells] at he c
   simp only[Op.equalIn,bn,dh,f]
   rcases a1 with ⟨k,a,rfl⟩|⟨a,rfl⟩<;>rcases a2 with ⟨m,b,rfl⟩|⟨b,rfl⟩<;>simp[Kd] at hu c
   simp[gI] at he
   subst he
   simpa [bF] using j
  ·rename_i f
   split at h
   case isFalse=>cases h
   rename_i hg
   cases h
   have a1:=i.2 hg
   have a2:=sv.2 hg
   rw[a1.cells] at he hu
   rw[a2.cells] at he c
   simp only[Op.equalIn,bn,dh,f]
   rcases a1 with ⟨k,a,rfl⟩|⟨a,rfl⟩<;>rcases a2 with ⟨m,b,rfl⟩|⟨b,rfl⟩<;>simp[Kd] at hu c
   simp[gI] at he
   obtain ⟨l,rfl⟩:=he
   simpa [bF,c9,l] using j
  ·rename_i fs f
   split at h
   case isFalse=>cases h
   rename_i hg
   obtain ⟨hg,o⟩:=hg
   obtain ⟨xs,rfl⟩:=i.1 hg
   obtain ⟨ys,rfl⟩:=sv.1 hg
   simp only[Op.equalIn,bn,dh,f,j4,o,Bool.false_eq_true,if_false,c9,bF]
   have:=zS (P:=P) (d:=d) (fun t ks p=>vi d t ks p) (xs:=xs) (ys:=ys) (Q:=Q) (F:=F) hu.sc c.sc fs.toList 0 ks r h (by simpa [Value.cells] using hu) (by simpa [Value.cells] using c) (by simpa [Value.cells] using he) (by omega) (by omega) j
   rw[<-Array.forIn_toList]
   simp[bn] at this ⊢
   exact gZ (fun a G h=>by rcases a with ⟨_|_,_⟩<;>exact h) _ _ this
  ·rename_i n e f
   split at h
   case isFalse=>cases h
   rename_i hg
   split at h
   case h_2=>cases h
   rename_i k l
   split at h
   case isFalse=>cases h
   rename_i hs
   cases h
   obtain ⟨xs,rfl⟩:=i.1 hg
   obtain ⟨ys,rfl⟩:=sv.1 hg
   obtain ⟨g,q,s⟩:=zR l
   simp only[Op.equalIn,bn,dh,f,eN,hs]
   have:=zT (P:=P) (d:=d) (vi d e k l) rfl q s hs (xs:=xs) (ys:=ys) (Q:=Q) (F:=F) hu.sc c.sc n 0 r (by simpa [Value.cells] using hu) (by simpa [Value.cells] using c) (by simpa [Value.cells] using he) (by simp) (by simp) j
   simp only[Std.Legacy.Range.forIn_eq_forIn_range',Std.Legacy.Range.size,Nat.sub_zero,Nat.add_one_sub_one,Nat.div_one]
   simp[bn] at this ⊢
   exact gZ (fun a G h=>by rcases a with ⟨_|_,_⟩<;>exact h) _ _ this
  ·cases h
def iS:List Bool->List Value->Bool
 |[],[]=>true
 |true::ks,.int _ _::xs=>iS ks xs
 |false::ks,.bool _::xs=>iS ks xs
 |_,_=>false
theorem vj:∀{ks:List Bool} {xs:List Value},iS ks xs=true->Kd ks xs
 |[],[],_=>trivial
 |[],x::xs,h=>by simp[iS] at h
 |k::ks,[],h=>by cases k<;>simp[iS] at h
 |k::ks,x::xs,h=>by
  cases k<;>cases x<;>first
   |(simp only[iS,reduceCtorEq,Bool.false_eq_true] at h;done)
   |exact vj (ks:=ks) (xs:=xs) (by simpa only[iS] using h)
def nM (P:Program)(t:TypeId):Option (List Bool):=if P.eqGuardType P.depth t=false/\cv P t=some true then j5 P Op.maxDepth t else none
def mq (P:Program)(t:TypeId):Value->Value->Option Bool
 | .agg xs,.agg ys=>match nM P t with
  |some ks=>if iS ks xs.toList&&iS ks ys.toList then gI xs.toList ys.toList else none
  |none=>none
 |_,_=>none
theorem vk {t:TypeId}{u v:Value}{r:Bool}{Q:Bool->af->Prop}{F:af}(h:mq P t u v=some r)(c:Q r F):aT P (Op.equal t u v) Q F/\P.eqGuardType P.depth t=false/\(∃xs,u= .agg xs)/\∃ys,v= .agg ys:=by
 unfold mq at h
 split at h
 case h_2=>cases h
 rename_i xs ys
 split at h
 case h_2=>cases h
 rename_i ks a
 split at h
 case isFalse=>cases h
 rename_i b
 simp only[Bool.and_eq_true] at b
 unfold nM at a
 split at a
 case isFalse=>cases a
 rename_i hg
 refine ⟨?_,hg.1,⟨_,rfl⟩,_,rfl⟩
 exact vi _ _ _ a _ _ r Q F ⟨fun _=>⟨_,rfl⟩,fun x=>by rw[hg.2] at x;cases x⟩ ⟨fun _=>⟨_,rfl⟩,fun x=>by rw[hg.2] at x;cases x⟩ (vj b.1) (vj b.2) h c
def vl (P:Program)(t:TypeId):Bool:=match P.underlying t with|some .bool=>true|_=>false
def j6 (P:Program)(t:TypeId):Bool:=match P.underlying t with|some (.slice _)=>true|_=>false
def pL (P:Program)(t:TypeId):Value->Value->Option Bool
 | .bool a,.bool b=>if vl P t=true then some (a==b) else none
 | .slice none _ _,.slice b _ _=>if j6 P t=true then some b.isNone else none
 | .slice (some _) _ _,.slice none _ _=>if j6 P t=true then some false else none
 |_,_=>none
theorem zU {t:TypeId}{u v:Value}{r:Bool}{Q:Bool->af->Prop}{F:af}(h:pL P t u v=some r)(e:Q r F):aT P (Op.equal t u v) Q F/\((∃a b,u= .bool a/\v= .bool b)\/∃a n c b m d,u= .slice a n c/\v= .slice b m d):=by
 obtain ⟨d,hd⟩:∃d,Op.maxDepth=d+1:=⟨_,rfl⟩
 unfold pL at h
 split at h
 ·split at h
  ·rename_i hb
   cases h
   unfold vl at hb
   split at hb
   ·rename_i hu
    refine ⟨?_,.inl ⟨_,_,rfl,rfl⟩⟩
    unfold Op.equal
    rw[hd]
    simp only[Op.equalIn,bn,dh,hu,bF]
    exact e
   ·cases hb
  ·cases h
 ·split at h
  ·rename_i hb
   cases h
   unfold j6 at hb
   split at hb
   ·rename_i hu
    refine ⟨?_,.inr ⟨_,_,_,_,_,_,rfl,rfl⟩⟩
    unfold Op.equal
    rw[hd]
    simp only[Op.equalIn,bn,dh,hu,bF]
    exact e
   ·cases hb
  ·cases h
 ·split at h
  ·rename_i hb
   cases h
   unfold j6 at hb
   split at hb
   ·rename_i hu
    refine ⟨?_,.inr ⟨_,_,_,_,_,_,rfl,rfl⟩⟩
    unfold Op.equal
    rw[hd]
    simp only[Op.equalIn,bn,dh,hu,bF]
    exact e
   ·cases hb
  ·cases h
 ·cases h
def pM (P:Program)(op:BinOp)(t:TypeId)(u v:Value):Option Value:=
 match nJ op u v with
 |some w=>some w
 |none=>match op with
  | .eql=>match mq P t u v with
   |some r=>some (.bool r)
   |none=>match pL P t u v with
    |some r=>some (.bool r)
    |none=>none
  | .neq=>match mq P t u v with
   |some r=>some (.bool (!r))
   |none=>match pL P t u v with
    |some r=>some (.bool (!r))
    |none=>none
  | .shr=>match u,v with
   | .int k a,.int _ b=>if b<0 then none else some (.int k (a.fdiv (2 ^ min b.toNat k.bits)))
   |_,_=>none
  |_=>none
theorem Ej {op:BinOp}{t:TypeId}{x y:Operand}{u v w:Value}{Q:Value->af->Prop}{F:af}(h:pM P op t u v=some w)(f:Q w F):aT P (do eqGuard op t x y u v;binOp op t u v) Q F:=by
 unfold pM at h
 split at h
 ·rename_i w' hw;cases h;exact Ef hw f
 ·split at h
  ·split at h
   ·rename_i r e
    cases h
    obtain ⟨h1,h2,⟨xs,rfl⟩,ys,rfl⟩:=vk (Q:=fun r G=>Q (.bool r) G) e f
    simp only[bn,eqGuard,binOp,j4,h2,c9,bF]
    simpa using h1
   ·split at h
    ·rename_i r e
     cases h
     obtain ⟨h1,h2⟩:=zU (Q:=fun r G=>Q (.bool r) G) e f
     rcases h2 with ⟨a,b,rfl,rfl⟩|⟨a,n,c,b,m,d,rfl,rfl⟩<;>
     ·simp only[bn,eqGuard,binOp,j4,c9,bF]
      simpa using h1
    ·cases h
  ·split at h
   ·rename_i r e
    cases h
    obtain ⟨h1,h2,⟨xs,rfl⟩,ys,rfl⟩:=vk (Q:=fun r G=>Q (.bool (!r)) G) e f
    simp only[bn,eqGuard,binOp,j4,h2,c9,bF]
    simpa using h1
   ·split at h
    ·rename_i r e
     cases h
     obtain ⟨h1,h2⟩:=zU (Q:=fun r G=>Q (.bool (!r)) G) e f
     rcases h2 with ⟨a,b,rfl,rfl⟩|⟨a,n,c,b,m,d,rfl,rfl⟩<;>
     ·simp only[bn,eqGuard,binOp,j4,c9,bF]
      simpa using h1
    ·cases h
  ·split at h
   ·split at h
    ·cases h
    ·rename_i hb
     cases h
     rw[bn]
     refine zQ .shr t x y _ _ _ _ ?_
     simp only[binOp,Op.shift,c9]
     rw[if_neg hb]
     exact f
   ·cases h
  ·cases h
end
theorem vm {P:Program}{t e:TypeId}(h:cW P t=some e):P.underlying t=some (.slice e):=by
 unfold cW at h
 split at h
 ·rename_i a he;cases h;exact he
 ·cases h
theorem zV (n:Nat):∀(r c:Nat),Builtin.growBy n r c<=2 ^ r*(c+768)
 |0,c=>by simp[Builtin.growBy]
 |r+1,c=>by
  unfold Builtin.growBy
  split
  ·have:1<=2 ^ (r+1):=Nat.one_le_two_pow
   have:=Nat.mul_le_mul_right (c+768) this
   omega
  ·have h:=zV n r (c+(c+768)/4)
   refine Nat.le_trans h ?_
   rw[Nat.pow_succ,Nat.mul_assoc]
   refine Nat.mul_le_mul_left _ ?_
   omega
theorem nextslicecap_le {n c:Nat}(h:c<n)(hn:n<=1000000):Builtin.nextslicecap n c<=20000000:=by
 unfold Builtin.nextslicecap
 split
 ·omega
 ·split
  ·omega
  ·have a:=zV n 4 c
   have e:(2:Nat) ^ 4=16:=by decide
   rw[e] at a
   refine Nat.le_trans a ?_
   omega
section
variable {P : Program}
theorem Ek {Q:Array Value->af->Prop}{F:af}(a:Addr){n:Nat}{b:List Value}(h:F.dc a 0 n=some b)(c:Q b.toArray F):aT P (loadCells a n) Q F:=by
 obtain ⟨h1,h2⟩:=vg F a n 0 b h
 subst h2
 exact vc a b 0 #[] h1 (by simpa using c)
def gk (F:af)(size:Nat):Value->Option (List Value)
 | .slice (some a) n _=>F.dc a 0 (n*size)
 | .slice none 0 _=>some []
 |_=>none
theorem vn {Q:Array Value->af->Prop}{F:af}{size n:Nat}{ad:Option Addr}{c:Nat}{b:List Value}(h:gk F size (.slice ad n c)=some b)(d:Q b.toArray F):aT P (Builtin.firstCells size n (.slice ad n c)) Q F:=by
 cases ad with
 |none=>
  cases n with
  |zero=>simp only[gk,Option.some.injEq] at h;subst h;exact d
  |succ n=>simp[gk] at h
 |some a=>exact Ek a h d
theorem vo {Q:Unit->af->Prop}{F:af}(n:Nat)(h:Q () F):aT P (askRoom n) Q F:=by
 unfold askRoom
 rw[c9]
 split
 ·exact ⟨rfl,h⟩
 ·exact h
theorem vp {F:af}{Q:Value->af->Prop}{argTypes:Array TypeId}{ty g i e o:TypeId}{size d len cap n c:Nat}{base j:Option Addr}{z:Value}{old new:List Value}
  (h0:argTypes[0]?=some g) (h1:argTypes[1]?=some i) (he:cW P g=some e) (p:cW P i=some o) (hs:bW P e=some size) (q:zeroOf P e=some z) (hb:bytesOf P e=some d)
  (y:0<d) (r:d<=10000) (s:len+n<=1000000) (hold:gk F size (.slice base len cap)=some old) (l:gk F size (.slice j n c)=some new)
  (f:len+n<=cap->(∃a F',base=some a/\F.jB (a.add (len*size)) 0 new=some F'/\Q (.slice base (len+n) cap) F')\/(base=none/\Q (.slice base (len+n) cap) F))
  (u:cap<len+n->∀k b,len+n<=k->dL F b->Q (.slice (some ⟨b,0,none⟩) (len+n) k) (F.push b (.cells (old.toArray++new.toArray++Builtin.zeroCells z.cells (k - (len+n))) e))):
  aT P (Builtin.append_ argTypes ty #[.slice base len cap,.slice j n c]) Q F:=by
 have hu:=vm he
 have v:=vm p
 unfold bytesOf at hb
 obtain ⟨info,hi,rfl⟩:=Option.map_eq_some_iff.1 hb
 simp only[Builtin.append_,h0,h1,List.getElem?_toArray,List.getElem?_cons_zero,List.getElem?_cons_succ,bn,dh,hu,v,eN,hs,bF,Builtin.lenOf,Bool.false_eq_true,if_false,c9,Bool.not_false,if_true,pI,hi]
 split
 ·rename_i hle
  have f:=f hle
  refine vn l ?_
  rcases f with ⟨a,F',rfl,w,hq⟩|⟨rfl,hq⟩
  ·simp only[bn]
   refine q8 _ _ 0 F F' (by simpa using w) ?_
   exact hq
  ·exact hq
 ·rename_i A
  have x:=nextslicecap_le (n:=len+n) (c:=cap) (by omega) s
  have e1:¬(((len+n:Nat):Int)>IntKind.i64.max/\(false=true\/info.bytes=0)):=by
   rintro ⟨_,h|h⟩
   ·cases h
   ·omega
  have e2:¬(Builtin.nextslicecap (len+n) cap*info.bytes>2 ^ 48):=by
   have:Builtin.nextslicecap (len+n) cap*info.bytes<=20000000*10000:=Nat.mul_le_mul x r
   omega
  rw[if_neg (by simpa using e1),if_neg e2]
  rw[vb]
  rw[if_neg (by simp[Question.forced])]
  intro t
  have m:len+n<=(Question.appendCap (len+n) cap e).cut t:=Nat.le_add_right _ _
  generalize (Question.appendCap (len+n) cap e).cut t=k at m ⊢
  refine vo _ ?_
  refine vn hold ?_
  refine vn l ?_
  simp only[bn,mh,q,q9,bF]
  exact fun b hb=>u (by omega) k b m hb
end
theorem vq:∀{pre:List (Nat×Obj)} {b:Nat} {o:Obj},au pre b->lk (pre++[(b,o)]) b=some o
 |[],b,o,_=>by simp[lk]
 |(c,x)::pre,b,o,h=>by
  have a:¬c=b:=fun e=>h.1 e.symm
  simp[lk,a,vq h.2]
def dP (arr:Array Value)(k:Nat):List Value->Array Value
 |[]=>arr
 |v::a=>dP (arr.setIfInBounds k v) (k+1) a
theorem ry:∀(a:List Value) (arr:Array Value) (k:Nat),(dP arr k a).size=arr.size
 |[],_,_=>rfl
 |v::a,arr,k=>by rw[dP,ry a];simp
theorem rz:∀(a:List Value) (arr:Array Value) (k:Nat),k+a.length<=arr.size->(dP arr k a).toList=arr.toList.take k++a++arr.toList.drop (k+a.length)
 |[],arr,k,_=>by simp[dP]
 |v::a,arr,k,h=>by
  simp only[List.length_cons] at h
  rw[dP,rz a _ _ (by simp;omega)]
  have b:k<arr.toList.length:=by simp;omega
  rw[Array.toList_setIfInBounds]
  have e1:(arr.toList.set k v).take (k+1)=arr.toList.take k++[v]:=by
   rw[List.take_succ_eq_append_getElem (by simpa using b),List.take_set_of_le (Nat.le_refl _)]
   simp
  have e2:(arr.toList.set k v).drop (k+1+a.length)=arr.toList.drop (k+(v::a).length):=by
   rw[List.drop_set_of_lt (by omega)]
   congr 1
   simp;omega
  rw[e1,e2]
  simp
def Gr (ro:Addr->Option Value)(e:TypeId)(size:Nat)(v:Value)(l:List (List Value))(aP:List (Nat×Obj)):Prop:=
 (v= .slice none 0 0/\l=[]/\aP=[])\/
 ∃b arr cap,v= .slice (some ⟨b,0,none⟩) l.length cap/\aP=[(b,.cells arr e)]/\arr.size=cap*size/\l.length<=cap/\arr.toList.take (l.length*size)=l.flatten/\(∀x∈l,x.length=size)/\∀off sp,ro ⟨b,off,sp⟩=none
theorem iy {size:Nat}:∀{l:List (List Value)},(∀x∈l,x.length=size)->l.flatten.length=l.length*size
 |[],_=>by simp
 |x::l,h=>by
  have ih:l.flatten.length=l.length*size:=iy (fun y a=>h y (List.mem_cons_of_mem _ a))
  simp only[List.flatten_cons,List.length_append,List.length_cons,h x (by simp),ih,Nat.add_mul,Nat.one_mul]
  omega
theorem zW {ro:Addr->Option Value}{pre:List (Nat×Obj)}{b:Nat}{e:TypeId}{arr:Array Value}(a:au pre b)(c:∀off sp,ro ⟨b,off,sp⟩=none):∀(n i:Nat),i+n<=arr.size->
  af.dc ⟨ro,pre++[(b,.cells arr e)]⟩ ⟨b,0,none⟩ i n=some ((arr.toList.drop i).take n)
 |0,i,_=>by simp[af.dc]
 |n+1,i,h=>by
  have f:(⟨b,0,none⟩:Addr).add i=⟨b,i,none⟩:=by
   unfold Addr.add
   split
   ·rename_i hi;subst hi;rfl
   ·simp
  have d:i<arr.size:=by omega
  unfold af.dc
  have ih:=zW (e:=e) (arr:=arr) a c n (i+1) (by omega)
  simp only[af.get,f,c,if_true,vq a,Option.bind_some,cellOf,Array.getElem?_eq_getElem d,ih]
  have g:i<arr.toList.length:=by simpa using d
  rw[List.drop_eq_getElem_cons g,List.take_succ_cons]
  simp
theorem Gr.gk {ro:Addr->Option Value}{e:TypeId}{size:Nat}{v:Value}{l:List (List Value)}{aP pre:List (Nat×Obj)}(h:Gr ro e size v l aP)(a:∀k∈keys aP,au pre k):
  Go.Sep.gk ⟨ro,pre++aP⟩ size v=some l.flatten:=by
 rcases h with ⟨rfl,rfl,rfl⟩|⟨b,arr,cap,rfl,rfl,hs,c,ht,f,d⟩
 ·rfl
 ·simp only[Go.Sep.gk]
  have hle:l.length*size<=arr.size:=by rw[hs];exact Nat.mul_le_mul_right _ c
  rw[zW (a b (by simp[keys])) d _ _ (by omega)]
  simp[ht]
section
variable {P : Program}
end
def pN (P:Program)(t:TypeId)(parts:List (Nat×Value)):Option Value:=
 match zeroOf P t,placesOf P t with
 |some z,some pl=>match Instr.fill (fun i=>pl[i]?) z.cells parts with
  |some cs=>some (.agg cs)
  |none=>none
 |_,_=>none
theorem zX {P:Program}{Q:Array (Nat×Nat)->af->Prop}{F:af}:∀(fs:List Field) (pl:List (Nat×Nat)) (acc:Array (Nat×Nat)),(fs.mapM fun f=>(bW P f.type).map fun s=>(f.offset,s))=some pl->
  Q (acc++pl.toArray) F->aT P (fs.foldlM (fun (b:Array (Nat×Nat)) f=>do let s<-sizeOf f.type;pure (b.push (f.offset,s))) acc) Q F
 |[],pl,acc,h,a=>by
  simp at h;subst h
  simpa [bF] using a
 |f::fs,pl,acc,h,a=>by
  simp only[List.mapM_cons] at h
  cases hs:bW P f.type with
  |none=>simp[hs] at h
  |some s=>
   cases c:(fs.mapM fun f=>(bW P f.type).map fun s=>(f.offset,s)) with
   |none=>simp[hs,c] at h
   |some d=>
    simp[hs,c] at h
    subst h
    simp only[List.foldlM_cons,bn,eN,hs,bF]
    exact zX fs d _ c (by simpa using a)
theorem El {P:Program}{Q:Array (Nat×Nat)->af->Prop}{F:af}(fs:Array Field)(pl:List (Nat×Nat))(h:(fs.toList.mapM fun f=>(bW P f.type).map fun s=>(f.offset,s))=some pl)
  (a:Q pl.toArray F):aT P (fs.mapM fun f=>do let s<-sizeOf f.type;pure (f.offset,s)) Q F:=by
 rw[Array.mapM_eq_foldlM,<-Array.foldlM_toList]
 have:=zX (Q:=Q) (F:=F) fs.toList pl #[] h (by simpa using a)
 simpa using this
theorem Em {P:Program}{t:TypeId}{parts:Array (Nat×Value)}{w:Value}{Q:Value->af->Prop}{F:af}(h:pN P t parts.toList=some w)(a:Q w F):aT P (Instr.build t parts) Q F:=by
 unfold pN at h
 split at h
 case h_2=>cases h
 rename_i z pl b hp
 split at h
 case h_2=>cases h
 rename_i cs c
 cases h
 unfold placesOf at hp
 split at hp
 case h_2=>cases hp
 rename_i fs d
 simp only[Instr.build,bn,mh,b,dh,d]
 refine El fs pl hp ?_
 simp only[List.getElem?_toArray,c,bF]
 exact a
def rA (P:Program)(t:TypeId)(len:Nat)(parts:List (Nat×Value)):Option (TypeId×Array Value):=
 match cW P t with
 |some e=>match bW P e,zeroOf P e with
  |some size,some z=>if len*size<=2 ^ 24/\0<len*size then
    match Instr.fill (fun i=>some (i*size,size)) ((Array.range (len*size)).map (z.cells[· % z.cells.size]!)) parts with
    |some cs=>some (e,cs)
    |none=>none
   else if len*size=0/\parts.isEmpty=true then some (e,#[]) else none
  |_,_=>none
 |none=>none
theorem En {P:Program}{t:TypeId}{len:Nat}{parts:Array (Nat×Value)}{e:TypeId}{cs:Array Value}{Q:Value->af->Prop}{F:af}(h:rA P t len parts.toList=some (e,cs))
  (c:∀b,dL F b->Q (.slice (some ⟨b,0,none⟩) len len) (F.push b (.cells cs e))):aT P (Instr.buildSlice t len parts) Q F:=by
 unfold rA at h
 split at h
 case h_2=>cases h
 rename_i d he
 split at h
 case h_2=>cases h
 rename_i size z hs f
 split at h
 case isFalse=>
  split at h
  case isFalse=>cases h
  rename_i hb
  cases h
  have hu:P.underlying t=some (.slice e):=by
   unfold cW at he
   split at he
   ·rename_i d a;cases he;exact a
   ·cases he
  have h1:¬(len*size>2 ^ 24):=by rw[hb.1];decide
  have hp:parts.toList=[]:=List.isEmpty_iff.1 hb.2
  simp only[Instr.buildSlice,bn,dh,hu,eN,hs,c9,if_neg h1,if_pos hb.1,bF,hp]
  rw[hb.1]
  have e0:Array.range 0=#[]:=rfl
  simp only[e0,Array.map_empty,Instr.fill,bn,q9,bF]
  exact c
 rename_i hb
 split at h
 case h_2=>cases h
 rename_i cs' g
 cases h
 have hu:P.underlying t=some (.slice e):=by
  unfold cW at he
  split at he
  ·rename_i d a;cases he;exact a
  ·cases he
 have h1:¬(len*size>2 ^ 24):=by omega
 have h2:¬(len*size=0):=by omega
 simp only[Instr.buildSlice,bn,dh,hu,eN,hs,c9,if_neg h1,if_neg h2,mh,f,bF,g,q9]
 exact c
def pO (P:Program)(t:TypeId)(n:Nat):Value->Option Value
 | .agg cs=>match vf P t n with
  |some (off,s,true)=>some (.agg (cs.extract off (off+s)))
  |some (off,_,false)=>cs[off]?
  |none=>none
 |_=>none
theorem Eo {P:Program}{t:TypeId}{n:Nat}{u w:Value}{Q:Value->af->Prop}{F:af}(h:pO P t n u=some w)(b:Q w F):aT P (Instr.field t u n) Q F:=by
 cases u<;>simp only[pO,reduceCtorEq] at h
 rename_i cs
 unfold vf at h
 cases hu:P.underlying t with
 |none=>simp[hu] at h
 |some d=>
  cases d<;>simp only[hu,reduceCtorEq] at h
  rename_i fs
  cases a:fs[n]? with
  |none=>simp[a] at h
  |some f=>
   simp only[a] at h
   cases hs:bW P f.type with
   |none=>simp[hs] at h
   |some s=>
    cases hg:cv P f.type with
    |none=>simp[hs,hg] at h
    |some g=>
     simp only[hs,hg] at h
     simp only[Instr.field,bn,dh,hu,a,Ec,part,mj,hg,c9]
     cases g with
     |true=>simp only[Option.some.injEq] at h;subst h;simpa [eN,hs,bF] using b
     |false=>
      simp only at h
      simp only[Bool.false_eq_true,if_false,h]
      exact b
def rC (n:Nat):Value->Option Value
 | .tuple a=>a[n]?
 |_=>none
def mw (P:Program)(src dst:TypeId):Value->Option Value
 | .int _ n=>match P.underlying src,P.underlying dst with
  |some (.int _),some (.int k)=>some (.int k (k.wrap n))
  |_,_=>none
 |_=>none
theorem Ep {P:Program}{src dst:TypeId}{u w:Value}{Q:Value->af->Prop}{F:af}(h:mw P src dst u=some w)(a:Q w F):aT P (convert src dst u) Q F:=by
 cases u<;>simp only[mw,reduceCtorEq] at h
 rename_i k n
 split at h
 ·rename_i k1 b h1 h2
  cases h
  simp only[convert,bn,dh,h1,h2,Conv.intToInt,bF]
  exact a
 ·cases h
def rD (P:Program)(t:TypeId):Value->Option Value
 | .slice _ n _=>match cW P t with
  |some _=>some (.int .i64 n)
  |none=>none
 |_=>none
def pP (P:Program)(t:TypeId):Value->Value->Option Value
 | .agg cs,.int _ i=>match nG P t with
  |some (len,e)=>match bW P e,cv P e with
   |some s,some true=>if 0<=i/\i<(len:Int) then some (.agg (cs.extract (i.toNat*s) (i.toNat*s+s))) else none
   |some s,some false=>if 0<=i/\i<(len:Int) then cs[i.toNat*s]? else none
   |_,_=>none
  |none=>none
 | .string s,.int _ i=>match P.underlying t with
  |some .string=>if 0<=i then (s[i.toNat]?).map fun b=>.int .u8 b.toNat else none
  |_=>none
 |_,_=>none
theorem Er {P:Program}{t:TypeId}{u v w:Value}{Q:Value->af->Prop}{F:af}(h:pP P t u v=some w)(a:Q w F):aT P (Instr.index t u v) Q F:=by
 unfold pP at h
 split at h
 case h_3=>cases h
 case h_2=>
  rename_i s k i
  split at h
  case h_2=>cases h
  rename_i hu
  split at h
  case isFalse=>cases h
  rename_i hi
  obtain ⟨b,hb,rfl⟩:=Option.map_eq_some_iff.1 h
  simp only[Instr.index,bn,k8,dh,hu,if_pos hi,hb,bF]
  exact a
 rename_i cs k i
 split at h
 case h_2=>cases h
 rename_i len e he
 have hu:P.underlying t=some (.array len e):=by
  unfold nG at he
  split at he
  ·rename_i d f c;cases he;exact c
  ·cases he
 split at h
 ·rename_i s hs hg
  split at h
  case isFalse=>cases h
  rename_i hi
  cases h
  simp only[Instr.index,bn,k8,dh,hu,c9,if_pos hi,eN,hs,part,mj,hg,if_true,bF]
  exact a
 ·rename_i s hs hg
  split at h
  case isFalse=>cases h
  rename_i hi
  simp only[Instr.index,bn,k8,dh,hu,c9,if_pos hi,eN,hs,part,mj,hg,Bool.false_eq_true,if_false,h,bF]
  exact a
 ·cases h
def mz (P:Program)(argTypes:Array TypeId)(s x:Value)(R:Value->af->Prop)(F:af):Prop:=
 ∀ty,aT P (Builtin.append_ argTypes ty #[s,x]) (fun v F=>∃F0,Le F0 F/\R v F0) F
def Oper.nN (o:Oper):Bool:=match o.op with| .call {callee:=.builtin .append, ..}=>true|_=>false
def gJ (P:Program)(J:Goroutine->af->Prop)(y:Value)(args:Array Value)(F:af)(R:Value->af->Prop):Prop:=
 match y with
 | .func (.func fn) first captured=>aJ P fn=true/\cL P J fn (first++args++captured) F R
 | .func (.yield l) first captured=>first=#[]/\captured=#[]/\∃r,F.e4 l=some (.loop r)/\args.size=r.params.size/\jy J l r.fn ((r.params.zip args).foldl (fun tmps (t,a)=>tmps.setIfInBounds t a) r.tmps) r.assign r.body F R
 |_=>False
theorem gJ.mono {P:Program}{J:Goroutine->af->Prop}{y:Value}{args:Array Value}{F:af}{R a:Value->af->Prop}(h:gJ P J y args F R)(b:∀v F',R v F'->a v F'):gJ P J y args F a:=by
 unfold gJ at h ⊢
 split at h
 ·exact ⟨h.1,h.2.mono b⟩
 ·obtain ⟨e1,e2,r,h1,h2,h3⟩:=h;exact ⟨e1,e2,r,h1,h2,h3.mono b⟩
 ·exact h.elim
theorem Es {P:Program}{J:Goroutine->af->Prop}{fn:FuncId}{first captured args:Array Value}{F:af}{R:Value->af->Prop}:gJ P J (.func (.func fn) first captured) args F R=(aJ P fn=true/\cL P J fn (first++args++captured) F R):=rfl
def eX (P:Program)(m:Sem Value)(R:Value->af->Prop)(F:af):Prop:=aT P m R F
def cD (P:Program)(J:Goroutine->af->Prop)(o:Oper)(R:Value->af->Prop)(a:Act)(F:af):Prop:=
 match o.op with
 | .move x| .assign x=>R (ev a x) F
 | .nilCheck x=>match ev a x with
  | .pointer (some _)=>R (ev a x) F
  |_=>False
 | .pick c x y=>match ev a c with
  | .bool b=>R (if b then ev a x else ev a y) F
  |_=>False
 | .alloc t=>match zeroOf P t with
  |some z=>∀b,dL F b->R (.pointer (some ⟨b,0,none⟩)) (F.push b (.cells z.cells t))
  |none=>False
 | .box t x=>∀b,dL F b->R (.pointer (some ⟨b,0,none⟩)) (F.push b (.cells (ev a x).cells t))
 | .build t parts=>match pN P t (parts.map fun (i,x)=>(i,ev a x)).toList with
  |some v=>R v F
  |none=>False
 | .buildSlice t len parts=>match rA P t len (parts.map fun (i,x)=>(i,ev a x)).toList with
  |some (e,cs)=>∀b,dL F b->R (.slice (some ⟨b,0,none⟩) len len) (F.push b (.cells cs e))
  |none=>False
 | .load t x=>match ev a x with
  | .pointer (some ad)=>match fh P F t ad with
   |some v=>R v F
   |none=>False
  |_=>False
 | .store t x y=>match ev a x with
  | .pointer (some ad)=>match ri P F t ad (ev a y) with
   |some F'=>R undef F'
   |none=>False
  |_=>False
 | .binOp op t x y _=>match pM P op t (ev a x) (ev a y) with
  |some v=>R v F
  |none=>False
 | .unOp op _ x=>match mo op (ev a x) with
  |some v=>R v F
  |none=>False
 | .convert src dst x=>match mw P src dst (ev a x) with
  |some v=>R v F
  |none=>False
 | .makeFunc fn first captured=>R (.func fn (first.map (ev a)) (captured.map (ev a))) F
 | .slice t x lo hi none=>(match ev a x with| .slice _ len cap=>len<=cap|_=>False)/\match nL P t (ev a x) (lo.map (ev a)) (hi.map (ev a)) with
  |some v=>R v F
  |none=>False
 | .fieldAddr s x n=>match ev a x with
  | .pointer (some ad)=>match cG P s n with
   |some k=>R (.pointer (some (ad.add k))) F
   |none=>False
  |_=>False
 | .field s x n=>match pO P s n (ev a x) with
  |some v=>R v F
  |none=>False
 | .indexAddr t x i=>match pJ P t (ev a x) (ev a i) with
  |some v=>R v F
  |none=>False
 | .index t x i=>match pP P t (ev a x) (ev a i) with
  |some v=>R v F
  |none=>False
 | .extract x n=>match rC n (ev a x) with
  |some v=>R v F
  |none=>False
 | .call {callee:=.value x,args, ..}=>gJ P J (ev a x) (args.map (ev a)) F R
 | .call {callee:=.builtin .len,args,argTypes}=>match argTypes[0]?,args[0]? with
  |some t,some x=>match rD P t (ev a x) with
   |some v=>R v F
   |none=>eX P (Builtin.len_ argTypes o.type (args.map (ev a))) R F
  |_,_=>False
 | .makeMap t r=>eX P (Instr.makeMap t (r.map (ev a))) R F
 | .makeSlice t l c=>eX P (Instr.makeSlice t (ev a l) (ev a c)) R F
 | .mapUpdate t m k x=>eX P (Instr.mapUpdate t (ev a m) (ev a k) (ev a x)>>= fun _=>pure undef) R F
 | .call {callee:=.builtin .clear,args,argTypes}=>eX P (Builtin.clear_ argTypes o.type (args.map (ev a))) R F
 | .call {callee:=.builtin .cap,args,argTypes}=>eX P (Builtin.cap_ argTypes o.type (args.map (ev a))) R F
 | .call {callee:=.builtin .copy,args,argTypes}=>eX P (Builtin.copy_ argTypes o.type (args.map (ev a))) R F
 | .call {callee:=.builtin .append,args,argTypes}=>match args.toList with
  |[x,y]=>mz P argTypes (ev a x) (ev a y) R F
  |_=>False
 | .call {callee:=.builtin .max,args, ..}=>match args.toList with
  |[x,y]=>match rj (ev a x) (ev a y) with
   |some v=>R v F
   |none=>False
  |_=>False
 | .call {callee:=.builtin .min,args, ..}=>match args.toList with
  |[x,y]=>match rm (ev a x) (ev a y) with
   |some v=>R v F
   |none=>False
  |_=>False
 |_=>False
theorem ez (a:Act):a.eval=ev a:=rfl
theorem zY {P:Program}{J:Goroutine->af->Prop}{o:Oper}{R:Value->af->Prop}{D:Deferred->af->Prop}{a:Act}{F:af}(B:Oper.nN o=false)(h:cD P J o R a F):aT P (execOp a.eval o) (fE P J R D) F:=by
 obtain ⟨dst,op,type,pos,after,guard⟩:=o
 unfold execOp
 simp only[ez]
 unfold cD at h
 simp only at h
 cases op<;>simp only at h ⊢
 case move x=>exact h
 case assign x=>exact h
 case nilCheck x=>
  split at h
  ·rename_i ad g
   simp only[g,bF,fE]
   rw[g] at h
   exact h
  ·exact h.elim
 case pick c x y=>
  split at h
  ·rename_i b hb
   simp only[bn,hb,Eb,bF,fE]
   exact h
  ·exact h.elim
 case alloc t=>
  split at h
  ·rename_i z C
   simp only[Instr.alloc,bn,mh,C,zL,bF,fE]
   exact h
  ·exact h.elim
 case box t x=>
  simp only[Instr.box,bn,zL,bF,fE]
  exact h
 case build t parts=>
  split at h
  ·rename_i v d
   simp only[bn,bF]
   exact Em d h
  ·exact h.elim
 case buildSlice t len parts=>
  split at h
  ·rename_i e cs d
   simp only[bn,bF]
   exact En d h
  ·exact h.elim
 case load t x=>
  split at h
  case h_2=>exact h.elim
  rename_i ad q
  split at h
  case h_2=>exact h.elim
  rename_i v d
  simp only[Instr.loadAt,bn,q,rf,bF]
  exact zP d h
 case store t x y=>
  split at h
  case h_2=>exact h.elim
  rename_i ad q
  split at h
  case h_2=>exact h.elim
  rename_i F' E
  simp only[Instr.storeAt,bn,q,rf,bF]
  exact Ee E h
 case binOp op t x y T=>
  split at h
  case h_2=>exact h.elim
  rename_i v d
  rw[iR]
  exact Ej d h
 case unOp op t x=>
  split at h
  case h_2=>exact h.elim
  rename_i v d
  rw[iR]
  exact Eg d h
 case convert src dst x=>
  split at h
  case h_2=>exact h.elim
  rename_i v d
  rw[iR]
  exact Ep d h
 case makeFunc fn first captured=>
  simp only[Instr.makeFunc,bn,bF,fE]
  exact h
 case slice t x lo hi G=>
  cases G with
  |some m=>exact h.elim
  |none=>
   simp only at h
   obtain ⟨h1,h⟩:=h
   split at h
   case h_2=>exact h.elim
   rename_i v d
   rw[iR]
   exact Ei (fun ad len cap e=>by rw[e] at h1;exact h1) d h
 case fieldAddr s x n=>
  split at h
  case h_2=>exact h.elim
  rename_i ad q
  split at h
  case h_2=>exact h.elim
  rename_i k j
  unfold cG at j
  split at j
  case h_2=>cases j
  rename_i fs H
  split at j
  case h_2=>cases j
  rename_i f u
  split at j
  case h_2=>cases j
  rename_i m hm
  cases j
  rw[iR]
  simp only[Instr.fieldAt,bn,dh,H,u,q,rf,fieldPlace,eN,hm]
  simpa [bF,fE] using h
 case field s x n=>
  split at h
  case h_2=>exact h.elim
  rename_i v d
  rw[iR]
  exact Eo d h
 case indexAddr t x i=>
  split at h
  case h_2=>exact h.elim
  rename_i v d
  rw[iR]
  exact Eh d h
 case index t x i=>
  split at h
  case h_2=>exact h.elim
  rename_i v d
  rw[iR]
  exact Er d h
 case extract x n=>
  split at h
  case h_2=>exact h.elim
  rename_i v d
  rw[iR]
  unfold rC at d
  split at d
  ·rename_i U I
   simp only[I,Instr.extract,d]
   exact h
  ·cases d
 case makeMap t r=>
  rw[iR]
  exact h
 case makeSlice t l c=>
  rw[iR]
  exact h
 case mapUpdate t m k x=>
  unfold eX at h
  rw[bn] at h
  rw[bn]
  exact h
 case call c=>
  obtain ⟨callee,args,argTypes⟩:=c
  cases callee with
  |value x=>
   simp only at h
   unfold gJ at h
   split at h
   case h_3=>exact h.elim
   ·rename_i fn first captured g
    obtain ⟨p,K⟩:=h
    unfold aJ at p
    split at p
    case h_2=>cases p
    rename_i f u
    simp only[Bool.not_eq_true',Bool.or_eq_false_iff] at p
    simp only[resolve,g,Deferred.ofValue,bn,bF,invoke,callFunc,j4,u,p.1,p.2,Bool.false_eq_true,if_false,fE]
    exact K
   ·rename_i l first captured g
    obtain ⟨rfl,rfl,r,h1,h2,h3⟩:=h
    simp only[resolve,g,Deferred.ofValue,bn,bF,invoke,Instr.yield,Instr.getLoop,Array.append_empty,Array.empty_append,Array.map_map]
    refine ⟨_,h1,?_⟩
    have hp:∀{α:Type} (x:α) (Q:α->af->Prop) (F:af),aT P (Sem.pure x) Q F=Q x F:=fun _ _ _=>rfl
    simp only[bn,hp,bF,c9,ne_eq,h2,not_true_eq_false,if_false,fE]
    exact h3
  |invoke r m=>exact h.elim
  |builtin b=>
   cases b<;>simp only at h
   case append=>simp[Oper.nN] at B
   case clear=>
    simp only[resolve,bn,bF,invoke,builtin]
    exact h
   case cap=>
    simp only[resolve,bn,bF,invoke,builtin]
    exact h
   case copy=>
    simp only[resolve,bn,bF,invoke,builtin]
    exact h
   case len=>
    split at h
    case h_2=>exact h.elim
    rename_i t x ht g
    split at h
    case h_2=>
     simp only[resolve,bn,bF,invoke,builtin]
     exact h
    rename_i v d
    unfold rD at d
    split at d
    case h_2=>cases d
    rename_i ad n cap L
    split at d
    case h_2=>cases d
    rename_i e M
    have he:=vm M
    cases d
    have N:(args.map (ev a))[0]?=some (.slice ad n cap):=by simp[g,L]
    simp only[resolve,bn,bF,invoke,builtin,Builtin.len_,ht,N,dh,he]
    exact h
   case max=>
    split at h
    case h_2=>exact h.elim
    rename_i x y w
    split at h
    case h_2=>exact h.elim
    rename_i v d
    unfold rj at d
    split at d
    case h_2=>cases d
    rename_i k O S y' g A
    cases d
    simp only[resolve,bn,bF,invoke,builtin,Builtin.max_,Array.toList_map,w,List.map_cons,List.map_nil,List.foldlM_cons,List.foldlM_nil,g,A,Builtin.max2,fE]
    exact h
   case min=>
    split at h
    case h_2=>exact h.elim
    rename_i x y w
    split at h
    case h_2=>exact h.elim
    rename_i v d
    unfold rm at d
    split at d
    case h_2=>cases d
    rename_i k O S y' g A
    cases d
    simp only[resolve,bn,bF,invoke,builtin,Builtin.min_,Array.toList_map,w,List.map_cons,List.map_nil,List.foldlM_cons,List.foldlM_nil,g,A,Builtin.min2,fE]
    exact h
theorem k9 {P:Program}{J:Goroutine->af->Prop}{o:Oper}{R:Value->af->Prop}{D:Deferred->af->Prop}{a:Act}{F:af}(h:cD P J o R a F):aT P (execOp a.eval o) (j0 P J R D) F:=
by
 cases b:Oper.nN o with
 |false=>exact gZ DW _ _ (zY b h)
 |true=>
  obtain ⟨dst,op,type,pos,after,guard⟩:=o
  unfold Oper.nN at b
  split at b
  ·rename_i callee args argTypes c
   simp only at c
   subst c
   unfold cD at h
   simp only at h
   split at h
   case h_2=>exact h.elim
   rename_i x y d
   have e:args=#[x,y]:=by rw[<-Array.toList_inj];simpa using d
   subst e
   unfold execOp
   simp only[ez,resolve,bn,bF,invoke,builtin]
   have:=h type
   simpa [j0,fE,bn,bF] using this
  ·cases b
def cu (ops:Array Oper)(o:Oper)(a:Act):Option Bool:=
 match o.guard with
 |none=>some true
 |some (j,want)=>match (ops[j]?).bind (·.dst) with
  |some d=>match slot a d with
   | .bool b=>some (b==want)
   | .tuple _=>some false
   |_=>none
  |none=>none
theorem b7 {ops:Array Oper}{o:Oper}{a:Act}{t:Bool}(h:cu ops o a=some t):Region.wanted o (yielded ops a.tmps)=t:=by
 unfold cu at h
 unfold Region.wanted
 split at h
 ·rename_i hg;rw[hg];cases h;rfl
 ·rename_i j want hg
  rw[hg]
  split at h
  ·rename_i d hd
   split at h
   ·rename_i b hb
    cases h
    have ht:a.tmps[d]?=some (.bool b):=by
     unfold slot at hb
     rw[Array.getD_eq_getD_getElem?] at hb
     cases c:a.tmps[d]? with
     |none=>rw[c] at hb;simp[undef] at hb
     |some v=>rw[c] at hb;simpa using hb
    simp only[yielded,hd,Option.bind_some,ht]
    cases b<;>cases want<;>rfl
   ·rename_i b hb
    cases h
    simp only[yielded,hd,Option.bind_some]
    unfold slot at hb
    rw[Array.getD_eq_getD_getElem?] at hb
    cases c:a.tmps[d]? with
    |none=>rfl
    |some v=>
     rw[c] at hb
     simp at hb
     subst hb
     rfl
   ·cases h
  ·cases h
def Oper.calls (o:Oper):Bool:=match o.op with| .call {callee:=.value _, ..}=>true| .call {callee:=.builtin .append, ..}=>true| .call {callee:=.builtin .clear, ..}=>true| .call {callee:=.builtin .cap, ..}=>true| .call {callee:=.builtin .copy, ..}=>true| .makeMap ..=>true| .makeSlice ..=>true| .mapUpdate ..=>true|_=>false
def fI (P:Program)(J:Goroutine->af->Prop)(ops:Array Oper)(K:Act->af->Prop):List Oper->Bool->Act->af->Prop
 |[],_,a,F=>K a F
 |o::rest,_,a,F=>match cu ops o a with
  |some true=>cD P J o (fun v F'=>fI P J ops K rest (!Oper.calls o) (aX a o.dst v) F') a F
  |some false=>fI P J ops K rest true (aX a o.dst undef) F
  |none=>False
theorem zZ {P:Program}{J:Goroutine->af->Prop}{ops:Array Oper}{K:Act->af->Prop}{go:Bool}{a:Act}{F:af}:fI P J ops K [] go a F=K a F:=rfl
theorem z0 {P:Program}{J:Goroutine->af->Prop}{ops:Array Oper}{K:Act->af->Prop}{o:Oper}{rest:List Oper}{a:Act}{F:af}:fI P J ops K (o::rest) true a F=match cu ops o a with
  |some true=>cD P J o (fun v F'=>fI P J ops K rest (!Oper.calls o) (aX a o.dst v) F') a F
  |some false=>fI P J ops K rest true (aX a o.dst undef) F
  |none=>False:=(Eq.refl _).trans (Eq.refl _)
theorem aD {P:Program}{J:Goroutine->af->Prop}{ops:Array Oper}{K:Act->af->Prop}:∀{l:List Oper} {go:Bool} {a:Act} {F:af},fI P J ops K l true a F->fI P J ops K l go a F
 |[],_,_,_,h=>h
 |_::_,_,_,_,h=>h
theorem vr {P:Program}{J:Goroutine->af->Prop}{ops:Array Oper}{K:Act->af->Prop}:∀(l:List Oper) (k:Nat) (go:Bool) (a:Act) (F:af),ops.toList.drop k=l->fI P J ops K l go a F->
  fW P J ops K (List.range' k l.length) a F
 |[],k,_,a,F,_,h=>h
 |o::rest,k,_,a,F,b,h=>by
  have d:ops[k]?=some o:=by
   have:=congrArg List.head? b
   simpa [List.head?_drop] using this
  have c:ops.toList.drop (k+1)=rest:=by
   have:=congrArg List.tail b
   simpa [List.tail_drop] using this
  simp only[List.length_cons,List.range'_succ]
  show dD P J ops k (fW P J ops K (List.range' (k+1) rest.length)) a F
  unfold dD
  simp only[d]
  unfold fI at h
  split at h
  ·rename_i hg
   rw[if_pos (b7 hg)]
   exact gZ (pz (fun v F' e=>vr rest (k+1) _ _ F' c e) (fun _ _ x=>x)) _ _ (k9 h)
  ·rename_i hg
   rw[if_neg (by rw[b7 hg];simp)]
   exact vr rest (k+1) _ _ F c h
  ·exact h.elim
theorem ag {P:Program}{main:Bool}{J:Goroutine->af->Prop}{Q:Ex->Act->af->Prop}{a:Act}{F:af}(hJ:Closed P main J){id:Nat}{ops:Array Oper}(h:fI P J ops (Q .normal) ops.toList true a F):Wp J (.region id ops false) Q a F:=by
 refine D4 hJ ?_
 have:=vr ops.toList 0 true a F (by simp) h
 simpa [List.range_eq_range'] using this
attribute [irreducible] fI
theorem nO {P:Program}{J:Goroutine->af->Prop}{ops:Array Oper}{Q:Act->af->Prop}{S:af->Prop}(i:Nat){b:Oper}(v:Value){fuel:Nat}{listed:Array Bool}{a:Act}{F:af}(hi:ops[i]?=some b)
  (d:(Region.noSelect ops&&Region.free .any ops listed i&&(Region.ready .any ops listed).contains i)=true)
  (hg:cu ops b a=some true) (e:∀F R,S F->R v F->cD P J b R a F) (c:S F)
  (h:dF P J ops Q S fuel (listed.setIfInBounds i true) (aX a b.dst v) F):dF P J ops Q S (fuel+1) listed a F:=
 zy i v hi d (.inl ⟨b7 hg,fun F R c f=>k9 (e F R c f)⟩) c h
theorem z1 {P:Program}{J:Goroutine->af->Prop}{ops:Array Oper}{Q:Act->af->Prop}{S:af->Prop}(i:Nat){b:Oper}{fuel:Nat}{listed:Array Bool}{a:Act}{F:af}(hi:ops[i]?=some b)
  (c:(Region.noSelect ops&&Region.free .any ops listed i&&(Region.ready .any ops listed).contains i)=true)
  (hg:cu ops b a=some false) (d:S F)
  (h:dF P J ops Q S fuel (listed.setIfInBounds i true) (aX a b.dst undef) F):dF P J ops Q S (fuel+1) listed a F:=
 zy i undef hi c (.inr ⟨b7 hg,rfl⟩) d h
theorem z2 {P:Program}{J:Goroutine->af->Prop}{ops:Array Oper}{Q:Act->af->Prop}{S:af->Prop}(i:Nat){b:Oper}{fuel:Nat}{listed:Array Bool}{a:Act}{F:af}(hi:ops[i]?=some b)
  (c:Region.ready .any ops listed=[i]) (hg:cu ops b a=some true)
  (h:cD P J b (fun v F'=>S F'/\dF P J ops Q S fuel (listed.setIfInBounds i true) (aX a b.dst v) F') a F):dF P J ops Q S (fuel+1) listed a F:=by
 refine D1 i c ?_
 unfold dD
 simp only[hi]
 rw[if_pos (b7 hg)]
 exact k9 h
attribute [go_sem] List.isEmpty_nil List.isEmpty_cons undef zZ z0 Oper.calls Bool.not_true Bool.not_false cu cD af.push af.get af.put lk iP cellOf fh ri af.dc af.jB af.mb bC frozenAt pM mq pL Option.isNone_none Option.isNone_some gI iS nJ mo rj rm pJ pP nL pO rC mw rD pN rA
theorem add_zero' (a:Addr):a.add 0=a:=rfl
theorem lf (a:Addr)(m n:Nat):(a.add m).add n=a.add (m+n):=by
 unfold Addr.add
 by_cases hm:m=0
 ·subst hm;simp
 ·by_cases hn:n=0
  ·subst hn;simp[hm]
  ·have:¬m+n=0:=by omega
   simp[hm,hn,this,Nat.add_assoc]
theorem lg (b o n:Nat):(⟨b,o,none⟩:Addr).add n=⟨b,o+n,none⟩:=by
 unfold Addr.add
 by_cases hn:n=0
 ·subst hn;simp
 ·simp[hn]
attribute [go_sem] add_zero' lf lg Nat.add_assoc Int.reduceLE Int.reduceLT Int.reduceToNat Int.toNat_zero Int.le_refl
attribute [go_sem] Value.cells Instr.fill q5 iw uZ zC Es
attribute [go_sem] and_true true_and Array.getD_eq_getD_getElem? List.getElem?_toArray List.getElem?_cons_zero List.getElem?_cons_succ List.getElem?_nil Option.getD_some Option.getD_none Option.bind_some Option.bind_none Option.map_some Option.map_none
attribute [go_sem] Nat.reduceLT Nat.reduceEqDiff Nat.reduceAdd Nat.reduceMul Nat.reduceSub if_true if_false reduceIte reduceCtorEq List.setIfInBounds_toArray List.set_cons_zero List.set_cons_succ
attribute [go_sem] List.map_toArray List.map_cons List.map_nil List.append_toArray List.cons_append List.nil_append List.append_nil Array.append_empty Array.empty_append List.toList_toArray List.length_cons List.length_nil List.size_toArray ne_eq not_true_eq_false not_false_eq_true forall_const
theorem eI {ro:Addr->Option Value}{own:List (Nat×Obj)}{b:Nat}(h:dL ⟨ro,own⟩ b):∀off sp,ro ⟨b,off,sp⟩=none:=h.ro
theorem fJ {ro:Addr->Option Value}{own:List (Nat×Obj)}{b:Nat}(h:dL ⟨ro,own⟩ b):au own b:=h.own
def pQ (P:Program)(F:af)(a:Act):ResultVar->Option Value
 | .tmp t=>some (slot a t)
 | .cell ad t=>match slot a ad with
  | .pointer (some p)=>fh P F t p
  |_=>none
def mA (P:Program)(F:af)(a:Act):List ResultVar->Option (List Value)
 |[]=>some []
 |r::rs=>match pQ P F a r with
  |some v=>match mA P F a rs with
   |some b=>some (v::b)
   |none=>none
  |none=>none
def mB (P:Program)(F:af)(a:Act)(rs:List ResultVar):Option Value:=
 match mA P F a rs with
 |some [v]=>some v
 |some b=>some (.tuple b.toArray)
 |none=>none
attribute [go_sem] pQ mA mB
theorem vt {P:Program}{F:af}{a:Act}{Q:Array Value->af->Prop}:∀(rs:List ResultVar) (d:List Value) (acc:Array Value),mA P F a rs=some d->Q (acc++d.toArray) F->
  aT P (rs.foldlM (fun (b:Array Value) r=>do let x<-(match r with| .tmp t=>pure (a.tmps.getD t undef)| .cell ad t=>do loadVar t (<-asAddr (a.tmps.getD ad undef)):Sem Value);pure (b.push x)) acc) Q F
 |[],d,acc,h,e=>by
  simp only[mA,Option.some.injEq] at h;subst h
  simpa [bF] using e
 |r::rs,d,acc,h,e=>by
  unfold mA at h
  split at h
  case h_2=>cases h
  rename_i v c
  split at h
  case h_2=>cases h
  rename_i ws g
  cases h
  have f:=vt rs ws (acc.push v) g (Q:=Q) (by simpa using e)
  simp only[List.foldlM_cons,bn]
  cases r with
  |tmp t=>
   simp only[pQ,Option.some.injEq,slot] at c
   subst c
   simpa only[bF] using f
  |cell ad t=>
   simp only[pQ] at c
   split at c
   ·rename_i p hp
    unfold slot at hp
    simp only[bn,hp,asAddr,bF]
    exact zP c f
   ·cases c
theorem rE {P:Program}{fn:Func}{rs:List ResultVar}{F:af}{a:Act}{v:Value}{R:Value->af->Prop}(d:fn.results=rs.toArray)(h:mB P F a rs=some v)(c:R v F):aT P (results fn a.tmps) R F:=by
 unfold results
 rw[d,bn,Array.mapM_eq_foldlM,<-Array.foldlM_toList]
 unfold mB at h
 split at h
 case h_3=>cases h
 ·rename_i x b
  cases h
  exact vt rs [v] #[] b (by simpa [bF] using c)
 ·rename_i e f b
  cases h
  refine vt rs e #[] b ?_
  simp only[Array.empty_append,bF]
  split
  ·rename_i hs
   simp at hs
   obtain ⟨v,rfl⟩:=List.length_eq_one_iff.1 hs
   exact absurd rfl (f v)
  ·exact c
def iT (P:Program)(rs:List ResultVar)(R:Value->af->Prop):Ex->Act->af->Prop
 | .exit _,_,_=>False
 |_,a,F=>a.defers=[]/\match mB P F a rs with|some v=>R v F|none=>False
attribute [go_sem] iT
theorem aC.go {P:Program}{f:FuncId}{fn:Func}{c:Code}{n:Nat}{rs:List ResultVar}{args:Array Value}{F:af}{R:Value->af->Prop}(d:P.funcs[f]?=some fn)(hb:fn.body=some c)(hn:fn.ntmps=n)(g:fn.results=rs.toArray)(j:args.size<=n)
  (h:∀main J,Closed P main J->∀A:Act,sz A=n->A.defers=[]->(∀i,slot A i=args.getD i undef)->Wp J c (iT P rs R) A F):aC P f args F R:=
 aC.start d hb hn j fun main J hJ A h1 h2 h3=>(h main J hJ A h1 h2 h3).mono fun e a F hq=>by
  cases e with
  |exit i=>exact hq
  |_=>
   obtain ⟨hd,b⟩:=hq
   split at b
   ·rename_i v k
    show iw P a.defers _ F
    rw[hd]
    exact rE g k b
   ·exact b.elim
def cM (n m:Nat):Array Bool:=(Array.range n).map fun i=>decide (i<m)
def pR (ops:Array Oper)(m:Nat):Bool:=
 Region.noSelect ops&&decide (m<=ops.size)&&((List.range m).all fun i=>Region.free .any ops (cM ops.size i) i&&(Region.ready .any ops (cM ops.size i)).contains i)&&
 ((List.range (ops.size - m)).all fun j=>decide (Region.ready .any ops (cM ops.size (m+j))=[m+j]))&&decide (Region.ready .any ops (cM ops.size ops.size)=[])
def Et (D:List Nat)(L:List (List Nat))(x y:Nat):Bool:=RegionTabs.apart ⟨#[],D.toArray,L.toArray⟩ x y
def vu (A:List (List Nat))(D:List Nat)(L:List (List Nat))(n m:Nat):Bool:=
 decide (m<=n)&&((List.range m).all fun k=>(A.getD k []).all (fun x=>decide (x<k))&&(List.range n).all fun j=>decide (j<=k)||(A.getD j []).contains k||Et D L k j)&&
 ((List.range (n - m)).all fun t=>(A.getD (m+t) []).all (fun x=>decide (x<m+t))&&(List.range (n - (m+t+1))).all fun u=>!(A.getD (m+t+1+u) []).all (fun x=>decide (x<m+t)))
section
variable {ops : Array Oper}
theorem z3 {n k i:Nat}(h:i<n):(cM n k).getD i true=decide (i<k):=by
 simp[cM,Array.getD_eq_getD_getElem?,h]
theorem Eu {n k i:Nat}(a:k<=n):(cM n k).getD i false=decide (i<k):=by
 rcases Nat.lt_or_ge i n with h|h
 ·simp[cM,Array.getD_eq_getD_getElem?,h]
 ·have:¬i<k:=by omega
  simp[cM,Array.getD_eq_getD_getElem?,Array.getElem?_eq_none,h,this]
theorem vv {A:List (List Nat)}{k:Nat}(a:Region.tabAfter .any ops=A)(b:k<=ops.size):
  Region.ready .any ops (cM ops.size k)=(List.range ops.size).filter fun i=>!decide (i<k)&&(A.getD i []).all fun x=>decide (x<k):=by
 have hlen:A.length=ops.size:=by rw[<-a];simp[Region.tabAfter]
 rw[<-RegionTabs.ready_eq]
 unfold RegionTabs.ready RegionTabs.of
 simp only[a,List.size_toArray,hlen]
 apply List.filter_congr
 intro i hi
 have c:i<ops.size:=List.mem_range.1 hi
 rw[z3 c]
 congr 1
 rw[List.getElem?_toArray,List.getD_eq_getElem?_getD,List.getElem?_eq_getElem (by omega)]
 simp only[Option.map_some,Option.getD_some]
 congr 1
 funext x
 exact Eu b
theorem filter_one {k:Nat}{p:Nat->Bool}(hp:p k=true):∀(n:Nat),k<n->(∀i,i<n->i≠k->p i=false)->(List.range n).filter p=[k]
 |0,a,_=>by omega
 |n+1,a,hq=>by
  rw[List.range_succ,List.filter_append]
  by_cases e:k=n
  ·subst e
   have:(List.range k).filter p=[]:=by
    rw[List.filter_eq_nil_iff]
    intro i hi
    have b:=List.mem_range.1 hi
    rw[hq i (by omega) (by omega)];simp
   rw[this];simp[hp]
  ·rw[filter_one hp n (by omega) fun i hi=>hq i (by omega)]
   simp[hq n (by omega) (fun x=>e x.symm)]
theorem Ev {m n:Nat}(A:List (List Nat))(D:List Nat)(L:List (List Nat))(hs:Region.noSelect ops=true)(hn:ops.size=n)(a:Region.tabAfter .any ops=A)(c:Region.tabDst ops=D)(d:Region.tabLooks ops=L)(h:vu A D L n m=true):pR ops m=true:=by
 subst hn
 have hlen:A.length=ops.size:=by rw[<-a];simp[Region.tabAfter]
 simp only[vu,Bool.and_eq_true,decide_eq_true_eq,List.all_eq_true,List.mem_range] at h
 obtain ⟨⟨hm,h1⟩,h2⟩:=h
 simp only[pR,Bool.and_eq_true,decide_eq_true_eq,List.all_eq_true,List.mem_range]
 refine ⟨⟨⟨⟨hs,hm⟩,fun i hi=>⟨?_,?_⟩⟩,fun j b=>?_⟩,?_⟩
 ·rw[<-RegionTabs.free_eq]
  unfold RegionTabs.free
  have e1:(RegionTabs.of .any ops).after=A.toArray:=by simp[RegionTabs.of,a]
  rw[e1,List.size_toArray,hlen]
  simp only[Bool.and_eq_true,decide_eq_true_eq,List.all_eq_true,List.mem_range]
  refine ⟨by omega,fun j b=>?_⟩
  have:=(h1 i hi).2 j b
  simp only[Bool.or_eq_true,decide_eq_true_eq] at this
  simp only[Bool.or_eq_true]
  rcases this with (hle|f)|g
  ·rcases Nat.lt_or_eq_of_le hle with x|x
   ·left;left;right
    rw[z3 (by omega)];simpa using x
   ·left;left;left;simpa using x
  ·left;right
   simpa [Array.getD_eq_getD_getElem?,List.getD_eq_getElem?_getD] using f
  ·right
   have e:RegionTabs.of .any ops=⟨A.toArray,D.toArray,L.toArray⟩:=by simp[RegionTabs.of,a,c,d]
   rw[e]
   exact g
 ·rw[vv a (by omega)]
  rw[List.contains_iff_mem,List.mem_filter]
  refine ⟨List.mem_range.2 (by omega),?_⟩
  have:=(h1 i hi).1
  simpa [List.all_eq_true] using this
 ·have k:m+j<ops.size:=by omega
  rw[vv a (by omega)]
  refine filter_one ?_ _ k fun i hi l=>?_
  ·have:=(h2 j b).1
   simpa [List.all_eq_true] using this
  ·rcases Nat.lt_or_ge i (m+j) with x|x
   ·simp[x]
   ·have:=(h2 j b).2 (i - (m+j+1)) (by omega)
    rw[show m+j+1+(i - (m+j+1))=i by omega] at this
    simp only[Bool.not_eq_true'] at this
    simp only[this,Bool.and_false]
 ·rw[vv a (Nat.le_refl _)]
  rw[List.filter_eq_nil_iff]
  intro i hi
  have:=List.mem_range.1 hi
  simp[this]
def vw (n:Nat)(k:Nat->Bool):Bool:=Nat.casesOn n (k 0) fun m=>k (m+1)
def pS:List Nat->(List Nat->Bool)->Bool
 |[],k=>k []
 |x::xs,k=>vw x fun y=>pS xs fun ys=>k (y::ys)
def pU:List (List Nat)->(List (List Nat)->Bool)->Bool
 |[],k=>k []
 |x::xs,k=>pS x fun y=>pU xs fun ys=>k (y::ys)
theorem z4 (n:Nat)(k:Nat->Bool):vw n k=k n:=by cases n<;>rfl
theorem vz:∀(l:List Nat) (k:List Nat->Bool),pS l k=k l
 |[],_=>rfl
 |x::xs,k=>by rw[pS,z4,vz xs]
theorem z5:∀(l:List (List Nat)) (k:List (List Nat)->Bool),pU l k=k l
 |[],_=>rfl
 |x::xs,k=>by rw[pU,vz,z5 xs]
def nP (ops:Array Oper)(m:Nat):Bool:=Region.noSelect ops&&pU (Region.tabAfter .any ops) fun A=>pS (Region.tabDst ops) fun D=>pU (Region.tabLooks ops) fun L=>vw ops.size fun n=>vu A D L n m
theorem z6 {m:Nat}(h:nP ops m=true):pR ops m=true:=by
 simp only[nP,Bool.and_eq_true,z5,vz,z4] at h
 exact Ev _ _ _ h.1 rfl rfl rfl rfl h.2
end
def iU:List (Nat×Obj)->List (Nat×Obj)->Prop
 |[],_=>True
 |(b,o)::l,own=>lk own b=some o/\iU l own
def Knows (F0 F:af):Prop:=(∀a v,F0.ro a=some v->F.ro a=some v)/\(∀a,a.block∈keys F0.own->F0.ro a=none->F.ro a=none)/\iU F0.own F.own
theorem iU.lk:∀{l own:List (Nat×Obj)} {b:Nat} {o:Obj},iU l own->lk l b=some o->Go.Sep.lk own b=some o
 |[],_,_,_,_,h=>by cases h
 |(c,x)::l,own,b,o,a,h=>by
  unfold Go.Sep.lk at h
  split at h
  ·rename_i e;cases h;exact e▸a.1
  ·exact iU.lk a.2 h
theorem Knows.get {F0 F:af}(h:Knows F0 F){a:Addr}{v:Value}(hg:F0.get a=some v):F.get a=some v:=by
 unfold af.get at hg ⊢
 cases b:F0.ro a with
 |some x=>rw[b] at hg;rw[h.1 a x b];exact hg
 |none=>
  rw[b] at hg
  simp only at hg
  split at hg
  ·rename_i hs
   obtain ⟨o,c,d⟩:=Option.bind_eq_some_iff.1 hg
   rw[h.2.1 a (eW (gW c)) b]
   simp only
   rw[if_pos hs,h.2.2.lk c]
   exact d
  ·cases hg
theorem Ew {ro:Addr->Option Value}{l own:List (Nat×Obj)}:Knows ⟨ro,l⟩ ⟨ro,own⟩=iU l own:=
 propext ⟨fun h=>h.2.2,fun h=>⟨fun _ _ x=>x,fun _ _ x=>x,h⟩⟩
theorem Ey {ro aK:Addr->Option Value}{l own:List (Nat×Obj)}(c:∀a v,ro a=some v->aK a=some v)(hn:∀b∈keys l,∀off sp,aK ⟨b,off,sp⟩=none)(h:iU l own):Knows ⟨ro,l⟩ ⟨aK,own⟩:=
 ⟨c,fun a d _=>hn a.block d a.off a.spot,h⟩
theorem Knows.mm {F0 F:af}(h:Knows F0 F){a:Addr}:∀{n i:Nat} {b:List Value},F0.dc a i n=some b->F.dc a i n=some b
 |0,_,_,hg=>hg
 |n+1,i,b,hg=>by
  unfold af.dc at hg ⊢
  split at hg
  case h_2=>cases hg
  rename_i v c
  split at hg
  case h_2=>cases hg
  rename_i ws d
  rw[h.get c,h.mm d]
  exact hg
theorem Knows.fh {P:Program}{F0 F:af}(h:Knows F0 F){t:TypeId}{ad:Addr}{v:Value}(hg:fh P F0 t ad=some v):Go.Sep.fh P F t ad=some v:=by
 unfold Go.Sep.fh at hg ⊢
 split at hg
 ·exact h.get hg
 ·split at hg
  case h_2=>cases hg
  rename_i n hn
  split at hg
  case h_2=>cases hg
  rename_i b a
  rw[h.mm a]
  exact hg
 ·cases hg
def iV (P:Program)(o:Oper)(a:Act):Option Value:=
 match o.op with
 | .move x| .assign x=>some (ev a x)
 | .pick c x y=>match ev a c with
  | .bool b=>some (if b then ev a x else ev a y)
  |_=>none
 | .build t parts=>pN P t (parts.map fun (i,x)=>(i,ev a x)).toList
 | .binOp op t x y _=>pM P op t (ev a x) (ev a y)
 | .unOp op _ x=>mo op (ev a x)
 | .convert src dst x=>mw P src dst (ev a x)
 | .makeFunc fn first captured=>some (.func fn (first.map (ev a)) (captured.map (ev a)))
 | .slice t x lo hi none=>match ev a x with
  | .slice ad len cap=>if len<=cap then nL P t (.slice ad len cap) (lo.map (ev a)) (hi.map (ev a)) else none
  |_=>none
 | .fieldAddr s x n=>match ev a x with
  | .pointer (some ad)=>match cG P s n with
   |some k=>some (.pointer (some (ad.add k)))
   |none=>none
  |_=>none
 | .field s x n=>pO P s n (ev a x)
 | .indexAddr t x i=>pJ P t (ev a x) (ev a i)
 | .index t x i=>pP P t (ev a x) (ev a i)
 | .extract x n=>rC n (ev a x)
 | .call {callee:=.builtin .len,args,argTypes}=>match argTypes[0]?,args[0]? with
  |some t,some x=>rD P t (ev a x)
  |_,_=>none
 | .call {callee:=.builtin .max,args, ..}=>match args.toList with
  |[x,y]=>rj (ev a x) (ev a y)
  |_=>none
 | .call {callee:=.builtin .min,args, ..}=>match args.toList with
  |[x,y]=>rm (ev a x) (ev a y)
  |_=>none
 |_=>none
theorem rF {P:Program}{J:Goroutine->af->Prop}{o:Oper}{a:Act}{v:Value}{R:Value->af->Prop}{F:af}(h:iV P o a=some v)(d:R v F):cD P J o R a F:=by
 obtain ⟨dst,op,type,pos,after,guard⟩:=o
 unfold iV at h
 unfold cD
 cases op<;>simp only[reduceCtorEq] at h ⊢
 case move x=>cases h;exact d
 case assign x=>cases h;exact d
 case pick c x y=>
  split at h
  ·rename_i b hb;cases h;try rw[hb]
   exact d
  ·cases h
 case build t parts=>rw[h];exact d
 case binOp=>rw[h];exact d
 case unOp=>rw[h];exact d
 case convert=>rw[h];exact d
 case makeFunc=>cases h;exact d
 case slice t x lo hi g=>
  cases g with
  |some m=>cases h
  |none=>
   simp only at h ⊢
   split at h
   case h_2=>cases h
   rename_i ad len cap e
   split at h
   case isFalse=>cases h
   rename_i i
   rw[e]
   exact ⟨i,by rw[h];exact d⟩
 case fieldAddr s x n=>
  split at h
  case h_2=>cases h
  rename_i ad e
  split at h
  case h_2=>cases h
  rename_i k j
  cases h
  try rw[e]
  try simp only[j]
  exact d
 case field=>rw[h];exact d
 case indexAddr=>rw[h];exact d
 case index=>rw[h];exact d
 case extract=>rw[h];exact d
 case call c=>
  obtain ⟨callee,args,argTypes⟩:=c
  cases callee with
  |value x=>cases h
  |invoke r m=>cases h
  |builtin b=>
   cases b<;>simp only[reduceCtorEq] at h ⊢
   case len=>
    split at h
    case h_2=>cases h
    rename_i t x ht e
    simp only[ht,e,h];exact d
   case max=>
    split at h
    case h_2=>cases h
    rename_i x y f
    simp only[f,h];exact d
   case min=>
    split at h
    case h_2=>cases h
    rename_i x y f
    simp only[f,h];exact d
def Plain (P:Program)(J:Goroutine->af->Prop)(F0:af)(f:FuncId)(args:Array Value)(v:Value):Prop:=
 ∀F,Knows F0 F->cL P J f args F (fun a F'=>a=v/\F'=F)
def dX (P:Program)(J:Goroutine->af->Prop)(ops:Array Oper)(F0:af)(K:Act->Prop):List Oper->Bool->Act->Prop
 |[],_,a=>K a
 |o::rest,_,a=>match cu ops o a with
  |some false=>dX P J ops F0 K rest true (aX a o.dst undef)
  |some true=>match o.op with
   | .load t x=>match ev a x with
    | .pointer (some ad)=>match fh P F0 t ad with
     |some v=>dX P J ops F0 K rest true (aX a o.dst v)
     |none=>False
    |_=>False
   | .call {callee:=.value x,args, ..}=>match ev a x with
    | .func (.func fn) first captured=>aJ P fn=true/\∃v,Plain P J F0 fn (first++args.map (ev a)++captured) v/\dX P J ops F0 K rest false (aX a o.dst v)
    |_=>False
   |_=>match iV P o a with
    |some v=>dX P J ops F0 K rest true (aX a o.dst v)
    |none=>False
  |none=>False
theorem Ez {P:Program}{J:Goroutine->af->Prop}{ops:Array Oper}{F0:af}{K:Act->Prop}{go:Bool}{a:Act}:dX P J ops F0 K [] go a=K a:=rfl
theorem EA {P:Program}{J:Goroutine->af->Prop}{ops:Array Oper}{F0:af}{K:Act->Prop}{o:Oper}{rest:List Oper}{a:Act}:dX P J ops F0 K (o::rest) true a=match cu ops o a with
  |some false=>dX P J ops F0 K rest true (aX a o.dst undef)
  |some true=>match o.op with
   | .load t x=>match ev a x with
    | .pointer (some ad)=>match fh P F0 t ad with
     |some v=>dX P J ops F0 K rest true (aX a o.dst v)
     |none=>False
    |_=>False
   | .call {callee:=.value x,args, ..}=>match ev a x with
    | .func (.func fn) first captured=>aJ P fn=true/\∃v,Plain P J F0 fn (first++args.map (ev a)++captured) v/\dX P J ops F0 K rest false (aX a o.dst v)
    |_=>False
   |_=>match iV P o a with
    |some v=>dX P J ops F0 K rest true (aX a o.dst v)
    |none=>False
  |none=>False:=(Eq.refl _).trans (Eq.refl _)
theorem b9 {P:Program}{J:Goroutine->af->Prop}{ops:Array Oper}{F0:af}{K:Act->Prop}:∀{l:List Oper} {go:Bool} {a:Act},dX P J ops F0 K l true a->dX P J ops F0 K l go a
 |[],_,_,h=>h
 |_::_,_,_,h=>h
theorem rG {n m:Nat}(h:m<n):(cM n m).setIfInBounds m true=cM n (m+1):=by
 apply Array.ext
 ·simp[cM]
 ·intro i h1 h2
  simp[cM] at h1 h2
  rw[Array.getElem_setIfInBounds (by simp[cM];omega)]
  by_cases e:m=i
  ·subst e;simp[cM]
  ·simp only[if_neg e,cM,Array.getElem_map,Array.getElem_range]
   rw[decide_eq_decide]
   omega
theorem z7 (n:Nat):cM n 0=Array.replicate n false:=by
 apply Array.ext
 ·simp[cM]
 ·intro i h1 h2;simp[cM]
section
variable {P : Program} {main : Bool} {J : Goroutine → af → Prop} {ops : Array Oper} {Q : Act → af → Prop} {F0 : af}
theorem rH {K:Act->Prop}(m:Nat)(hm:m<=ops.size)(r:Region.noSelect ops=true)(s:∀i,i<m->(Region.free .any ops (cM ops.size i) i&&(Region.ready .any ops (cM ops.size i)).contains i)=true)
  {F:af} (b:Knows F0 F) (u:∀a,K a->dF P J ops Q (Knows F0) (ops.size - m) (cM ops.size m) a F):
  ∀(l:List Oper) (k:Nat) (go:Bool) (a:Act),(ops.toList.take m).drop k=l->k<=m->dX P J ops F0 K l go a->dF P J ops Q (Knows F0) (ops.size - k) (cM ops.size k) a F
 |[],k,_,a,c,A,h=>by
  have:k=m:=by
   have:=congrArg List.length c
   simp at this
   omega
  subst this
  exact u a h
 |o::rest,k,_,a,c,A,h=>by
  have g:k<m:=by
   rcases Nat.lt_or_ge k m with x|x
   ·exact x
   ·rw[List.drop_eq_nil_of_le (by simp;omega)] at c;cases c
  have j:ops[k]?=some o:=by
   have:=congrArg List.head? c
   rw[List.head?_drop,List.getElem?_take_of_lt g] at this
   simpa using this
  have y:(ops.toList.take m).drop (k+1)=rest:=by
   have:=congrArg List.tail c
   simpa [List.tail_drop] using this
  have B:=s k g
  have e:ops.size - k=(ops.size - (k+1))+1:=by omega
  have z:=rG (n:=ops.size) (m:=k) (by omega)
  have p:(Region.noSelect ops&&Region.free .any ops (cM ops.size k) k&&(Region.ready .any ops (cM ops.size k)).contains k)=true:=by
   rw[r,Bool.true_and];exact B
  rw[e]
  unfold dX at h
  split at h
  ·rename_i hg
   exact z1 k j p hg b (by rw[z];exact rH m hm r s b u rest (k+1) _ _ y g h)
  ·rename_i hg
   have next:∀go v,dX P J ops F0 K rest go (aX a o.dst v)->dF P J ops Q (Knows F0) (ops.size - (k+1)) ((cM ops.size k).setIfInBounds k true) (aX a o.dst v) F:=fun go v d=>by
    rw[z];exact rH m hm r s b u rest (k+1) _ _ y g d
   split at h
   ·rename_i t x w
    split at h
    case h_2=>exact h.elim
    rename_i ad C
    split at h
    case h_2=>exact h.elim
    rename_i v d
    refine nO k v j p hg (fun F R q f=>?_) b (next _ v h)
    unfold cD
    simp only[w,C,q.fh d]
    exact f
   ·rename_i x args argTypes w
    split at h
    case h_2=>exact h.elim
    rename_i fn first captured D
    obtain ⟨E,v,hp,h⟩:=h
    refine nO k v j p hg (fun F R q f=>?_) b (next _ v h)
    unfold cD
    simp only[w,D]
    exact ⟨E,(hp F q).mono fun H F' G=>by obtain ⟨rfl,rfl⟩:=G;exact f⟩
   ·split at h
    case h_2=>exact h.elim
    rename_i v d
    exact nO k v j p hg (fun F R q f=>rF d f) b (next _ v h)
  ·exact h.elim
def eJ (P:Program)(J:Goroutine->af->Prop)(ops:Array Oper)(F0:af)(Q:Act->af->Prop):List Oper->Bool->Act->af->Prop
 |[],_,a,F=>Q a F
 |o::rest,_,a,F=>match cu ops o a with
  |some true=>cD P J o (fun v F'=>Knows F0 F'/\eJ P J ops F0 Q rest (!Oper.calls o) (aX a o.dst v) F') a F
  |_=>False
theorem EB {P:Program}{J:Goroutine->af->Prop}{ops:Array Oper}{F0:af}{Q:Act->af->Prop}{go:Bool}{a:Act}{F:af}:eJ P J ops F0 Q [] go a F=Q a F:=rfl
theorem EC {P:Program}{J:Goroutine->af->Prop}{ops:Array Oper}{F0:af}{Q:Act->af->Prop}{o:Oper}{rest:List Oper}{a:Act}{F:af}:eJ P J ops F0 Q (o::rest) true a F=match cu ops o a with
  |some true=>cD P J o (fun v F'=>Knows F0 F'/\eJ P J ops F0 Q rest (!Oper.calls o) (aX a o.dst v) F') a F
  |_=>False:=(Eq.refl _).trans (Eq.refl _)
theorem mC {P:Program}{J:Goroutine->af->Prop}{ops:Array Oper}{F0:af}{Q:Act->af->Prop}:∀{l:List Oper} {go:Bool} {a:Act} {F:af},eJ P J ops F0 Q l true a F->eJ P J ops F0 Q l go a F
 |[],_,_,_,h=>h
 |_::_,_,_,_,h=>h
theorem mD (m:Nat)(g:∀j,j<ops.size - m->Region.ready .any ops (cM ops.size (m+j))=[m+j])(i:Region.ready .any ops (cM ops.size ops.size)=[]):
  ∀(l:List Oper) (k:Nat) (go:Bool) (a:Act) (F:af),m<=k->k<=ops.size->ops.toList.drop k=l->eJ P J ops F0 Q l go a F->dF P J ops Q (Knows F0) (ops.size - k) (cM ops.size k) a F
 |[],k,_,a,F,q,s,f,h=>by
  have:k=ops.size:=by
   have:=congrArg List.length f
   simp at this
   omega
  subst this
  exact zz i h _
 |o::rest,k,_,a,F,q,s,f,h=>by
  have u:k<ops.size:=by
   rcases Nat.lt_or_ge k ops.size with x|x
   ·exact x
   ·rw[List.drop_eq_nil_of_le (by simpa using x)] at f;cases f
  have w:ops[k]?=some o:=by
   have:=congrArg List.head? f
   simpa [List.head?_drop] using this
  have y:ops.toList.drop (k+1)=rest:=by
   have:=congrArg List.tail f
   simpa [List.tail_drop] using this
  have e:ops.size - k=(ops.size - (k+1))+1:=by omega
  have n:=g (k - m) (by omega)
  rw[show m+(k - m)=k by omega] at n
  rw[e]
  unfold eJ at h
  split at h
  ·rename_i hg
   refine z2 k w n hg ?_
   refine rJ ?_ h
   rintro v F' ⟨h1,h2⟩
   refine ⟨h1,?_⟩
   rw[rG u]
   exact mD m g i rest (k+1) _ _ F' (by omega) (by omega) y h2
  ·exact h.elim
where
 rJ {o:Oper} {a:Act} {F:af} {R p:Value->af->Prop} (d:∀v F,R v F->p v F) (h:cD P J o R a F):cD P J o p a F:=by
  obtain ⟨dst,op,type,pos,after,guard⟩:=o
  unfold cD at h ⊢
  cases op<;>simp only at h ⊢<;>first
   |exact h.elim
   |exact d _ _ h
   |exact fun b hb=>d _ _ (h b hb)
   |exact gZ (fun v F h=>d v F h) _ _ h
   |(split at h<;>first
     |exact h.elim
     |exact d _ _ h
     |exact fun b hb=>d _ _ (h b hb)
     |(split at h<;>first|exact h.elim|exact d _ _ h|exact fun b hb=>d _ _ (h b hb)))
   |skip
  case slice t x lo hi z=>
   cases z with
   |some m=>exact h.elim
   |none=>
    refine ⟨h.1,?_⟩
    have h2:=h.2
    revert h2
    cases nL P t (ev a x) (lo.map (ev a)) (hi.map (ev a)) with
    |some v=>exact fun x=>d _ _ x
    |none=>exact fun x=>x
  case call c=>
   obtain ⟨callee,args,argTypes⟩:=c
   cases callee with
   |value x=>
    exact gJ.mono h d
   |invoke r m=>exact h.elim
   |builtin b=>
    cases b<;>simp only at h ⊢<;>first
     |exact h.elim
     |(split at h<;>first|exact h.elim|exact fun ty=>gZ (fun v F ⟨F0,hle,h⟩=>⟨F0,hle,d _ _ h⟩) _ _ (h ty))
     |exact gZ (fun v F h=>d v F h) _ _ h
     |(split at h<;>first|exact h.elim|(split at h<;>first|exact h.elim|exact d _ _ h|exact gZ (fun v F h=>d v F h) _ _ h))
theorem e5 {Q:Ex->Act->af->Prop}(hJ:Closed P main J)(d:P.follows .mixedOrders=true)(m:Nat){id:Nat}{a:Act}{F:af}(F0:af)(e:Knows F0 F)(f:nP ops m=true)
  (h:dX P J ops F0 (fun b=>eJ P J ops F0 (Q .normal) (ops.toList.drop m) true b F) (ops.toList.take m) true a):Wp J (.region id ops true) Q a F:=by
 have c:=z6 f
 simp only[pR,Bool.and_eq_true,decide_eq_true_eq,List.all_eq_true,List.mem_range] at c
 obtain ⟨⟨⟨⟨h1,h2⟩,h3⟩,g⟩,j⟩:=c
 refine u6 hJ (Knows F0) d ?_
 rw[<-z7]
 have:=rH (P:=P) (J:=J) (Q:=Q .normal) m h2 h1 (fun i hi=>by have:=h3 i hi;simpa using this) e (fun b k=>mD m g j _ m _ b F (Nat.le_refl _) h2 rfl k) _ 0 true a (by simp) (Nat.zero_le _) h
 simpa using this
theorem bE (hJ:Closed P main J){F0:af}{f:FuncId}{args:Array Value}{v:Value}(h:∀F,Knows F0 F->aC P f args F.cn (fun a _=>a=v)):Plain P J F0 f args v:=
 fun F b=>pG (h F b) main J hJ
end
attribute [irreducible] dX eJ
attribute [go_sem] iU Ew iV Ez EA EB EC q4 List.take_succ_cons List.take_zero List.drop_succ_cons List.drop_zero Array.zipIdx_toArray List.zipIdx_cons List.zipIdx_nil List.foldl_toArray List.foldl_toArray' decide_eq_true_eq Bool.and_false Bool.false_and Bool.and_self Bool.true_and Bool.and_true List.foldl_cons List.foldl_nil decide_false decide_true Bool.or_false Bool.false_or Bool.or_self Bool.or_true Bool.true_or gt_iff_lt Nat.reduceGT Nat.lt_irrefl Bool.false_eq_true Nat.zero_add Nat.add_zero Nat.not_lt_zero
section
variable {P : Program} {main : Bool} {J : Goroutine → af → Prop} {Q : Ex → Act → af → Prop} {a : Act} {F : af}
theorem aM (hJ:Closed P main J){f:FuncId}{args:Array Value}{F:af}{K:Value->af->Prop}(v:Value)(h:aC P f args F.cn (fun a _=>a=v))(b:K v F):cL P J f args F K:=
 (pG h main J hJ).mono fun a F' c=>by obtain ⟨rfl,rfl⟩:=c;exact b
theorem bK (hJ:Closed P main J){c:Operand}{x y:Code}(b:ev a c= .bool true)(h:Wp J x Q a F):Wp J (.cond c x y) Q a F:=uY hJ true b h
theorem bL (hJ:Closed P main J){c:Operand}{x y:Code}(b:ev a c= .bool false)(h:Wp J y Q a F):Wp J (.cond c x y) Q a F:=uY hJ false b h
theorem ED (hJ:Closed P main J){c:Operand}{x y:Code}(b:Bool)(d:ev a c= .bool b)(h1:b=true->Wp J x Q a F)(h2:b=false->Wp J y Q a F):Wp J (.cond c x y) Q a F:=by
 refine uY hJ b d ?_
 cases b
 ·exact h2 rfl
 ·exact h1 rfl
theorem cH (hJ:Closed P main J){c:Code}{F':af}(hle:Le F F')(h:Wp J c Q a F):Wp J c Q a F':=h.le (hJ:=hJ) hle
theorem Le.sub {ro:Addr->Option Value}{l l':List (Nat×Obj)}(h:l.Sublist l'):Le ⟨ro,l⟩ ⟨ro,l'⟩:=by
 have c:(keys l).Sublist (keys l'):=h.map _
 exact ⟨fun w hw=>⟨hw.ro,fun b o hb=>hw.own b o (h.subset hb),c.nodup hw.nodup,fun a v d hm=>hw.apart a v d (c.subset hm)⟩,fun b hb=>c.subset hb,fun a e=>.inl e⟩
theorem vA (hJ:Closed P main J){c:Code}(I:Nat->Act->af->Prop)(n:Nat)(h0:I n a F)(hs:∀n a F,I n a F->Wp J c (q4 (fun m a F=>∃F0,Le F0 F/\I m a F0) n Q) a F):Wp J (.loop c) Q a F:=
 zD hJ (fun m a F=>∃F0,Le F0 F/\I m a F0) n ⟨F,Le.refl F,h0⟩ fun n a F ⟨F0,hle,b⟩=>cH hJ hle (hs n a F0 b)
end
def j7:List Nat->Nat->Bool
 |[],_=>false
 |w::ws,i=>i==w||j7 ws i
abbrev In (ws:List Nat)(i:Nat):Prop:=j7 ws i=true
structure dB (ws:List Nat)(a a0:Act):Prop where
 size:sz a=sz a0
 defers:a.defers=a0.defers
 fj:∀i,¬In ws i->slot a i=slot a0 i
theorem dB.refl (ws:List Nat)(a:Act):dB ws a a:=⟨rfl,rfl,fun _ _=>rfl⟩
theorem dB.trans {ws:List Nat}{a b c:Act}(h:dB ws a b)(k:dB ws b c):dB ws a c:=⟨h.size.trans k.size,h.defers.trans k.defers,fun i hi=>(h.fj i hi).trans (k.fj i hi)⟩
theorem dB.sub {ws c:List Nat}{a b:Act}(hs:∀i,In ws i->In c i)(h:dB ws a b):dB c a b:=⟨h.size,h.defers,fun i hi=>h.fj i fun x=>hi (hs i x)⟩
theorem EE {ws:List Nat}{a:Act}:dB ws a a=True:=eq_true (dB.refl ws a)
theorem EF {ws:List Nat}{a a0:Act}{d:Nat}{v:Value}(h:j7 ws d=true):dB ws (aX a (some d) v) a0=dB ws a a0:=by
 apply propext
 constructor
 ·intro k
  refine ⟨by rw[<-k.size,zN],by rw[<-k.defers,zO],fun i hi=>?_⟩
  rw[<-k.fj i hi,ve _ _ _ _ (fun e=>hi (by subst e;exact h))]
 ·intro k
  refine ⟨by rw[<-k.size,zN],by rw[<-k.defers,zO],fun i hi=>?_⟩
  rw[<-k.fj i hi,ve _ _ _ _ (fun e=>hi (by subst e;exact h))]
def jD (ws a:List Nat):Bool:=ws.all fun w=>j7 a w
theorem z8:∀{ws:List Nat} {i:Nat},j7 ws i=true->i∈ws
 |[],_,h=>by cases h
 |w::ws,i,h=>by
  simp only[j7,Bool.or_eq_true,beq_iff_eq] at h
  rcases h with h|h
  ·rw[h];exact List.mem_cons_self
  ·exact List.mem_cons_of_mem _ (z8 h)
theorem dB.jD {ws c:List Nat}{a b:Act}(h:dB ws a b)(hs:Sep.jD ws c=true):dB c a b:=h.sub fun i hi=>by
 have:=z8 hi
 exact List.all_eq_true.1 hs i this
attribute [go_sem] j7 EE EF or_true true_or or_false false_or Nat.reduceBEq
section
variable {P : Program} {main : Bool} {J : Goroutine → af → Prop} {Q : Ex → Act → af → Prop} {a : Act} {F : af}
theorem bX (hJ:Closed P main J){c:Code}(ws:List Nat)(I:Nat->Act->af->Prop)(n:Nat)(h0:I n a F)
  (hs:∀n b F',dB ws b a->I n b F'->Wp J c (q4 (fun m a2 d=>dB ws a2 b/\∃F0,Le F0 d/\I m a2 F0) n Q) b F'):Wp J (.loop c) Q a F:=
 zD hJ (fun m a2 d=>dB ws a2 a/\∃F0,Le F0 d/\I m a2 F0) n ⟨.refl ws a,F,Le.refl F,h0⟩ fun n b F' ⟨f,F0,hle,g⟩=>
  cH hJ hle ((hs n b F0 f g).mono fun e a2 d hq=>by
   cases e with
   |normal=>obtain ⟨m,hm,h1,h2⟩:=hq;exact ⟨m,hm,h1.trans f,h2⟩
   |exit i=>exact hq
   |ret=>exact hq)
end
def Ext (ro aK:Addr->Option Value):Prop:=∀a v,ro a=some v->aK a=some v
theorem Ext.refl (ro:Addr->Option Value):Ext ro ro:=fun _ _ h=>h
theorem Ext.trans {r s t:Addr->Option Value}(h:Ext r s)(k:Ext s t):Ext r t:=fun a v x=>k a v (h a v x)
def bO (ro:Addr->Option Value)(b:Nat)(o:Obj):Addr->Option Value:=fun a=>match ro a with
 |some v=>some v
 |none=>if a.block=b/\a.spot=none then cellOf o a.off else none
theorem gm (ro:Addr->Option Value)(b:Nat)(o:Obj):Ext ro (bO ro b o):=fun a v h=>by simp[bO,h]
theorem iW {ro:Addr->Option Value}{b off:Nat}{o:Obj}(h:∀off sp,ro ⟨b,off,sp⟩=none):bO ro b o ⟨b,off,none⟩=cellOf o off:=by simp[bO,h]
theorem j8 {ro:Addr->Option Value}{own e:List (Nat×Obj)}{b:Nat}{o:Obj}(i:lk own b=some o)(hs:e.Sublist own)(hb:au e b):Le ⟨bO ro b o,e⟩ ⟨ro,own⟩:=by
 have g:(keys e).Sublist (keys own):=hs.map _
 have hm:=gW i
 have hn:b∉keys e:=by
  clear i hs g hm
  induction e with
  |nil=>simp[keys]
  |cons x l ih=>
   simp only[keys,List.map_cons,List.mem_cons,not_or]
   exact ⟨hb.1,ih hb.2⟩
 refine ⟨fun w hw=>⟨fun a v h=>?_,fun c x d=>hw.own c x (hs.subset d),g.nodup hw.nodup,fun a v h d=>?_⟩,fun c d=>g.subset d,fun a j=>?_⟩
 ·replace h:bO ro b o a=some v:=h
  unfold bO at h
  split at h
  ·rename_i x f;cases h;exact hw.ro _ _ f
  ·split at h
   ·rename_i d
    have:=hw.own b o hm
    rw[<-d.1] at this
    cases o<;>simp only[cellOf,reduceCtorEq] at h
    simp[World.cell?,this,d.2,h]
   ·cases h
 ·replace h:bO ro b o a=some v:=h
  unfold bO at h
  split at h
  ·rename_i x f;exact hw.apart a x f (g.subset d)
  ·split at h
   ·rename_i k;rw[k.1] at d;exact hn d
   ·cases h
 ·obtain ⟨v,h⟩:=Option.isSome_iff_exists.1 j
  replace h:bO ro b o a=some v:=h
  unfold bO at h
  split at h
  ·rename_i x f;exact .inl (by simp[f])
  ·split at h
   ·rename_i d;exact .inr (by rw[d.1];exact eW hm)
   ·cases h
def en (P:Program)(f:FuncId)(args:Array Value)(ro:Addr->Option Value)(R:Value->(Addr->Option Value)->Prop):Prop:=
 aC P f args ⟨ro,[]⟩ (fun v G=>∃aK,Ext ro aK/\Le ⟨aK,[]⟩ G/\R v aK)
def mE (F G:af):Prop:=∀a,(G.ro a).isSome=true->a.block∉keys F.own
def vB (J:Goroutine->af->Prop)(F:af)(g:Goroutine)(G:af):Prop:=Fits F G->mE F G->J g (G.star F)
theorem z9 {P:Program}{main:Bool}{J:Goroutine->af->Prop}(hJ:Closed P main J)(F:af):Closed P main (vB J F) where
 mono {g G H} hle h c hn:=by
  have l:=c.le hle
  have t:mE F G:=fun a d=>(hle.ro a d).elim (hn a) (c.own _)
  refine hJ.mono ⟨fun w hw=>l.both (hle.has w (c.right hw)) (c.left hw),fun b hb=>?_,fun a d=>?_⟩ (h l t)
  ·simp only[af.star,cj,List.mem_append] at hb ⊢
   exact hb.imp (hle.own b) id
  ·rcases j3 d with x|x
   ·exact (gH (.inl x)).imp id (fun y=>by simp only[af.star,cj,List.mem_append];exact .inr y)
   ·rcases hle.ro a x with y|y
    ·exact (gH (.inr y)).imp id (fun z=>by simp only[af.star,cj,List.mem_append];exact .inr z)
    ·exact .inr (by simp only[af.star,cj,List.mem_append];exact .inl y)
 step {fr cs G} h c hn:=by
  refine hJ.step fun w hw=>?_
  have u:=c.right hw
  have f:=c.left hw
  obtain ⟨g',w',es,j,hgo,hu,n,A,B⟩:=h w u
  have p:Has F w':=by
   refine ⟨fun a v k=>?_,fun b o hb=>?_,f.nodup,f.apart⟩
   ·have h0:=f.ro a v k
    have C:=f.gY (a:=a) (by simp[k])
    unfold World.cell? at h0 ⊢
    rw[hu.frame _ C (c.ro a (by simp[k]))]
    exact h0
   ·rw[hu.frame b (f.lt (eW hb)) (fun hm=>c.own b hm (eW hb))]
    exact f.own b o hb
  have q:Fits F j:=by
   refine ⟨⟨w',n,p⟩,fun b hb hm=>?_,fun a d hm=>?_⟩
   ·rcases hu.own b hb with x|x
    ·exact c.own b x hm
    ·have:=f.lt hm;omega
   ·rcases hu.own _ hm with x|x
    ·exact c.ro a d x
    ·have:=f.gY d;omega
  have D:mE F j:=fun a d hm=>by
   rcases hu.ro a d with x|x|x
   ·exact hn a x hm
   ·exact c.own _ x hm
   ·have:=f.lt hm;omega
  refine ⟨g',w',es,j.star F,hgo,⟨hu.os,hu.tape,hu.output,hu.size,fun b hb hn=>hu.frame b hb fun hm=>hn ?_,fun a d=>?_,fun b hb=>?_⟩,q.both n p,fun e he=>?_,B q D⟩
  ·simp only[af.star,cj,List.mem_append];exact .inl hm
  ·rcases j3 d with x|x
   ·exact (gH (.inl x)).imp id (fun y=>.inl (by simp only[af.star,cj,List.mem_append];exact .inr y))
   ·rcases hu.ro a x with y|y|y
    ·exact (gH (.inr y)).imp id (fun z=>.inl (by simp only[af.star,cj,List.mem_append];exact .inr z))
    ·exact .inr (.inl (by simp only[af.star,cj,List.mem_append];exact .inl y))
    ·exact .inr (.inr y)
  ·simp only[af.star,cj,List.mem_append] at hb ⊢
   rcases hb with hb|hb
   ·exact (hu.own b hb).imp .inl id
   ·exact .inl (.inr hb)
  ·have s:∀b,gX G w.heap.size w'.heap.size b->gX (G.star F) w.heap.size w'.heap.size b:=fun b hb=>hb.imp (fun x=>by simp only[af.star,cj,List.mem_append];exact .inl x) id
   rcases A e he with ⟨a,wr,rfl,i|⟨E,i⟩⟩|⟨r,wr,rfl,i⟩|⟨m,rfl,hm⟩
   ·exact .inl ⟨a,wr,rfl,.inl (s _ i)⟩
   ·rcases gH (F:=F) (.inr i) with y|y
    ·exact .inl ⟨a,wr,rfl,.inr ⟨E,y⟩⟩
    ·exact .inl ⟨a,wr,rfl,.inl (.inl (by simp only[af.star,cj,List.mem_append];exact .inr y))⟩
   ·exact .inr (.inl ⟨r,wr,rfl,s _ i⟩)
   ·exact .inr (.inr ⟨m,rfl,hm⟩)
section
variable {P : Program} {main : Bool} {J : Goroutine → af → Prop}
theorem vC (hJ:Closed P main J){f:FuncId}{args:Array Value}{ro:Addr->Option Value}{own:List (Nat×Obj)}{K:Value->af->Prop}(R:Value->(Addr->Option Value)->Prop)(h:en P f args ro R)
  (r:∀v aK,Ext ro aK->(∀b∈keys own,∀off sp,aK ⟨b,off,sp⟩=none)->R v aK->K v ⟨aK,own⟩):cL P J f args ⟨ro,own⟩ K:=by
 intro c cs s
 by_cases hw:∃w,Has ⟨ro,own⟩ w
 ·obtain ⟨i,j⟩:=hw
  let F:af:=⟨fun _=>none,own⟩
  have m:∀w,Has ⟨ro,own⟩ w->Has F w:=fun w hw=>⟨fun a v h=>(by cases h),hw.own,hw.nodup,fun a v h=>(by cases h)⟩
  have n:∀w,Has ⟨ro,own⟩ w->Has ⟨ro,[]⟩ w:=fun w hw=>⟨hw.ro,fun b o hb=>(by cases hb),List.nodup_nil,fun a v e hm=>(by cases hm)⟩
  have p:Fits F ⟨ro,[]⟩:=⟨⟨i,n i j,m i j⟩,fun b hb=>(by cases hb),fun a d hm=>(by cases hm)⟩
  have t:mE F ⟨ro,[]⟩:=fun a d hm=>by
   obtain ⟨v,u⟩:=Option.isSome_iff_exists.1 d
   exact j.apart a v u hm
  have y:vB J F (G (Frame.enter P f args .normal) (c::cs)) ⟨ro,[]⟩:=by
   refine h main _ (z9 hJ F) c cs fun v G k l hn=>?_
   obtain ⟨aK,A,hle,k⟩:=k
   have q:∀a,(aK a).isSome=true->a.block∉keys own:=fun a d=>(hle.ro a d).elim (hn a) (l.own _)
   refine hJ.mono (F:=⟨aK,own⟩) ⟨fun w hw=>?_,fun b hb=>?_,fun a d=>?_⟩ (s v ⟨aK,own⟩ (r v aK A (fun b hb off sp=>?_) k))
   ·have B:=hle.has w (l.right hw)
    have g:=l.left hw
    exact ⟨B.ro,g.own,g.nodup,fun a v e=>q a (by simp only at e;simp[e])⟩
   ·simp only[af.star,cj,List.mem_append];exact .inr hb
   ·rcases hle.ro a d with x|x
    ·exact (gH (.inr x)).imp id (fun z=>by simp only[af.star,cj,List.mem_append];exact .inr z)
    ·exact .inr (by simp only[af.star,cj,List.mem_append];exact .inl x)
   ·cases e:aK ⟨b,off,sp⟩ with
    |none=>rfl
    |some v=>exact absurd hb (q ⟨b,off,sp⟩ (by simp[e]))
  refine hJ.mono ⟨fun w hw=>p.both (n w hw) (m w hw),fun b hb=>?_,fun a d=>?_⟩ (y p t)
  ·simpa [af.star,F] using hb
  ·rcases j3 d with x|x
   ·cases x
   ·exact .inl x
 ·exact hJ.step fun w g=>absurd ⟨w,g⟩ hw
end
attribute [go_sem] beq_self_eq_true beq_iff_eq beq_true beq_false Int.toNat_natCast Int.natCast_nonneg Int.ofNat_lt Nat.zero_mul Nat.mul_one List.length_map Bool.not_eq_true Bool.not_not decide_not
inductive Fl (σ ρ:Type) where
 |nx (s:σ)
 |bk (s:σ)
 |br (k:Nat) (s:σ)
 |rt (r:ρ)
def ah {α β:Type}(x:Option α)(f:α->Option β):Option β:=match x with
 |some a=>f a
 |none=>none
theorem fX {α β:Type}{x:Option α}{f:α->Option β}{r:β}(h:ah x f=some r):∃a,x=some a/\f a=some r:=by
 cases x with
 |none=>cases h
 |some a=>exact ⟨a,rfl,h⟩
theorem iX {α:Type}{b:Bool}{x y:Option α}{r:α}(h:cond b x y=some r):(b=true/\x=some r)\/(b=false/\y=some r):=by
 cases b
 ·exact .inr ⟨rfl,h⟩
 ·exact .inl ⟨rfl,h⟩
def aG {σ ρ τ:Type}(o:Fl σ ρ)(f:σ->Option τ)(g:Nat->σ->Option τ)(h:ρ->Option τ):Option τ:=match o with
 | .nx s=>f s
 | .bk s=>f s
 | .br k s=>g k s
 | .rt r=>h r
def bg {σ ρ:Type}(f:σ->Option (Fl σ ρ)):Nat->σ->Option (Fl σ ρ)
 |0,_=>none
 |n+1,s=>ah (f s) fun o=>match o with
  | .nx s'=>bg f n s'
  | .bk s'=>some (.nx s')
  | .br k s'=>some (.br k s')
  | .rt r=>some (.rt r)
def bG {α σ ρ:Type}(f:Nat->α->σ->Option (Fl σ ρ)):Nat->List α->σ->Option (Fl σ ρ)
 |_,[],s=>some (.nx s)
 |i,x::l,s=>ah (f i x s) fun o=>match o with
  | .nx s'=>bG f (i+1) l s'
  | .bk s'=>some (.nx s')
  | .br k s'=>some (.br k s')
  | .rt r=>some (.rt r)
def fu:Nat:=1000000000000000000
def bw {α:Type}(l:List α)(i:Int):Option α:=if 0<=i then l[i.toNat]? else none
theorem cw {α:Type}{l:List α}{i:Int}{x:α}(h:bw l i=some x):0<=i/\i<l.length/\l[i.toNat]?=some x:=by
 unfold bw at h
 split at h
 ·rename_i h0
  obtain ⟨hi,_⟩:=List.getElem?_eq_some_iff.1 h
  exact ⟨h0,by omega,h⟩
 ·cases h
def cB {α:Type}(l xs:List α):Option (List α):=if l.length+xs.length<=1000000 then some (l++xs) else none
theorem cT {α:Type}{l xs r:List α}(h:cB l xs=some r):l.length+xs.length<=1000000/\r=l++xs:=by
 unfold cB at h
 split at h
 ·rename_i h0;cases h;exact ⟨h0,rfl⟩
 ·cases h
def eA {α:Type}(l:List α)(lo hi:Int):Option (List α):=if 0<=lo/\lo<=hi/\hi<=l.length then some ((l.take hi.toNat).drop lo.toNat) else none
theorem j9 {α:Type}{l r:List α}{lo hi:Int}(h:eA l lo hi=some r):0<=lo/\lo<=hi/\hi<=l.length/\r=(l.take hi.toNat).drop lo.toNat:=by
 unfold eA at h
 split at h
 ·rename_i h0;cases h;exact ⟨h0.1,h0.2.1,h0.2.2,rfl⟩
 ·cases h
def fK (a b:Int):Option Int:=if b=0 then none else some (IntKind.i64.wrap (a.tdiv b))
theorem mF {a b r:Int}(h:fK a b=some r):¬b=0/\IntKind.i64.wrap (a.tdiv b)=r:=by
 unfold fK at h
 split at h
 ·cases h
 ·rename_i h0;cases h;exact ⟨h0,rfl⟩
def eO (a b:Int):Option Int:=if b=0 then none else some (a.tmod b)
theorem iY {a b r:Int}(h:eO a b=some r):¬b=0/\a.tmod b=r:=by
 unfold eO at h
 split at h
 ·cases h
 ·rename_i h0;cases h;exact ⟨h0,rfl⟩
def rK (a b:Int):Option Int:=if b<0 then none else some (IntKind.i64.wrap (a*2 ^ min b.toNat 64))
theorem EG {a b r:Int}(h:rK a b=some r):¬b<0/\IntKind.i64.wrap (a*2 ^ min b.toNat 64)=r:=by
 unfold rK at h
 split at h
 ·cases h
 ·rename_i h0;cases h;exact ⟨h0,rfl⟩
def vD (a b:Int):Option Int:=if b<0 then none else some (a.fdiv (2 ^ min b.toNat 64))
theorem EH {a b r:Int}(h:vD a b=some r):¬b<0/\a.fdiv (2 ^ min b.toNat 64)=r:=by
 unfold vD at h
 split at h
 ·cases h
 ·rename_i h0;cases h;exact ⟨h0,rfl⟩
def Aa (a b:Int):Int:=IntKind.i64.wrap (BitVec.ofInt 64 a&&& BitVec.ofInt 64 b).toNat
theorem EI (a b:Int):IntKind.i64.wrap (BitVec.ofInt IntKind.i64.bits a&&& BitVec.ofInt IntKind.i64.bits b).toNat=Aa a b:=rfl
attribute [go_sem ↓] EI
def nS (a b:Int):Option Int:=if b<0 then none else some (a.fdiv (2 ^ min b.toNat IntKind.u8.bits))
theorem EJ {a b r:Int}(h:nS a b=some r):¬b<0/\a.fdiv (2 ^ min b.toNat IntKind.u8.bits)=r:=by
 unfold nS at h
 split at h
 ·cases h
 ·rename_i h0;cases h;exact ⟨h0,rfl⟩
def rM (a b:Int):Int:=IntKind.u8.wrap (BitVec.ofInt 8 a&&& BitVec.ofInt 8 b).toNat
theorem EK (a b:Int):IntKind.u8.wrap (BitVec.ofInt IntKind.u8.bits a&&& BitVec.ofInt IntKind.u8.bits b).toNat=rM a b:=rfl
attribute [go_sem ↓] EK
theorem cm {n:Nat}(h:n<1000000000000000):IntKind.i64.wrap ((n:Int)+1)=((n+1:Nat):Int):=by
 simp only[IntKind.wrap,IntKind.bits,IntKind.signed]
 simp
 omega
theorem c5 {α:Type}{l:List α}{i:Nat}{x:α}(h:l[i]?=some x):l.drop i=x::l.drop (i+1):=by
 obtain ⟨hi,rfl⟩:=List.getElem?_eq_some_iff.1 h
 exact List.drop_eq_getElem_cons hi
theorem cast_zero:((0:Nat):Int)=0:=rfl
attribute [go_sem] cast_zero
theorem EL (l:List Value)(i j:Nat):(l.toArray).extract i j=((l.drop i).take (j - i)).toArray:=by
 apply Array.ext'
 simp[List.extract_eq_drop_take]
attribute [go_sem] EL
structure bY (T:Type) where
 n:Nat
 rel:(Addr->Option Value)->T->List Value->Prop
 mono:∀{ro aK:Addr->Option Value} {x:T} {cs:List Value},Ext ro aK->rel ro x cs->rel aK x cs
 len:∀{ro:Addr->Option Value} {x:T} {cs:List Value},rel ro x cs->cs.length=n
 one:∀{ro:Addr->Option Value} {x:T} {cs:List Value},rel ro x cs->∀v∈cs,bC v=true
def iz {T:Type}(n:Nat)(c:T->List Value)(h:∀x,(c x).length=n)(h1:∀x,∀v∈c x,bC v=true):bY T:=
 ⟨n,fun _ x cs=>cs=c x,fun _ h=>h,fun e=>by rw[e];exact h _,fun e=>by rw[e];exact h1 _⟩
def rI:bY Int:=iz 1 (fun n=>[.int .i64 n]) (fun _=>rfl) (fun _ v a=>by simp at a;subst a;rfl)
def rB:bY Bool:=iz 1 (fun n=>[.bool n]) (fun _=>rfl) (fun _ v a=>by simp at a;subst a;rfl)
def aB {T:Type}(r:bY T)(ro:Addr->Option Value)(s:Value)(l:List T):Prop:=
 ∃ad cap,s= .slice ad l.length cap/\l.length<=cap/\l.length<=1000000000000000/\∀i x,l[i]?=some x->∃p cs,ad=some p/\r.rel ro x cs/\∀j v,cs[j]?=some v->ro ((p.add (i*r.n)).add j)=some v
theorem aB.mono {T:Type}{r:bY T}{ro aK:Addr->Option Value}{s:Value}{l:List T}(h:aB r ro s l)(a:Ext ro aK):aB r aK s l:=by
 obtain ⟨ad,cap,h1,h2,b,h3⟩:=h
 refine ⟨ad,cap,h1,h2,b,fun i x hi=>?_⟩
 obtain ⟨p,cs,hp,c,hm⟩:=h3 i x hi
 exact ⟨p,cs,hp,r.mono a c,fun j v d=>a _ _ (hm j v d)⟩
theorem aB.nil {T:Type}(r:bY T)(ro:Addr->Option Value):aB r ro (.slice none 0 0) []:=⟨none,0,rfl,Nat.le_refl _,by simp,fun i x h=>by simp at h⟩
def rL {T:Type}(r:bY T):bY (List T):=
 ⟨1,fun ro l cs=>∃s,cs=[s]/\aB r ro s l,fun b ⟨s,h1,h2⟩=>⟨s,h1,h2.mono b⟩,fun ⟨s,h1,_⟩=>by rw[h1];rfl,fun ⟨s,h1,ad,cap,h2,_⟩ v a=>by rw[h1] at a;simp at a;subst a;rw[h2];rfl⟩
theorem aB.part {T:Type}{r:bY T}{ro:Addr->Option Value}{ad:Option Addr}{cap:Nat}{l:List T}(h:aB r ro (.slice ad l.length cap) l)(lo hi:Nat)(h1:lo<=hi)(h2:hi<=l.length):
  aB r ro (.slice (if cap=lo then ad else ad.map (·.add (lo*r.n))) (hi - lo) (cap - lo)) ((l.take hi).drop lo):=by
 obtain ⟨g,k,e,h3,m,b⟩:=h
 cases e
 have hlen:((l.take hi).drop lo).length=hi - lo:=by simp;omega
 refine ⟨_,cap - lo,by rw[hlen],by rw[hlen];omega,by rw[hlen];omega,fun i x a=>?_⟩
 rw[List.getElem?_drop,List.getElem?_take] at a
 split at a
 case isFalse=>cases a
 obtain ⟨p,cs,hp,c,hm⟩:=b _ x a
 have o:lo+i<l.length:=(List.getElem?_eq_some_iff.1 a).1
 refine ⟨p.add (lo*r.n),cs,?_,c,fun j v d=>?_⟩
 ·have f:¬cap=lo:=by omega
  rw[if_neg f,hp];rfl
 ·have:=hm j v d
  rw[lf] at this
  rw[lf,lf]
  rw[show lo*r.n+(i*r.n+j)=(lo+i)*r.n+j by rw[Nat.add_mul];omega]
  exact this
def Apart (ks:List Nat)(aP:List (Nat×Obj)):Prop:=∀k∈keys aP,k∉ks
theorem Apart.nil (ks:List Nat):Apart ks []:=fun k h=>(by cases h)
theorem lp:∀{l:List (Nat×Obj)} {b:Nat},au l b->b∉keys l
 |[],_,_=>by simp[keys]
 |(c,o)::l,b,h=>by simp only[keys,List.map_cons,List.mem_cons,not_or];exact ⟨h.1,lp h.2⟩
theorem mG:∀{l:List (Nat×Obj)} {b:Nat},b∉keys l->au l b
 |[],_,_=>trivial
 |(c,o)::l,b,h=>by simp only[keys,List.map_cons,List.mem_cons,not_or] at h;exact ⟨h.1,mG h.2⟩
theorem Apart.push {ks:List Nat}{aP:List (Nat×Obj)}{b:Nat}(h:Apart ks aP)(hb:au aP b):Apart (b::ks) aP:=fun k a=>by
 simp only[List.mem_cons,not_or]
 exact ⟨fun e=>lp hb (e▸a),h k a⟩
theorem Apart.drop {ks:List Nat}{aP:List (Nat×Obj)}{b:Nat}(h:Apart (b::ks) aP):Apart ks aP:=fun k a=>(by have:=h k a;simp only[List.mem_cons,not_or] at this;exact this.2)
def aW {T:Type}(r:bY T)(ro:Addr->Option Value)(e:TypeId)(v:Value)(l:List T)(aP:List (Nat×Obj)):Prop:=
 ∃ls:List (List Value),Gr ro e r.n v ls aP/\ls.length=l.length/\l.length<=1000000/\∀(i:Nat) (x:T),l[i]?=some x->∃cs:List Value,ls[i]?=some cs/\r.rel ro x cs
theorem aW.nil {T:Type}(r:bY T)(ro:Addr->Option Value)(e:TypeId):aW r ro e (.slice none 0 0) [] []:=⟨[],.inl ⟨rfl,rfl,rfl⟩,rfl,by simp,fun i x h=>by simp at h⟩
theorem aW.len {T:Type}{r:bY T}{ro:Addr->Option Value}{e:TypeId}{v:Value}{l:List T}{aP:List (Nat×Obj)}(h:aW r ro e v l aP):∃ad cap,v= .slice ad l.length cap/\l.length<=cap:=by
 obtain ⟨ls,hg,a,-⟩:=h
 rcases hg with ⟨rfl,rfl,rfl⟩|⟨b,arr,cap,rfl,rfl,hs,hle,-⟩
 ·exact ⟨none,0,by rw[<-a];rfl,by rw[<-a];exact Nat.le_refl _⟩
 ·exact ⟨_,cap,by rw[a],by omega⟩
def aA (ro:Addr->Option Value)(own:List (Nat×Obj)):Prop:=∀b∈keys own,∀off sp,ro ⟨b,off,sp⟩=none
theorem aW.mono {T:Type}{r:bY T}{ro aK:Addr->Option Value}{e:TypeId}{v:Value}{l:List T}{aP:List (Nat×Obj)}(h:aW r ro e v l aP)(a:Ext ro aK)(hn:aA aK aP):aW r aK e v l aP:=by
 obtain ⟨ls,hg,c,hm,d⟩:=h
 refine ⟨ls,?_,c,hm,fun i x hi=>?_⟩
 ·rcases hg with h|⟨b,arr,cap,h1,h2,h3,f,g,j,k⟩
  ·exact .inl h
  ·exact .inr ⟨b,arr,cap,h1,h2,h3,f,g,j,hn b (by rw[h2];simp[keys])⟩
 ·obtain ⟨cs,h1,h2⟩:=d i x hi
  exact ⟨cs,h1,r.mono a h2⟩
theorem Apart.fresh {pre aP:List (Nat×Obj)}{ks:List Nat}(h:Apart ks aP)(a:keys pre=ks):∀k∈keys aP,au pre k:=fun k b=>mG (by rw[a];exact h k b)
theorem pV {n:Nat}:∀(ls:List (List Value)) (i:Nat) (cs:List Value),(∀x∈ls,x.length=n)->ls[i]?=some cs->∀j v,cs[j]?=some v->ls.flatten[i*n+j]?=some v
 |[],i,cs,_,h,_,_,_=>by simp at h
 |y::ls,0,cs,hn,h,j,v,a=>by
  simp at h;subst h
  have:j<y.length:=(List.getElem?_eq_some_iff.1 a).1
  simp only[Nat.zero_mul,Nat.zero_add,List.flatten_cons]
  rw[List.getElem?_append_left this]
  exact a
 |y::ls,i+1,cs,hn,h,j,v,a=>by
  simp at h
  have ih:=pV ls i cs (fun x c=>hn x (by simp[c])) h j v a
  have b:=hn y (by simp)
  simp only[List.flatten_cons]
  rw[List.getElem?_append_right (by rw[b,Nat.add_mul];omega)]
  rw[show (i+1)*n+j - y.length=i*n+j by rw[b,Nat.add_mul];omega]
  exact ih
theorem aW.Ab {T:Type}{r:bY T}{ro:Addr->Option Value}{e:TypeId}{v:Value}{l:List T}{aP:List (Nat×Obj)}{ks:List Nat}(h:aW r ro e v l aP)(pre:List (Nat×Obj))(k:Apart ks aP)(m:keys pre=ks)(hn:aA ro pre):
  ∃aK,Ext ro aK/\aA aK pre/\aB r aK v l/\Le ⟨aK,pre⟩ ⟨ro,pre++aP⟩:=by
 obtain ⟨ls,hg,d,hm,o⟩:=h
 rcases hg with ⟨rfl,rfl,rfl⟩|⟨b,arr,cap,rfl,rfl,hs,hle,ht,f,p⟩
 ·have:l=[]:=List.eq_nil_of_length_eq_zero (by simpa using d.symm)
  subst this
  exact ⟨ro,Ext.refl ro,hn,aB.nil r ro,by rw[List.append_nil];exact Le.refl _⟩
 ·have hb:b∉keys pre:=by rw[m];exact k b (by simp[keys])
  refine ⟨bO ro b (.cells arr e),gm _ _ _,fun c g off sp=>?_,⟨some ⟨b,0,none⟩,cap,by rw[d],by omega,by omega,fun i x hi=>?_⟩,j8 ?_ (List.sublist_append_left _ _) (mG hb)⟩
  ·have q:¬c=b:=fun e=>hb (e▸g)
   simp[bO,hn c g,q]
  ·obtain ⟨cs,h1,h2⟩:=o i x hi
   refine ⟨_,cs,rfl,r.mono (gm _ _ _) h2,fun j v s=>?_⟩
   have a:=pV ls i cs f h1 j v s
   rw[lf,lg,Nat.zero_add,iW p]
   have t:i*r.n+j<ls.length*r.n:=by
    have:=(List.getElem?_eq_some_iff.1 a).1
    rw[iy f] at this
    exact this
   rw[<-ht,List.getElem?_take_of_lt t] at a
   simpa [cellOf] using a
  ·have:∀(pre:List (Nat×Obj)),b∉keys pre->lk (pre++[(b,Obj.cells arr e)]) b=some (.cells arr e):=fun pre h=>vq (mG h)
   exact this pre hb
theorem aW.elem {T:Type}{r:bY T}{ro:Addr->Option Value}{e:TypeId}{v:Value}{l:List T}{aP:List (Nat×Obj)}(h:aW r ro e v l aP){i:Nat}{x:T}(hi:l[i]?=some x):
  ∃b arr cap cs,v= .slice (some ⟨b,0,none⟩) l.length cap/\aP=[(b,.cells arr e)]/\(∀off sp,ro ⟨b,off,sp⟩=none)/\r.rel ro x cs/\∀j v,cs[j]?=some v->arr[i*r.n+j]?=some v:=by
 obtain ⟨ls,hg,d,hm,f⟩:=h
 obtain ⟨cs,h1,h2⟩:=f i x hi
 rcases hg with ⟨rfl,rfl,rfl⟩|⟨b,arr,cap,rfl,rfl,hs,hle,ht,c,g⟩
 ·simp at h1
 ·refine ⟨b,arr,cap,cs,by rw[d],rfl,g,h2,fun j v k=>?_⟩
  have a:=pV ls i cs c h1 j v k
  have m:i*r.n+j<ls.length*r.n:=by
   have:=(List.getElem?_eq_some_iff.1 a).1
   rw[iy c] at this
   exact this
  rw[<-ht,List.getElem?_take_of_lt m] at a
  simpa using a
theorem aH {ro:Addr->Option Value}{own:List (Nat×Obj)}:Ext ro (af.cn ⟨ro,own⟩).ro:=fun a v h=>by simp[af.cn,af.get,h]
theorem cc {ro:Addr->Option Value}{own:List (Nat×Obj)}{F:af}(h:Knows ⟨ro,own⟩ F):Ext ro F.cn.ro:=fun a v b=>by
 have:F.ro a=some v:=h.1 a v b
 simp[af.cn,af.get,this]
theorem aB.kg {T:Type}{r:bY T}{ro:Addr->Option Value}{ad:Option Addr}{cap:Nat}{l x:List T}(h:aB r ro (.slice ad l.length cap) l)(lo hi:Nat)(h1:lo<=hi)(h2:hi<=l.length)(b:x=(l.take hi).drop lo):
  ∃a,(if cap=lo then ad else ad.map (·.add (lo*r.n)))=a/\hi - lo=x.length/\aB r ro (.slice a x.length (cap - lo)) x:=by
 subst b
 have hlen:((l.take hi).drop lo).length=hi - lo:=by simp;omega
 refine ⟨_,rfl,hlen.symm,?_⟩
 rw[hlen]
 exact h.part lo hi h1 h2
theorem aB.one {T:Type}{r:bY T}{ro:Addr->Option Value}{own:List (Nat×Obj)}{b:Nat}{x:T}{cs:Array Value}{e:TypeId}(a:∀off sp,ro ⟨b,off,sp⟩=none)(d:lk own b=some (.cells cs e))(h:r.rel ro x cs.toList):
  aB r (bO ro b (.cells cs e)) (.slice (some ⟨b,0,none⟩) 1 1) [x]:=by
 refine ⟨some ⟨b,0,none⟩,1,rfl,Nat.le_refl _,by simp,fun i y hi=>?_⟩
 have:i=0/\y=x:=by
  cases i with
  |zero=>simp at hi;exact ⟨rfl,hi.symm⟩
  |succ i=>simp at hi
 obtain ⟨rfl,rfl⟩:=this
 refine ⟨_,_,rfl,r.mono (gm _ _ _) h,fun j v c=>?_⟩
 rw[Nat.zero_mul,add_zero',lg,Nat.zero_add,iW a]
 simpa [cellOf] using c
theorem aB.flat {T:Type}{r:bY T}{ro:Addr->Option Value}{b:Nat}{cs:Array Value}{e:TypeId}(c:T->List Value)(l:List T)(a:∀x,r.rel ro x (c x))(d:∀off sp,ro ⟨b,off,sp⟩=none)(f:cs.toList=(l.map c).flatten)(hlen:l.length<=1000000000000000):
  aB r (bO ro b (.cells cs e)) (.slice (some ⟨b,0,none⟩) l.length l.length) l:=by
 refine ⟨some ⟨b,0,none⟩,l.length,rfl,Nat.le_refl _,hlen,fun i x hi=>⟨_,c x,rfl,r.mono (gm _ _ _) (a x),fun j v g=>?_⟩⟩
 have h1:(l.map c)[i]?=some (c x):=by rw[List.getElem?_map,hi];rfl
 have hn:∀y∈l.map c,y.length=r.n:=fun y h=>by
  obtain ⟨z,_,rfl⟩:=List.mem_map.1 h
  exact r.len (a z)
 have:=pV (l.map c) i (c x) hn h1 j v g
 rw[lg,lg,Nat.zero_add,iW d]
 rw[<-f] at this
 simpa [cellOf] using this
theorem ki {ro:Addr->Option Value}{own:List (Nat×Obj)}{b:Nat}{o:Obj}(e:lk own b=some o):Ext (bO ro b o) (af.cn ⟨ro,own⟩).ro:=fun a v h=>by
 unfold bO at h
 simp only[af.cn,af.get]
 split at h
 ·rename_i x c;rw[c];exact h
 ·rename_i c
  split at h
  ·rename_i d
   rw[c]
   simp only
   rw[if_pos d.2,d.1,e]
   exact h
  ·cases h
section
variable {P : Program} {main : Bool} {J : Goroutine → af → Prop}
theorem g5 (hJ:Closed P main J){f:FuncId}{args:Array Value}{F F':af}{K:Value->af->Prop}(hle:Le F F')(h:cL P J f args F K):cL P J f args F' K:=fun c cs k=>hJ.mono hle (h c cs k)
end
theorem aW.bd {T:Type}{r:bY T}{ro:Addr->Option Value}{e:TypeId}{v:Value}{l:List T}{aP:List (Nat×Obj)}(h:aW r ro e v l aP):l.length<=1000000:=by
 obtain ⟨ls,_,_,hm,_⟩:=h
 exact hm
theorem aC.Ab {P:Program}{f:FuncId}{args:Array Value}{ro:Addr->Option Value}{R:Value->Prop}(h:aC P f args ⟨ro,[]⟩ (fun v _=>R v)):aC P f args ⟨ro,[]⟩ (fun v G=>R v/\G=⟨ro,[]⟩):=by
 intro main J hJ c cs b
 exact pG (F:=⟨ro,[]⟩) (R:=R) (by
  have e:af.cn ⟨ro,[]⟩=⟨ro,[]⟩:=by
   simp only[af.cn,af.mk.injEq,and_true]
   funext a
   simp only[af.get]
   cases ro a with
   |none=>simp[lk]
   |some v=>rfl
  rw[e];exact h) main J hJ c cs b
end Go.Sep
end
section
namespace Go.Sep
open Go Go.Conc Go.ConcM
open Go.ConcN (sumTo upd sumTo_upd upd_ne upd_same)
def dY (P:Program)(Φ:Goroutine->af->Prop)(g:Goroutine)(F:af):Prop:=
 ∀(bq:Loc->Prop) (gs:Array Goroutine) (w:World) (sl:Option (Nat×Nat)) (t:Trace) (q:Nat->Nat),jz P bq g F gs w t q->
  ∃(N:Nat) (bQ:Array Goroutine) (w':World) (c:Option (Nat×Nat)) (a:Trace) (d:Nat->Nat) (g':Goroutine) (F':af) (b:Loc->Prop),
   runNT P N (crowd gs w sl) t=(.next (crowd bQ w' c),a)/\jz P b g' F' bQ w' a d/\fe F F' w w'/\(∀l,b l->bq l\/¬l.low w.heap.size)/\Φ g' F'
theorem dY.done {P:Program}{Φ:Goroutine->af->Prop}{g:Goroutine}{F:af}(h:Φ g F):dY P Φ g F:=
 fun bq gs w sl t q a=>⟨0,gs,w,sl,t,q,g,F,bq,rfl,a,.refl _ _,fun _ h=>.inl h,h⟩
theorem pW (P:Program)(Φ:Goroutine->af->Prop):Closed P true (dY P Φ) where
 mono hle h bq gs w sl t q b:=by
  obtain ⟨N,bQ,w',u,v,z,g',F',A,g,B,hu,C,hp⟩:=h bq gs w sl t q ⟨b.g0,b.lv,b.fH,hle.has w b.has,fun l hs D=>b.apart l hs (hle.gG D),b.low⟩
  exact ⟨N,bQ,w',u,v,z,g',F',A,g,B,hu.le hle,C,hp⟩
 step {fr cs F} h bq gs w sl t q b:=by
  obtain ⟨N,k,d,m,ar,n,t1,E,g,a0,h0,p,H,I⟩:=q6 (P:=P) (a:=G fr cs) rfl _ gs w sl t q (Nat.le_refl _) b.g0 b.lv b.fH
  obtain ⟨g',w',es,F',hgo,hu,J,K,hJ⟩:=h (w.at m) (b.has.at m)
  have c:dK F F' w w':=⟨hu.os,hu.tape,hu.output,hu.size,hu.frame,hu.ro,hu.own⟩
  have L:=runT_crowd_go (P:=P) (sl:=n) (i:=0) h0 (show stepG P (0==0) (G fr cs) (w.at m)=_ from hgo)
  have M:0<k.size:=(Array.getElem?_eq_some_iff.1 h0).1
  have r:=jz.next (P:=P) b.apart b.low c
  obtain ⟨O,Q,w2,R,t2,S,T,U,V,W,X,Y,Z,ab⟩:=hJ bq ((k.map (woken P (G fr cs) g' w')).setIfInBounds 0 g') w' n (t1++MemOp.ofEvents 0 (G fr cs).frame.fn (G fr cs).frame.place es) E
   {g0:=by simp[M]
    lv:=⟨fun j x f s=>by
     have ad:0≠j:=by omega
     rw[Array.getElem?_setIfInBounds_ne ad,Array.getElem?_map] at s
     obtain ⟨y,ae,rfl⟩:=Option.map_eq_some_iff.1 s
     have hq:=p.old j y f ae
     rw[woken_quitsD hq,Deaf_other t1 (by omega) _ (fun op o=>by obtain ⟨e,_,rfl⟩:=Go.Conc.mem_ofEvents o;rfl)]
     exact hq,fun j f=>by
     rw[Deaf_other t1 (g':=0) (by simp at f;omega) _ (fun op o=>by obtain ⟨e,_,rfl⟩:=Go.Conc.mem_ofEvents o;rfl)]
     exact p.above j (by simpa using f)⟩
    fH:=(H.mono c.size).own fun e he=>zE b.has c.size b.apart b.low (K e he)
    has:=J
    apart:=r.1
    low:=r.2}
  refine ⟨N+1+O,Q,w2,R,t2,S,T,U,V,?_,X,(fe.pF c).trans Y,fun l al=>(Z l al).imp id fun hn ao=>hn (Loc.low_mono c.size ao),ab⟩
  have:runNT P (N+1) (crowd gs w sl) t=(.next (crowd ((k.map (woken P (G fr cs) g' w')).setIfInBounds 0 g') w' n),t1++MemOp.ofEvents 0 (G fr cs).frame.fn (G fr cs).frame.place es):=by
   rw[runNT_add,g]
   simp only[runNT,I,L]
  rw[jA this]
  exact W
def fL (P:Program)(f:FuncId)(args:Array Value)(F:af)(R:Value->af->Prop):Prop:=∀Φ,cL P (dY P Φ) f args F R
theorem Ac {P:Program}{f:FuncId}{args:Array Value}{ro:Addr->Option Value}{own:List (Nat×Obj)}{R:Value->af->Prop}(h:fL P f args ⟨ro,[]⟩ R):
  fL P f args ⟨ro,own⟩ (fun v F'=>∃G,R v G/\F'=G.star ⟨ro,own⟩/\Fits ⟨ro,own⟩ G/\mE ⟨ro,own⟩ G):=by
 intro Φ c cs E bq gs w sl t q d
 let Fr:af:=⟨ro,own⟩
 have F:jz P bq (G (Frame.enter P f args .normal) (c::cs)) ⟨ro,[]⟩ gs w t q:=
  ⟨d.g0,d.lv,d.fH,⟨d.has.ro,fun b o hb=>(by cases hb),List.nodup_nil,fun a v j hm=>(by cases hm)⟩,fun l hs i=>d.apart l hs (by
   cases l with
   |cell a=>exact i.elim (fun x=>by cases x) .inr
   |obj r=>cases i
   |_=>exact i),d.low⟩
 obtain ⟨N,bQ,w',H,s,u,g',F',A,j,g,hu,n,v,rfl,p⟩:=h (fun g' F'=>∃v,g'=G (c.finish v) cs/\R v F') c cs (fun v F' p=>dY.done ⟨v,rfl,p⟩) bq gs w sl t q F
 have B:Has Fr w':=⟨fun a v j=>by
  have h0:=d.has.ro a v j
  have I:=d.has.gY (a:=a) (by rw[j];rfl)
  unfold World.cell? at h0 ⊢
  rw[hu.frame _ I (fun hm=>by cases hm)]
  exact h0,fun b o hb=>by
  rw[hu.frame b (d.has.lt (eW hb)) (fun hm=>by cases hm)]
  exact d.has.own b o hb,d.has.nodup,d.has.apart⟩
 have C:Fits Fr F':=⟨⟨w',g.has,B⟩,fun b hb hm=>by
  rcases hu.own b hb with x|x
  ·cases x
  ·have:=d.has.lt (b:=b) hm;omega,fun a k hm=>by
  rcases hu.own _ hm with x|x
  ·cases x
  ·have:=d.has.gY (a:=a) k;omega⟩
 have J:mE Fr F':=fun a k hm=>by
  rcases hu.ro a k with x|x|x
  ·obtain ⟨y,K⟩:=Option.isSome_iff_exists.1 x
   exact d.has.apart a y K hm
  ·cases x
  ·have:=d.has.lt (b:=a.block) hm;omega
 have L:jz P A (G (c.finish v) cs) (F'.star Fr) bQ w' s u:=by
  refine ⟨g.g0,g.lv,g.fH,C.both g.has B,fun l hs i=>?_,g.low⟩
  have D:∀b,b∈keys own->(l= .obj b\/∃a,l= .cell a/\a.block=b)->False:=fun b hb m=>by
   rcases n l hs with x|x
   ·refine d.apart l x ?_
    rcases m with rfl|⟨a,rfl,e⟩
    ·exact hb
    ·exact .inl (e▸hb)
   ·refine x ?_
    have:=d.has.lt (b:=b) hb
    rcases m with rfl|⟨a,rfl,e⟩
    ·exact this
    ·show a.block<_;rw[e];exact this
  cases l with
  |cell a=>
   rcases i with x|x
   ·simp only[af.star,cj,List.mem_append] at x
    rcases x with x|x
    ·exact g.apart _ hs (.inl x)
    ·exact D _ x (.inr ⟨a,rfl,rfl⟩)
   ·rcases j3 x with y|y
    ·rcases n _ hs with z|z
     ·exact d.apart _ z (.inr y)
     ·exact z (d.has.gY (a:=a) y)
    ·exact g.apart _ hs (.inr y)
  |obj r=>
   simp only[af.gG,af.star,cj,List.mem_append] at i
   rcases i with x|x
   ·exact g.apart _ hs x
   ·exact D _ x (.inl rfl)
  |_=>exact i
 obtain ⟨M,O,w2,Q,t2,S,T,U,V,W,X,Y,Z,ab⟩:=E v (F'.star Fr) ⟨F',p,rfl,C,J⟩ A bQ w' H s u L
 have ad:fe ⟨ro,own⟩ (F'.star Fr) w w':=⟨hu.os,hu.tape,hu.output,hu.size,fun b hb hn=>hu.frame b hb (fun x=>by cases x),fun a k=>by
  rcases j3 k with y|y
  ·exact .inl y
  ·rcases hu.ro a y with z|z|z
   ·exact .inl z
   ·cases z
   ·exact .inr (.inr z),fun b hb=>by
  simp only[af.star,cj,List.mem_append] at hb
  rcases hb with x|x
  ·rcases hu.own b x with y|y
   ·cases y
   ·exact .inr y
  ·exact .inl x⟩
 exact ⟨N+M,O,w2,Q,t2,S,T,U,V,by rw[jA j];exact W,X,ad.trans Y,fun l m=>(Z l m).elim (n l) fun hn=>.inr fun ae=>hn (Loc.low_mono hu.size ae),ab⟩
theorem fL.go {P:Program}{f:FuncId}{fn:Func}{c:Code}{n:Nat}{rs:List ResultVar}{args:Array Value}{F:af}{R:Value->af->Prop}(d:P.funcs[f]?=some fn)(hb:fn.body=some c)(hn:fn.ntmps=n)(g:fn.results=rs.toArray)(k:args.size<=n)
  (h:∀Φ,Closed P true (dY P Φ)->∀A:Act,sz A=n->A.defers=[]->(∀i,slot A i=args.getD i undef)->Wp (dY P Φ) c (iT P rs R) A F):fL P f args F R:=fun Φ=>by
 refine cL.of_wp (pW P Φ) d hb ?_
 refine (h Φ (pW P Φ) _ (by simp[sz,hn];omega) rfl fun i=>?_).mono fun e a F hq=>?_
 ·simp only[slot,hn,Array.getD_eq_getD_getElem?]
  rcases Nat.lt_or_ge i args.size with hi|hi
  ·rw[Array.getElem?_append_left hi]
  ·rw[Array.getElem?_append_right hi,Array.getElem?_replicate,Array.getElem?_eq_none hi]
   split<;>rfl
 ·cases e with
  |exit i=>exact hq
  |_=>
   obtain ⟨hd,b⟩:=hq
   split at b
   ·rename_i v j
    show iw P a.defers _ F
    rw[hd]
    exact rE g j b
   ·exact b.elim
def pX (P:Program)(f:FuncId)(args:Array Value)(ro:Addr->Option Value)(R:Value->(Addr->Option Value)->Prop):Prop:=
 fL P f args ⟨ro,[]⟩ (fun v G=>∃aK,Ext ro aK/\Le ⟨aK,[]⟩ G/\R v aK)
theorem EM {P:Program}{Φ:Goroutine->af->Prop}{f:FuncId}{args:Array Value}{ro:Addr->Option Value}{own:List (Nat×Obj)}{K:Value->af->Prop}(R:Value->(Addr->Option Value)->Prop)
  (h:pX P f args ro R) (k:∀v aK,Ext ro aK->(∀b∈keys own,∀off sp,aK ⟨b,off,sp⟩=none)->R v aK->K v ⟨aK,own⟩):cL P (dY P Φ) f args ⟨ro,own⟩ K:=by
 intro c cs l
 refine Ac (own:=own) h Φ c cs fun v F' m=>?_
 obtain ⟨G,⟨aK,n,hle,o⟩,rfl,e,hn⟩:=m
 have i:∀a,(aK a).isSome=true->a.block∉keys own:=fun a g=>(hle.ro a g).elim (hn a) (e.own _)
 refine (pW P Φ).mono (F:=⟨aK,own⟩) ⟨fun w hw=>?_,fun b hb=>?_,fun a g=>?_⟩ (l v ⟨aK,own⟩ (k v aK n (fun b hb off sp=>?_) o))
 ·have p:=hle.has w (e.right hw)
  have j:=e.left hw
  exact ⟨p.ro,j.own,j.nodup,fun a v d=>i a (by simp only at d;simp[d])⟩
 ·simp only[af.star,cj,List.mem_append];exact .inr hb
 ·rcases hle.ro a g with x|x
  ·exact (gH (.inr x)).imp id (fun z=>by simp only[af.star,cj,List.mem_append];exact .inr z)
  ·exact .inr (by simp only[af.star,cj,List.mem_append];exact .inl x)
 ·cases d:aK ⟨b,off,sp⟩ with
  |none=>rfl
  |some v=>exact absurd hb (i ⟨b,off,sp⟩ (by simp[d]))
theorem e6 {P:Program}{Φ:Goroutine->af->Prop}{f:FuncId}{args:Array Value}{ro:Addr->Option Value}{own:List (Nat×Obj)}{K:Value->af->Prop}(v:Value)
  (h:fL P f args ⟨ro,[]⟩ (fun d _=>d=v)) (e:K v ⟨ro,own⟩):cL P (dY P Φ) f args ⟨ro,own⟩ K:=by
 intro c cs g
 refine Ac (own:=own) h Φ c cs fun d F' i=>?_
 obtain ⟨G,rfl,rfl,j,hn⟩:=i
 refine (pW P Φ).mono (F:=⟨ro,own⟩) ⟨fun w hw=>j.left hw,fun b hb=>?_,fun a k=>?_⟩ (g d ⟨ro,own⟩ e)
 ·simp only[af.star,cj,List.mem_append];exact .inr hb
 ·exact (gH (.inl k)).imp id (fun z=>by simp only[af.star,cj,List.mem_append];exact .inr z)
end Go.Sep
end
section
namespace Go.Sep
open Go Go.Conc Go.ConcM
def Ad (P:Program)(R:Value->af->Prop)(g:Goroutine)(F:af):Prop:=
 ∃(fr:Frame) (fn:Func) (t:Nat) (v:Value),g=G fr []/\fr.kind= .normal/\P.inits.idxOf? fr.fn=none/\fr.mode= .returning/\fr.defers=[]/\P.funcs[fr.fn]?=some fn/\fn.results=#[.tmp t]/\fr.tmps.getD t undef=v/\R v F
def fY (P:Program)(f:FuncId)(args:Array Value)(F:af)(R:Value->af->Prop):Prop:=
 ∀Φ:Goroutine->af->Prop,(∀g F',Ad P R g F'->Φ g F')->dY P Φ (G (Frame.enter P f args .normal) []) F
theorem fY.go {P:Program}{f:FuncId}{fn:Func}{c:Code}{n t:Nat}{args:Array Value}{F:af}{R:Value->af->Prop}(d:P.funcs[f]?=some fn)(hb:fn.body=some c)(hn:fn.ntmps=n)(k:fn.results=[.tmp t].toArray)(q:args.size<=n)(hi:P.inits.idxOf? f=none)
  (h:∀Φ,Closed P true (dY P Φ)->∀A:Act,sz A=n->A.defers=[]->(∀i,slot A i=args.getD i undef)->Wp (dY P Φ) c (iT P [.tmp t] R) A F):fY P f args F R:=by
 intro Φ l
 have hJ:=pW P Φ
 let b:Frame:={(default:Frame) with fn:=f,kind:=.normal}
 have m:Frame.enter P f args .normal=on b {tmps:=args++Array.replicate (fn.ntmps - args.size) undef,defers:=[]} [.code c]:=by
  simp[Frame.enter,on,d,hb,b]
  rfl
 rw[m]
 have g:∀(a:Act) (F':af) (fr:Frame),fr.kind= .normal->fr.mode= .returning->fr.defers=a.defers->fr.fn=f->fr.tmps=a.tmps->iT P [.tmp t] R .normal a F'->dY P Φ (G fr []) F':=by
  intro a F' fr h0 h1 h2 h3 o hq
  obtain ⟨hd,p⟩:=hq
  refine dY.done (l _ _ ⟨fr,fn,t,_,rfl,h0,by rw[h3];exact hi,h1,by rw[h2,hd],by rw[h3];exact d,k,rfl,?_⟩)
  rw[o]
  simpa [mB,mA,pQ,slot] using p
 refine h Φ hJ _ (by simp[sz,hn];omega) rfl (fun i=>?_) b [] [] ⟨by simp[b],.inl rfl⟩ fun e j F' hq=>?_
 ·simp only[slot,hn,Array.getD_eq_getD_getElem?]
  rcases Nat.lt_or_ge i args.size with hi|hi
  ·rw[Array.getElem?_append_left hi]
  ·rw[Array.getElem?_append_right hi,Array.getElem?_replicate,Array.getElem?_eq_none hi]
   split<;>rfl
 ·cases e with
  |normal=>exact hJ.move (fun _=>me rfl) (g j F' _ rfl rfl rfl rfl rfl hq)
  |exit i=>exact hq.elim
  |ret=>exact fun r=>hJ.move (fun _=>stepG_ret' rfl) (g j F' _ rfl rfl rfl rfl rfl hq)
theorem fY.ends {P:Program}{f:FuncId}{args:Array Value}{F:af}{R:Value->af->Prop}(h:fY P f args F R){W:World}(i:Has F W){a:Value->World->Prop}
  (hp:∀v F' w',R v F'->fe F F' W w'->a v w'):
  ∃M last o w' b,runNT P (M+1) (solo (G (Frame.enter P f args .normal) []) W) #[]=(.ended o w',b)/\runN P M (solo (G (Frame.enter P f args .normal) []) W)= .next last/\step P last= .ended o w'/\Go.Conc.Good P a last o w' b:=by
 obtain ⟨N,bQ,w',j,b,w,g',F',k,g,c,hu,_,fr,fn,t,v,rfl,l,hi,h1,h2,h3,m,n,p⟩:=h (Ad P R) (fun _ _ x=>x) (fun _=>False) #[G (Frame.enter P f args .normal) []] W none #[] (fun _=>0)
  ⟨rfl,leavers_one P _,past_nil.mono (Nat.zero_le _),i,fun _ x=>x.elim,fun _ x=>x.elim⟩
 have hg:Goes P true AtRel (fun _ _ _=>False) (AtEnd P k w'.heap.size a) 0 (G fr []) w':=by
  refine Goes.stop fun y ⟨d,hd⟩=>?_
  subst hd
  refine ⟨rfl,v,seen P fr.fn #[],?_,fun e he=>?_,hp v F' _ p ⟨hu.os,hu.tape,hu.output,hu.size,hu.frame,hu.ro,hu.own⟩⟩
  ·have q:fr.tmps[t]?.getD undef=v:=by rw[<-n,Array.getD_eq_getD_getElem?]
   simp[G,stepG,unwind,h1,h2,h3,results,m,q,doReturn,GStep.after,Sem.runT,l,hi]
  ·exact absurd (mem_seen he) (by simp)
 obtain ⟨r,last,o,w2,t2,e1,e2,s,u⟩:=beside_ends (sl:=j) (fun _ _ _ x=>x.elim) c.g0 c.lv c.fH hg
 refine ⟨N+r,last,o,w2,t2,?_,?_,s,u⟩
 ·rw[solo_eq_crowd,Nat.add_assoc,jA g,e1]
 ·rw[solo_eq_crowd,runN_add]
  have:=runNT_fst P N (crowd #[G (Frame.enter P f args .normal) []] W none) #[]
  rw[g] at this
  rw[<-this]
  exact e2
end Go.Sep
end
section
namespace Go.Proofs.YtjepffnffjdloaaGreatDoor
open Go Go.Sep Go.Proofs
set_option maxRecDepth 100000
theorem mixed:Tryz.prog.follows .mixedOrders=true:=by kernel_rfl
@[go_sem] theorem Ms:cv Tryz.prog 3=some false:=by kernel_rfl
@[go_sem] theorem iZ:bW Tryz.prog 3=some 1:=by kernel_rfl
theorem ja:bytesOf Tryz.prog 3=some 8:=by kernel_rfl
@[go_sem] theorem jb:zeroOf Tryz.prog 3=some (.int .i64 0):=by kernel_rfl
@[go_sem] theorem Mt:cv Tryz.prog 4=some false:=by kernel_rfl
@[go_sem] theorem Ae:bW Tryz.prog 4=some 1:=by kernel_rfl
@[go_sem] theorem EN:zeroOf Tryz.prog 4=some (.bool false):=by kernel_rfl
@[go_sem] theorem Mv:vl Tryz.prog 4=true:=by kernel_rfl
@[go_sem] theorem Mw:cv Tryz.prog 23=some true:=by kernel_rfl
@[go_sem] theorem EO:bW Tryz.prog 23=some 2:=by kernel_rfl
theorem EP:bytesOf Tryz.prog 23=some 16:=by kernel_rfl
@[go_sem] theorem Af:zeroOf Tryz.prog 23=some (.agg #[.int .i64 0,.int .i64 0]):=by kernel_rfl
@[go_sem] theorem Mx:nM Tryz.prog 23=some [true,true]:=by kernel_rfl
@[go_sem] theorem My:cG Tryz.prog 23 0=some 0:=by kernel_rfl
@[go_sem] theorem Mz:cG Tryz.prog 23 1=some 1:=by kernel_rfl
@[go_sem] theorem MA:placesOf Tryz.prog 23=some [(0,1),(1,1)]:=by kernel_rfl
@[go_sem] theorem MB:cv Tryz.prog 24=some false:=by kernel_rfl
@[go_sem] theorem MC:bW Tryz.prog 24=some 1:=by kernel_rfl
@[go_sem] theorem MD:j6 Tryz.prog 24=true:=by kernel_rfl
@[go_sem] theorem lq:cW Tryz.prog 24=some 45:=by kernel_rfl
@[go_sem] theorem ME:cv Tryz.prog 25=some false:=by kernel_rfl
@[go_sem] theorem MF:bW Tryz.prog 25=some 1:=by kernel_rfl
@[go_sem] theorem MG:j6 Tryz.prog 25=true:=by kernel_rfl
@[go_sem] theorem lu:cW Tryz.prog 25=some 132:=by kernel_rfl
@[go_sem] theorem MH:cv Tryz.prog 26=some false:=by kernel_rfl
@[go_sem] theorem MI:bW Tryz.prog 26=some 1:=by kernel_rfl
@[go_sem] theorem MJ:j6 Tryz.prog 26=true:=by kernel_rfl
@[go_sem] theorem Ah:cW Tryz.prog 26=some 130:=by kernel_rfl
@[go_sem] theorem MK:cv Tryz.prog 27=some false:=by kernel_rfl
@[go_sem] theorem ML:bW Tryz.prog 27=some 1:=by kernel_rfl
@[go_sem] theorem MM:j6 Tryz.prog 27=true:=by kernel_rfl
@[go_sem] theorem dQ:cW Tryz.prog 27=some 91:=by kernel_rfl
@[go_sem] theorem MN:cv Tryz.prog 29=some true:=by kernel_rfl
@[go_sem] theorem MO:bW Tryz.prog 29=some 8:=by kernel_rfl
@[go_sem] theorem MP:zeroOf Tryz.prog 29=some (.agg #[.int .i64 0,.int .i64 0,.int .i64 0,.int .i64 0,.slice none 0 0,.slice none 0 0,.slice none 0 0,.slice none 0 0]):=by kernel_rfl
@[go_sem] theorem MQ:cG Tryz.prog 29 0=some 0:=by kernel_rfl
@[go_sem] theorem MR:cG Tryz.prog 29 1=some 1:=by kernel_rfl
@[go_sem] theorem MS:cG Tryz.prog 29 2=some 2:=by kernel_rfl
@[go_sem] theorem MT:cG Tryz.prog 29 3=some 4:=by kernel_rfl
@[go_sem] theorem MU:cG Tryz.prog 29 4=some 5:=by kernel_rfl
@[go_sem] theorem MV:cG Tryz.prog 29 5=some 6:=by kernel_rfl
@[go_sem] theorem MW:cG Tryz.prog 29 6=some 7:=by kernel_rfl
@[go_sem] theorem MX:placesOf Tryz.prog 29=some [(0,1),(1,1),(2,2),(4,1),(5,1),(6,1),(7,1)]:=by kernel_rfl
@[go_sem] theorem MY:cv Tryz.prog 33=some true:=by kernel_rfl
@[go_sem] theorem MZ:bW Tryz.prog 33=some 2:=by kernel_rfl
@[go_sem] theorem M0:zeroOf Tryz.prog 33=some (.agg #[.int .i64 0,.int .i64 0]):=by kernel_rfl
@[go_sem] theorem M1:cG Tryz.prog 33 0=some 0:=by kernel_rfl
@[go_sem] theorem M3:cG Tryz.prog 33 1=some 1:=by kernel_rfl
@[go_sem] theorem M4:placesOf Tryz.prog 33=some [(0,1),(1,1)]:=by kernel_rfl
@[go_sem] theorem M5:cv Tryz.prog 45=some true:=by kernel_rfl
@[go_sem] theorem rN:bW Tryz.prog 45=some 2:=by kernel_rfl
theorem rO:bytesOf Tryz.prog 45=some 16:=by kernel_rfl
@[go_sem] theorem mH:zeroOf Tryz.prog 45=some (.agg #[.int .i64 0,.int .i64 0]):=by kernel_rfl
@[go_sem] theorem M6:cG Tryz.prog 45 0=some 0:=by kernel_rfl
@[go_sem] theorem M7:cG Tryz.prog 45 1=some 1:=by kernel_rfl
@[go_sem] theorem M8:placesOf Tryz.prog 45=some [(0,1),(1,1)]:=by kernel_rfl
@[go_sem] theorem M9:cv Tryz.prog 64=some false:=by kernel_rfl
@[go_sem] theorem rP:bW Tryz.prog 64=some 1:=by kernel_rfl
theorem rQ:bytesOf Tryz.prog 64=some 24:=by kernel_rfl
@[go_sem] theorem rR:zeroOf Tryz.prog 64=some (.slice none 0 0):=by kernel_rfl
@[go_sem] theorem Na:j6 Tryz.prog 64=true:=by kernel_rfl
@[go_sem] theorem eK:cW Tryz.prog 64=some 3:=by kernel_rfl
@[go_sem] theorem Nb:cv Tryz.prog 91=some true:=by kernel_rfl
@[go_sem] theorem g6:bW Tryz.prog 91=some 2:=by kernel_rfl
theorem g7:bytesOf Tryz.prog 91=some 16:=by kernel_rfl
@[go_sem] theorem g8:zeroOf Tryz.prog 91=some (.agg #[.int .i64 0,.bool false]):=by kernel_rfl
@[go_sem] theorem Nc:cG Tryz.prog 91 0=some 0:=by kernel_rfl
@[go_sem] theorem Nf:cG Tryz.prog 91 1=some 1:=by kernel_rfl
@[go_sem] theorem Ng:placesOf Tryz.prog 91=some [(0,1),(1,1)]:=by kernel_rfl
@[go_sem] theorem Nh:cv Tryz.prog 95=some true:=by kernel_rfl
@[go_sem] theorem Ni:bW Tryz.prog 95=some 2:=by kernel_rfl
@[go_sem] theorem Nj:zeroOf Tryz.prog 95=some (.agg #[.int .i64 0,.int .i64 0]):=by kernel_rfl
@[go_sem] theorem Nk:cG Tryz.prog 95 0=some 0:=by kernel_rfl
@[go_sem] theorem Nl:cG Tryz.prog 95 1=some 1:=by kernel_rfl
@[go_sem] theorem Nm:placesOf Tryz.prog 95=some [(0,1),(1,1)]:=by kernel_rfl
@[go_sem] theorem Nn:cv Tryz.prog 99=some true:=by kernel_rfl
@[go_sem] theorem No:bW Tryz.prog 99=some 8:=by kernel_rfl
@[go_sem] theorem Np:zeroOf Tryz.prog 99=some (.agg #[.int .i64 0,.int .i64 0,.int .i64 0,.int .i64 0,.slice none 0 0,.slice none 0 0,.slice none 0 0,.slice none 0 0]):=by kernel_rfl
@[go_sem] theorem Nq:cG Tryz.prog 99 0=some 0:=by kernel_rfl
@[go_sem] theorem Nr:placesOf Tryz.prog 99=some [(0,8)]:=by kernel_rfl
@[go_sem] theorem Ns:cv Tryz.prog 102=some false:=by kernel_rfl
@[go_sem] theorem Nt:bW Tryz.prog 102=some 1:=by kernel_rfl
@[go_sem] theorem Nu:zeroOf Tryz.prog 102=some .nilFunc:=by kernel_rfl
@[go_sem] theorem Nv:cv Tryz.prog 103=some true:=by kernel_rfl
@[go_sem] theorem ER:bW Tryz.prog 103=some 2:=by kernel_rfl
theorem ES:bytesOf Tryz.prog 103=some 16:=by kernel_rfl
@[go_sem] theorem ET:zeroOf Tryz.prog 103=some (.agg #[.int .i64 0,.int .i64 0]):=by kernel_rfl
@[go_sem] theorem Nw:nM Tryz.prog 103=some [true,true]:=by kernel_rfl
@[go_sem] theorem Ny:cG Tryz.prog 103 0=some 0:=by kernel_rfl
@[go_sem] theorem Nz:cG Tryz.prog 103 1=some 1:=by kernel_rfl
@[go_sem] theorem NA:placesOf Tryz.prog 103=some [(0,1),(1,1)]:=by kernel_rfl
@[go_sem] theorem NB:cv Tryz.prog 105=some true:=by kernel_rfl
@[go_sem] theorem NC:bW Tryz.prog 105=some 3:=by kernel_rfl
@[go_sem] theorem ND:zeroOf Tryz.prog 105=some (.agg #[.int .i64 0,.int .i64 0,.int .i64 0]):=by kernel_rfl
@[go_sem] theorem NF:nM Tryz.prog 105=some [true,true,true]:=by kernel_rfl
@[go_sem] theorem NG:cG Tryz.prog 105 0=some 0:=by kernel_rfl
@[go_sem] theorem NH:cG Tryz.prog 105 1=some 1:=by kernel_rfl
@[go_sem] theorem NI:placesOf Tryz.prog 105=some [(0,1),(1,2)]:=by kernel_rfl
@[go_sem] theorem NJ:cv Tryz.prog 107=some true:=by kernel_rfl
@[go_sem] theorem vE:bW Tryz.prog 107=some 6:=by kernel_rfl
theorem vF:bytesOf Tryz.prog 107=some 48:=by kernel_rfl
@[go_sem] theorem vG:zeroOf Tryz.prog 107=some (.agg #[.int .i64 0,.int .i64 0,.int .i64 0,.int .i64 0,.int .i64 0,.int .i64 0]):=by kernel_rfl
@[go_sem] theorem NK:cG Tryz.prog 107 0=some 0:=by kernel_rfl
@[go_sem] theorem NL:cG Tryz.prog 107 1=some 3:=by kernel_rfl
@[go_sem] theorem NM:cG Tryz.prog 107 2=some 4:=by kernel_rfl
@[go_sem] theorem NN:vf Tryz.prog 107 2=some (4,2,true):=by kernel_rfl
@[go_sem] theorem NO:placesOf Tryz.prog 107=some [(0,3),(3,1),(4,2)]:=by kernel_rfl
@[go_sem] theorem nU:cW Tryz.prog 112=some 107:=by kernel_rfl
@[go_sem] theorem NP:cv Tryz.prog 117=some false:=by kernel_rfl
@[go_sem] theorem NQ:bW Tryz.prog 117=some 1:=by kernel_rfl
@[go_sem] theorem NR:zeroOf Tryz.prog 117=some (.map none):=by kernel_rfl
@[go_sem] theorem NS:cv Tryz.prog 120=some true:=by kernel_rfl
@[go_sem] theorem EU:bW Tryz.prog 120=some 3:=by kernel_rfl
theorem EV:bytesOf Tryz.prog 120=some 24:=by kernel_rfl
@[go_sem] theorem EW:zeroOf Tryz.prog 120=some (.agg #[.int .i64 0,.int .i64 0,.int .i64 0]):=by kernel_rfl
@[go_sem] theorem NT:nG Tryz.prog 120=some (3,3):=by kernel_rfl
@[go_sem] theorem NU:cv Tryz.prog 121=some false:=by kernel_rfl
@[go_sem] theorem NV:bW Tryz.prog 121=some 1:=by kernel_rfl
@[go_sem] theorem Ai:cW Tryz.prog 121=some 120:=by kernel_rfl
@[go_sem] theorem NW:cv Tryz.prog 123=some true:=by kernel_rfl
@[go_sem] theorem NX:bW Tryz.prog 123=some 9:=by kernel_rfl
@[go_sem] theorem NY:zeroOf Tryz.prog 123=some (.agg #[.int .i64 0,.int .i64 0,.int .i64 0,.int .i64 0,.slice none 0 0,.slice none 0 0,.slice none 0 0,.slice none 0 0,.slice none 0 0]):=by kernel_rfl
@[go_sem] theorem NZ:cG Tryz.prog 123 0=some 0:=by kernel_rfl
@[go_sem] theorem N0:cG Tryz.prog 123 1=some 8:=by kernel_rfl
@[go_sem] theorem N1:placesOf Tryz.prog 123=some [(0,8),(8,1)]:=by kernel_rfl
@[go_sem] theorem N2:cv Tryz.prog 128=some false:=by kernel_rfl
@[go_sem] theorem N3:cv Tryz.prog 130=some true:=by kernel_rfl
@[go_sem] theorem EX:bW Tryz.prog 130=some 3:=by kernel_rfl
theorem EY:bytesOf Tryz.prog 130=some 24:=by kernel_rfl
@[go_sem] theorem EZ:zeroOf Tryz.prog 130=some (.agg #[.int .i64 0,.int .i64 0,.int .i64 0]):=by kernel_rfl
@[go_sem] theorem N4:cG Tryz.prog 130 0=some 0:=by kernel_rfl
@[go_sem] theorem N5:cG Tryz.prog 130 1=some 1:=by kernel_rfl
@[go_sem] theorem N6:placesOf Tryz.prog 130=some [(0,1),(1,2)]:=by kernel_rfl
@[go_sem] theorem N7:cv Tryz.prog 132=some true:=by kernel_rfl
@[go_sem] theorem rS:bW Tryz.prog 132=some 2:=by kernel_rfl
theorem rT:bytesOf Tryz.prog 132=some 16:=by kernel_rfl
@[go_sem] theorem rU:zeroOf Tryz.prog 132=some (.agg #[.int .i64 0,.int .i64 0]):=by kernel_rfl
@[go_sem] theorem N8:cG Tryz.prog 132 0=some 0:=by kernel_rfl
@[go_sem] theorem N9:cG Tryz.prog 132 1=some 1:=by kernel_rfl
@[go_sem] theorem Oa:placesOf Tryz.prog 132=some [(0,1),(1,1)]:=by kernel_rfl
@[go_sem] theorem lz:cW Tryz.prog 133=some 64:=by kernel_rfl
@[go_sem] theorem Aj:cW Tryz.prog 138=some 23:=by kernel_rfl
@[go_sem] theorem Ob:cv Tryz.prog 140=some false:=by kernel_rfl
@[go_sem] theorem Oc:bW Tryz.prog 140=some 1:=by kernel_rfl
@[go_sem] theorem Od:zeroOf Tryz.prog 140=some (.slice none 0 0):=by kernel_rfl
@[go_sem] theorem Ak:cW Tryz.prog 140=some 103:=by kernel_rfl
@[go_sem] theorem Oe:cW Tryz.prog 150=some 102:=by kernel_rfl
@[go_sem] theorem Of:cv Tryz.prog 152=some false:=by kernel_rfl
@[go_sem] theorem Og:bW Tryz.prog 152=some 1:=by kernel_rfl
@[go_sem] theorem Oh:zeroOf Tryz.prog 152=some .nilFunc:=by kernel_rfl
@[go_sem] theorem Oi:cv Tryz.prog 159=some false:=by kernel_rfl
@[go_sem] theorem Oj:bW Tryz.prog 159=some 1:=by kernel_rfl
@[go_sem] theorem Ok:zeroOf Tryz.prog 159=some (.slice none 0 0):=by kernel_rfl
@[go_sem] theorem Ol:cW Tryz.prog 159=some 4:=by kernel_rfl
@[go_sem] theorem Om:cG Tryz.prog 164 0=some 0:=by kernel_rfl
@[go_sem] theorem On:cG Tryz.prog 164 1=some 1:=by kernel_rfl
@[go_sem] theorem Oo:zeroOf Tryz.prog 166=some (.agg #[.int .i32 0,.int .u32 0]):=by kernel_rfl
@[go_sem] theorem Oq:cG Tryz.prog 166 1=some 0:=by kernel_rfl
@[go_sem] theorem Ot:cG Tryz.prog 171 2=some 0:=by kernel_rfl
@[go_sem] theorem Ou:zeroOf Tryz.prog 173=some (.agg #[.int .u64 0,.int .u32 0]):=by kernel_rfl
@[go_sem] theorem Ov:cG Tryz.prog 173 1=some 0:=by kernel_rfl
@[go_sem] theorem Ow:cG Tryz.prog 173 2=some 1:=by kernel_rfl
@[go_sem] theorem Ox:cv Tryz.prog 177=some true:=by kernel_rfl
@[go_sem] theorem Oy:bW Tryz.prog 177=some 5:=by kernel_rfl
@[go_sem] theorem Oz:nG Tryz.prog 177=some (5,102):=by kernel_rfl
@[go_sem] theorem OA:aJ Tryz.prog 2=true:=by kernel_rfl
@[go_sem] theorem OB:aJ Tryz.prog 3=true:=by kernel_rfl
@[go_sem] theorem OC:aJ Tryz.prog 4=true:=by kernel_rfl
@[go_sem] theorem OD:aJ Tryz.prog 5=true:=by kernel_rfl
@[go_sem] theorem OE:aJ Tryz.prog 6=true:=by kernel_rfl
@[go_sem] theorem OF:aJ Tryz.prog 7=true:=by kernel_rfl
@[go_sem] theorem OG:aJ Tryz.prog 8=true:=by kernel_rfl
@[go_sem] theorem OH:aJ Tryz.prog 9=true:=by kernel_rfl
@[go_sem] theorem OI:aJ Tryz.prog 10=true:=by kernel_rfl
@[go_sem] theorem OJ:aJ Tryz.prog 11=true:=by kernel_rfl
@[go_sem] theorem OK:aJ Tryz.prog 12=true:=by kernel_rfl
@[go_sem] theorem OL:aJ Tryz.prog 13=true:=by kernel_rfl
@[go_sem] theorem OM:aJ Tryz.prog 14=true:=by kernel_rfl
@[go_sem] theorem ON:aJ Tryz.prog 15=true:=by kernel_rfl
@[go_sem] theorem OO:aJ Tryz.prog 16=true:=by kernel_rfl
@[go_sem] theorem OP:aJ Tryz.prog 17=true:=by kernel_rfl
@[go_sem] theorem OQ:aJ Tryz.prog 18=true:=by kernel_rfl
@[go_sem] theorem OR:aJ Tryz.prog 19=true:=by kernel_rfl
@[go_sem] theorem OS:aJ Tryz.prog 20=true:=by kernel_rfl
@[go_sem] theorem OT:aJ Tryz.prog 21=true:=by kernel_rfl
@[go_sem] theorem OU:aJ Tryz.prog 22=true:=by kernel_rfl
@[go_sem] theorem OV:aJ Tryz.prog 23=true:=by kernel_rfl
@[go_sem] theorem OW:aJ Tryz.prog 24=true:=by kernel_rfl
@[go_sem] theorem OX:aJ Tryz.prog 25=true:=by kernel_rfl
@[go_sem] theorem OY:aJ Tryz.prog 26=true:=by kernel_rfl
@[go_sem] theorem OZ:aJ Tryz.prog 27=true:=by kernel_rfl
@[go_sem] theorem O0:aJ Tryz.prog 28=true:=by kernel_rfl
@[go_sem] theorem O1:aJ Tryz.prog 29=true:=by kernel_rfl
@[go_sem] theorem O2:aJ Tryz.prog 30=true:=by kernel_rfl
@[go_sem] theorem O3:aJ Tryz.prog 31=true:=by kernel_rfl
@[go_sem] theorem O4:aJ Tryz.prog 32=true:=by kernel_rfl
@[go_sem] theorem O5:aJ Tryz.prog 33=true:=by kernel_rfl
@[go_sem] theorem O6:aJ Tryz.prog 34=true:=by kernel_rfl
@[go_sem] theorem O7:aJ Tryz.prog 35=true:=by kernel_rfl
@[go_sem] theorem O8:aJ Tryz.prog 36=true:=by kernel_rfl
@[go_sem] theorem O9:aJ Tryz.prog 37=true:=by kernel_rfl
@[go_sem] theorem Pa:aJ Tryz.prog 38=true:=by kernel_rfl
@[go_sem] theorem Pb:aJ Tryz.prog 39=true:=by kernel_rfl
@[go_sem] theorem Pd:aJ Tryz.prog 40=true:=by kernel_rfl
@[go_sem] theorem Pe:aJ Tryz.prog 41=true:=by kernel_rfl
@[go_sem] theorem Pf:aJ Tryz.prog 42=true:=by kernel_rfl
@[go_sem] theorem Pg:aJ Tryz.prog 43=true:=by kernel_rfl
@[go_sem] theorem Pj:aJ Tryz.prog 44=true:=by kernel_rfl
@[go_sem] theorem Pk:aJ Tryz.prog 45=true:=by kernel_rfl
@[go_sem] theorem Pm:aJ Tryz.prog 46=true:=by kernel_rfl
@[go_sem] theorem Pn:aJ Tryz.prog 47=true:=by kernel_rfl
@[go_sem] theorem Po:aJ Tryz.prog 48=true:=by kernel_rfl
@[go_sem] theorem Pp:aJ Tryz.prog 49=true:=by kernel_rfl
@[go_sem] theorem Pq:aJ Tryz.prog 50=true:=by kernel_rfl
@[go_sem] theorem Pu:aJ Tryz.prog 51=true:=by kernel_rfl
@[go_sem] theorem Pv:aJ Tryz.prog 52=true:=by kernel_rfl
@[go_sem] theorem Pw:aJ Tryz.prog 53=true:=by kernel_rfl
@[go_sem] theorem Px:aJ Tryz.prog 54=true:=by kernel_rfl
@[go_sem] theorem Py:aJ Tryz.prog 55=true:=by kernel_rfl
@[go_sem] theorem Pz:aJ Tryz.prog 56=true:=by kernel_rfl
@[go_sem] theorem PA:aJ Tryz.prog 57=true:=by kernel_rfl
@[go_sem] theorem PB:aJ Tryz.prog 58=true:=by kernel_rfl
@[go_sem] theorem PC:aJ Tryz.prog 59=true:=by kernel_rfl
@[go_sem] theorem PD:aJ Tryz.prog 60=true:=by kernel_rfl
@[go_sem] theorem PE:aJ Tryz.prog 61=true:=by kernel_rfl
@[go_sem] theorem PF:aJ Tryz.prog 62=true:=by kernel_rfl
@[go_sem] theorem PG:aJ Tryz.prog 63=true:=by kernel_rfl
@[go_sem] theorem PI:aJ Tryz.prog 64=true:=by kernel_rfl
@[go_sem] theorem PJ:aJ Tryz.prog 65=true:=by kernel_rfl
@[go_sem] theorem PK:aJ Tryz.prog 66=true:=by kernel_rfl
@[go_sem] theorem PL:aJ Tryz.prog 67=true:=by kernel_rfl
@[go_sem] theorem PM:aJ Tryz.prog 68=true:=by kernel_rfl
@[go_sem] theorem PN:aJ Tryz.prog 69=true:=by kernel_rfl
@[go_sem] theorem PO:aJ Tryz.prog 70=true:=by kernel_rfl
@[go_sem] theorem PR:aJ Tryz.prog 71=true:=by kernel_rfl
@[go_sem] theorem PS:aJ Tryz.prog 72=true:=by kernel_rfl
@[go_sem] theorem PU:aJ Tryz.prog 73=true:=by kernel_rfl
@[go_sem] theorem PV:aJ Tryz.prog 74=true:=by kernel_rfl
@[go_sem] theorem PW:aJ Tryz.prog 75=true:=by kernel_rfl
@[go_sem] theorem PX:aJ Tryz.prog 76=true:=by kernel_rfl
@[go_sem] theorem PY:aJ Tryz.prog 77=true:=by kernel_rfl
@[go_sem] theorem PZ:aJ Tryz.prog 78=true:=by kernel_rfl
@[go_sem] theorem P1:aJ Tryz.prog 79=true:=by kernel_rfl
@[go_sem] theorem P2:aJ Tryz.prog 80=true:=by kernel_rfl
@[go_sem] theorem P3:aJ Tryz.prog 81=true:=by kernel_rfl
@[go_sem] theorem P4:aJ Tryz.prog 82=true:=by kernel_rfl
@[go_sem] theorem P5:aJ Tryz.prog 83=true:=by kernel_rfl
@[go_sem] theorem P6:aJ Tryz.prog 84=true:=by kernel_rfl
@[go_sem] theorem P7:aJ Tryz.prog 85=true:=by kernel_rfl
@[go_sem] theorem P8:aJ Tryz.prog 86=true:=by kernel_rfl
@[go_sem] theorem P9:aJ Tryz.prog 87=true:=by kernel_rfl
@[go_sem] theorem Qa:aJ Tryz.prog 88=true:=by kernel_rfl
@[go_sem] theorem Qb:aJ Tryz.prog 89=true:=by kernel_rfl
@[go_sem] theorem Qc:aJ Tryz.prog 90=true:=by kernel_rfl
@[go_sem] theorem Qd:aJ Tryz.prog 91=true:=by kernel_rfl
@[go_sem] theorem Qe:aJ Tryz.prog 92=true:=by kernel_rfl
@[go_sem] theorem Qf:aJ Tryz.prog 93=true:=by kernel_rfl
@[go_sem] theorem Qg:aJ Tryz.prog 94=true:=by kernel_rfl
@[go_sem] theorem Qh:aJ Tryz.prog 95=true:=by kernel_rfl
@[go_sem] theorem Qi:aJ Tryz.prog 96=true:=by kernel_rfl
@[go_sem] theorem Qj:aJ Tryz.prog 97=true:=by kernel_rfl
@[go_sem] theorem Qk:aJ Tryz.prog 98=true:=by kernel_rfl
@[go_sem] theorem Ql:aJ Tryz.prog 99=true:=by kernel_rfl
@[go_sem] theorem Qm:aJ Tryz.prog 100=true:=by kernel_rfl
@[go_sem] theorem Qn:aJ Tryz.prog 101=true:=by kernel_rfl
@[go_sem] theorem Qo:aJ Tryz.prog 102=true:=by kernel_rfl
@[go_sem] theorem Qp:aJ Tryz.prog 103=true:=by kernel_rfl
@[go_sem] theorem Qq:aJ Tryz.prog 104=true:=by kernel_rfl
@[go_sem] theorem Qr:aJ Tryz.prog 105=true:=by kernel_rfl
@[go_sem] theorem Qs:aJ Tryz.prog 106=true:=by kernel_rfl
@[go_sem] theorem Qt:aJ Tryz.prog 107=true:=by kernel_rfl
@[go_sem] theorem Qu:aJ Tryz.prog 108=true:=by kernel_rfl
@[go_sem] theorem Qv:aJ Tryz.prog 109=true:=by kernel_rfl
@[go_sem] theorem Qw:aJ Tryz.prog 110=true:=by kernel_rfl
@[go_sem] theorem Qx:aJ Tryz.prog 111=true:=by kernel_rfl
@[go_sem] theorem Qy:aJ Tryz.prog 112=true:=by kernel_rfl
@[go_sem] theorem Qz:aJ Tryz.prog 113=true:=by kernel_rfl
@[go_sem] theorem QA:aJ Tryz.prog 114=true:=by kernel_rfl
@[go_sem] theorem Al:aJ Tryz.prog 115=true:=by kernel_rfl
@[go_sem] theorem QB:aJ Tryz.prog 116=true:=by kernel_rfl
@[go_sem] theorem QC:aJ Tryz.prog 117=true:=by kernel_rfl
@[go_sem] theorem QD:aJ Tryz.prog 118=true:=by kernel_rfl
@[go_sem] theorem QE:aJ Tryz.prog 119=true:=by kernel_rfl
@[go_sem] theorem E0:aJ Tryz.prog 120=true:=by kernel_rfl
@[go_sem] theorem E1:aJ Tryz.prog 121=true:=by kernel_rfl
@[go_sem] theorem E2:aJ Tryz.prog 122=true:=by kernel_rfl
@[go_sem] theorem QF:aJ Tryz.prog 123=true:=by kernel_rfl
@[go_sem] theorem QG:aJ Tryz.prog 124=true:=by kernel_rfl
@[go_sem] theorem QH:aJ Tryz.prog 125=true:=by kernel_rfl
@[go_sem] theorem QI:aJ Tryz.prog 126=true:=by kernel_rfl
@[go_sem] theorem QJ:aJ Tryz.prog 127=true:=by kernel_rfl
@[go_sem] theorem QK:aJ Tryz.prog 128=true:=by kernel_rfl
@[go_sem] theorem QL:aJ Tryz.prog 129=true:=by kernel_rfl
@[go_sem] theorem QM:aJ Tryz.prog 130=true:=by kernel_rfl
@[go_sem] theorem QN:aJ Tryz.prog 131=true:=by kernel_rfl
@[go_sem] theorem QO:aJ Tryz.prog 132=true:=by kernel_rfl
@[go_sem] theorem QS:aJ Tryz.prog 139=true:=by kernel_rfl
@[go_sem] theorem Am:aJ Tryz.prog 140=true:=by kernel_rfl
@[go_sem] theorem vH:aJ Tryz.prog 142=true:=by kernel_rfl
@[go_sem] theorem E3:aJ Tryz.prog 143=true:=by kernel_rfl
@[go_sem] theorem QT:aJ Tryz.prog 146=true:=by kernel_rfl
@[go_sem] theorem E4:aJ Tryz.prog 147=true:=by kernel_rfl
@[go_sem] theorem E5:aJ Tryz.prog 148=true:=by kernel_rfl
@[go_sem] theorem E6:aJ Tryz.prog 151=true:=by kernel_rfl
@[go_sem] theorem QU:aJ Tryz.prog 154=true:=by kernel_rfl
@[go_sem] theorem QV:aJ Tryz.prog 155=true:=by kernel_rfl
@[go_sem] theorem QW:aJ Tryz.prog 156=true:=by kernel_rfl
@[go_sem] theorem QX:aJ Tryz.prog 157=true:=by kernel_rfl
@[go_sem] theorem QY:aJ Tryz.prog 158=true:=by kernel_rfl
@[go_sem] theorem QZ:aJ Tryz.prog 159=true:=by kernel_rfl
@[go_sem] theorem Q0:aJ Tryz.prog 160=true:=by kernel_rfl
@[go_sem] theorem Q1:aJ Tryz.prog 161=true:=by kernel_rfl
@[go_sem] theorem Q2:aJ Tryz.prog 162=true:=by kernel_rfl
@[go_sem] theorem Q3:aJ Tryz.prog 163=true:=by kernel_rfl
@[go_sem] theorem Q4:aJ Tryz.prog 164=true:=by kernel_rfl
@[go_sem] theorem Q5:aJ Tryz.prog 165=true:=by kernel_rfl
@[go_sem] theorem Q6:aJ Tryz.prog 170=true:=by kernel_rfl
@[go_sem] theorem E7:aJ Tryz.prog 172=true:=by kernel_rfl
@[go_sem] theorem E8:aJ Tryz.prog 174=true:=by kernel_rfl
@[go_sem] theorem Q7:aJ Tryz.prog 176=true:=by kernel_rfl
@[go_sem] theorem Q8:aJ Tryz.prog 177=true:=by kernel_rfl
@[go_sem] theorem Q9:aJ Tryz.prog 178=true:=by kernel_rfl
@[go_sem] theorem Ra:aJ Tryz.prog 179=true:=by kernel_rfl
@[go_sem] theorem Rb:aJ Tryz.prog 180=true:=by kernel_rfl
@[go_sem] theorem Rc:aJ Tryz.prog 188=true:=by kernel_rfl
@[go_sem] theorem Re:aJ Tryz.prog 205=true:=by kernel_rfl
@[go_sem] theorem Rf:aJ Tryz.prog 206=true:=by kernel_rfl
@[go_sem] theorem Rg:aJ Tryz.prog 207=true:=by kernel_rfl
@[go_sem] theorem Rh:aJ Tryz.prog 208=true:=by kernel_rfl
@[go_sem] theorem Ri:aJ Tryz.prog 209=true:=by kernel_rfl
@[go_sem] theorem Rj:aJ Tryz.prog 213=true:=by kernel_rfl
end Go.Proofs.YtjepffnffjdloaaGreatDoor
end
section
namespace Go.Sep
open Go Go.Conc
def ko (o:Oper):Option (TypeId×Nat):=match o.op,o.dst,o.guard with
 | .alloc t,some d,none=>some (t,d)
 |_,_,_=>none
def An (ops:Array Oper)(m:Nat):Bool:=
 nP ops (m+1)&&decide (m+2<=ops.size)&&
 (match (ops[m]?).bind ko,(ops[m+1]?).bind ko with|some (_,d),some (_,a)=>!(d==a)|_,_=>false)&&
 decide (Region.ready .any ops (cM ops.size m)=[m,m+1])&&decide (Region.ready .any ops ((cM ops.size m).setIfInBounds (m+1) true)=[m])
theorem Ao {ro:Addr->Option Value}{x y:Nat×Obj}{l:List (Nat×Obj)}:Le ⟨ro,x::y::l⟩ ⟨ro,y::x::l⟩:=by
 have c:∀b,b∈keys (x::y::l)↔b∈keys (y::x::l):=fun b=>by
  simp only[keys,List.map_cons,List.mem_cons]
  exact ⟨fun h=>by rcases h with h|h|h;exact .inr (.inl h);exact .inl h;exact .inr (.inr h),fun h=>by rcases h with h|h|h;exact .inr (.inl h);exact .inl h;exact .inr (.inr h)⟩
 refine ⟨fun w hw=>⟨hw.ro,fun b o hb=>hw.own b o ?_,?_,fun a v h hm=>hw.apart a v h ((c _).1 hm)⟩,fun b hb=>(c b).1 hb,fun a d=>.inl d⟩
 ·rcases List.mem_cons.1 hb with h|h
  ·exact List.mem_cons_of_mem _ (h▸List.mem_cons_self)
  ·rcases List.mem_cons.1 h with h|h
   ·exact h▸List.mem_cons_self
   ·exact List.mem_cons_of_mem _ (List.mem_cons_of_mem _ h)
 ·have:=hw.nodup
  simp only[keys,List.map_cons,List.nodup_cons,List.mem_cons,not_or] at this ⊢
  exact ⟨⟨fun e=>this.1.1 e.symm,this.2.1⟩,this.1.2,this.2.2⟩
section
variable {P : Program} {main : Bool} {J : Goroutine → af → Prop} {ops : Array Oper} {Q : Act → af → Prop} {F0 : af}
theorem Ap {o:Oper}{t:TypeId}{d:Nat}(h:ko o=some (t,d)):o.op= .alloc t/\o.dst=some d/\o.guard=none:=by
 unfold ko at h
 split at h
 ·rename_i h1 h2 h3;cases h;exact ⟨h1,h2,h3⟩
 ·cases h
theorem pY {o:Oper}{a:Act}(h:o.guard=none):cu ops o a=some true:=by unfold cu;rw[h]
theorem vI {o:Oper}{t:TypeId}{a:Act}{F:af}{z:Value}{R:Value->af->Prop}{D:Deferred->af->Prop}(d:o.op= .alloc t)(e:zeroOf P t=some z)
  (h:∀b,dL F b->∃c,Le c (F.push b (.cells z.cells t))/\R (.pointer (some ⟨b,0,none⟩)) c):aT P (execOp a.eval o) (j0 P J R D) F:=by
 have:Oper.nN o=false:=by unfold Oper.nN;rw[d]
 refine zY (R:=fun v F=>∃c,Le c F/\R v c) this ?_
 unfold cD
 rw[d]
 simp only[e]
 exact h
theorem E9 (m:Nat){o1 o2:Oper}{rest:List Oper}{t1 t2 d1 d2:Nat}(hm:m+2<=ops.size)(v:ops[m]?=some o1)(w:ops[m+1]?=some o2)(K:ko o1=some (t1,d1))(L:ko o2=some (t2,d2)){p:Value}(y:zeroOf P t2=some p)(hd:¬d1=d2)
  (A:ops.toList.drop (m+2)=rest) (B:Region.ready .any ops (cM ops.size m)=[m,m+1]) (C:Region.ready .any ops ((cM ops.size m).setIfInBounds (m+1) true)=[m])
  (D:∀j,j<ops.size - (m+1)->Region.ready .any ops (cM ops.size (m+1+j))=[m+1+j]) (E:Region.ready .any ops (cM ops.size ops.size)=[])
  {a:Act} {F:af} (q:Knows F0 F) (h:eJ P J ops F0 Q (o1::o2::rest) true a F):dF P J ops Q (Knows F0) (ops.size - m) (cM ops.size m) a F:=by
 obtain ⟨e1,r,s⟩:=Ap K
 obtain ⟨e2,G,H⟩:=Ap L
 have M:ops.size - m=(ops.size - (m+1))+1:=by omega
 have N:ops.size - (m+1)=(ops.size - (m+2))+1:=by omega
 unfold eJ at h
 rw[pY s] at h
 simp only at h
 have k:∃z,zeroOf P t1=some z:=by
  unfold cD at h
  rw[e1] at h
  simp only at h
  split at h
  ·rename_i z O;exact ⟨z,O⟩
  ·exact h.elim
 obtain ⟨g,k⟩:=k
 have h1:∀b,dL F b->Knows F0 (F.push b (.cells g.cells t1))/\eJ P J ops F0 Q (o2::rest) (!Oper.calls o1) (aX a (some d1) (.pointer (some ⟨b,0,none⟩))) (F.push b (.cells g.cells t1)):=by
  unfold cD at h
  rw[e1] at h
  simp only[k,r] at h
  exact h
 have h2:∀b,dL F b->∀f,dL (F.push b (.cells g.cells t1)) f->Knows F0 ((F.push b (.cells g.cells t1)).push f (.cells p.cells t2))/\
   eJ P J ops F0 Q rest (!Oper.calls o2) (aX (aX a (some d1) (.pointer (some ⟨b,0,none⟩))) (some d2) (.pointer (some ⟨f,0,none⟩))) ((F.push b (.cells g.cells t1)).push f (.cells p.cells t2)):=by
  intro b hb
  have:=(h1 b hb).2
  unfold eJ at this
  rw[pY H] at this
  simp only at this
  unfold cD at this
  rw[e2] at this
  simp only[y,G] at this
  exact this
 have I:=rG (n:=ops.size) (m:=m) (by omega)
 have R:=rG (n:=ops.size) (m:=m+1) (by omega)
 rw[M]
 refine ⟨fun h0=>(by rw[B] at h0;cases h0),fun i hi=>?_⟩
 rw[B] at hi
 simp only[List.mem_cons,List.not_mem_nil,or_false] at hi
 rcases hi with hi|hi
 ·subst hi
  unfold dD
  simp only[v]
  rw[if_pos (b7 (pY s))]
  refine vI e1 k fun b hb=>⟨_,Le.refl _,(h1 b hb).1,?_⟩
  rw[I,r]
  exact mD (i+1) D E (o2::rest) (i+1) _ _ _ (Nat.le_refl _) (by omega) (by
   have:=List.drop_eq_getElem_cons (l:=ops.toList) (i:=i+1) (by simp;omega)
   rw[this,A]
   obtain ⟨_,he⟩:=Array.getElem?_eq_some_iff.1 w
   simp[he]) (h1 b hb).2
 ·subst hi
  unfold dD
  simp only[w]
  rw[if_pos (b7 (pY H))]
  refine vI e2 y fun f t=>⟨_,Le.refl _,?_,?_⟩
  ·refine ⟨q.1,q.2.1,?_⟩
   have S:∀(l own:List (Nat×Obj)),au own f->iU l own->iU l ((f,.cells p.cells t2)::own):=fun l own T u=>by
    induction l with
    |nil=>trivial
    |cons x l ih=>
     obtain ⟨c,o⟩:=x
     refine ⟨?_,ih u.2⟩
     have U:¬f=c:=fun e=>lp T (e▸eW (gW u.1))
     simp only[lk,if_neg U]
     exact u.1
   exact S _ _ t.own q.2.2
  ·rw[N]
   refine ⟨fun h0=>(by rw[C] at h0;cases h0),fun i hi=>?_⟩
   rw[C] at hi
   simp only[List.mem_cons,List.not_mem_nil,or_false] at hi
   subst hi
   unfold dD
   simp only[v]
   rw[if_pos (b7 (pY s))]
   refine vI e1 k fun b hb=>?_
   have V:dL F b:=⟨hb.ro,hb.own.2⟩
   have W:¬f=b:=fun e=>hb.own.1 e.symm
   have X:dL (F.push b (.cells g.cells t1)) f:=⟨t.ro,⟨W,t.own⟩⟩
   obtain ⟨Y,Z⟩:=h2 b V f X
   refine ⟨_,Ao,Y,?_⟩
   have ab:aX (aX a o2.dst (.pointer (some ⟨f,0,none⟩))) o1.dst (.pointer (some ⟨b,0,none⟩))=aX (aX a (some d1) (.pointer (some ⟨b,0,none⟩))) (some d2) (.pointer (some ⟨f,0,none⟩)):=by
    rw[r,G]
    exact Act.put_comm a _ _ (fun d ad=>by cases ad;intro e;cases e;exact hd rfl)
   have hs:((cM ops.size i).setIfInBounds (i+1) true).setIfInBounds i true=cM ops.size (i+2):=by
    rw[Array.setIfInBounds_comm _ _ (by omega:i+1≠i),I,R]
   show dF P J ops Q (Knows F0) (ops.size - (i+2)) _ (aX (aX a o2.dst _) o1.dst _) _
   rw[hs,ab]
   exact mD (i+1) D E rest (i+2) _ _ _ (by omega) hm A Z
theorem rV {Q:Ex->Act->af->Prop}(hJ:Closed P main J)(n:P.follows .mixedOrders=true)(m:Nat){id:Nat}{a:Act}{F:af}(F0:af)(d:Knows F0 F)(e:An ops m=true)(t2:TypeId){o:Value}(f:((ops[m+1]?).bind ko).map (·.1)=some t2)(p:zeroOf P t2=some o)
  (h:dX P J ops F0 (fun g=>eJ P J ops F0 (Q .normal) (ops.toList.drop m) true g F) (ops.toList.take m) true a):Wp J (.region id ops true) Q a F:=by
 simp only[An,Bool.and_eq_true,decide_eq_true_eq] at e
 obtain ⟨⟨⟨⟨hq,hm⟩,hp⟩,q⟩,r⟩:=e
 have j:=z6 hq
 simp only[pR,Bool.and_eq_true,decide_eq_true_eq,List.all_eq_true,List.mem_range] at j
 obtain ⟨⟨⟨⟨h1,h2⟩,h3⟩,s⟩,t⟩:=j
 cases b:(ops[m]?).bind ko with
 |none=>rw[b] at hp;cases hp
 |some u=>
  cases c:(ops[m+1]?).bind ko with
  |none=>rw[b,c] at hp;cases hp
  |some v=>
   obtain ⟨t1,d1⟩:=u
   obtain ⟨w,d2⟩:=v
   rw[c] at f
   obtain rfl:w=t2:=by simpa using f
   rw[b,c] at hp
   obtain ⟨o1,e1,a1⟩:=Option.bind_eq_some_iff.1 b
   obtain ⟨o2,e2,a2⟩:=Option.bind_eq_some_iff.1 c
   have hd:¬d1=d2:=by simpa using hp
   have x:ops.toList.drop m=o1::o2::ops.toList.drop (m+2):=by
    obtain ⟨y,c1⟩:=Array.getElem?_eq_some_iff.1 e1
    obtain ⟨b2,c2⟩:=Array.getElem?_eq_some_iff.1 e2
    rw[List.drop_eq_getElem_cons (l:=ops.toList) (i:=m) (by simpa using y),List.drop_eq_getElem_cons (l:=ops.toList) (i:=m+1) (by simpa using b2)]
    simp[c1,c2]
   refine u6 hJ (Knows F0) n ?_
   rw[<-z7]
   have:=rH (P:=P) (J:=J) (Q:=Q .normal) m (by omega) h1 (fun i hi=>by have:=h3 i (by omega);simpa using this) d (fun g k=>by
    rw[x] at k
    exact E9 (F0:=F0) m hm e1 e2 a1 a2 p hd rfl q r s t d k) _ 0 true a (by simp) (Nat.zero_le _) h
   simpa using this
end
def pick (ops:Array Oper):List Nat->List Oper
 |[]=>[]
 |i::is=>match ops[i]? with
  |some o=>o::pick ops is
  |none=>pick ops is
def vJ:List Nat->Array Bool->Array Bool
 |[],L=>L
 |i::is,L=>vJ is (L.setIfInBounds i true)
def rW (ops:Array Oper):List Nat->Array Bool->Bool
 |[],_=>true
 |i::is,L=>Region.free .any ops L i&&(Region.ready .any ops L).contains i&&(ops[i]?).isSome&&rW ops is (L.setIfInBounds i true)
def pZ (ops:Array Oper):List Nat->Array Bool->Bool
 |[],L=>decide (Region.ready .any ops L=[])
 |i::is,L=>decide (Region.ready .any ops L=[i])&&(ops[i]?).isSome&&pZ ops is (L.setIfInBounds i true)
def Aq (ops:Array Oper)(is a:List Nat):Bool:=
 Region.noSelect ops&&rW ops is (Array.replicate ops.size false)&&pZ ops a (vJ is (Array.replicate ops.size false))&&decide (is.length+a.length=ops.size)
section
variable {P : Program} {main : Bool} {J : Goroutine → af → Prop} {ops : Array Oper} {Q : Act → af → Prop} {F0 : af}
theorem Ar {K:Act->Prop}(m:Region.noSelect ops=true){F:af}(b:Knows F0 F)(fuel:Nat):
  ∀(is:List Nat) (L:Array Bool) (go:Bool) (a:Act),rW ops is L=true->dX P J ops F0 K (pick ops is) go a->(∀n,K n->dF P J ops Q (Knows F0) fuel (vJ is L) n F)->
   dF P J ops Q (Knows F0) (fuel+is.length) L a F
 |[],L,go,a,_,h,k=>by unfold pick dX at h;exact k a h
 |i::is,L,go,a,p,h,k=>by
  simp only[rW,Bool.and_eq_true] at p
  obtain ⟨⟨⟨c1,c2⟩,c3⟩,c4⟩:=p
  obtain ⟨o,c⟩:=Option.isSome_iff_exists.1 c3
  have g:(Region.noSelect ops&&Region.free .any ops L i&&(Region.ready .any ops L).contains i)=true:=by rw[m,c1,c2];rfl
  have hp:pick ops (i::is)=o::pick ops is:=by simp only[pick,c]
  rw[hp] at h
  have e:fuel+(i::is).length=(fuel+is.length)+1:=by simp only[List.length_cons];omega
  rw[e]
  have next:∀go v,dX P J ops F0 K (pick ops is) go (aX a o.dst v)->dF P J ops Q (Knows F0) (fuel+is.length) (L.setIfInBounds i true) (aX a o.dst v) F:=fun go v d=>
   Ar m b fuel is _ go _ c4 d k
  unfold dX at h
  split at h
  ·rename_i hg
   exact z1 i c g hg b (next true undef h)
  ·rename_i hg
   split at h
   ·rename_i t x l
    split at h
    case h_2=>exact h.elim
    rename_i ad q
    split at h
    case h_2=>exact h.elim
    rename_i v d
    refine nO i v c g hg (fun F R j f=>?_) b (next _ v h)
    unfold cD
    simp only[l,q,j.fh d]
    exact f
   ·rename_i x args argTypes l
    split at h
    case h_2=>exact h.elim
    rename_i fn first captured r
    obtain ⟨s,v,u,h⟩:=h
    refine nO i v c g hg (fun F R j f=>?_) b (next _ v h)
    unfold cD
    simp only[l,r]
    exact ⟨s,(u F j).mono fun y F' w=>by obtain ⟨rfl,rfl⟩:=w;exact f⟩
   ·split at h
    case h_2=>exact h.elim
    rename_i v d
    exact nO i v c g hg (fun F R j f=>rF d f) b (next _ v h)
  ·exact h.elim
theorem As:∀(b:List Nat) (L:Array Bool) (go:Bool) (a:Act) (F:af),pZ ops b L=true->eJ P J ops F0 Q (pick ops b) go a F->dF P J ops Q (Knows F0) b.length L a F
 |[],L,go,a,F,c,h=>by
  simp only[pZ,decide_eq_true_eq] at c
  unfold pick eJ at h
  exact zz c h _
 |j::b,L,go,a,F,c,h=>by
  simp only[pZ,Bool.and_eq_true,decide_eq_true_eq] at c
  obtain ⟨⟨c1,c3⟩,c4⟩:=c
  obtain ⟨o,d⟩:=Option.isSome_iff_exists.1 c3
  have hp:pick ops (j::b)=o::pick ops b:=by simp only[pick,d]
  rw[hp] at h
  unfold eJ at h
  split at h
  ·rename_i hg
   refine z2 j d c1 hg ?_
   refine mD.rJ ?_ h
   rintro v F' ⟨h1,h2⟩
   exact ⟨h1,As b _ _ _ F' c4 h2⟩
  ·exact h.elim
theorem Fa {Q:Ex->Act->af->Prop}(hJ:Closed P main J)(e:P.follows .mixedOrders=true)(is b:List Nat){id:Nat}{a:Act}{F:af}(F0:af)(f:Knows F0 F)(d:Aq ops is b=true)
  (h:dX P J ops F0 (fun c=>eJ P J ops F0 (Q .normal) (pick ops b) true c F) (pick ops is) true a):Wp J (.region id ops true) Q a F:=by
 simp only[Aq,Bool.and_eq_true,decide_eq_true_eq] at d
 obtain ⟨⟨⟨h1,h2⟩,h3⟩,i⟩:=d
 refine u6 hJ (Knows F0) e ?_
 have:=Ar (P:=P) (J:=J) (Q:=Q .normal) h1 f b.length is _ true a h2 h (fun c g=>As b _ true c F h3 g)
 rwa [show b.length+is.length=ops.size by omega] at this
end
attribute [go_sem] pick
inductive kq where
 |done
 |rd (i:Nat) (p:kq)
 |one (i:Nat) (p:kq)
 |two (i:Nat) (p:kq) (j:Nat) (q:kq)
inductive lA where
 |done
 |rd (o:Oper) (p:lA)
 |one (o:Oper) (p:lA)
 |two (o:Oper) (p:lA) (o':Oper) (q:lA)
 |bad
def kq.opers (ops:Array Oper):kq->lA
 | .done=>.done
 | .rd i p=>match ops[i]? with
  |some o=>.rd o (p.opers ops)
  |none=>.bad
 | .one i p=>match ops[i]? with
  |some o=>.one o (p.opers ops)
  |none=>.bad
 | .two i p j q=>match ops[i]?,ops[j]? with
  |some o,some o'=>.two o (p.opers ops) o' (q.opers ops)
  |_,_=>.bad
def kq.len:kq->Nat
 | .done=>0
 | .rd _ p=>p.len+1
 | .one _ p=>p.len+1
 | .two _ p _ q=>max p.len q.len+1
def fZ (P:Program)(J:Goroutine->af->Prop)(ops:Array Oper)(F0:af)(Q:Act->af->Prop):lA->Bool->Act->af->Prop
 | .done,_,a,F=>Q a F
 | .bad,_,_,_=>False
 | .rd o p,_,a,F=>match cu ops o a with
  |some false=>fZ P J ops F0 Q p true (aX a o.dst undef) F
  |some true=>match o.op with
   | .load t x=>match ev a x with
    | .pointer (some ad)=>match fh P F0 t ad with
     |some v=>fZ P J ops F0 Q p true (aX a o.dst v) F
     |none=>False
    |_=>False
   | .call {callee:=.value x,args, ..}=>match ev a x with
    | .func (.func fn) first captured=>aJ P fn=true/\∃v,Plain P J F0 fn (first++args.map (ev a)++captured) v/\fZ P J ops F0 Q p false (aX a o.dst v) F
    |_=>False
   |_=>match iV P o a with
    |some v=>fZ P J ops F0 Q p true (aX a o.dst v) F
    |none=>False
  |none=>False
 | .one o p,_,a,F=>match cu ops o a with
  |some true=>cD P J o (fun v F'=>Knows F0 F'/\fZ P J ops F0 Q p (!Oper.calls o) (aX a o.dst v) F') a F
  |_=>False
 | .two o p o' q,_,a,F=>(match cu ops o a with
  |some true=>cD P J o (fun v F'=>Knows F0 F'/\fZ P J ops F0 Q p (!Oper.calls o) (aX a o.dst v) F') a F
  |_=>False)/\(match cu ops o' a with
  |some true=>cD P J o' (fun v F'=>Knows F0 F'/\fZ P J ops F0 Q q (!Oper.calls o') (aX a o'.dst v) F') a F
  |_=>False)
section
variable {P : Program} {main : Bool} {J : Goroutine → af → Prop} {ops : Array Oper} {Q : Act → af → Prop} {F0 : af}
end
theorem Fb {P:Program}{J:Goroutine->af->Prop}{ops:Array Oper}{F0:af}{Q:Act->af->Prop}{go:Bool}{a:Act}{F:af}:fZ P J ops F0 Q .done go a F=Q a F:=rfl
theorem Fc {P:Program}{J:Goroutine->af->Prop}{ops:Array Oper}{F0:af}{Q:Act->af->Prop}{o:Oper}{p:lA}{a:Act}{F:af}:fZ P J ops F0 Q (.rd o p) true a F=match cu ops o a with
  |some false=>fZ P J ops F0 Q p true (aX a o.dst undef) F
  |some true=>match o.op with
   | .load t x=>match ev a x with
    | .pointer (some ad)=>match fh P F0 t ad with
     |some v=>fZ P J ops F0 Q p true (aX a o.dst v) F
     |none=>False
    |_=>False
   | .call {callee:=.value x,args, ..}=>match ev a x with
    | .func (.func fn) first captured=>aJ P fn=true/\∃v,Plain P J F0 fn (first++args.map (ev a)++captured) v/\fZ P J ops F0 Q p false (aX a o.dst v) F
    |_=>False
   |_=>match iV P o a with
    |some v=>fZ P J ops F0 Q p true (aX a o.dst v) F
    |none=>False
  |none=>False:=(Eq.refl _).trans (Eq.refl _)
theorem Fe {P:Program}{J:Goroutine->af->Prop}{ops:Array Oper}{F0:af}{Q:Act->af->Prop}{o:Oper}{p:lA}{a:Act}{F:af}:fZ P J ops F0 Q (.one o p) true a F=match cu ops o a with
  |some true=>cD P J o (fun v F'=>Knows F0 F'/\fZ P J ops F0 Q p (!Oper.calls o) (aX a o.dst v) F') a F
  |_=>False:=(Eq.refl _).trans (Eq.refl _)
attribute [irreducible] fZ
attribute [go_sem] Fb Fc Fe kq.opers
theorem Au {F:af}{a:Addr}:∀(cs:List Value) (i:Nat),(∀j v,cs[j]?=some v->F.get (a.add (i+j))=some v)->F.dc a i cs.length=some cs
 |[],i,_=>rfl
 |v::cs,i,h=>by
  have h0:=h 0 v rfl
  rw[Nat.add_zero] at h0
  have ih:=Au cs (i+1) (fun j w hw=>by
   have:=h (j+1) w (by simpa using hw)
   rwa [show i+(j+1)=i+1+j by omega] at this)
  simp only[List.length_cons,af.dc,h0,ih]
theorem Av {F:af}{a:Addr}:∀(m i k:Nat) (c b:List Value),F.dc a i m=some c->F.dc a (i+m) k=some b->F.dc a i (m+k)=some (c++b)
 |0,i,k,c,b,h1,h2=>by
  simp only[af.dc,Option.some.injEq] at h1
  subst h1
  rw[Nat.zero_add]
  simpa using h2
 |m+1,i,k,c,b,h1,h2=>by
  unfold af.dc at h1
  split at h1
  case h_2=>cases h1
  rename_i v d
  split at h1
  case h_2=>cases h1
  rename_i e f
  cases h1
  have ih:=Av m (i+1) k e b f (by rwa [show i+1+m=i+(m+1) by omega])
  rw[show m+1+k=(m+k)+1 by omega]
  simp only[af.dc,d,ih,List.cons_append]
theorem aB.cells {T:Type}{r:bY T}{ro:Addr->Option Value}{ad:Option Addr}{c:Nat}{l:List T}(h:aB r ro (.slice ad l.length c) l)(F:af)(s:∀a v,ro a=some v->F.get a=some v):
  ∃b:List (List Value),b.length=l.length/\(∀x∈b,x.length=r.n/\∀v∈x,bC v=true)/\(∀(i:Nat) (x:T),l[i]?=some x->∃cs,b[i]?=some cs/\r.rel ro x cs)/\gk F r.n (.slice ad l.length c)=some b.flatten:=by
 obtain ⟨A,B,e,_,_,he⟩:=h
 cases e
 cases f:l with
 |nil=>subst f;refine ⟨[],rfl,by simp,by simp,?_⟩;cases ad<;>simp[gk,af.dc]
 |cons t l0=>
  obtain ⟨p,C,hp,-,-⟩:=he 0 t (by rw[f];rfl)
  subst hp
  rw[<-f]
  have key:∀k,k<=l.length->∃b:List (List Value),b.length=k/\(∀x∈b,x.length=r.n/\∀v∈x,bC v=true)/\(∀(i:Nat) (x:T),i<k->l[i]?=some x->∃cs,b[i]?=some cs/\r.rel ro x cs)/\F.dc p 0 (k*r.n)=some b.flatten:=by
   intro k
   induction k with
   |zero=>intro _;exact ⟨[],rfl,by simp,by simp,by simp[af.dc]⟩
   |succ k ih=>
    intro D
    obtain ⟨b,h1,h2,h3,m⟩:=ih (by omega)
    have d:l[k]?=some l[k]:=List.getElem?_eq_getElem (by omega)
    obtain ⟨E,cs,u,o,hm⟩:=he k _ d
    cases u
    have hn:=r.len o
    refine ⟨b++[cs],by simp[h1],fun y w=>?_,fun i x hi q=>?_,?_⟩
    ·rcases List.mem_append.1 w with h|h
     ·exact h2 y h
     ·simp only[List.mem_singleton] at h;subst h;exact ⟨hn,r.one o⟩
    ·rcases Nat.lt_or_ge i k with h|h
     ·obtain ⟨cs',a1,a2⟩:=h3 i x h q
      exact ⟨cs',by rw[List.getElem?_append_left (by omega)];exact a1,a2⟩
     ·have:i=k:=by omega
      subst this
      rw[d] at q
      obtain rfl:=Option.some.inj q
      exact ⟨cs,by rw[List.getElem?_append_right (by omega)];simp[h1],o⟩
    ·rw[Nat.succ_mul]
     have g:=Au (F:=F) (a:=p) cs (k*r.n) (fun j v z=>s _ _ (by have:=hm j v z;rwa [lf] at this))
     rw[hn] at g
     have:=Av (k*r.n) 0 r.n b.flatten cs m (by rw[Nat.zero_add];exact g)
     rw[this]
     simp
  obtain ⟨b,h1,h2,h3,m⟩:=key l.length (Nat.le_refl _)
  exact ⟨b,h1,h2,fun i x d=>h3 i x (List.getElem?_eq_some_iff.1 d).1 d,m⟩
theorem aW.empty {T:Type}{r:bY T}{ro:Addr->Option Value}{e:TypeId}{b:Nat}(a:∀off sp,ro ⟨b,off,sp⟩=none):aW r ro e (.slice (some ⟨b,0,none⟩) 0 0) [] [(b,.cells #[] e)]:=
 ⟨[],.inr ⟨b,#[],0,rfl,rfl,by simp,Nat.le_refl _,by simp,by simp,a⟩,rfl,by simp,fun i x h=>by simp at h⟩
theorem Aw {ro:Addr->Option Value}{x:Nat×Obj}{l:List (Nat×Obj)}:Le ⟨ro,l++[x]⟩ ⟨ro,x::l⟩:=by
 have d:∀b,b∈keys (l++[x])↔b∈keys (x::l):=fun b=>by
  simp only[keys,List.map_append,List.map_cons,List.map_nil,List.mem_append,List.mem_cons,List.not_mem_nil,or_false]
  exact Or.comm
 refine ⟨fun w hw=>⟨hw.ro,fun b o hb=>hw.own b o ?_,?_,fun a v h hm=>hw.apart a v h ((d _).1 hm)⟩,fun b hb=>(d b).1 hb,fun a c=>.inl c⟩
 ·rcases List.mem_append.1 hb with h|h
  ·exact List.mem_cons_of_mem _ h
  ·simp only[List.mem_singleton] at h;rw[h];exact List.mem_cons_self
 ·have:=hw.nodup
  simp only[keys,List.map_cons,List.nodup_cons] at this
  simp only[keys,List.map_append,List.map_cons,List.map_nil]
  rw[List.nodup_append]
  refine ⟨this.2,by simp,fun a c b hb e=>?_⟩
  simp only[List.mem_singleton] at hb
  subst hb
  exact this.1 (e▸c)
theorem p5 {P:Program}{T:Type}{r:bY T}{ro:Addr->Option Value}{rest:List (Nat×Obj)}{ks:List Nat}{R:Value->af->Prop}{argTypes:Array TypeId}{m o e y:TypeId}{f b c:Nat}{ad:Option Addr}{z:Value}{xs:List T}
  (A:∀off sp,ro ⟨b,off,sp⟩=none) (B:au rest b) (p:keys rest=ks) (hlen:xs.length<=1000000) (C:aB r ro (.slice ad xs.length c) xs)
  (h0:argTypes[0]?=some m) (h1:argTypes[1]?=some o) (he:cW P m=some e) (D:cW P o=some y) (hs:bW P e=some r.n) (E:zeroOf P e=some z) (F:z.cells.size=r.n) (hb:bytesOf P e=some f)
  (G:0<f) (H:f<=10000)
  (q:∀v g,aW r ro e v xs g->Apart ks g->R v ⟨ro,rest++g⟩):mz P argTypes (.slice (some ⟨b,0,none⟩) 0 0) (.slice ad xs.length c) R ⟨ro,(b,.cells #[] e)::rest⟩:=by
 intro ty
 obtain ⟨d,k1,I,J,K⟩:=C.cells ⟨ro,(b,.cells #[] e)::rest⟩ (fun a v h=>by simp[af.get,h])
 have s:∀x∈d,x.length=r.n:=fun x h=>(I x h).1
 have i:=iy s
 refine vp (old:=[]) h0 h1 he D hs E hb G H (by simpa using hlen) (by simp[gk,af.dc]) K (fun L=>?_) (fun L k t l u=>?_)
 ·have hn:xs.length=0:=by omega
  have M:xs=[]:=List.eq_nil_of_length_eq_zero hn
  have N:d=[]:=List.eq_nil_of_length_eq_zero (by omega)
  subst M N
  refine .inl ⟨_,_,rfl,rfl,⟨ro,rest++[(b,.cells #[] e)]⟩,Aw,q _ _ (aW.empty A) fun k l=>?_⟩
  simp only[keys,List.map_cons,List.map_nil,List.mem_singleton] at l
  subst l
  rw[<-p]
  exact lp B
 ·refine ⟨⟨ro,rest++[(t,.cells (([]:List Value).toArray++d.flatten.toArray++Builtin.zeroCells z.cells (k - (0+xs.length))) e)]⟩,Aw.trans (Le.sub (.cons₂ _ (.cons _ (List.Sublist.refl _)))),q _ _ ?_ fun j w=>?_⟩
  ·refine ⟨d,.inr ⟨t,_,k,by rw[k1,Nat.zero_add],rfl,?_,by omega,?_,s,u.ro⟩,k1,hlen,J⟩
   ·simp only[List.nil_append,Array.size_append,List.size_toArray,List.length_nil,Builtin.zeroCells,Array.size_map,Array.size_range,i,F,k1]
    rw[Nat.zero_add,<-Nat.add_mul]
    congr 1;omega
   ·simp only[Array.toList_append,List.nil_append]
    rw[List.take_append_of_le_length (by simp[i])]
    rw[List.take_of_length_le (by simp[i])]
  ·simp only[keys,List.map_cons,List.map_nil,List.mem_singleton] at w
   subst w
   rw[<-p]
   exact lp u.own.2
theorem rX:∀{pre aY:List (Nat×Obj)} {b:Nat} {o:Obj},au pre b->lk (pre++((b,o)::aY)) b=some o
 |[],aY,b,o,_=>by simp[lk]
 |(c,x)::pre,aY,b,o,h=>by
  have a:¬c=b:=fun e=>h.1 e.symm
  simp[lk,a,rX h.2]
theorem Ax:∀{pre aY:List (Nat×Obj)} {b:Nat} {o x:Obj},au pre b->iP (pre++((b,o)::aY)) b x=pre++((b,x)::aY)
 |[],aY,b,o,x,_=>by simp[iP]
 |(c,y)::pre,aY,b,o,x,h=>by
  have a:¬c=b:=fun e=>h.1 e.symm
  simp[iP,a,Ax h.2]
theorem vK {ro:Addr->Option Value}{pre aY:List (Nat×Obj)}{b:Nat}{e:TypeId}(c:au pre b)(o:Nat):∀(a:List Value) (arr:Array Value) (i:Nat),(∀v∈a,bC v=true)->o+i+a.length<=arr.size->
  af.jB ⟨ro,pre++((b,.cells arr e)::aY)⟩ ⟨b,o,none⟩ i a=some ⟨ro,pre++((b,.cells (dP arr (o+i) a) e)::aY)⟩
 |[],arr,i,_,_=>rfl
 |v::a,arr,i,h1,h=>by
  simp only[List.length_cons] at h
  have d:(⟨b,o,none⟩:Addr).add i=⟨b,o+i,none⟩:=by
   unfold Addr.add
   split
   ·rename_i hi;subst hi;rfl
   ·rfl
  unfold af.jB
  have:af.mb ⟨ro,pre++((b,.cells arr e)::aY)⟩ ((⟨b,o,none⟩:Addr).add i) v=some ⟨ro,pre++((b,.cells (arr.setIfInBounds (o+i) v) e)::aY)⟩:=by
   have f:o+i<arr.size:=by omega
   simp[af.mb,d,rX c,h1 v (by simp),f,frozenAt,af.put,Ax c]
  rw[this]
  simp only
  rw[vK c o a _ (i+1) (fun x g=>h1 x (by simp[g])) (by simp;omega)]
  rw[dP]
  congr 1
theorem Ay {ro:Addr->Option Value}{pre aY:List (Nat×Obj)}{b:Nat}{e:TypeId}{arr:Array Value}(a:au pre b)(c:∀off sp,ro ⟨b,off,sp⟩=none):∀(n i:Nat),i+n<=arr.size->
  af.dc ⟨ro,pre++((b,.cells arr e)::aY)⟩ ⟨b,0,none⟩ i n=some ((arr.toList.drop i).take n)
 |0,i,_=>by simp[af.dc]
 |n+1,i,h=>by
  have f:(⟨b,0,none⟩:Addr).add i=⟨b,i,none⟩:=by
   unfold Addr.add
   split
   ·rename_i hi;subst hi;rfl
   ·simp
  have d:i<arr.size:=by omega
  unfold af.dc
  have ih:=Ay (e:=e) (arr:=arr) (aY:=aY) a c n (i+1) (by omega)
  simp only[af.get,f,c,if_true,rX a,Option.bind_some,cellOf,Array.getElem?_eq_getElem d,ih]
  have g:i<arr.toList.length:=by simpa using d
  rw[List.drop_eq_getElem_cons g,List.take_succ_cons]
  simp
theorem Gr.Ff {ro:Addr->Option Value}{e:TypeId}{size:Nat}{v:Value}{l:List (List Value)}{aP pre aY:List (Nat×Obj)}(h:Gr ro e size v l aP)(a:∀k∈keys aP,au pre k):
  Go.Sep.gk ⟨ro,pre++(aP++aY)⟩ size v=some l.flatten:=by
 rcases h with ⟨rfl,rfl,rfl⟩|⟨b,arr,cap,rfl,rfl,hs,c,ht,f,d⟩
 ·rfl
 ·simp only[Go.Sep.gk,List.cons_append,List.nil_append]
  have hle:l.length*size<=arr.size:=by rw[hs];exact Nat.mul_le_mul_right _ c
  rw[Ay (a b (by simp[keys])) d _ _ (by omega)]
  simp[ht]
theorem Le.ps {ro:Addr->Option Value}{l m l':List (Nat×Obj)}(hp:l.Perm m)(hs:m.Sublist l'):Le ⟨ro,l⟩ ⟨ro,l'⟩:=by
 have c:(keys m).Sublist (keys l'):=hs.map _
 have hq:(keys l).Perm (keys m):=hp.map _
 exact ⟨fun w hw=>⟨hw.ro,fun b o hb=>hw.own b o (hs.subset (hp.subset hb)),hq.nodup_iff.2 (c.nodup hw.nodup),fun a v d hm=>hw.apart a v d (c.subset (hq.subset hm))⟩,fun b hb=>c.subset (hq.subset hb),fun a e=>.inl e⟩
structure aN (ks:List Nat):Prop where
 nd:ks.Nodup
abbrev Nd (l:List (Nat×Obj)):Prop:=(keys l).Nodup
theorem Nd.fresh {pre aP aY:List (Nat×Obj)}(h:Nd (pre++(aP++aY))):∀k∈keys aP,au pre k:=fun k a=>by
 refine mG fun hm=>?_
 simp only[Nd,cj] at h
 exact (List.nodup_append.1 h).2.2 k hm k (List.mem_append_left _ a) rfl
theorem Nd.push {l:List (Nat×Obj)}{b:Nat}{o:Obj}(h:Nd l)(hb:au l b):Nd ((b,o)::l):=by
 simp only[Nd,keys,List.map_cons,List.nodup_cons]
 exact ⟨lp hb,h⟩
theorem Nd.drop {pre aP aY:List (Nat×Obj)}(h:Nd (pre++(aP++aY))):Nd (pre++aY):=
 ((List.Sublist.append_left (List.sublist_append_right aP aY) pre).map _).nodup h
theorem Nd.ins {pre aP aY:List (Nat×Obj)}{b:Nat}{o:Obj}(h:Nd (pre++(aP++aY)))(hb:au (pre++(aP++aY)) b):Nd (pre++([(b,o)]++aY)):=by
 have h2:Nd ((b,o)::(pre++aY)):=h.drop.push (mG fun hm=>lp hb (((List.Sublist.append_left (List.sublist_append_right aP aY) pre).map _).subset hm))
 have:(pre++([(b,o)]++aY)).Perm ((b,o)::(pre++aY)):=List.perm_middle
 exact (this.map _).nodup_iff.2 h2
section
variable {P : Program}
theorem Az {ro:Addr->Option Value}{pre aP aY:List (Nat×Obj)}{R:Value->af->Prop}{argTypes:Array TypeId}{ty B C e N:TypeId}{size p n c:Nat}{D:Option Addr}{s z:Value}{l xs:List (List Value)}
  (h0:argTypes[0]?=some B) (h1:argTypes[1]?=some C) (he:cW P B=some e) (d:cW P C=some N) (hs:bW P e=some size) (E:zeroOf P e=some z) (O:z.cells.size=size) (hb:bytesOf P e=some p)
  (G:0<p) (H:p<=10000) (hg:Gr ro e size s l aP) (j:Nd (pre++(aP++aY))) (hn:n=xs.length) (I:∀x∈xs,x.length=size/\∀v∈x,bC v=true) (J:gk ⟨ro,pre++(aP++aY)⟩ size (.slice D n c)=some xs.flatten)
  (K:l.length+xs.length<=1000000)
  (q:∀v r,Gr ro e size v (l++xs) r->Nd (pre++(r++aY))->∃F0,Le F0 ⟨ro,pre++(r++aY)⟩/\R v F0):
  aT P (Builtin.append_ argTypes ty #[s,.slice D n c]) (fun v F=>∃F0,Le F0 F/\R v F0) ⟨ro,pre++(aP++aY)⟩:=by
 subst hn
 have L:=j.fresh
 have hold:=hg.Ff (aY:=aY) L
 have t:∀x∈xs,x.length=size:=fun x h=>(I x h).1
 have a:=iy t
 have out:∀(k b:Nat) (old:List Value),old=l.flatten->(∀x∈l,x.length=size)->l.length+xs.length<=k->dL ⟨ro,pre++(aP++aY)⟩ b->
   ∃F0,Le F0 (af.push ⟨ro,pre++(aP++aY)⟩ b (.cells (old.toArray++xs.flatten.toArray++Builtin.zeroCells z.cells (k - (l.length+xs.length))) e))/\R (.slice (some ⟨b,0,none⟩) (l.length+xs.length) k) F0:=by
  intro k b old Q u i f
  subst Q
  have w:=iy u
  have y:=q (.slice (some ⟨b,0,none⟩) (l.length+xs.length) k) [(b,.cells (l.flatten.toArray++xs.flatten.toArray++Builtin.zeroCells z.cells (k - (l.length+xs.length))) e)] (.inr ⟨b,_,k,by simp,rfl,?_,by simpa using i,?_,?_,f.ro⟩) (j.ins f.own)
  ·obtain ⟨F0,hle,y⟩:=y
   refine ⟨F0,hle.trans ?_,y⟩
   exact Le.ps (m:=(b,.cells (l.flatten.toArray++xs.flatten.toArray++Builtin.zeroCells z.cells (k - (l.length+xs.length))) e)::(pre++aY)) List.perm_middle (.cons₂ _ (List.Sublist.append_left (List.sublist_append_right aP aY) pre))
  ·simp only[Array.size_append,List.size_toArray,Builtin.zeroCells,Array.size_map,Array.size_range,w,a,O]
   rw[<-Nat.add_mul,<-Nat.add_mul]
   congr 1;omega
  ·simp only[Array.toList_append,List.length_append,List.flatten_append]
   rw[List.take_append_of_le_length (by simp[w,a,Nat.add_mul])]
   rw[List.take_of_length_le (by simp[w,a,Nat.add_mul])]
  ·intro x d
   rcases List.mem_append.1 d with h|h
   ·exact u x h
   ·exact t x h
 rcases id hg with ⟨rfl,rfl,rfl⟩|⟨b,arr,cap,rfl,rfl,A,u,ht,o,S⟩
 ·refine vp h0 h1 he d hs E hb G H (by simpa using K) hold J (fun g=>.inr ⟨rfl,?_⟩) (fun g k b i f=>?_)
  ·have:xs=[]:=List.eq_nil_of_length_eq_zero (by omega)
   subst this
   exact q _ _ (.inl ⟨rfl,rfl,rfl⟩) j
  ·have:=out k b [] rfl (by simp) (by simpa using i) f
   simpa using this
 ·refine vp h0 h1 he d hs E hb G H K hold J (fun g=>.inl ⟨_,⟨ro,pre++([(b,.cells (dP arr (l.length*size) xs.flatten) e)]++aY)⟩,rfl,?_,?_⟩) (fun g k T i f=>out k T _ rfl o i f)
  ·have U:(⟨b,0,none⟩:Addr).add (l.length*size)=⟨b,l.length*size,none⟩:=by
    unfold Addr.add
    split
    ·rename_i hi;rw[hi]
    ·simp
   rw[U]
   have M:l.length*size+xs.length*size<=arr.size:=by rw[A,<-Nat.add_mul];exact Nat.mul_le_mul_right _ g
   have:=vK (ro:=ro) (e:=e) (aY:=aY) (L b (by simp[keys])) (l.length*size) xs.flatten arr 0 (fun v V=>by
    obtain ⟨x,W,X⟩:=List.mem_flatten.1 V
    exact (I x W).2 v X) (by rw[a];omega)
   simpa using this
  ·refine q _ _ (.inr ⟨b,_,cap,by simp,rfl,by rw[ry];exact A,by simpa using g,?_,?_,S⟩) (by simpa [Nd,keys] using j)
   ·have M:l.length*size+xs.length*size<=arr.size:=by rw[A,<-Nat.add_mul];exact Nat.mul_le_mul_right _ g
    rw[rz _ _ _ (by rw[a];exact M),ht,List.length_append,List.flatten_append,a]
    rw[List.take_append_of_le_length (by simp[iy o,a,Nat.add_mul])]
    rw[List.take_of_length_le (by simp[iy o,a,Nat.add_mul])]
   ·intro x d
    rcases List.mem_append.1 d with h|h
    ·exact o x h
    ·exact t x h
theorem AA:∀{pre own:List (Nat×Obj)} {b:Nat} {o:Obj},lk pre b=some o->lk (pre++own) b=some o
 |(c,x)::pre,own,b,o,h=>by
  simp only[List.cons_append,lk] at h ⊢
  split
  ·rename_i a;rw[if_pos a] at h;exact h
  ·rename_i a;rw[if_neg a] at h;exact AA h
theorem AB {ro:Addr->Option Value}{own:List (Nat×Obj)}{b:Nat}{cs:Array Value}{e:TypeId}(a:lk own b=some (.cells cs e))(c:∀off sp,ro ⟨b,off,sp⟩=none):∀n i,i+n<=cs.toList.length->af.dc ⟨ro,own⟩ ⟨b,0,none⟩ i n=some ((cs.toList.drop i).take n)
 |0,i,_=>by simp[af.dc]
 |n+1,i,hi=>by
  have d:i<cs.toList.length:=by omega
  unfold af.dc
  have f:(⟨b,0,none⟩:Addr).add i=⟨b,i,none⟩:=by
   unfold Addr.add
   split
   ·rename_i hi;subst hi;rfl
   ·simp
  have g:i<cs.size:=by simpa using d
  simp only[af.get,f,c,if_true,a,Option.bind_some,cellOf,Array.getElem?_eq_getElem g,AB a c n (i+1) (by omega)]
  rw[List.drop_eq_getElem_cons d,List.take_succ_cons]
  simp
theorem aW.more {T:Type}{r:bY T}{ro:Addr->Option Value}{e:TypeId}{l xs:List T}{ls ys:List (List Value)}{v:Value}{a:List (Nat×Obj)}(hg:Gr ro e r.n v (ls++ys) a)(b:ls.length=l.length)(c:ys.length=xs.length)
  (d:∀(i:Nat) (x:T),l[i]?=some x->∃cs:List Value,ls[i]?=some cs/\r.rel ro x cs) (f:∀(i:Nat) (x:T),xs[i]?=some x->∃cs:List Value,ys[i]?=some cs/\r.rel ro x cs) (hn:l.length+xs.length<=1000000):aW r ro e v (l++xs) a:=by
 refine ⟨_,hg,by simp[b,c],by simpa using hn,fun i y hi=>?_⟩
 rcases Nat.lt_or_ge i l.length with h|h
 ·rw[List.getElem?_append_left h] at hi
  rw[List.getElem?_append_left (by omega)]
  exact d i y hi
 ·rw[List.getElem?_append_right h] at hi
  rw[List.getElem?_append_right (by omega),b]
  exact f _ y hi
theorem AD {T:Type}{r:bY T}{ro:Addr->Option Value}{aP:List (Nat×Obj)}{R:Value->af->Prop}{argTypes:Array TypeId}{g h e p e2:TypeId}{b c:Nat}{s z:Value}{l:List T}{x:T}{cs:Array Value}{own:List (Nat×Obj)}(pre aY:List (Nat×Obj))(q:own=pre++(aP++aY))
  (hg:aW r ro e s l aP) (t:aN (keys own)) (j:l.length+[x].length<=1000000) (d:r.rel ro x cs.toList) (u:lk pre c=some (.cells cs e2)) (w:∀off sp,ro ⟨c,off,sp⟩=none)
  (h0:argTypes[0]?=some g) (h1:argTypes[1]?=some h) (he:cW P g=some e) (A:cW P h=some p) (hs:bW P e=some r.n) (B:zeroOf P e=some z) (C:z.cells.size=r.n) (hb:bytesOf P e=some b)
  (D:0<b) (E:b<=10000)
  (F:∀v a,aW r ro e v (l++[x]) a->∀f,f=pre++(a++aY)->aN (keys f)->∃F0,Le F0 ⟨ro,f⟩/\R v F0):mz P argTypes s (.slice (some ⟨c,0,none⟩) 1 1) R ⟨ro,own⟩:=by
 subst q
 obtain ⟨ls,G,k,hm,H⟩:=hg
 have I:=t.nd
 intro ty
 have hlen:cs.toList.length=r.n:=r.len d
 refine Az (xs:=[cs.toList]) (e:=e) (size:=r.n) (z:=z) (l:=ls) h0 h1 he A hs B C hb D E G I rfl (fun y o=>?_) ?_ (by simpa [k] using j) (fun v a J K=>F v a (aW.more J k rfl H (fun i y hi=>?_) j) _ rfl ⟨K⟩)
 ·simp only[List.mem_singleton] at o;subst o;exact ⟨hlen,r.one d⟩
 ·simp only[gk,Nat.one_mul]
  rw[AB (AA u) w _ _ (by omega)]
  rw[List.drop_zero,List.take_of_length_le (by omega)]
  simp
 ·cases i with
  |zero=>simp at hi;subst hi;exact ⟨cs.toList,rfl,d⟩
  |succ m=>simp at hi
theorem Fg {T:Type}{r:bY T}{ro:Addr->Option Value}{aP:List (Nat×Obj)}{R:Value->af->Prop}{argTypes:Array TypeId}{g i e m:TypeId}{d c:Nat}{ad:Option Addr}{s z:Value}{l xs:List T}{own:List (Nat×Obj)}(pre aY:List (Nat×Obj))(o:own=pre++(aP++aY))
  (hg:aW r ro e s l aP) (p:aN (keys own)) (j:l.length+xs.length<=1000000) (q:aB r ro (.slice ad xs.length c) xs)
  (h0:argTypes[0]?=some g) (h1:argTypes[1]?=some i) (he:cW P g=some e) (t:cW P i=some m) (hs:bW P e=some r.n) (u:zeroOf P e=some z) (w:z.cells.size=r.n) (hb:bytesOf P e=some d)
  (x:0<d) (y:d<=10000)
  (A:∀v b,aW r ro e v (l++xs) b->∀f,f=pre++(b++aY)->aN (keys f)->∃F0,Le F0 ⟨ro,f⟩/\R v F0):mz P argTypes s (.slice ad xs.length c) R ⟨ro,own⟩:=by
 subst o
 obtain ⟨ls,B,k,hm,C⟩:=hg
 have D:=p.nd
 intro ty
 obtain ⟨E,k1,F,G,H⟩:=q.cells ⟨ro,pre++(aP++aY)⟩ (fun a v h=>by simp[af.get,h])
 exact Az (xs:=E) (e:=e) (size:=r.n) (z:=z) (l:=ls) h0 h1 he t hs u w hb x y B D k1.symm F H (by rw[k,k1];exact j) (fun v b I J=>A v b (aW.more I k k1 C G j) _ rfl ⟨J⟩)
theorem aW.lB {T:Type}{r:bY T}{ro:Addr->Option Value}{e:TypeId}{v:Value}{l:List T}{aP:List (Nat×Obj)}(h:aW r ro e v l aP){own:List (Nat×Obj)}(a pre aY:List (Nat×Obj))(d:own=pre++(aP++aY))(f:a=pre++aY)(g:aN (keys own))(hn:aA ro a):
  ∃aK,Ext ro aK/\aA aK a/\aB r aK v l/\Le ⟨aK,a⟩ ⟨ro,own⟩:=by
 subst d f
 have b:Nd (pre++(aP++aY)):=g.nd
 have i:Apart (keys (pre++aY)) aP:=fun k c hm=>by
  simp only[Nd,cj] at b
  have h2:=List.nodup_append.1 b
  simp only[cj,List.mem_append] at hm
  rcases hm with hm|hm
  ·exact h2.2.2 k hm k (List.mem_append_left _ c) rfl
  ·exact (List.nodup_append.1 h2.2.1).2.2 k c k hm rfl
 obtain ⟨aK,h1,h2,h3,j⟩:=h.Ab (pre++aY) i rfl hn
 refine ⟨aK,h1,h2,h3,j.trans ?_⟩
 have hp:((pre++aY)++aP).Perm (pre++(aP++aY)):=by
  rw[List.append_assoc]
  exact List.Perm.append_left pre List.perm_append_comm
 exact Le.ps hp (List.Sublist.refl _)
theorem aW.setAt {T:Type}{r:bY T}{ro:Addr->Option Value}{e:TypeId}{l:List T}{b n cap:Nat}{arr:Array Value}(h:aW r ro e (.slice (some ⟨b,0,none⟩) n cap) l [(b,.cells arr e)]){i:Nat}{x y:T}(hi:l[i]?=some x){cs:List Value}(m:r.rel ro y cs):
  aW r ro e (.slice (some ⟨b,0,none⟩) n cap) (l.set i y) [(b,.cells (dP arr (i*r.n) cs) e)]:=by
 obtain ⟨ls,hg,o,hm,p⟩:=h
 have B:i<l.length:=(List.getElem?_eq_some_iff.1 hi).1
 have a:=r.len m
 rcases hg with ⟨k,_,_⟩|⟨C,D,q,k,s,hs,hle,ht,c,t⟩
 ·cases k
 ·cases s
  obtain ⟨rfl,rfl⟩:n=ls.length/\cap=q:=by cases k;exact ⟨rfl,rfl⟩
  have u:i*r.n+cs.length<=arr.size:=by
   rw[hs,a,<-Nat.succ_mul]
   exact Nat.mul_le_mul_right _ (by omega)
  refine ⟨ls.set i cs,.inr ⟨b,_,cap,by simp,rfl,by rw[ry];exact hs,by simpa using hle,?_,?_,t⟩,by simp[o],by simpa using hm,fun j z d=>?_⟩
  ·rw[rz _ _ _ u]
   have E:=iy c
   have f:i<ls.length:=by omega
   have e1:(ls.set i cs).flatten=(ls.take i).flatten++cs++(ls.drop (i+1)).flatten:=by
    rw[List.set_eq_take_append_cons_drop,if_pos f]
    simp
   have e2:ls.flatten=(ls.take i).flatten++(ls.drop i).flatten:=by rw[<-List.flatten_append,List.take_append_drop]
   have t1:((ls.take i).flatten).length=i*r.n:=by rw[iy (fun x h=>c x (List.mem_of_mem_take h)),List.length_take,Nat.min_eq_left (by omega)]
   have v:(ls.drop i).flatten=ls[i]++(ls.drop (i+1)).flatten:=by rw[List.drop_eq_getElem_cons f,List.flatten_cons]
   have t2:ls[i].length=r.n:=c _ (List.getElem_mem f)
   have a1:arr.toList.take (i*r.n)=(ls.take i).flatten:=by
    have:=congrArg (List.take (i*r.n)) ht
    rw[List.take_take,Nat.min_eq_left (Nat.mul_le_mul_right _ (by omega)),e2,List.take_append_of_le_length (Nat.le_of_eq t1.symm),List.take_of_length_le (Nat.le_of_eq t1)] at this
    exact this
   have a2:(arr.toList.take (ls.length*r.n)).drop (i*r.n+cs.length)=(ls.drop (i+1)).flatten:=by
    have t3:((ls.take i).flatten++ls[i]).length=i*r.n+cs.length:=by rw[List.length_append,t1,t2,a]
    rw[ht,e2,v,<-List.append_assoc,List.drop_append_of_le_length (Nat.le_of_eq t3.symm),List.drop_eq_nil_of_le (Nat.le_of_eq t3),List.nil_append]
   rw[a1,e1]
   simp only[List.length_set]
   have w:ls.length*r.n=(i*r.n+cs.length)+(ls.length*r.n - (i*r.n+cs.length)):=by
    have:i*r.n+cs.length<=ls.length*r.n:=by rw[a,<-Nat.succ_mul];exact Nat.mul_le_mul_right _ f
    omega
   rw[w,List.take_append]
   rw[List.take_of_length_le (by rw[List.length_append,t1];omega)]
   congr 1
   have:i*r.n+cs.length+(ls.length*r.n - (i*r.n+cs.length)) - ((ls.take i).flatten++cs).length=ls.length*r.n - (i*r.n+cs.length):=by simp only[List.length_append,t1];omega
   rw[this,<-a2,List.drop_take]
  ·intro z A
   rcases List.mem_or_eq_of_mem_set A with h|h
   ·exact c z h
   ·rw[h];exact a
  ·rcases Nat.decEq i j with g|g
   ·rw[List.getElem?_set_ne g] at d
    obtain ⟨cs',h1,h2⟩:=p j z d
    exact ⟨cs',by rw[List.getElem?_set_ne g];exact h1,h2⟩
   ·subst g
    rw[List.getElem?_set_self (by omega)] at d
    obtain rfl:=Option.some.inj d
    exact ⟨cs,List.getElem?_set_self (by omega),m⟩
end
section
variable {P : Program} {main : Bool} {J : Goroutine → af → Prop}
theorem aL (hJ:Closed P main J){c:Code}{Q:Ex->Act->af->Prop}{a:Act}{F:af}(h:aN (keys F.own)->Wp J c Q a F):Wp J c Q a F:=by
 intro b k cs hb d
 by_cases hw:∃w,Has F w
 ·obtain ⟨w,hw⟩:=hw
  exact h ⟨hw.nodup⟩ b k cs hb d
 ·exact hJ.step fun w e=>absurd ⟨w,e⟩ hw
end
theorem aN.cons {l:List (Nat×Obj)}{b:Nat}(hb:au l b)(h:aN (keys l)):aN (b::keys l):=⟨List.nodup_cons.2 ⟨lp hb,h.nd⟩⟩
theorem aA.nil (ro:Addr->Option Value):aA ro []:=fun b h=>by cases h
theorem aA.cons {ro:Addr->Option Value}{b:Nat}{o:Obj}{l:List (Nat×Obj)}(hb:∀off sp,ro ⟨b,off,sp⟩=none)(h:aA ro l):aA ro ((b,o)::l):=fun c a=>by
 simp only[keys,List.map_cons,List.mem_cons] at a
 rcases a with rfl|a
 ·exact hb
 ·exact h c a
theorem aA.app {ro:Addr->Option Value}{l l':List (Nat×Obj)}(h:aA ro l)(b:aA ro l'):aA ro (l++l'):=fun c a=>by
 rw[cj] at a
 exact (List.mem_append.1 a).elim (h c) (b c)
theorem aA.hd {ro:Addr->Option Value}{b:Nat}{o:Obj}{l:List (Nat×Obj)}(h:aA ro ((b,o)::l)):∀off sp,ro ⟨b,off,sp⟩=none:=h b (by simp[keys])
theorem aA.tl {ro:Addr->Option Value}{x:Nat×Obj}{l:List (Nat×Obj)}(h:aA ro (x::l)):aA ro l:=fun c a=>h c (by simp only[keys,List.map_cons,List.mem_cons];exact .inr a)
theorem aA.l {ro:Addr->Option Value}{l l':List (Nat×Obj)}(h:aA ro (l++l')):aA ro l:=fun c a=>h c (by rw[cj];exact List.mem_append_left _ a)
theorem aA.r {ro:Addr->Option Value}{l l':List (Nat×Obj)}(h:aA ro (l++l')):aA ro l':=fun c a=>h c (by rw[cj];exact List.mem_append_right _ a)
theorem aW.jE {T:Type}{r:bY T}{ro:Addr->Option Value}{e:TypeId}{v:Value}{l:List T}{aP:List (Nat×Obj)}(h:aW r ro e v l aP):aA ro aP:=by
 obtain ⟨ls,hg,-⟩:=h
 rcases hg with ⟨_,_,rfl⟩|⟨b,arr,cap,_,rfl,_,_,_,_,a⟩
 ·exact aA.nil _
 ·exact aA.cons a (aA.nil _)
theorem Le.back {ro:Addr->Option Value}{l l':List (Nat×Obj)}(A B O S:List (Nat×Obj))(h1:l=A++(B++(O++S)))(h2:l'=A++(O++(B++S))):Le ⟨ro,l⟩ ⟨ro,l'⟩:=by
 subst h1 h2
 refine Le.ps (m:=A++(O++(B++S))) (List.Perm.append_left A ?_) (List.Sublist.refl _)
 rw[<-List.append_assoc,<-List.append_assoc]
 exact List.Perm.append_right S List.perm_append_comm
section
variable {P : Program} {main : Bool} {J : Goroutine → af → Prop}
def rY (J:Goroutine->af->Prop)(jF:Frame)(F:af)(R:Value->af->Prop):Prop:=
 ∀(c:Frame) (cs:List Frame),(∀v F',R v F'->J (G (c.finish v) cs) F')->J (G jF (c::cs)) F
theorem AE (hJ:Closed P main J){jF:Frame}{ro:Addr->Option Value}{aP:List (Nat×Obj)}{K:Value->af->Prop}{own:List (Nat×Obj)}(pre aY:List (Nat×Obj))(n:own=pre++(aP++aY))(R:Value->List (Nat×Obj)->Prop)(h:∀(main:Bool) (J:Goroutine->af->Prop),Closed P main J->rY J jF ⟨ro,aP⟩ (fun v G=>∃d,R v d/\Le ⟨ro,d⟩ G))
  (H:∀v d,R v d->∀p,p=pre++(d++aY)->aN (keys p)->∃F0,Le F0 ⟨ro,p⟩/\K v F0):rY J jF ⟨ro,own⟩ K:=by
 subst n
 intro c cs I
 by_cases hw:∃w,Has ⟨ro,pre++(aP++aY)⟩ w
 ·obtain ⟨q,j⟩:=hw
  let F:af:=⟨fun _=>none,pre++aY⟩
  have r:(pre++aY).Sublist (pre++(aP++aY)):=List.Sublist.append_left (List.sublist_append_right aP aY) pre
  have s:aP.Sublist (pre++(aP++aY)):=(List.sublist_append_left aP aY).trans (List.sublist_append_right pre _)
  have u:∀w,Has ⟨ro,pre++(aP++aY)⟩ w->Has F w:=fun w hw=>⟨fun a v h=>(by cases h),fun b o hb=>hw.own b o (r.subset hb),(r.map _).nodup hw.nodup,fun a v h=>(by cases h)⟩
  have A:∀w,Has ⟨ro,pre++(aP++aY)⟩ w->Has ⟨ro,aP⟩ w:=fun w hw=>⟨hw.ro,fun b o hb=>hw.own b o (s.subset hb),(s.map _).nodup hw.nodup,fun a v i hm=>hw.apart a v i ((s.map _).subset hm)⟩
  have hd:∀b,b∈keys aP->b∉keys (pre++aY):=fun b hb hm=>by
   have hn:=j.nodup
   simp only[cj] at hn
   have h2:=List.nodup_append.1 hn
   simp only[cj,List.mem_append] at hm
   rcases hm with hm|hm
   ·exact h2.2.2 b hm b (List.mem_append_left _ hb) rfl
   ·exact (List.nodup_append.1 h2.2.1).2.2 b hb b hm rfl
  have B:Fits F ⟨ro,aP⟩:=⟨⟨q,A q j,u q j⟩,hd,fun a f hm=>(by cases f)⟩
  have L:mE F ⟨ro,aP⟩:=fun a f hm=>by
   obtain ⟨v,M⟩:=Option.isSome_iff_exists.1 f
   exact j.apart a v M ((r.map _).subset hm)
  have n:vB J F (G jF (c::cs)) ⟨ro,aP⟩:=by
   refine h main _ (z9 hJ F) c cs fun v C t k hn=>?_
   obtain ⟨d,t,hle⟩:=t
   have D:Le ⟨ro,pre++(d++aY)⟩ (C.star F):=by
    refine ⟨fun w hw=>?_,fun b hb=>?_,fun a f=>?_⟩
    ·have l:=hle.has w (k.right hw)
     have g:=k.left hw
     have N:∀b,b∈keys d->b∉keys (pre++aY):=fun b hb=>k.own b (hle.own b hb)
     have hp:(pre++(d++aY)).Perm (d++(pre++aY)):=by
      rw[<-List.append_assoc,<-List.append_assoc]
      exact List.Perm.append_right aY List.perm_append_comm
     refine ⟨l.ro,fun b o hb=>?_,?_,fun a v i hm=>?_⟩
     ·rcases List.mem_append.1 (hp.subset hb) with x|x
      ·exact l.own b o x
      ·exact g.own b o x
     ·refine (hp.map _).nodup_iff.2 ?_
      rw[List.map_append]
      exact List.nodup_append.2 ⟨l.nodup,g.nodup,fun a f b hb e=>N a f (e▸hb)⟩
     ·have E:=(hp.map (·.1)).subset hm
      rw[List.map_append] at E
      rcases List.mem_append.1 E with x|x
      ·exact l.apart a v i x
      ·rcases hle.ro a (by simp only at i;simp[i]) with y|y
       ·exact hn a y x
       ·exact k.own _ y x
    ·simp only[af.star,cj,List.mem_append] at hb ⊢
     rcases hb with x|x|x
     ·exact .inr (show b∈keys (pre++aY) by rw[cj];exact List.mem_append_left _ x)
     ·exact .inl (hle.own b x)
     ·exact .inr (show b∈keys (pre++aY) by rw[cj];exact List.mem_append_right _ x)
    ·rcases hle.ro a f with x|x
     ·exact (gH (.inr x)).imp id (fun z=>by simp only[af.star,cj,List.mem_append];exact .inr z)
     ·exact .inr (by simp only[af.star,cj,List.mem_append];exact .inl x)
   have O:∃fr cs',G (c.finish v) cs=G fr cs':=⟨_,_,rfl⟩
   obtain ⟨fr,cs',Q⟩:=O
   by_cases m:∃w,Has (C.star F) w
   ·obtain ⟨w1,m⟩:=m
    obtain ⟨F0,S,T⟩:=H v d t _ rfl ⟨(D.has w1 m).nodup⟩
    exact hJ.mono (S.trans D) (I v F0 T)
   ·rw[Q]
    exact hJ.step fun w g=>absurd ⟨w,g⟩ m
  refine hJ.mono ⟨fun w hw=>B.both (A w hw) (u w hw),fun b hb=>?_,fun a f=>?_⟩ (n B L)
  ·have hp:(aP++(pre++aY)).Perm (pre++(aP++aY)):=by
    rw[<-List.append_assoc,<-List.append_assoc]
    exact List.Perm.append_right aY List.perm_append_comm
   exact (hp.map _).subset hb
  ·rcases j3 f with x|x
   ·cases x
   ·exact .inl x
 ·exact hJ.step fun w g=>absurd ⟨w,g⟩ hw
theorem AF (hJ:Closed P main J){f:FuncId}{args:Array Value}{ro:Addr->Option Value}{aP:List (Nat×Obj)}{K:Value->af->Prop}{own:List (Nat×Obj)}(pre aY:List (Nat×Obj))(c:own=pre++(aP++aY))(R:Value->List (Nat×Obj)->Prop)(h:aC P f args ⟨ro,aP⟩ (fun v G=>∃a,R v a/\Le ⟨ro,a⟩ G))
  (d:∀v a,R v a->∀b,b=pre++(a++aY)->aN (keys b)->∃F0,Le F0 ⟨ro,b⟩/\K v F0):cL P J f args ⟨ro,own⟩ K:=
 AE hJ (jF:=Frame.enter P f args .normal) pre aY c R h d
end
attribute [go_sem] Array.size_setIfInBounds
theorem aB.op {T:Type}{r:bY T}{ro:Addr->Option Value}{ad:Option Addr}{n cap:Nat}{l:List T}(h:aB r ro (.slice ad n cap) l):
  l.length<=cap/\l.length<=1000000000000000/\∀i x,l[i]?=some x->∃p cs,ad=some p/\r.rel ro x cs/\∀j v,cs[j]?=some v->ro ((p.add (i*r.n)).add j)=some v:=by
 obtain ⟨a,b,e,h1,h2,h3⟩:=h
 cases e
 exact ⟨h1,h2,h3⟩
theorem aN.sub {l l':List (Nat×Obj)}(A O S:List (Nat×Obj))(h1:l=A++S)(h2:l'=A++(O++S))(h:aN (keys l')):aN (keys l):=by
 subst h1 h2
 exact
 ⟨((List.Sublist.append_left (List.sublist_append_right O S) A).map _).nodup h.nd⟩
theorem aN.back {l l':List (Nat×Obj)}(A B O S:List (Nat×Obj))(h1:l=A++(B++(O++S)))(h2:l'=A++(O++(B++S)))(h:aN (keys l')):aN (keys l):=by
 subst h1 h2
 refine ⟨(List.Perm.map _ (List.Perm.append_left A ?_)).nodup_iff.2 h.nd⟩
 rw[<-List.append_assoc,<-List.append_assoc]
 exact List.Perm.append_right S List.perm_append_comm
theorem ga {ro:Addr->Option Value}{b:Nat}{o:Obj}(pre aY:List (Nat×Obj))(d:aN (keys (pre++((b,o)::aY))))(_hr:∀off sp,ro ⟨b,off,sp⟩=none)(hn:aA ro (pre++aY)):
  Ext ro (bO ro b o)/\aA (bO ro b o) (pre++aY)/\Le ⟨bO ro b o,pre++aY⟩ ⟨ro,pre++((b,o)::aY)⟩:=by
 have hp:(pre++((b,o)::aY)).Perm ((b,o)::(pre++aY)):=List.perm_middle
 have h2:Nd ((b,o)::(pre++aY)):=(hp.map _).nodup_iff.1 d.nd
 have hb:b∉keys (pre++aY):=(List.nodup_cons.1 h2).1
 refine ⟨gm _ _ _,fun c a off sp=>?_,?_⟩
 ·have f:¬c=b:=fun e=>hb (e▸a)
  simp[bO,hn c a,f]
 ·have h3:Le ⟨bO ro b o,pre++aY⟩ ⟨ro,(b,o)::(pre++aY)⟩:=j8 (by simp[lk]) (.cons _ (List.Sublist.refl _)) (mG hb)
  exact h3.trans (Le.ps hp.symm (List.Sublist.refl _))
section
variable {P : Program} {main : Bool} {J : Goroutine → af → Prop}
theorem gb (hJ:Closed P main J){c:Code}{Q:Ex->Act->af->Prop}{a:Act}{F:af}(h:aN (keys F.own)->aA F.ro F.own->Wp J c Q a F):Wp J c Q a F:=by
 intro b k cs hb d
 by_cases hw:∃w,Has F w
 ·obtain ⟨w,hw⟩:=hw
  refine h ⟨hw.nodup⟩ (fun b hb off sp=>?_) b k cs hb d
  cases e:F.ro ⟨b,off,sp⟩ with
  |none=>rfl
  |some v=>exact absurd hb (hw.apart _ v e)
 ·exact hJ.step fun w f=>absurd ⟨w,f⟩ hw
end
theorem vL:∀(a:List Value) (arr:Array Value) (k:Nat),k+a.length<=arr.size->∀q,(dP arr k a)[q]?=if k<=q/\q<k+a.length then a[q - k]? else arr[q]?
 |[],arr,k,h,q=>by
  have:¬(k<=q/\q<k+([]:List Value).length):=by simp
  rw[if_neg this];rfl
 |v::a,arr,k,h,q=>by
  simp only[List.length_cons] at h
  rw[dP,vL a _ (k+1) (by simp;omega)]
  simp only[List.length_cons]
  by_cases h1:k=q
  ·subst h1
   rw[if_neg (by omega),if_pos (by omega),Array.getElem?_setIfInBounds_self_of_lt (by omega)]
   simp
  ·by_cases h2:k+1<=q/\q<k+1+a.length
   ·rw[if_pos h2,if_pos (by omega)]
    rw[show q - k=(q - (k+1))+1 by omega]
    simp
   ·rw[if_neg h2,if_neg (by omega),Array.getElem?_setIfInBounds_ne h1]
theorem aW.part {T:Type}{r:bY T}{ro:Addr->Option Value}{e:TypeId}{l:List T}{b n cap:Nat}{arr:Array Value}(h:aW r ro e (.slice (some ⟨b,0,none⟩) n cap) l [(b,.cells arr e)]){i:Nat}{x y:T}(hi:l[i]?=some x)(o:Nat)(a cs cs':List Value)
  (hm:∀j v,cs[j]?=some v->arr[i*r.n+j]?=some v) (hlen:cs.length=r.n) (f:cs'=cs.take o++a++cs.drop (o+a.length)) (p:o+a.length<=cs.length) (g:r.rel ro y cs'):
  aW r ro e (.slice (some ⟨b,0,none⟩) n cap) (l.set i y) [(b,.cells (dP arr (i*r.n+o) a) e)]:=by
 have h2:=h.setAt hi g
 have d:=r.len g
 have m:i*r.n+r.n<=arr.size:=by
  rcases Nat.eq_zero_or_pos r.n with h0|hp
  ·rw[h0];omega
  ·have c:r.n - 1<cs.length:=by omega
   have:=hm (r.n - 1) cs[r.n - 1] (List.getElem?_eq_getElem c)
   have:=(Array.getElem?_eq_some_iff.1 this).1
   omega
 have e1:dP arr (i*r.n) cs'=dP arr (i*r.n+o) a:=by
  apply Array.ext_getElem?
  intro q
  rw[vL cs' arr _ (by rw[d];exact m),vL a arr _ (by omega)]
  by_cases h1:i*r.n+o<=q/\q<i*r.n+o+a.length
  ·rw[if_pos h1,if_pos (by rw[d];omega),f]
   rw[List.append_assoc,List.getElem?_append_right (by simp;omega),List.getElem?_append_left (by simp;omega)]
   congr 1
   simp;omega
  ·rw[if_neg h1]
   by_cases h3:i*r.n<=q/\q<i*r.n+cs'.length
   ·rw[if_pos h3]
    rw[d] at h3
    have hq:arr[q]?=cs[q - i*r.n]?:=by
     have c:q - i*r.n<cs.length:=by omega
     have:=hm (q - i*r.n) _ (List.getElem?_eq_getElem c)
     rw[show i*r.n+(q - i*r.n)=q by omega] at this
     rw[this,List.getElem?_eq_getElem c]
    rw[hq,f]
    rcases Nat.lt_or_ge (q - i*r.n) o with k|k
    ·rw[List.append_assoc,List.getElem?_append_left (by simp;omega),List.getElem?_take_of_lt k]
    ·have s:o+a.length<=q - i*r.n:=by omega
     rw[List.getElem?_append_right (by simp;omega),List.getElem?_drop]
     congr 1
     simp;omega
   ·rw[if_neg h3]
 rw[e1] at h2
 exact h2
theorem aW.elemAt {T:Type}{r:bY T}{ro:Addr->Option Value}{e:TypeId}{b n cap:Nat}{l:List T}{aP:List (Nat×Obj)}(h:aW r ro e (.slice (some ⟨b,0,none⟩) n cap) l aP){i:Nat}{x:T}(hi:l[i]?=some x):
  ∃arr cs,aP=[(b,.cells arr e)]/\(∀off sp,ro ⟨b,off,sp⟩=none)/\r.rel ro x cs/\∀j v,cs[j]?=some v->arr[i*r.n+j]?=some v:=by
 obtain ⟨g,arr,k,cs,a,c,d,f,hm⟩:=h.elem hi
 cases a
 exact ⟨arr,cs,c,d,f,hm⟩
theorem aW.AG {T:Type}{r:bY T}{ro:Addr->Option Value}{e:TypeId}{ad:Option Addr}{n cap:Nat}{l:List T}{aP:List (Nat×Obj)}(h:aW r ro e (.slice ad n cap) l aP){i:Nat}{x:T}(hi:l[i]?=some x):
  ∃b arr cs,ad=some ⟨b,0,none⟩/\aP=[(b,.cells arr e)]/\(∀off sp,ro ⟨b,off,sp⟩=none)/\r.rel ro x cs/\∀j v,cs[j]?=some v->arr[i*r.n+j]?=some v:=by
 obtain ⟨a,arr,k,cs,c,d,f,g,hm⟩:=h.elem hi
 injection c with h1 h2 h3
 exact ⟨a,arr,cs,h1,d,f,g,hm⟩
theorem aW.lC {T:Type}{r:bY T}{ro:Addr->Option Value}{e:TypeId}{b n cap:Nat}{l:List T}{arr:Array Value}(h:aW r ro e (.slice (some ⟨b,0,none⟩) n cap) l [(b,.cells arr e)]){i:Nat}{x:T}(hi:l[i]?=some x):
  ∃cs,r.rel ro x cs/\∀j v,cs[j]?=some v->arr[i*r.n+j]?=some v:=by
 obtain ⟨d,cs,a,f,c,hm⟩:=h.elemAt hi
 simp only[List.cons.injEq,Prod.mk.injEq,Obj.cells.injEq,true_and,and_true] at a
 subst a
 exact ⟨cs,c,hm⟩
theorem aW.vM {T:Type}{r:bY T}{ro:Addr->Option Value}{e:TypeId}{l:List T}{b n cap:Nat}{arr:Array Value}(h:aW r ro e (.slice (some ⟨b,0,none⟩) n cap) l [(b,.cells arr e)]){i:Nat}{y:T}(hi:i<l.length){cs:List Value}(a:r.rel ro y cs):
  aW r ro e (.slice (some ⟨b,0,none⟩) n cap) (l.set i y) [(b,.cells (dP arr (i*r.n) cs) e)]:=h.setAt (List.getElem?_eq_getElem hi) a
theorem aW.vN {T:Type}{r:bY T}{ro:Addr->Option Value}{e:TypeId}{ad:Option Addr}{n cap:Nat}{l:List T}{aP:List (Nat×Obj)}(h:aW r ro e (.slice ad n cap) l aP)(hn:l.isEmpty=false):
  ∃b arr,ad=some ⟨b,0,none⟩/\aP=[(b,.cells arr e)]/\(∀off sp,ro ⟨b,off,sp⟩=none):=by
 cases l with
 |nil=>cases hn
 |cons x l=>
  obtain ⟨b,arr,cs,h1,h2,h3,_⟩:=h.AG (i:=0) rfl
  exact ⟨b,arr,h1,h2,h3⟩
theorem aW.Fh {T:Type}{r:bY T}{ro:Addr->Option Value}{e:TypeId}{b n cap:Nat}{l:List T}{aP:List (Nat×Obj)}(h:aW r ro e (.slice (some ⟨b,0,none⟩) n cap) l aP):∃arr,aP=[(b,.cells arr e)]:=by
 obtain ⟨ls,hg,-⟩:=h
 rcases hg with ⟨a,_,_⟩|⟨d,arr,f,a,c,_⟩
 ·cases a
 ·cases a
  exact ⟨arr,c⟩
theorem aW.count {T:Type}{r:bY T}{ro:Addr->Option Value}{e:TypeId}{ad:Option Addr}{n cap:Nat}{l:List T}{aP:List (Nat×Obj)}(h:aW r ro e (.slice ad n cap) l aP):l.length=n:=by
 obtain ⟨b,c,a,_⟩:=h.len
 cases a
 rfl
def p6 (ops:Array Oper)(bT:List Nat)(i:Nat):Bool:=bT.all fun j=>match ops[j]? with
 |some o=>o.after.any fun e=>Region.binds .any e&&e.on==i
 |none=>true
section
variable {P : Program} {main : Bool} {J : Goroutine → af → Prop} {ops : Array Oper} {Q : Act → af → Prop} {S : af → Prop} {bT : List Nat}
def dR (P:Program)(J:Goroutine->af->Prop)(ops:Array Oper)(Q:Act->af->Prop)(S:af->Prop)(bT:List Nat):Nat->Array Bool->Act->af->Prop
 |0,listed,a,F=>Region.ready .any ops listed=[]/\Q a F
 |fuel+1,listed,a,F=>(Region.ready .any ops listed=[]->Q a F)/\
  ∀i∈Region.ready .any ops listed,dD P J ops i (fun b F'=>(¬i∈bT->S F->S F')/\dR P J ops Q S bT fuel (listed.setIfInBounds i true) b F') a F
theorem Fi:∀(fuel t:Nat) (listed:Array Bool) (a:Act) (F:af),dR P J ops Q S bT fuel listed a F->
  fW P J ops Q (Region.linearise.go .any ops fuel t listed []) a F:=by
 intro fuel
 induction fuel with
 |zero=>intro t listed a F h;simpa [Region.linearise.go,fW] using h.2
 |succ fuel ih=>
  intro t listed a F h
  obtain ⟨b,c⟩:=h
  simp only[Region.linearise.go]
  change fW P J ops Q (match (Region.ready .any ops listed)[t % (Region.ready .any ops listed).length]? with
   |some i=>Region.linearise.go .any ops fuel (t/(Region.ready .any ops listed).length) (listed.setIfInBounds i true) [i]
   |none=>[].reverse) a F
  cases hi:(Region.ready .any ops listed)[t % (Region.ready .any ops listed).length]? with
  |none=>
   have d:Region.ready .any ops listed=[]:=by
    cases e:Region.ready .any ops listed with
    |nil=>rfl
    |cons x xs=>
     rw[e] at hi
     have f:t % (x::xs).length<(x::xs).length:=Nat.mod_lt _ (by simp)
     simp at hi
     simp at f
     omega
   simpa [fW] using b d
  |some i=>
   simp only[]
   rw[linearise_go_acc,List.reverse_singleton,List.singleton_append]
   exact pE (fun a F h=>ih _ _ a F h.2) (c i (List.mem_of_getElem? hi))
theorem Fj {i:Nat}{g:Oper}{v:Value}(hi:ops[i]?=some g)(l:p6 ops bT i=true)(s:∀(j:Nat) (o:Oper) cs b,ops[j]?=some o->o.op≠ .select cs b):
  ∀(fuel:Nat) (listed:Array Bool) (a:Act) (F:af),
   (∀j d,ops[j]?=some d->j≠i->listed.getD j true=false->(∀e∈d.after,Region.binds .any e=true->e.on≠i)->g.apart ops d=true)->
   i∈Region.ready .any ops listed->fF P J ops S g v a->S F->
   dR P J ops Q S bT fuel (listed.setIfInBounds i true) (a.put g.dst v) F->dR P J ops Q S bT (fuel+1) listed a F:=by
 intro fuel
 induction fuel with
 |zero=>
  intro listed a F _ f m n H
  refine ⟨fun h=>(by rw[h] at f;cases f),fun j p=>?_⟩
  by_cases c:j=i
  ·subst c;exact m.nE hi n ⟨fun _ h=>h,H⟩
  ·have:=ready_mono p c
   rw[H.1] at this
   cases this
 |succ fuel ih=>
  intro listed a F t f m n H
  refine ⟨fun h=>(by rw[h] at f;cases f),fun j p=>?_⟩
  by_cases c:j=i
  ·subst c;exact m.nE hi n ⟨fun _ h=>h,H⟩
  ·have h1:=H.2 j (ready_mono p c)
   obtain ⟨u,d,q,A⟩:=mem_ready.1 p
   have w:∀e∈d.after,Region.binds .any e=true->e.on≠i:=fun e he hb heq=>by
    have h1:=A e he hb
    have h0:=(mem_ready.1 f).1
    rw[heq] at h1
    rcases Nat.lt_or_ge i listed.size with r|r
    ·simp[r] at h0 h1;rw[h0] at h1;cases h1
    ·simp[Array.getElem?_eq_none r] at h1
   have B:¬j∈bT:=fun e=>by
    have l:=List.all_eq_true.1 l j e
    simp only[q,Array.any_eq_true,Bool.and_eq_true,beq_iff_eq] at l
    obtain ⟨x,C,h1,h2⟩:=l
    exact w _ (Array.getElem_mem C) h1 h2
   have h2:=uX q (t j d q c u w) (fun cs b=>s i g cs b hi) (fun cs b=>s j d cs b q) m h1
   have D:∀k ok,ops[k]?=some ok->k≠i->(listed.setIfInBounds j true).getD k true=false->
     (∀e∈ok.after,Region.binds .any e=true->e.on≠i)->g.apart ops ok=true:=fun k ok E G y I=>by
    refine t k ok E G ?_ I
    by_cases z:j=k
    ·subst z;exact u
    ·rw[getD_set_ne true z] at y;exact y
   refine pE (fun K F' h3=>⟨h3.2.1,ih (listed.setIfInBounds j true) K F' D (ready_mono f (Ne.symm c)) h3.1 (h3.2.1 B n) ?_⟩) h2
   rw[Array.setIfInBounds_comm _ _ c]
   exact h3.2.2
theorem Fo {i:Nat}{g:Oper}{v:Value}(hi:ops[i]?=some g)(q:∀(j:Nat) (o:Oper) cs b,ops[j]?=some o->o.op≠ .select cs b):
  ∀(fuel:Nat) (listed:Array Bool) (a:Act) (F:af),
   (∀j d,ops[j]?=some d->j≠i->listed.getD j true=false->(∀e∈d.after,Region.binds .any e=true->e.on≠i)->g.apart ops d=true)->
   i∈Region.ready .any ops listed->fF P J ops (fun _=>True) g v a->
   dR P J ops Q S bT fuel (listed.setIfInBounds i true) (a.put g.dst v) F->dR P J ops Q S bT (fuel+1) listed a F:=by
 intro fuel
 induction fuel with
 |zero=>
  intro listed a F _ f l H
  refine ⟨fun h=>(by rw[h] at f;cases f),fun j m=>?_⟩
  by_cases c:j=i
  ·subst c;exact l.nE hi trivial ⟨fun _ h=>h,H⟩
  ·have:=ready_mono m c
   rw[H.1] at this
   cases this
 |succ fuel ih=>
  intro listed a F r f l H
  refine ⟨fun h=>(by rw[h] at f;cases f),fun j m=>?_⟩
  by_cases c:j=i
  ·subst c;exact l.nE hi trivial ⟨fun _ h=>h,H⟩
  ·have h1:=H.2 j (ready_mono m c)
   obtain ⟨s,d,n,w⟩:=mem_ready.1 m
   have x:∀e∈d.after,Region.binds .any e=true->e.on≠i:=fun e he hb heq=>by
    have h1:=w e he hb
    have h0:=(mem_ready.1 f).1
    rw[heq] at h1
    rcases Nat.lt_or_ge i listed.size with p|p
    ·simp[p] at h0 h1;rw[h0] at h1;cases h1
    ·simp[Array.getElem?_eq_none p] at h1
   have h2:=uX n (r j d n c s x) (fun cs b=>q i g cs b hi) (fun cs b=>q j d cs b n) l h1
   have y:∀k ok,ops[k]?=some ok->k≠i->(listed.setIfInBounds j true).getD k true=false->
     (∀e∈ok.after,Region.binds .any e=true->e.on≠i)->g.apart ops ok=true:=fun k ok z A t B=>by
    refine r k ok z A ?_ B
    by_cases u:j=k
    ·subst u;exact s
    ·rw[getD_set_ne true u] at t;exact t
   refine pE (fun C F' h3=>⟨h3.2.1,ih (listed.setIfInBounds j true) C F' y (ready_mono f (Ne.symm c)) h3.1 ?_⟩) h2
   rw[Array.setIfInBounds_comm _ _ c]
   exact h3.2.2
theorem AH (i:Nat){c:Oper}(v:Value){fuel:Nat}{listed:Array Bool}{a:Act}{F:af}(hi:ops[i]?=some c)
  (b:(Region.noSelect ops&&Region.free .any ops listed i&&(Region.ready .any ops listed).contains i)=true)
  (d:p6 ops bT i=true) (e:fF P J ops S c v a) (f:S F)
  (h:dR P J ops Q S bT fuel (listed.setIfInBounds i true) (a.put c.dst v) F):dR P J ops Q S bT (fuel+1) listed a F:=by
 simp only[Bool.and_eq_true] at b
 exact Fj hi d (Region.noSelect_spec b.1.1) fuel listed a F (Region.free_spec hi b.1.2) (by simpa using b.2) e f h
theorem vO {rs:List Nat}{fuel:Nat}{listed:Array Bool}{a:Act}{F:af}(b:Region.ready .any ops listed=rs)(c:rs≠[])
  (h:∀i∈rs,dD P J ops i (fun d F'=>(¬i∈bT->S F->S F')/\dR P J ops Q S bT fuel (listed.setIfInBounds i true) d F') a F):dR P J ops Q S bT (fuel+1) listed a F:=
 ⟨fun h0=>absurd (b▸h0) c,b▸h⟩
theorem AI (i:Nat){fuel:Nat}{listed:Array Bool}{a:Act}{F:af}(b:Region.ready .any ops listed=[i])
  (h:dD P J ops i (fun c F'=>(¬i∈bT->S F->S F')/\dR P J ops Q S bT fuel (listed.setIfInBounds i true) c F') a F):dR P J ops Q S bT (fuel+1) listed a F:=
 vO b (by simp) (by simpa using h)
theorem AJ {listed:Array Bool}{a:Act}{F:af}(b:Region.ready .any ops listed=[])(h:Q a F):∀fuel,dR P J ops Q S bT fuel listed a F
 |0=>⟨b,h⟩
 |_+1=>⟨fun _=>h,by rw[b];simp⟩
end
theorem vP {P:Program}{J:Goroutine->af->Prop}{ops:Array Oper}{Q:Act->af->Prop}{S:af->Prop}{bT:List Nat}(i:Nat){b:Oper}(v:Value){fuel:Nat}{listed:Array Bool}{a:Act}{F:af}(hi:ops[i]?=some b)
  (d:(Region.noSelect ops&&Region.free .any ops listed i&&(Region.ready .any ops listed).contains i)=true)
  (e:p6 ops bT i=true) (hg:cu ops b a=some true) (f:∀F R,S F->R v F->cD P J b R a F) (c:S F)
  (h:dR P J ops Q S bT fuel (listed.setIfInBounds i true) (aX a b.dst v) F):dR P J ops Q S bT (fuel+1) listed a F:=
 AH i v hi d e (.inl ⟨b7 hg,fun F R c g=>k9 (f F R c g)⟩) c h
theorem Fp {P:Program}{J:Goroutine->af->Prop}{ops:Array Oper}{Q:Act->af->Prop}{S:af->Prop}{bT:List Nat}(i:Nat){b:Oper}{fuel:Nat}{listed:Array Bool}{a:Act}{F:af}(hi:ops[i]?=some b)
  (c:(Region.noSelect ops&&Region.free .any ops listed i&&(Region.ready .any ops listed).contains i)=true)
  (d:p6 ops bT i=true) (hg:cu ops b a=some false) (e:S F)
  (h:dR P J ops Q S bT fuel (listed.setIfInBounds i true) (aX a b.dst undef) F):dR P J ops Q S bT (fuel+1) listed a F:=
 AH i undef hi c d (.inr ⟨b7 hg,rfl⟩) e h
theorem AK {P:Program}{J:Goroutine->af->Prop}{ops:Array Oper}{Q:Act->af->Prop}{S:af->Prop}{bT:List Nat}(i:Nat){c:Oper}(v:Value){fuel:Nat}{listed:Array Bool}{a:Act}{F:af}(hi:ops[i]?=some c)
  (b:(Region.noSelect ops&&Region.free .any ops listed i&&(Region.ready .any ops listed).contains i)=true)
  (d:fF P J ops (fun _=>True) c v a)
  (h:dR P J ops Q S bT fuel (listed.setIfInBounds i true) (aX a c.dst v) F):dR P J ops Q S bT (fuel+1) listed a F:=by
 simp only[Bool.and_eq_true] at b
 exact Fo hi (Region.noSelect_spec b.1.1) fuel listed a F (Region.free_spec hi b.1.2) (by simpa using b.2) d h
inductive b8 where
 |done
 |rd (i:Nat) (p:b8)
 |one (i:Nat) (p:b8)
 |two (i:Nat) (p:b8) (j:Nat) (q:b8)
 |three (i:Nat) (p:b8) (j:Nat) (q:b8) (k:Nat) (r:b8)
 |last (i:Nat) (p:b8)
 |pure (i:Nat) (p:b8)
inductive fM where
 |done
 |rd (o:Oper) (p:fM)
 |one (o:Oper) (p:fM)
 |two (o:Oper) (p:fM) (o':Oper) (q:fM)
 |three (o:Oper) (p:fM) (o':Oper) (q:fM) (kr:Oper) (r:fM)
 |last (o:Oper) (p:fM)
 |pure (o:Oper) (p:fM)
 |bad
def b8.opers (ops:Array Oper):b8->fM
 | .done=>.done
 | .rd i p=>match ops[i]? with
  |some o=>.rd o (p.opers ops)
  |none=>.bad
 | .one i p=>match ops[i]? with
  |some o=>.one o (p.opers ops)
  |none=>.bad
 | .two i p j q=>match ops[i]?,ops[j]? with
  |some o,some o'=>.two o (p.opers ops) o' (q.opers ops)
  |_,_=>.bad
 | .three i p j q k r=>match ops[i]?,ops[j]?,ops[k]? with
  |some o,some o',some kr=>.three o (p.opers ops) o' (q.opers ops) kr (r.opers ops)
  |_,_,_=>.bad
 | .last i p=>match ops[i]? with
  |some o=>.last o (p.opers ops)
  |none=>.bad
 | .pure i p=>match ops[i]? with
  |some o=>.pure o (p.opers ops)
  |none=>.bad
def b8.tl:b8->Bool
 | .done=>true
 | .last _ p=>p.tl
 | .pure _ p=>p.tl
 |_=>false
def b8.ok (ops:Array Oper)(bT:List Nat):b8->Array Bool->Bool
 | .done,L=>decide (Region.ready .any ops L=[])
 | .rd i p,L=>Region.free .any ops L i&&(Region.ready .any ops L).contains i&&(ops[i]?).isSome&&p6 ops bT i&&p.ok ops bT (L.setIfInBounds i true)
 | .one i p,L=>decide (Region.ready .any ops L=[i])&&(ops[i]?).isSome&&p.ok ops bT (L.setIfInBounds i true)
 | .two i p j q,L=>decide (Region.ready .any ops L=[i,j])&&(ops[i]?).isSome&&(ops[j]?).isSome&&p.ok ops bT (L.setIfInBounds i true)&&q.ok ops bT (L.setIfInBounds j true)
 | .three i p j q k r,L=>decide (Region.ready .any ops L=[i,j,k])&&(ops[i]?).isSome&&(ops[j]?).isSome&&(ops[k]?).isSome&&p.ok ops bT (L.setIfInBounds i true)&&q.ok ops bT (L.setIfInBounds j true)&&r.ok ops bT (L.setIfInBounds k true)
 | .pure i p,L=>Region.free .any ops L i&&(Region.ready .any ops L).contains i&&(ops[i]?).isSome&&p.ok ops bT (L.setIfInBounds i true)
 | .last i p,L=>bT.contains i&&decide (Region.ready .any ops L=[i])&&p.tl&&(ops[i]?).isSome&&p.ok ops bT (L.setIfInBounds i true)
def b8.len:b8->Nat
 | .done=>0
 | .rd _ p=>p.len+1
 | .one _ p=>p.len+1
 | .two _ p _ q=>max p.len q.len+1
 | .three _ p _ q _ r=>max p.len (max q.len r.len)+1
 | .last _ p=>p.len+1
 | .pure _ p=>p.len+1
def cp (P:Program)(J:Goroutine->af->Prop)(ops:Array Oper)(F0:af)(Q:Act->af->Prop):fM->Bool->Act->af->Prop
 | .done,_,a,F=>Q a F
 | .bad,_,_,_=>False
 | .rd o p,_,a,F=>match cu ops o a with
  |some false=>cp P J ops F0 Q p true (aX a o.dst undef) F
  |some true=>match o.op with
   | .load t x=>match ev a x with
    | .pointer (some ad)=>match fh P F0 t ad with
     |some v=>cp P J ops F0 Q p true (aX a o.dst v) F
     |none=>False
    |_=>False
   | .call {callee:=.value x,args, ..}=>match ev a x with
    | .func (.func fn) first captured=>aJ P fn=true/\∃v,Plain P J F0 fn (first++args.map (ev a)++captured) v/\cp P J ops F0 Q p false (aX a o.dst v) F
    |_=>False
   |_=>match iV P o a with
    |some v=>cp P J ops F0 Q p true (aX a o.dst v) F
    |none=>False
  |none=>False
 | .one o p,_,a,F=>match cu ops o a with
  |some true=>cD P J o (fun v F'=>Knows F0 F'/\cp P J ops F0 Q p (!Oper.calls o) (aX a o.dst v) F') a F
  |_=>False
 | .two o p o' q,_,a,F=>(match cu ops o a with
  |some true=>cD P J o (fun v F'=>Knows F0 F'/\cp P J ops F0 Q p (!Oper.calls o) (aX a o.dst v) F') a F
  |_=>False)/\(match cu ops o' a with
  |some true=>cD P J o' (fun v F'=>Knows F0 F'/\cp P J ops F0 Q q (!Oper.calls o') (aX a o'.dst v) F') a F
  |_=>False)
 | .three o p o' q kr r,_,a,F=>(match cu ops o a with
  |some true=>cD P J o (fun v F'=>Knows F0 F'/\cp P J ops F0 Q p (!Oper.calls o) (aX a o.dst v) F') a F
  |_=>False)/\(match cu ops o' a with
  |some true=>cD P J o' (fun v F'=>Knows F0 F'/\cp P J ops F0 Q q (!Oper.calls o') (aX a o'.dst v) F') a F
  |_=>False)/\(match cu ops kr a with
  |some true=>cD P J kr (fun v F'=>Knows F0 F'/\cp P J ops F0 Q r (!Oper.calls kr) (aX a kr.dst v) F') a F
  |_=>False)
 | .pure o p,_,a,F=>match cu ops o a with
  |some false=>cp P J ops F0 Q p true (aX a o.dst undef) F
  |some true=>match iV P o a with
   |some v=>cp P J ops F0 Q p true (aX a o.dst v) F
   |none=>False
  |none=>False
 | .last o p,_,a,F=>match cu ops o a with
  |some true=>cD P J o (fun v F'=>cp P J ops F0 Q p (!Oper.calls o) (aX a o.dst v) F') a F
  |_=>False
section
variable {P : Program} {main : Bool} {J : Goroutine → af → Prop} {ops : Array Oper} {Q : Act → af → Prop} {F0 : af} {bT : List Nat}
theorem nW {p:b8}{i:Nat}{o:Oper}{fuel:Nat}{L:Array Bool}{a:Act}{F:af}(b:ops[i]?=some o)
  (ih:∀go a F,Knows F0 F->cp P J ops F0 Q (p.opers ops) go a F->dR P J ops Q (Knows F0) bT fuel (L.setIfInBounds i true) a F)
  (h:match cu ops o a with
   |some true=>cD P J o (fun v F'=>Knows F0 F'/\cp P J ops F0 Q (p.opers ops) (!Oper.calls o) (aX a o.dst v) F') a F
   |_=>False):dD P J ops i (fun c F'=>(¬i∈bT->Knows F0 F->Knows F0 F')/\dR P J ops Q (Knows F0) bT fuel (L.setIfInBounds i true) c F') a F:=by
 split at h
 ·rename_i hg
  unfold dD
  simp only[b]
  rw[if_pos (b7 hg)]
  refine k9 (mD.rJ ?_ h)
  rintro v F' ⟨h1,h2⟩
  exact ⟨fun _ _=>h1,ih _ _ F' h1 h2⟩
 ·exact h.elim
theorem AL {p:b8}{i:Nat}{fuel:Nat}{L:Array Bool}{go:Bool}{a:Act}{F:af}(e:Region.noSelect ops=true)(c:(b8.pure i p).ok ops bT L=true)
  (ih:∀go v a,p.ok ops bT (L.setIfInBounds i true)=true->cp P J ops F0 Q (p.opers ops) go (aX a ((ops[i]?).bind (·.dst)) v) F->dR P J ops Q (Knows F0) bT fuel (L.setIfInBounds i true) (aX a ((ops[i]?).bind (·.dst)) v) F)
  (h:cp P J ops F0 Q ((b8.pure i p).opers ops) go a F):dR P J ops Q (Knows F0) bT (fuel+1) L a F:=by
 simp only[b8.ok,Bool.and_eq_true] at c
 obtain ⟨⟨⟨c1,c2⟩,c3⟩,c4⟩:=c
 obtain ⟨o,b⟩:=Option.isSome_iff_exists.1 c3
 have d:(Region.noSelect ops&&Region.free .any ops L i&&(Region.ready .any ops L).contains i)=true:=by rw[e,c1,c2];rfl
 have hp:b8.opers ops (.pure i p)= .pure o (p.opers ops):=by simp only[b8.opers,b]
 rw[hp] at h
 have hd:(ops[i]?).bind (·.dst)=o.dst:=by rw[b];rfl
 rw[hd] at ih
 unfold cp at h
 split at h
 ·rename_i hg
  exact AK i undef b d (.inr ⟨b7 hg,rfl⟩) (ih _ _ _ c4 h)
 ·rename_i hg
  split at h
  ·rename_i v f
   exact AK i v b d (.inl ⟨b7 hg,fun F R _ g=>k9 (rF f g)⟩) (ih _ _ _ c4 h)
  ·exact h.elim
 ·exact h.elim
theorem vQ (d:Region.noSelect ops=true):∀(p:b8) (fuel:Nat) (L:Array Bool) (go:Bool) (a:Act) (F:af),p.tl=true->p.len<=fuel->p.ok ops bT L=true->cp P J ops F0 Q (p.opers ops) go a F->dR P J ops Q (Knows F0) bT fuel L a F
 | .done,fuel,L,go,a,F,_,c,b,h=>by
  simp only[b8.ok,decide_eq_true_eq] at b
  unfold b8.opers cp at h
  exact AJ b h _
 | .last i p,fuel,L,go,a,F,ht,c,b,h=>by
  simp only[b8.ok,Bool.and_eq_true,decide_eq_true_eq] at b
  obtain ⟨⟨⟨⟨c1,c2⟩,c3⟩,c4⟩,g⟩:=b
  obtain ⟨o,e⟩:=Option.isSome_iff_exists.1 c4
  have hp:b8.opers ops (.last i p)= .last o (p.opers ops):=by simp only[b8.opers,e]
  rw[hp] at h
  simp only[b8.len] at c
  obtain ⟨fuel,rfl⟩:∃f,fuel=f+1:=⟨fuel - 1,by omega⟩
  unfold cp at h
  refine AI i c2 ?_
  split at h
  ·rename_i hg
   unfold dD
   simp only[e]
   rw[if_pos (b7 hg)]
   refine k9 (mD.rJ ?_ h)
   exact fun v F' hq=>⟨fun j _=>absurd (by simpa using c1) j,vQ d p fuel _ _ _ F' c3 (by omega) g hq⟩
  ·exact h.elim
 | .pure i p,fuel,L,go,a,F,ht,c,b,h=>by
  simp only[b8.len] at c
  obtain ⟨fuel,rfl⟩:∃f,fuel=f+1:=⟨fuel - 1,by omega⟩
  exact AL d b (fun go v a c4 k=>vQ d p fuel _ go _ F ht (by omega) c4 k) h
 | .rd _ _,_,_,_,_,_,ht,_,_,_=>by cases ht
 | .one _ _,_,_,_,_,_,ht,_,_,_=>by cases ht
 | .two ..,_,_,_,_,_,ht,_,_,_=>by cases ht
 | .three ..,_,_,_,_,_,ht,_,_,_=>by cases ht
theorem ku (g:Region.noSelect ops=true):∀(p:b8) (fuel:Nat) (L:Array Bool) (go:Bool) (a:Act) (F:af),Knows F0 F->p.len<=fuel->p.ok ops bT L=true->cp P J ops F0 Q (p.opers ops) go a F->dR P J ops Q (Knows F0) bT fuel L a F
 | .done,fuel,L,go,a,F,b,e,c,h=>by
  simp only[b8.ok,decide_eq_true_eq] at c
  unfold b8.opers cp at h
  exact AJ c h _
 | .rd i p,fuel,L,go,a,F,b,e,c,h=>by
  simp only[b8.ok,Bool.and_eq_true] at c
  obtain ⟨⟨⟨⟨c1,c2⟩,c3⟩,l⟩,c4⟩:=c
  obtain ⟨o,d⟩:=Option.isSome_iff_exists.1 c3
  have w:(Region.noSelect ops&&Region.free .any ops L i&&(Region.ready .any ops L).contains i)=true:=by rw[g,c1,c2];rfl
  have hp:b8.opers ops (.rd i p)= .rd o (p.opers ops):=by simp only[b8.opers,d]
  rw[hp] at h
  simp only[b8.len] at e
  obtain ⟨fuel,rfl⟩:∃f,fuel=f+1:=⟨fuel - 1,by omega⟩
  have next:∀go v,cp P J ops F0 Q (p.opers ops) go (aX a o.dst v) F->dR P J ops Q (Knows F0) bT fuel (L.setIfInBounds i true) (aX a o.dst v) F:=fun go v m=>
   ku g p fuel _ go _ F b (by omega) c4 m
  unfold cp at h
  split at h
  ·rename_i hg
   exact Fp i d w l hg b (next true undef h)
  ·rename_i hg
   split at h
   ·rename_i t x z
    split at h
    case h_2=>exact h.elim
    rename_i ad B
    split at h
    case h_2=>exact h.elim
    rename_i v m
    refine vP i v d w l hg (fun F R y s=>?_) b (next _ v h)
    unfold cD
    simp only[z,B,y.fh m]
    exact s
   ·rename_i x args argTypes z
    split at h
    case h_2=>exact h.elim
    rename_i fn first captured n
    obtain ⟨C,v,D,h⟩:=h
    refine vP i v d w l hg (fun F R y s=>?_) b (next _ v h)
    unfold cD
    simp only[z,n]
    exact ⟨C,(D F y).mono fun I F' E=>by obtain ⟨rfl,rfl⟩:=E;exact s⟩
   ·split at h
    case h_2=>exact h.elim
    rename_i v m
    exact vP i v d w l hg (fun F R y s=>rF m s) b (next _ v h)
  ·exact h.elim
 | .one i p,fuel,L,go,a,F,b,e,c,h=>by
  simp only[b8.ok,Bool.and_eq_true,decide_eq_true_eq] at c
  obtain ⟨⟨c1,c3⟩,c4⟩:=c
  obtain ⟨o,d⟩:=Option.isSome_iff_exists.1 c3
  have hp:b8.opers ops (.one i p)= .one o (p.opers ops):=by simp only[b8.opers,d]
  rw[hp] at h
  simp only[b8.len] at e
  obtain ⟨fuel,rfl⟩:∃f,fuel=f+1:=⟨fuel - 1,by omega⟩
  unfold cp at h
  exact AI i c1 (nW d (fun go a F b h=>ku g p fuel _ go a F b (by omega) c4 h) h)
 | .two i p j q,fuel,L,go,a,F,b,e,c,h=>by
  simp only[b8.ok,Bool.and_eq_true,decide_eq_true_eq] at c
  obtain ⟨⟨⟨⟨c1,c2⟩,c3⟩,c4⟩,l⟩:=c
  obtain ⟨o,d⟩:=Option.isSome_iff_exists.1 c2
  obtain ⟨o',u⟩:=Option.isSome_iff_exists.1 c3
  have hp:b8.opers ops (.two i p j q)= .two o (p.opers ops) o' (q.opers ops):=by simp only[b8.opers,d,u]
  rw[hp] at h
  simp only[b8.len] at e
  obtain ⟨fuel,rfl⟩:∃f,fuel=f+1:=⟨fuel - 1,by omega⟩
  unfold cp at h
  refine vO c1 (by simp) fun x n=>?_
  simp only[List.mem_cons,List.not_mem_nil,or_false] at n
  rcases n with rfl|rfl
  ·exact nW d (fun go a F b h=>ku g p fuel _ go a F b (by omega) c4 h) h.1
  ·exact nW u (fun go a F b h=>ku g q fuel _ go a F b (by omega) l h) h.2
 | .three i p j q k r,fuel,L,go,a,F,b,e,c,h=>by
  simp only[b8.ok,Bool.and_eq_true,decide_eq_true_eq] at c
  obtain ⟨⟨⟨⟨⟨⟨c1,c2⟩,c3⟩,c4⟩,l⟩,G⟩,H⟩:=c
  obtain ⟨o,d⟩:=Option.isSome_iff_exists.1 c2
  obtain ⟨o',u⟩:=Option.isSome_iff_exists.1 c3
  obtain ⟨kr,A⟩:=Option.isSome_iff_exists.1 c4
  have hp:b8.opers ops (.three i p j q k r)= .three o (p.opers ops) o' (q.opers ops) kr (r.opers ops):=by simp only[b8.opers,d,u,A]
  rw[hp] at h
  simp only[b8.len] at e
  obtain ⟨fuel,rfl⟩:∃f,fuel=f+1:=⟨fuel - 1,by omega⟩
  unfold cp at h
  refine vO c1 (by simp) fun x n=>?_
  simp only[List.mem_cons,List.not_mem_nil,or_false] at n
  rcases n with rfl|rfl|rfl
  ·exact nW d (fun go a F b h=>ku g p fuel _ go a F b (by omega) l h) h.1
  ·exact nW u (fun go a F b h=>ku g q fuel _ go a F b (by omega) G h) h.2.1
  ·exact nW A (fun go a F b h=>ku g r fuel _ go a F b (by omega) H h) h.2.2
 | .last i p,fuel,L,go,a,F,b,e,c,h=>vQ g (.last i p) fuel L go a F (by simp only[b8.ok,Bool.and_eq_true] at c;exact c.1.1.2) e c h
 | .pure i p,fuel,L,go,a,F,b,e,c,h=>by
  simp only[b8.len] at e
  obtain ⟨fuel,rfl⟩:∃f,fuel=f+1:=⟨fuel - 1,by omega⟩
  exact AL g c (fun go v a c4 m=>ku g p fuel _ go _ F b (by omega) c4 m) h
theorem fN {Q:Ex->Act->af->Prop}(hJ:Closed P main J)(d:P.follows .mixedOrders=true)(bT:List Nat)(p:b8){id:Nat}{a:Act}{F:af}(F0:af)(e:Knows F0 F)
  (c:(Region.noSelect ops&&decide (p.len<=ops.size)&&p.ok ops bT (Array.replicate ops.size false))=true)
  (h:cp P J ops F0 (Q .normal) (p.opers ops) true a F):Wp J (.region id ops true) Q a F:=by
 simp only[Bool.and_eq_true,decide_eq_true_eq] at c
 obtain ⟨⟨h1,h2⟩,h3⟩:=c
 intro b k cs hb f
 refine hJ.step fun w hw=>?_
 refine ⟨_,_,_,F,zq,.drawn _ _ _,hw.drawn _,by simp,?_⟩
 refine q3 (K:=Q .normal) hJ (u5 hb) (fun g F' i=>f .normal g F' i) _ _ _ ?_
 simp only[Region.schedule,d,Bool.true_or,if_true]
 exact Fi ops.size _ _ a F (ku (bT:=bT) h1 p ops.size _ true a F e h2 h3 h)
end
theorem Fq {P:Program}{J:Goroutine->af->Prop}{ops:Array Oper}{F0:af}{Q:Act->af->Prop}{go:Bool}{a:Act}{F:af}:cp P J ops F0 Q .done go a F=Q a F:=rfl
theorem Fs {P:Program}{J:Goroutine->af->Prop}{ops:Array Oper}{F0:af}{Q:Act->af->Prop}{o:Oper}{p:fM}{a:Act}{F:af}:cp P J ops F0 Q (.rd o p) true a F=match cu ops o a with
  |some false=>cp P J ops F0 Q p true (aX a o.dst undef) F
  |some true=>match o.op with
   | .load t x=>match ev a x with
    | .pointer (some ad)=>match fh P F0 t ad with
     |some v=>cp P J ops F0 Q p true (aX a o.dst v) F
     |none=>False
    |_=>False
   | .call {callee:=.value x,args, ..}=>match ev a x with
    | .func (.func fn) first captured=>aJ P fn=true/\∃v,Plain P J F0 fn (first++args.map (ev a)++captured) v/\cp P J ops F0 Q p false (aX a o.dst v) F
    |_=>False
   |_=>match iV P o a with
    |some v=>cp P J ops F0 Q p true (aX a o.dst v) F
    |none=>False
  |none=>False:=(Eq.refl _).trans (Eq.refl _)
theorem AM {P:Program}{J:Goroutine->af->Prop}{ops:Array Oper}{F0:af}{Q:Act->af->Prop}{o:Oper}{p:fM}{a:Act}{F:af}:cp P J ops F0 Q (.one o p) true a F=match cu ops o a with
  |some true=>cD P J o (fun v F'=>Knows F0 F'/\cp P J ops F0 Q p (!Oper.calls o) (aX a o.dst v) F') a F
  |_=>False:=(Eq.refl _).trans (Eq.refl _)
theorem kz {P:Program}{J:Goroutine->af->Prop}{ops:Array Oper}{F0:af}{Q:Act->af->Prop}{o o':Oper}{p q:fM}{go:Bool}{a:Act}{F:af}(h1:cp P J ops F0 Q (.one o p) true a F)(h2:cp P J ops F0 Q (.one o' q) true a F):cp P J ops F0 Q (.two o p o' q) go a F:=by
 rw[AM] at h1 h2
 unfold cp
 exact ⟨h1,h2⟩
theorem Ft {P:Program}{J:Goroutine->af->Prop}{ops:Array Oper}{F0:af}{Q:Act->af->Prop}{o:Oper}{p:fM}{a:Act}{F:af}:cp P J ops F0 Q (.last o p) true a F=match cu ops o a with
  |some true=>cD P J o (fun v F'=>cp P J ops F0 Q p (!Oper.calls o) (aX a o.dst v) F') a F
  |_=>False:=(Eq.refl _).trans (Eq.refl _)
theorem Fu {P:Program}{J:Goroutine->af->Prop}{ops:Array Oper}{F0:af}{Q:Act->af->Prop}{o:Oper}{p:fM}{a:Act}{F:af}:cp P J ops F0 Q (.pure o p) true a F=match cu ops o a with
  |some false=>cp P J ops F0 Q p true (aX a o.dst undef) F
  |some true=>match iV P o a with
   |some v=>cp P J ops F0 Q p true (aX a o.dst v) F
   |none=>False
  |none=>False:=(Eq.refl _).trans (Eq.refl _)
theorem bN {P:Program}{J:Goroutine->af->Prop}{ops:Array Oper}{F0:af}{Q:Act->af->Prop}:∀{p:fM} {go:Bool} {a:Act} {F:af},cp P J ops F0 Q p true a F->cp P J ops F0 Q p go a F
 | .done,_,_,_,h=>h
 | .bad,_,_,_,h=>h
 | .rd ..,_,_,_,h=>h
 | .one ..,_,_,_,h=>h
 | .two ..,_,_,_,h=>h
 | .three ..,_,_,_,h=>h
 | .last ..,_,_,_,h=>h
 | .pure ..,_,_,_,h=>h
attribute [irreducible] cp
attribute [go_sem] Fq Fs AM Ft Fu b8.opers
theorem eo {ro aK:Addr->Option Value}{l:List (Nat×Obj)}(a:Ext ro aK)(hn:aA aK l)(own:List (Nat×Obj)):Knows ⟨ro,l⟩ ⟨aK,own⟩=iU l own:=
 propext ⟨fun h=>h.2.2,Ey a hn⟩
section
variable {P : Program} {main : Bool} {J : Goroutine → af → Prop} {a : Act} {F : af}
def mI (l:Nat)(R:Value->af->Prop)(st:LoopState)(jump:Option Code)(F:af):Prop:=
 ∃lo,F.e4 l=some (.loop lo)/\R (.bool jump.isNone) (F.put l (.loop {lo with state:=st,pending:=jump}))
def rZ (l:Nat)(R:Value->af->Prop):Ex->Act->af->Prop
 | .normal,_,F=>mI l R .ready none F
 | .exit id,_,F=>mI l R .done (some (.exit id)) F
 | .ret,_,F=>mI l R .done (some .ret) F
def p7 (J:Goroutine->af->Prop)(l:Nat)(body:Code)(R:Value->af->Prop):Ex->Act->af->Prop
 | .normal,a,F=>∃lo,F.e4 l=some (.loop lo)/\lo.state= .ready/\Wp J body (rZ l R) a (F.put l (.loop {lo with state:=.busy}))
 |_,_,_=>False
theorem vR {l:Nat}{R:Value->af->Prop}{st:LoopState}{jump:Option Code}(a:st=if jump.isNone then .ready else .done)(h:mI l R st jump F):aT P (Instr.endRound l jump) R F:=by
 obtain ⟨lo,h1,h2⟩:=h
 simp only[Instr.endRound,Instr.getLoop,bn,nF]
 refine ⟨_,h1,?_⟩
 simp only[bF,bn,mg,h1,Option.isSome_some,Obj.isChan,true_and]
 rw[a] at h2
 exact h2
theorem vS (hJ:Closed P main J){l:Nat}{b:Frame}{a:Act}{todo:List Item}{jump:Option Code}{c:Frame}{cs:List Frame}(f:b.kind= .normal)
  (hs:∀w,stepG P main (G (on b a todo) (c::cs)) w=GStep.after (seen P b.fn ((Instr.endRound l jump).runT P w #[]).2) (match ((Instr.endRound l jump).runT P w #[]).1 with
    | .ok v w=>doReturn P main (on b a todo) (c::cs) none v w
    | .halt _ w=>.ended (.stuck "range over a function: no such loop" ((on b a todo).pos P)) w))
  (h:aT P (Instr.endRound l jump) (fun v F'=>J (G (c.finish v) cs) F') F):J (G (on b a todo) (c::cs)) F:=by
 refine hJ.step fun w hw=>?_
 obtain ⟨v,w',F',es,H⟩:=k7 _ F w #[] h hw
 have d:=H.run
 rw[Array.empty_append] at d
 refine ⟨G (c.finish v) cs,w',seen P b.fn es,F',?_,H.upd,H.has,fun e he=>H.iu e (mem_seen he),H.post⟩
 rw[hs w,d]
 have g:(on b a todo).kind= .normal:=f
 simp only[doReturn,g,GStep.after,G]
 simp
theorem jy.of_wp (hJ:Closed P main J){l:Nat}{f:FuncId}{tmps:Array Value}{assign body:Code}{R:Value->af->Prop}(hd:fG assign=true)(m:fG body=true)
  (h:Wp J assign (p7 J l body R) {tmps:=tmps,defers:=[]} F):jy J l f tmps assign body F R:=by
 intro c cs a
 let b:Frame:={(default:Frame) with fn:=f,kind:=.normal,roundOf:=some l}
 have he:Frame.round l f tmps assign body .normal=on b {tmps:=tmps,defers:=[]} (.code assign::[.beginRound,.code body]):=rfl
 rw[he]
 refine h b [.beginRound,.code body] (c::cs) ⟨by simp[b],.inr hd⟩ fun e g F' hq=>?_
 cases e with
 |exit i=>exact hq.elim
 |ret=>exact hq.elim
 |normal=>
  obtain ⟨lo,h1,h2,h3⟩:=hq
  show J (G (on b g [.beginRound,.code body]) (c::cs)) F'
  have o:aT P (do Instr.beginRound l;pure Next.skip:Sem Next) (fun n d=>n= .skip/\d=F'.put l (.loop {lo with state:=.busy})) F':=by
   simp only[Instr.beginRound,Instr.getLoop,bn,nF]
   refine ⟨_,h1,?_⟩
   simp only[bF,bn,mg,h1,Option.isSome_some,Obj.isChan,true_and,h2]
   all_goals first|trivial|exact ⟨rfl,rfl⟩
  refine hJ.step fun w hw=>?_
  obtain ⟨n,w',d,es,H⟩:=k7 _ F' w #[] o hw
  have j:=H.run
  rw[Array.empty_append] at j
  obtain ⟨rfl,rfl⟩:=H.post
  refine ⟨G (on b g [.code body]) (c::cs),w',seen P b.fn es,_,?_,H.upd,H.has,fun e he=>H.iu e (mem_seen he),?_⟩
  ·have p:b.roundOf=some l:=rfl
   simp only[G,stepG,stepG.exec,on,p,Option.elim,stepG.apply,if_true]
   have q:(b.kind==CallKind.early)=false:=rfl
   simp only[j,q,Bool.false_eq_true,if_false,GStep.after]
   simp[Frame.finish,undef]
  ·refine h3 b [] (c::cs) ⟨by simp[b],.inr m⟩ fun e a2 d hq=>?_
   cases e with
   |normal=>
    refine vS hJ (l:=l) (jump:=none) rfl (fun w=>?_) (vR rfl (R:=fun v F'=>J (G (c.finish v) cs) F') ?_)
    ·simp only[G,stepG,stepG.exec,on]
     rfl
    ·obtain ⟨lo,h1,h2⟩:=hq
     exact ⟨lo,h1,a _ _ h2⟩
   |exit i=>
    intro k r
    refine vS hJ (l:=l) (jump:=some (.exit i)) rfl (fun w=>?_) (vR rfl (R:=fun v F'=>J (G (c.finish v) cs) F') ?_)
    ·have hn:exitTo i k=none:=r
     simp only[G,stepG,stepG.exec,on,hn,Option.elim]
     rfl
    ·obtain ⟨lo,h1,h2⟩:=hq
     exact ⟨lo,h1,a _ _ h2⟩
   |ret=>
    intro k
    refine vS hJ (l:=l) (jump:=some .ret) rfl (fun w=>?_) (vR rfl (R:=fun v F'=>J (G (c.finish v) cs) F') ?_)
    ·simp only[G,stepG,stepG.exec,on]
     rfl
    ·obtain ⟨lo,h1,h2⟩:=hq
     exact ⟨lo,h1,a _ _ h2⟩
def r4 (Q:Ex->Act->af->Prop)(a:Act)(F:af):Option Code->Prop
 |none=>Q .normal a F
 |some (.exit id)=>Q (.exit id) a F
 |some .ret=>Q .ret a F
 |_=>False
def nZ (b:FuncId)(a:Act)(params:Array Tmp)(assign body:Code)(d:Nat):Loop:={state:=.ready,pending:=none,fn:=b,tmps:=a.tmps,params:=params,assign:=assign,body:=body,defers:=d}
theorem Fv (hJ:Closed P main J){x:Operand}{params:Array Tmp}{assign body:Code}{Q:Ex->Act->af->Prop}{fn:FuncId}{first captured:Array Value}
  (E:ev a x= .func (.func fn) first captured) (I:aJ P fn=true)
  (L:∀M d l,dL F d->dL (F.push d (.deferred (some []))) l->
   cL P J fn (first++#[.func (.yield l) #[] #[]]++captured) ((F.push d (.deferred (some []))).push l (.loop (nZ M a params assign body d)))
    (fun _ F'=>∃lo,F'.e4 l=some (.loop lo)/\lo.state≠ .busy/\r4 Q {a with defers:=⟨.collected d,#[]⟩::a.defers} (F'.put l (.loop {lo with state:=.exhausted})) lo.pending)):
  Wp J (.rangeFunc x params assign body) Q a F:=by
 intro b k cs hb p
 have t:b.roundOf=none:=hb.round.elim id fun h=>by simp[fG] at h
 obtain ⟨u,N,O,R,S,q,ar⟩:=b
 simp only at t
 subst t
 let b:Frame:=⟨u,N,O,R,S,q,none⟩
 have T:a.eval x= .func (.func fn) first captured:=E
 have i:=I
 unfold aJ at i
 split at i
 case h_2=>cases i
 rename_i a0 U
 simp only[Bool.not_eq_true',Bool.or_eq_false_iff] at i
 let K:Nat×List Deferred->af->Prop:=fun r F'=>∃d l,r=(l,[⟨.collected d,#[]⟩])/\dL F d/\dL (F.push d (.deferred (some []))) l/\F'=(F.push d (.deferred (some []))).push l (.loop (nZ b.fn a params assign body d))
 have h1:aT P (Instr.enterLoop b.fn a.tmps params assign body none) K F:=by
  simp only[Instr.enterLoop,bn,pH,bF]
  exact ⟨rfl,fun d hd=>⟨rfl,fun l s=>⟨d,l,rfl,hd,s,rfl⟩⟩⟩
 refine hJ.step fun w hw=>?_
 obtain ⟨r,w1,a2,z,H1⟩:=k7 _ F w #[] h1 hw
 have A:=H1.run
 rw[Array.empty_append] at A
 obtain ⟨d,l,rfl,hd,s,rfl⟩:=H1.post
 let fr':Frame:={on b a (.inRangeFunc l::k) with defers:=[⟨.collected d,#[]⟩]++a.defers}
 have V:fr'=on b {a with defers:=⟨.collected d,#[]⟩::a.defers} (.inRangeFunc l::k):=rfl
 have W:fr'.eval x= .func (.func fn) first captured:=by rw[V,uT];exact T
 have h2:aT P (do let m<-resolve fr'.eval {callee:=.value x,args:=#[.const (.func (.yield l) #[] #[])],argTypes:=#[]} 0;invoke m.target m.args:Sem Next)
   (fun n o=>n= .enter fn (first++#[.func (.yield l) #[] #[]]++captured)/\o=(F.push d (.deferred (some []))).push l (.loop (nZ b.fn a params assign body d))) ((F.push d (.deferred (some []))).push l (.loop (nZ b.fn a params assign body d))):=by
  have X:fr'.eval (.const (.func (.yield l) #[] #[]))= .func (.yield l) #[] #[]:=rfl
  simp only[resolve,W,Deferred.ofValue,bn,bF,invoke,callFunc,j4,U,i.1,i.2,Bool.false_eq_true,if_false,List.map_toArray,List.map_cons,List.map_nil,X]
  simp
 obtain ⟨n,w2,o,Y,g⟩:=k7 _ _ w1 #[] h2 H1.has
 have B:=g.run
 rw[Array.empty_append] at B
 obtain ⟨rfl,rfl⟩:=g.post
 refine ⟨G (Frame.enter P fn (first++#[.func (.yield l) #[] #[]]++captured) .normal) (fr'::cs),w2,seen P b.fn z++seen P b.fn Y,_,?_,H1.upd.trans g.upd,g.has,fun e he=>?_,?_⟩
 ·have Z:(q==CallKind.early)=false:=by have:=hb.kind;cases q<;>simp_all
  have hs:∀e:Array Event,stepG P main (G (on b a (.code (.rangeFunc x params assign body)::k)) cs) w=GStep.after (seen P u z) (stepG.apply P true fr' cs none (do let m<-resolve fr'.eval {callee:=.value x,args:=#[.const (.func (.yield l) #[] #[])],argTypes:=#[]} 0;invoke m.target m.args) w1):=fun _=>by
   simp only[G,stepG,stepG.exec,on,b]
   rw[A]
   rfl
  show stepG P main (G (on b a (.code (.rangeFunc x params assign body)::k)) cs) w=_
  rw[hs #[]]
  unfold stepG.apply
  simp only[if_true,B]
  have ab:(fr'.kind==CallKind.early)=false:=Z
  simp only[ab,Bool.false_eq_true,if_false,GStep.after]
  rfl
 ·rcases Array.mem_append.1 he with h|h
  ·refine (H1.iu e (mem_seen h)).mono (fun _ x=>x) fun b hb=>hb.imp id fun y=>⟨y.1,Nat.lt_of_lt_of_le y.2 g.upd.size⟩
  ·refine (g.iu e (mem_seen h)).mono (fun a ad=>ad) fun b hb=>?_
   rcases hb with hb|hb
   ·rcases H1.upd.own b hb with x|x
    ·exact .inl x
    ·exact .inr ⟨x,Nat.lt_of_lt_of_le (H1.has.lt hb) g.upd.size⟩
   ·exact .inr ⟨Nat.le_trans H1.upd.size hb.1,hb.2⟩
 ·refine L b.fn d l hd s fr' cs fun v F' hq=>?_
  obtain ⟨lo,C,ae,f⟩:=hq
  have al:fr'.finish v=on b {a with defers:=⟨.collected d,#[]⟩::a.defers} (.endRangeFunc l::k):=rfl
  rw[al]
  have h3:aT P (Instr.endLoop l) (fun j o=>j=lo.pending/\o=F'.put l (.loop {lo with state:=.exhausted})) F':=by
   simp only[Instr.endLoop,Instr.getLoop,bn,nF]
   refine ⟨_,C,?_⟩
   have ao:¬(lo.state== .busy)=true:=by simpa using ae
   simp only[bF,bn,mg,C,Option.isSome_some,Obj.isChan,true_and,c9,ao]
   all_goals first|trivial|exact ⟨rfl,rfl⟩
  refine hJ.step fun w hw=>?_
  obtain ⟨j,w',a3,es,H⟩:=k7 _ F' w #[] h3 hw
  have D:=H.run
  rw[Array.empty_append] at D
  obtain ⟨rfl,rfl⟩:=H.post
  refine ⟨G (on b {a with defers:=⟨.collected d,#[]⟩::a.defers} ((lo.pending.map Item.code).toList++k)) cs,w',seen P b.fn es,_,?_,H.upd,H.has,fun e he=>H.iu e (mem_seen he),?_⟩
  ·simp only[G,stepG,stepG.exec,on,D,GStep.after]
   simp
  ·revert f
   cases lo.pending with
   |none=>exact fun f=>p .normal _ _ f
   |some c=>
    intro f
    cases c<;>simp only[r4] at f<;>first
     |exact f.elim
     |exact p (.exit _) _ _ f k rfl
     |exact p .ret _ _ f k
end
def e7 {H σ:Type}(step:σ->H->Option (Bool×σ)):List (Option H)->σ->Option (Bool×σ)
 |[],s=>some (true,s)
 |none::_,_=>none
 |some x::l,s=>match step s x with
  |some (true,s')=>e7 step l s'
  |some (false,s')=>some (false,s')
  |none=>none
theorem AN {H σ:Type}(step:σ->H->Option (Bool×σ)):∀(l l':List (Option H)) (s:σ),e7 step (l++l') s=match e7 step l s with
  |some (true,s')=>e7 step l' s'
  |some (false,s')=>some (false,s')
  |none=>none
 |[],l',s=>rfl
 |none::l,l',s=>rfl
 |some x::l,l',s=>by
  simp only[List.cons_append,e7]
  split<;>first|rfl|exact AN step l l' _
def gq {H σ ρ:Type}(f:H->σ->Option (Fl σ ρ)):List (Option H)->σ->Option (Fl σ ρ)
 |[],s=>some (.nx s)
 |none::_,_=>none
 |some x::l,s=>ah (f x s) fun o=>match o with
  | .nx s'=>gq f l s'
  | .bk s'=>some (.nx s')
  | .br k s'=>some (.br k s')
  | .rt _=>none
def vT {H σ:Type}(P:Program)(y:Value)(enc:H->Value)(step:σ->H->Option (Bool×σ))(ro:Addr->Option Value)(I:σ->List (Nat×Obj)->Prop):Prop:=
 ∀s x b s',step s x=some (b,s')->∀(main:Bool) (J:Goroutine->af->Prop),Closed P main J->∀own,I s own->
  gJ P J y #[enc x] ⟨ro,own⟩ (fun v F'=>∃a,Le ⟨ro,a⟩ F'/\v= .bool b/\I s' a)
def mJ {H:Type}(P:Program)(f:FuncId)(first cap:Array Value)(enc:H->Value)(L:List (Option H))(ro:Addr->Option Value):Prop:=
 aJ P f=true/\∀(aK:Addr->Option Value),Ext ro aK->∀(σ:Type) (step:σ->H->Option (Bool×σ)) (I:σ->List (Nat×Obj)->Prop) (a:Fn) (c d:Array Value),vT P (.func a c d) enc step aK I->
  ∀s b s',e7 step L s=some (b,s')->∀(main:Bool) (J:Goroutine->af->Prop),Closed P main J->∀own,I s own->
   cL P J f (first++#[.func a c d]++cap) ⟨aK,own⟩ (fun _ F'=>∃e,Le ⟨aK,e⟩ F'/\I s' e)
theorem mJ.mono {H:Type}{P:Program}{f:FuncId}{first cap:Array Value}{enc:H->Value}{L:List (Option H)}{ro a:Addr->Option Value}(h:mJ P f first cap enc L ro)(b:Ext ro a):mJ P f first cap enc L a:=
 ⟨h.1,fun aK c=>h.2 aK (b.trans c)⟩
def r5:Nat:=1000000000
def mK (k:Nat):Code:=if k=r5 then .ret else .exit k
def vU (Q:Ex->Act->af->Prop)(k:Nat):Act->af->Prop:=if k=r5 then Q .ret else Q (.exit k)
def AO {σ ρ:Type}(b:Nat)(ro:Addr->Option Value)(l d:Nat)(S:σ->List (Nat×Obj)->Prop)(lo:Loop)(fl:Fl σ ρ)(v:Value)(F:af):Prop:=
 ∃a,Le ⟨ro,(l,.loop {lo with state:=(match fl with| .nx _=>.ready|_=>.done),pending:=(match fl with| .nx _=>none| .bk _=>some (mK b)| .br k _=>some (mK k)| .rt _=>none)})::(d,.deferred (some []))::a⟩ F/\
  match fl with
  | .nx s'=>v= .bool true/\S s' a
  | .bk s'=>v= .bool false/\S s' a
  | .br _ s'=>v= .bool false/\S s' a
  | .rt _=>False
section
variable {P : Program} {main : Bool} {J : Goroutine → af → Prop} {a : Act}
theorem AP {H σ ρ:Type}{f:H->σ->Option (Fl σ ρ)}(a:Nat):∀(L:List (Option H)) (s:σ) (o:Fl σ ρ),gq f L s=some o->
  ∃b s' pend,e7 (σ:=σ×Option Nat) (fun st x=>match st with
   |(s,none)=>match f x s with
    |some (.nx s')=>some (true,(s',none))
    |some (.bk s')=>some (false,(s',some a))
    |some (.br k s')=>some (false,(s',some k))
    |_=>none
   |_=>none) L (s,none)=some (b,(s',pend))/\((o= .nx s'/\(pend=none\/pend=some a))\/∃k,o= .br k s'/\pend=some k)
 |[],s,o,h=>by
  cases h
  exact ⟨true,s,none,rfl,.inl ⟨rfl,.inl rfl⟩⟩
 |none::L,s,o,h=>by cases h
 |some x::L,s,o,h=>by
  unfold gq at h
  obtain ⟨fl,h1,h2⟩:=fX h
  cases fl with
  |nx s'=>
   obtain ⟨b,s2,pend,h3,c⟩:=AP a L s' o h2
   refine ⟨b,s2,pend,?_,c⟩
   unfold e7
   simp only[h1]
   exact h3
  |bk s'=>
   cases h2
   refine ⟨false,s',some a,?_,.inl ⟨rfl,.inr rfl⟩⟩
   unfold e7
   simp only[h1]
  |br k s'=>
   cases h2
   refine ⟨false,s',some k,?_,.inr ⟨k,rfl,rfl⟩⟩
   unfold e7
   simp only[h1]
  |rt r=>cases h2
theorem AQ {ro:Addr->Option Value}{l:Nat}{o:Obj}{own:List (Nat×Obj)}(h1:Obj.pq o=false)(h2:o.isChan=false):af.e4 ⟨ro,(l,o)::own⟩ l=some o:=by
 simp[af.e4,lk,h1,h2]
def p8 (a:Act)(d:Nat):Act:={a with defers:=⟨.collected d,#[]⟩::a.defers}
theorem Fw (a:Act)(d i:Nat):slot (p8 a d) i=slot a i:=rfl
theorem Fx (a:Act)(d:Nat):sz (p8 a d)=sz a:=rfl
theorem Fy (a:Act)(d:Nat):(p8 a d).defers=⟨.collected d,#[]⟩::a.defers:=rfl
def mL (a:Act)(p:Tmp)(v:Value):Act:={tmps:=a.tmps.setIfInBounds p v,defers:=[]}
theorem n4 (a:Act)(p:Tmp)(v:Value)(i:Nat):slot (mL a p v) i=slot (aX a (some p) v) i:=rfl
theorem vV (a:Act)(p:Tmp)(v:Value):sz (mL a p v)=sz a:=by simp[sz,mL]
theorem vW {H σ ρ:Type}(hJ:Closed P main J){x:Operand}{p:Tmp}{assign body:Code}{Q:Ex->Act->af->Prop}{fn:FuncId}{first captured:Array Value}{ro:Addr->Option Value}{own:List (Nat×Obj)}{g:Nat}
  (enc:H->Value) {L:List (Option H)} (T:ev a x= .func (.func fn) first captured) (G:mJ P fn first captured enc L ro)
  (U:fG assign=true) (V:fG body=true)
  (S:σ->List (Nat×Obj)->Prop) {f:H->σ->Option (Fl σ ρ)} {u:σ} {o:Fl σ ρ} (W:gq f L u=some o) (X:S u own)
  (Y:∀(d l:Nat) (lo:Loop),lo.state= .ready->∀(s:σ) (y:H) (fl:Fl σ ρ),f y s=some fl->∀(main:Bool) (J:Goroutine->af->Prop),Closed P main J->∀own,S s own->
   Wp J assign (p7 J l body (AO g ro l d S lo fl)) (mL a p (enc y)) ⟨ro,(l,.loop lo)::(d,.deferred (some []))::own⟩)
  (Z:¬g=r5)
  (ab:∀d l lo j s',S s' j->aN (keys ((l,.loop lo)::(d,.deferred (some []))::j))->aA ro ((l,.loop lo)::(d,.deferred (some []))::j)->(o= .nx s'->Q .normal (p8 a d) ⟨ro,(l,.loop lo)::(d,.deferred (some []))::j⟩)/\
   (∀k,o= .br k s'->vU Q k (p8 a d) ⟨ro,(l,.loop lo)::(d,.deferred (some []))::j⟩))
  (ad:∀k s',o= .br k s'->¬k=g):Wp J (.block g (.rangeFunc x #[p] assign body)) Q a ⟨ro,own⟩:=by
 refine aU hJ (Wp.mono (Q:=fun e z F'=>match e with| .exit i=>if i=g then Q .normal z F' else Q (.exit i) z F'|e=>Q e z F') ?_ fun e a F h=>by cases e<;>exact h)
 obtain ⟨b,s',pend,ae,al⟩:=AP g L u o W
 refine Fv hJ T G.1 fun A d l hd bb=>?_
 let lo:Loop:=nZ A a #[p] assign body d
 let n:Option Nat->Loop:=fun pend=>{lo with state:=(match pend with|none=>.ready|some _=>.done),pending:=pend.map mK}
 let I:σ×Option Nat->List (Nat×Obj)->Prop:=fun st ao=>∃aP,ao=(l,.loop (n st.2))::(d,.deferred (some []))::aP/\S st.1 aP
 have ar:vT P (.func (.yield l) #[] #[]) enc (fun (st:σ×Option Nat) x=>match st with
   |(s,none)=>match f x s with
    |some (.nx s')=>some (true,(s',none))
    |some (.bk s')=>some (false,(s',some g))
    |some (.br k s')=>some (false,(s',some k))
    |_=>none
   |_=>none) ro I:=by
  rintro ⟨s,pend⟩ y bc ⟨s1,bd⟩ m a0 K M a2 ⟨aP,rfl,a3⟩
  cases pend with
  |some k=>cases m
  |none=>
   simp only at m
   refine ⟨rfl,rfl,lo,AQ rfl rfl,rfl,?_⟩
   cases B:f y s with
   |none=>rw[B] at m;cases m
   |some fl=>
    have C:=jy.of_wp M (R:=AO g ro l d S lo fl) (f:=A) U V (Y d l lo rfl s y fl B a0 K M aP a3)
    rw[B] at m
    have a4:(lo.params.zip #[enc y]).foldl (fun tmps (t,a)=>tmps.setIfInBounds t a) lo.tmps=a.tmps.setIfInBounds p (enc y):=by simp[lo,nZ]
    show jy K l A ((lo.params.zip #[enc y]).foldl (fun tmps (t,a)=>tmps.setIfInBounds t a) lo.tmps) assign body _ _
    rw[a4]
    refine C.mono fun v F' D=>?_
    obtain ⟨j,hle,hm⟩:=D
    cases fl with
    |nx s2=>
     simp only[Option.some.injEq,Prod.mk.injEq] at m
     obtain ⟨rfl,rfl,rfl⟩:=m
     exact ⟨_,hle,hm.1,j,rfl,hm.2⟩
    |bk s2=>
     simp only[Option.some.injEq,Prod.mk.injEq] at m
     obtain ⟨rfl,rfl,rfl⟩:=m
     exact ⟨_,hle,hm.1,j,rfl,hm.2⟩
    |br k s2=>
     simp only[Option.some.injEq,Prod.mk.injEq] at m
     obtain ⟨rfl,rfl,rfl⟩:=m
     exact ⟨_,hle,hm.1,j,rfl,hm.2⟩
    |rt r=>exact hm.elim
 have a5:=G.2 ro (Ext.refl ro) _ _ I _ _ _ ar (u,none) b (s',pend) ae main J hJ ((l,.loop lo)::(d,.deferred (some []))::own) ⟨own,rfl,X⟩
 intro c cs a6
 refine a5 c cs fun v F' D=>?_
 obtain ⟨a2,hle,j,rfl,a7⟩:=D
 by_cases hw:∃w,Has F' w
 case neg=>exact hJ.step fun w a8=>absurd ⟨w,a8⟩ hw
 obtain ⟨w,hw⟩:=hw
 have N:=hle.has w hw
 refine hJ.mono hle (a6 v _ ⟨n pend,AQ rfl rfl,?_,?_⟩)
 ·cases pend<;>simp[n]
 ·obtain ⟨O,a9⟩:=ab d l {n pend with state:=.exhausted} j s' a7 ⟨N.nodup⟩ (fun b hb off sp=>by
   cases C:ro ⟨b,off,sp⟩ with
   |none=>rfl
   |some v=>exact absurd hb (N.apart _ v C))
  have ba:af.put ⟨ro,(l,.loop (n pend))::(d,.deferred (some []))::j⟩ l (.loop {n pend with state:=.exhausted})=⟨ro,(l,.loop {n pend with state:=.exhausted})::(d,.deferred (some []))::j⟩:=by simp[af.put,iP]
  rw[ba]
  rcases al with ⟨rfl,rfl|rfl⟩|⟨k,rfl,rfl⟩
  ·exact O rfl
  ·show r4 _ _ _ (some (mK g))
   have:mK g= .exit g:=if_neg Z
   rw[this]
   show (if g=g then Q .normal _ _ else Q (.exit g) _ _)
   rw[if_pos rfl]
   exact O rfl
  ·have q:=a9 k rfl
   show r4 _ _ _ (some (mK k))
   unfold vU at q
   unfold mK
   split
   ·rename_i E
    rw[if_pos E] at q
    exact q
   ·rename_i E
    rw[if_neg E] at q
    show (if k=g then Q .normal _ _ else Q (.exit k) _ _)
    rw[if_neg (ad k s' rfl)]
    exact q
theorem Fz {R:List Deferred->af->Prop}{r:Nat}{F:af}:aT P (Instr.takeDeferred r) R F=match F.e4 r with
  |some (.deferred (some a))=>R a (F.put r (.deferred none))
  |_=>False:=by
 unfold Instr.takeDeferred
 rw[bn,nF]
 refine propext ⟨fun ⟨o,h1,h2⟩=>?_,fun h=>?_⟩
 ·rw[h1]
  cases o<;>first|exact (show False from h2).elim|skip
  rename_i a
  cases a with
  |none=>exact (show False from h2).elim
  |some a=>
   simp only[bn,mg,bF] at h2
   exact h2.2.2
 ·split at h
  ·rename_i a b
   refine ⟨_,b,?_⟩
   simp only[bn,mg,bF]
   exact ⟨rfl,by rw[b];rfl,h⟩
  ·exact h.elim
theorem FA (hJ:Closed P main J){y:Value}{args:Array Value}{ro:Addr->Option Value}{own:List (Nat×Obj)}{R:Value->List (Nat×Obj)->Prop}(pre:List (Nat×Obj))
  (h:∀(main:Bool) (J:Goroutine->af->Prop),Closed P main J->gJ P J y args ⟨ro,own⟩ (fun v F'=>∃a,Le ⟨ro,a⟩ F'/\R v a)) (g:aN (keys (pre++own))) {K:Value->af->Prop}
  (i:∀v a,R v a->aN (keys (pre++a))->K v ⟨ro,pre++a⟩):gJ P J y args ⟨ro,pre++own⟩ K:=by
 have key:∀jF:Frame,(∀(main:Bool) (J:Goroutine->af->Prop),Closed P main J->rY J jF ⟨ro,own⟩ (fun v F'=>∃a,Le ⟨ro,a⟩ F'/\R v a))->rY J jF ⟨ro,pre++own⟩ K:=fun jF h0=>
  AE hJ pre [] (by simp) R (fun m b d c cs j=>h0 m b d c cs fun v F' k=>j v F' (by obtain ⟨o,h1,h2⟩:=k;exact ⟨o,h2,h1⟩)) fun v n p a e hn=>by
   rw[List.append_nil] at e
   subst e
   exact ⟨_,Le.refl _,i v n p hn⟩
 have h0:=h main J hJ
 unfold gJ at h0 ⊢
 split at h0
 ·rename_i fn first captured
  refine ⟨h0.1,key _ fun m b d=>?_⟩
  have:=h m b d
  unfold gJ at this
  exact this.2
 ·rename_i l first captured
  obtain ⟨e1,e2,r,h1,h2,_⟩:=h0
  refine ⟨e1,e2,r,?_,h2,key _ fun m b d=>?_⟩
  ·have hm:l∈keys own:=by
    unfold af.e4 at h1
    split at h1
    ·rename_i o s;exact eW (gW s)
    ·cases h1
   have hn:l∉keys pre:=fun hp=>by
    have:=g.nd
    rw[cj] at this
    exact (List.nodup_append.1 this).2.2 l hp l hm rfl
   have t:∀(pre:List (Nat×Obj)),l∉keys pre->lk (pre++own) l=lk own l:=fun pre=>by
    induction pre with
    |nil=>intro _;rfl
    |cons q pre ih=>
     intro hq
     simp only[keys,List.map_cons,List.mem_cons,not_or] at hq
     simp only[List.cons_append,lk,if_neg (Ne.symm hq.1)]
     exact ih hq.2
   unfold af.e4 at h1 ⊢
   simp only at h1 ⊢
   rw[t pre hn]
   exact h1
  ·have:=h m b d
   unfold gJ at this
   obtain ⟨_,_,w,f,x,u⟩:=this
   rw[h1] at f
   cases f
   exact u
 ·exact h0.elim
theorem cL.less (hJ:Closed P main J){f:FuncId}{args:Array Value}{F:af}{R:Value->af->Prop}(h:cL P J f args F (fun v F'=>∃F0,Le F0 F'/\R v F0)):cL P J f args F R:=
 fun c cs a=>h c cs fun v F' ⟨F0,hle,b⟩=>hJ.mono hle (a v F0 b)
def AR (P:Program)(rs:List ResultVar)(R:Value->af->Prop):Ex->Act->af->Prop
 | .exit _,_,_=>False
 |_,a,F=>iw P a.defers (fun F=>match mB P F a rs with|some v=>R v F|none=>False) F
theorem AS {K b:af->Prop}(h:∀F,K F->b F):∀(a:List Deferred) (F:af),iw P a K F->iw P a b F
 |[],F,x=>h F x
 |d::a,F,⟨r,h1,h2⟩=>⟨r,h1,gZ (fun calls F' hq=>⟨hq.1,AS h a F' hq.2⟩) _ _ h2⟩
theorem aC.vX {f:FuncId}{fn:Func}{c:Code}{n:Nat}{rs:List ResultVar}{args:Array Value}{F:af}{R:Value->af->Prop}(d:P.funcs[f]?=some fn)(hb:fn.body=some c)(hn:fn.ntmps=n)(g:fn.results=rs.toArray)(j:args.size<=n)
  (h:∀main J,Closed P main J->∀A:Act,sz A=n->A.defers=[]->(∀i,slot A i=args.getD i undef)->Wp J c (AR P rs R) A F):aC P f args F R:=
 aC.start d hb hn j fun main J hJ A h1 h2 h3=>(h main J hJ A h1 h2 h3).mono fun e a F hq=>by
  have key:iw P a.defers (fun F=>match mB P F a rs with|some v=>R v F|none=>False) F->iw P a.defers (fun F=>aT P (results fn a.tmps) R F) F:=AS (fun F b=>by
   split at b
   ·rename_i v k;exact rE g k b
   ·exact b.elim) _ _
  cases e with
  |exit i=>exact hq
  |normal=>exact key hq
  |ret=>exact key hq
theorem cL.go (hJ:Closed P main J){f:FuncId}{fn:Func}{c:Code}{n:Nat}{rs:List ResultVar}{args:Array Value}{F:af}{R:Value->af->Prop}(d:P.funcs[f]?=some fn)(hb:fn.body=some c)(hn:fn.ntmps=n)(g:fn.results=rs.toArray)(k:args.size<=n)
  (h:∀A:Act,sz A=n->A.defers=[]->(∀i,slot A i=args.getD i undef)->Wp J c (iT P rs R) A F):cL P J f args F R:=by
 refine cL.of_wp hJ d hb ?_
 refine (h _ (by simp[sz,hn];omega) rfl fun i=>?_).mono fun e a F hq=>?_
 ·simp only[slot,hn,Array.getD_eq_getD_getElem?]
  rcases Nat.lt_or_ge i args.size with hi|hi
  ·rw[Array.getElem?_append_left hi]
  ·rw[Array.getElem?_append_right hi,Array.getElem?_replicate,Array.getElem?_eq_none hi]
   split<;>rfl
 ·cases e with
  |exit i=>exact hq
  |_=>
   obtain ⟨hd,b⟩:=hq
   split at b
   ·rename_i v j
    show iw P a.defers _ F
    rw[hd]
    exact rE g j b
   ·exact b.elim
theorem FB {d:Nat}{X:Nat->Prop}:(∃r,Target.collected d=Target.collected r/\X r)=X d:=propext ⟨fun ⟨r,h1,h2⟩=>by cases h1;exact h2,fun h=>⟨d,rfl,h⟩⟩
attribute [go_sem] FB Fw Fx Fy AR Fz af.e4 Obj.pq Obj.isChan
end
section
variable {P : Program}
theorem AT {argTypes:Array TypeId}{t e ty:TypeId}{R:Value->af->Prop}{F:af}{ad:Option Addr}{n c:Nat}(ht:argTypes[0]?=some t)(hu:P.underlying t=some (.slice e))(h:R (.int .i64 c) F):eX P (Builtin.cap_ argTypes ty #[.slice ad n c]) R F:=by
 unfold eX
 simp only[Builtin.cap_,ht,List.getElem?_toArray,List.getElem?_cons_zero,bn,dh,hu,bF]
 exact h
theorem FC (z:Value)(n:Nat):(Builtin.zeroCells #[z] n).toList=List.replicate n z:=by
 simp only[Builtin.zeroCells,List.size_toArray,List.length_cons,List.length_nil,Nat.zero_add,Nat.mul_one,Nat.mod_one]
 rw[Array.toList_map,Array.toList_range]
 apply List.ext_getElem
 ·simp
 ·intro i h1 h2;simp
theorem FD {ro:Addr->Option Value}{pre aY:List (Nat×Obj)}{argTypes:Array TypeId}{t e ty:TypeId}{R:Value->af->Prop}{b off n c:Nat}{arr:Array Value}{z zc:Value}(ht:argTypes[0]?=some t)(hu:P.underlying t=some (.slice e))(a:zeroOf P e=some z)(d:z.cells=#[zc])(f:bC zc=true)
  (hn:0<n) (g:au pre b) (i:off+n<=arr.size)
  (h:R (.tuple #[]) ⟨ro,pre++((b,.cells (dP arr off (List.replicate n zc)) e)::aY)⟩):
  eX P (Builtin.clear_ argTypes ty #[.slice (some ⟨b,off,none⟩) n c]) R ⟨ro,pre++((b,.cells arr e)::aY)⟩:=by
 unfold eX
 have l:n≠0:=by omega
 obtain ⟨k,rfl⟩:∃k,n=k+1:=⟨n - 1,by omega⟩
 simp only[Builtin.clear_,ht,List.getElem?_toArray,List.getElem?_cons_zero,bn,dh,hu,mh,a,d]
 refine q8 _ _ 0 _ ⟨ro,pre++((b,.cells (dP arr off (List.replicate (k+1) zc)) e)::aY)⟩ ?_ ?_
 ·rw[FC]
  have:=vK (ro:=ro) (aY:=aY) (e:=e) g off (List.replicate (k+1) zc) arr 0 (fun v j=>by rw[List.eq_of_mem_replicate j];exact f) (by simpa using i)
  simpa using this
 ·simp only[bF]
  exact h
end
theorem aW.AU {T:Type}{r:bY T}{ro:Addr->Option Value}{e:TypeId}{v:Value}{l:List T}{aP:List (Nat×Obj)}(h:aW r ro e v l aP){own:List (Nat×Obj)}(pre aY:List (Nat×Obj))(f:own=pre++(aP++aY))(g:aN (keys own)):aB r (af.cn ⟨ro,own⟩).ro v l:=by
 subst f
 obtain ⟨ls,hg,c,hm,k⟩:=h
 rcases hg with ⟨rfl,rfl,rfl⟩|⟨b,arr,cap,rfl,rfl,hs,hle,ht,d,m⟩
 ·have:l=[]:=List.eq_nil_of_length_eq_zero (by simpa using c.symm)
  subst this
  exact aB.nil r _
 ·have o:au pre b:=Nd.fresh g.nd b (by simp[keys])
  refine ⟨some ⟨b,0,none⟩,cap,by rw[c],by omega,by omega,fun i x hi=>?_⟩
  obtain ⟨cs,h1,h2⟩:=k i x hi
  refine ⟨_,cs,rfl,r.mono aH h2,fun j v p=>?_⟩
  have a:=pV ls i cs d h1 j v p
  rw[lf,lg,Nat.zero_add]
  have q:i*r.n+j<ls.length*r.n:=by
   have:=(List.getElem?_eq_some_iff.1 a).1
   rw[iy d] at this
   exact this
  rw[<-ht,List.getElem?_take_of_lt q] at a
  show af.get ⟨ro,pre++([(b,Obj.cells arr e)]++aY)⟩ ⟨b,i*r.n+j,none⟩=some v
  simp only[af.get,m,if_true,List.cons_append,List.nil_append,rX o,Option.bind_some,cellOf]
  simpa using a
theorem aB.two {T:Type}{r:bY T}{ro:Addr->Option Value}{own:List (Nat×Obj)}{b:Nat}{x y:T}{v u:Value}{e:TypeId}(c:∀off sp,ro ⟨b,off,sp⟩=none)(d:lk own b=some (.cells #[v,u] e))(h1:r.n=1)(h:r.rel ro x [v])(k:r.rel ro y [u]):
  aB r (bO ro b (.cells #[v,u] e)) (.slice (some ⟨b,0,none⟩) 2 2) [x,y]:=by
 refine ⟨some ⟨b,0,none⟩,2,rfl,Nat.le_refl _,by simp,fun i z hi=>?_⟩
 have:(i=0/\z=x)\/(i=1/\z=y):=by
  cases i with
  |zero=>simp at hi;exact .inl ⟨rfl,hi.symm⟩
  |succ i=>cases i with
   |zero=>simp at hi;exact .inr ⟨rfl,hi.symm⟩
   |succ i=>simp at hi
 rcases this with ⟨rfl,rfl⟩|⟨rfl,rfl⟩
 ·refine ⟨_,_,rfl,r.mono (gm _ _ _) h,fun j w a=>?_⟩
  cases j with
  |zero=>
   rw[Nat.zero_mul,add_zero',lg,Nat.zero_add,iW c]
   simpa [cellOf] using a
  |succ j=>simp at a
 ·refine ⟨_,_,rfl,r.mono (gm _ _ _) k,fun j w a=>?_⟩
  cases j with
  |zero=>
   rw[h1,lf,lg,iW c]
   simpa [cellOf] using a
  |succ j=>simp at a
theorem aW.clear {ro:Addr->Option Value}{e:TypeId}{b n cap k:Nat}{x:List Int}{arr:Array Value}(h:aW rI ro e (.slice (some ⟨b,0,none⟩) n cap) x [(b,.cells arr e)])(r:k<=x.length):
  aW rI ro e (.slice (some ⟨b,0,none⟩) k cap) (x.take k) [(b,.cells (dP arr k (List.replicate (n - k) (.int .i64 0))) e)]:=by
 obtain ⟨ls,hg,s,hm,l⟩:=h
 rcases hg with ⟨a,_,_⟩|⟨t,u,m,a,o,hs,hle,ht,f,p⟩
 ·cases a
 ·cases o
  obtain ⟨rfl,rfl⟩:n=ls.length/\cap=m:=by cases a;exact ⟨rfl,rfl⟩
  have d:rI.n=1:=rfl
  rw[d] at hs ht f
  simp only[Nat.mul_one] at hs ht
  have c:(ls.take k).length=k:=by rw[List.length_take];omega
  refine ⟨ls.take k,.inr ⟨b,_,cap,by rw[c],rfl,by rw[ry];rw[d,Nat.mul_one];exact hs,by rw[c];omega,?_,?_,p⟩,by rw[c,List.length_take];omega,by rw[List.length_take];omega,?_⟩
  ·rw[rz _ _ _ (by simp;omega),c,d,Nat.mul_one,List.append_assoc,List.take_append_of_le_length (by rw[List.length_take,Array.length_toList];omega),List.take_take,Nat.min_self]
   have e1:arr.toList.take k=(arr.toList.take ls.length).take k:=by rw[List.take_take,Nat.min_eq_left (by omega)]
   rw[e1,ht]
   have e2:ls.flatten=(ls.take k).flatten++(ls.drop k).flatten:=by rw[<-List.flatten_append,List.take_append_drop]
   have j:(ls.take k).flatten.length=k:=by rw[iy (size:=1) (fun z g=>f z (List.mem_of_mem_take g)),c,Nat.mul_one]
   rw[e2,List.take_append_of_le_length (Nat.le_of_eq j.symm),List.take_of_length_le (Nat.le_of_eq j)]
  ·intro z g
   rw[d];exact f z (List.mem_of_mem_take g)
  ·intro i v a
   obtain ⟨hi,q⟩:i<k/\x[i]?=some v:=by
    rw[List.getElem?_take] at a
    split at a
    ·exact ⟨‹_›,a⟩
    ·cases a
   obtain ⟨cs,h1,h2⟩:=l i v q
   exact ⟨cs,by rw[List.getElem?_take,if_pos hi];exact h1,h2⟩
section
variable {P : Program}
theorem FE {t:TypeId}{R:Value->af->Prop}{F:af}(h:∀b,dL F b->R (.map (some b)) (F.push b (.map #[] 0))):eX P (Instr.makeMap t none) R F:=by
 unfold eX
 simp only[Instr.makeMap,bn,pH,bF]
 exact ⟨rfl,h⟩
theorem FF {argTypes:Array TypeId}{t a b ty:TypeId}{r:Nat}{es:Array MapEntry}{clock:Nat}{R:Value->af->Prop}{F:af}(ht:argTypes[0]?=some t)(hu:P.underlying t=some (.map a b))(c:F.e4 r=some (.map es clock))(h:R (.int .i64 (es.size:Int)) F):
  eX P (Builtin.len_ argTypes ty #[.map (some r)]) R F:=by
 unfold eX
 simp only[Builtin.len_,ht,List.getElem?_toArray,List.getElem?_cons_zero,bn,dh,hu,nF]
 exact ⟨_,c,h⟩
theorem AV {c:TypeId}{key:Value}{F:af}{Q:Option (Nat×Value)->af->Prop}:∀(l:List MapEntry) (i:Nat),
  (∀e∈l,∃b,(∀(Q:Bool->af->Prop),Q b F->aT P (Op.equal c key e.key) Q F)/\(b=true↔e.key=key))->
  (∀j e,l[j]?=some e->e.key=key->Q (some (i+j,e.val)) F)->((∀e∈l,¬e.key=key)->Q none F)->aT P (Instr.findAsking c key l i) Q F
 |[],i,_,_,h2=>h2 (by simp)
 |e::l,i,d,h1,h2=>by
  obtain ⟨b,hb,f⟩:=d e (by simp)
  simp only[Instr.findAsking,bn]
  refine hb _ ?_
  cases b with
  |true=>exact h1 0 e rfl (f.1 rfl)
  |false=>
   have g:¬e.key=key:=fun x=>by have:=f.2 x;cases this
   refine AV l (i+1) (fun x a=>d x (by simp[a])) (fun j x a he=>?_) (fun h=>h2 (by simpa [g] using h))
   have:=h1 (j+1) x (by simpa using a) he
   rwa [show i+1+j=i+(j+1) by omega]
theorem modify_keys {es:Array MapEntry}{i:Nat}{key val:Value}{e:MapEntry}(hi:es[i]?=some e)(he:e.key=key):(es.modify i fun e=>{e with key:=key,val:=val}).toList.map (·.key)=es.toList.map (·.key):=by
 apply List.ext_getElem?
 intro j
 simp only[List.getElem?_map,Array.toList_modify,List.getElem?_modify]
 by_cases a:i=j
 ·subst a
  have:es.toList[i]?=some e:=by simpa using hi
  simp[this,he]
 ·simp[a]
theorem FG {t c q f n:TypeId}{r:Nat}{es:Array MapEntry}{clock:Nat}{key val:Value}{R:Value->af->Prop}{F:af}(hu:P.underlying t=some (.map c q))(g:F.e4 r=some (.map es clock))
  (s:∀Q:Unit->af->Prop,Q () F->aT P (Instr.checkKey false 10000 c key) Q F) (u:P.underlying c=some (.array n f))
  (v:∀e∈es.toList,∃b,(∀(Q:Bool->af->Prop),Q b F->aT P (Op.equal c key e.key) Q F)/\(b=true↔e.key=key))
  (h:∀d w,((key∈es.toList.map (·.key)/\d.toList.map (·.key)=es.toList.map (·.key))\/(key∉es.toList.map (·.key)/\d.toList.map (·.key)=es.toList.map (·.key)++[key]))->R undef (F.put r (.map d w))):
  eX P (Instr.mapUpdate t (.map (some r)) key val>>= fun _=>pure undef) R F:=by
 unfold eX
 simp only[Instr.mapUpdate,bn,dh,hu,nF]
 refine ⟨_,g,?_⟩
 simp only[bn]
 refine s _ ?_
 have k:(F.e4 r).isSome=true:=by rw[g];rfl
 have step:aT P (Instr.findAsking c key es.toList) (fun a G=>aT P (match a with
   |some (i,_)=>do
    let key<-Instr.keyThatStays (((es[i]?).map (·.key)).getD key) key
    setObj r (.map (es.modify i fun e=>{e with key,val}) clock)
   |none=>setObj r (.map (es.push {key,val,born:=clock}) (clock+1))) (fun _ G=>aT P (pure undef) R G) G) F:=by
  refine AV _ 0 v (fun j e m he=>?_) (fun hn=>?_)
  ·simp only[Nat.zero_add,bn]
   have o:es[j]?=some e:=by simpa using m
   rw[o]
   simp only[Option.map_some,Option.getD_some,he]
   have fin:aT P (setObj r (.map (es.modify j fun e=>{e with key:=key,val:=val}) clock)) (fun _ G=>aT P (pure undef) R G) F:=by
    simp only[mg,bF]
    refine ⟨rfl,k,h _ _ (.inl ⟨?_,modify_keys o he⟩)⟩
    rw[<-he]
    exact List.mem_map_of_mem (List.mem_of_getElem? m)
   unfold Instr.keyThatStays
   rw[c9]
   split
   ·exact fin
   ·simp only[bn,vb]
    split
    ·simp only[bF,ite_self];exact fin
    ·intro t;simp only[bF,ite_self];exact fin
  ·simp only[mg,bF]
   refine ⟨rfl,k,h _ _ (.inr ⟨?_,by simp⟩)⟩
   intro hm
   obtain ⟨e,he,x⟩:=List.mem_map.1 hm
   exact hn e he x
 unfold Instr.findKey
 simp only[bn,dh,u]
 cases p:es.toList with
 |nil=>
  rw[p] at step
  exact step
 |cons e l=>
  have:Instr.findNow (.array n f) key (e::l) 0=none:=rfl
  rw[this]
  rw[p] at step
  exact step
end
theorem bS {α β:Type}{x:Option α}{f:α->Option β}{r:β}{G:Prop}(k:∀a,x=some a->f a=some r->G)(h:ah x f=some r):G:=by
 obtain ⟨a,h1,h2⟩:=fX h
 exact k a h1 h2
def bx:Code->Code
 | .seq _ b=>b
 |c=>c
theorem sI {α:Type}{x r:α}(h:some x=some r):x=r:=Option.some.inj h
theorem ax {ro:Addr->Option Value}{own:List (Nat×Obj)}{G:Nat->Prop}(h:∀b,(∀off sp,ro ⟨b,off,sp⟩=none)->au own b->G b):∀b,dL ⟨ro,own⟩ b->G b:=fun b f=>h b (eI f) (fJ f)
theorem bf:(∀(ro:Addr->Option Value) (b:Nat) (o:Obj) (l:List (Nat×Obj)),aA ro ((b,o)::l)=((∀off sp,ro ⟨b,off,sp⟩=none)/\aA ro l))/\(∀l:List (Nat×Obj),[]++l=l)/\(∀l:List (Nat×Obj),l++[]=l)/\
  (∀(x:Nat×Obj) (l m:List (Nat×Obj)),x::l++m=x::(l++m))/\∀l m n:List (Nat×Obj),l++m++n=l++(m++n):=
 ⟨fun _ _ _ _=>propext ⟨fun h=>⟨h.hd,h.tl⟩,fun h=>aA.cons h.1 h.2⟩,fun _=>rfl,List.append_nil,fun _ _ _=>rfl,List.append_assoc⟩
theorem aB.el {T:Type}{r:bY T}{ro:Addr->Option Value}{ad:Option Addr}{n cap:Nat}{l:List T}(h:aB r ro (.slice ad n cap) l):
  ∀i x,l[i]?=some x->∃p cs,ad=some p/\r.rel ro x cs/\∀j v,cs[j]?=some v->ro ((p.add (i*r.n)).add j)=some v:=by
 obtain ⟨a,b,e,_,_,h⟩:=h
 cases e
 exact h
theorem aN.tl {b:Nat}{ks:List Nat}(h:aN (b::ks)):aN ks:=⟨(List.nodup_cons.1 h.nd).2⟩
theorem aN.cut {l:List (Nat×Obj)}(h:aN (keys l))(i n:Nat):aN (keys (l.take i++l.drop (i+n))):=
 ⟨(((List.Sublist.append_left (show (l.drop (i+n)).Sublist (l.drop i) by rw[<-List.drop_drop];exact List.drop_sublist _ _) (l.take i)).trans (by rw[List.take_append_drop];exact List.Sublist.refl _)).map _).nodup h.nd⟩
theorem aW.eB {T:Type}{r:bY T}{ro:Addr->Option Value}{e:TypeId}{v:Value}{l:List T}{aP:List (Nat×Obj)}(h:aW r ro e v l aP){own:List (Nat×Obj)}(pre aY:List (Nat×Obj))(a:aN (keys own))(hn:aA ro (pre++aY))
  (b:own=pre++(aP++aY):=by first|rfl|simp only[List.append_nil,List.cons_append,List.nil_append,List.append_assoc]|(simp only[List.append_nil,List.cons_append,List.nil_append,List.append_assoc];rfl)):
  ∃aK,Ext ro aK/\aA aK (pre++aY)/\aB r aK v l/\Le ⟨aK,pre++aY⟩ ⟨ro,own⟩:=h.lB _ pre aY b rfl a hn
theorem aB.oc {T:Type}{r:bY T}{ro:Addr->Option Value}{s:Value}{l:List T}(h:aB r ro s l):bC s=true:=by
 obtain ⟨_,_,e,_⟩:=h
 rw[e];rfl
theorem FH {p:Nat->Prop}{a:Nat}{l:List Nat}:(∀i,i∈a::l->p i)=(p a/\∀i,i∈l->p i):=propext List.forall_mem_cons
theorem FI {p:Nat->Prop}:(∀i,i∈([]:List Nat)->p i)=True:=propext ⟨fun _=>trivial,fun _ _ h=>(by cases h)⟩
section
variable {P : Program} {main : Bool} {J : Goroutine → af → Prop} {Q : Ex → Act → af → Prop} {a : Act} {F : af}
theorem bV (hJ:Closed P main J){f:FuncId}{args:Array Value}{ro:Addr->Option Value}{own:List (Nat×Obj)}{K:Value->af->Prop}(R:Value->(Addr->Option Value)->Prop)(h:en P f args ro R)
  (a:∀v aK,Ext ro aK->aA aK own->R v aK->K v ⟨aK,own⟩):cL P J f args ⟨ro,own⟩ K:=vC hJ R h a
theorem r6 {Φ:Goroutine->af->Prop}{f:FuncId}{args:Array Value}{ro:Addr->Option Value}{own:List (Nat×Obj)}{K:Value->af->Prop}(R:Value->(Addr->Option Value)->Prop)(h:pX P f args ro R)
  (a:∀v aK,Ext ro aK->aA aK own->R v aK->K v ⟨aK,own⟩):cL P (dY P Φ) f args ⟨ro,own⟩ K:=EM R h a
theorem cS {α:Type}{b:Bool}{e1 e2:Option α}{r:α}{G:Prop}(h1:b=true->e1=some r->G)(h2:b=false->e2=some r->G)(h:cond b e1 e2=some r):G:=by
 rcases iX h with ⟨a,b⟩|⟨a,b⟩
 ·exact h1 a b
 ·exact h2 a b
theorem jC {α:Type}(hJ:Closed P main J){c:Operand}{x y:Code}{b:Bool}{e1 e2:Option α}{r:α}(d:ev a c= .bool b)(h1:b=true->e1=some r->Wp J x Q a F)(h2:b=false->e2=some r->Wp J y Q a F)(h:cond b e1 e2=some r):Wp J (.cond c x y) Q a F:=by
 refine ED hJ b d (fun e=>h1 e ?_) fun e=>h2 e ?_
 ·rw[e] at h;exact h
 ·rw[e] at h;exact h
structure vY (Q:Ex->Act->af->Prop)(K:Act->af->Prop):Prop where
 go:∀{a F},Q .normal a F->K a F
theorem cY (hJ:Closed P main J)(b:P.follows .mixedOrders=true)(m n:Nat){id:Nat}{ops:Array Oper}(c:Knows ⟨F.ro,F.own.take n⟩ F)(d:nP ops m=true)
  (h:dX P J ops ⟨F.ro,F.own.take n⟩ (fun e=>eJ P J ops ⟨F.ro,F.own.take n⟩ (Q .normal) (ops.toList.drop m) true e F) (ops.toList.take m) true a):Wp J (.region id ops true) Q a F:=e5 hJ b m _ c d h
theorem p9 (hJ:Closed P main J)(b:P.follows .mixedOrders=true)(m n:Nat){id:Nat}{ops:Array Oper}(c:Knows ⟨F.ro,F.own.take n⟩ F)(d:nP ops m=true)
  (h:∀K,vY Q K->dX P J ops ⟨F.ro,F.own.take n⟩ (fun e=>eJ P J ops ⟨F.ro,F.own.take n⟩ K (ops.toList.drop m) true e F) (ops.toList.take m) true a):Wp J (.region id ops true) Q a F:=e5 hJ b m _ c d (h _ ⟨fun h=>h⟩)
theorem ep (hJ:Closed P main J){id:Nat}{ops:Array Oper}(h:∀K,vY Q K->fI P J ops K ops.toList true a F):Wp J (.region id ops false) Q a F:=ag hJ (h _ ⟨fun h=>h⟩)
theorem kA (hJ:Closed P main J)(b:P.follows .mixedOrders=true)(bT:List Nat)(p:b8){id:Nat}{ops:Array Oper}(F0:af)(c:Knows F0 F)
  (d:(Region.noSelect ops&&decide (p.len<=ops.size)&&p.ok ops bT (Array.replicate ops.size false))=true)
  (h:∀K,vY Q K->cp P J ops F0 K (p.opers ops) true a F):Wp J (.region id ops true) Q a F:=fN hJ b bT p F0 c d (h _ ⟨fun h=>h⟩)
theorem eC {c:Code}(L:List Nat){a:Act}(h:∀A,sz A=sz a->A.defers=a.defers->(∀i∈L,slot A i=slot a i)->Wp J c Q A F):Wp J c Q a F:=h a rfl rfl fun _ _=>rfl
theorem dB.pick {ws:List Nat}{A a:Act}(h:dB ws A a)(L:List Nat)(b:(L.all fun i=>!j7 ws i)=true):sz A=sz a/\A.defers=a.defers/\∀i∈L,slot A i=slot a i:=
 ⟨h.size,h.defers,fun i hi=>h.fj i fun x=>by
  have h1:=List.all_eq_true.1 b i hi
  have h2:j7 ws i=true:=by
   unfold In at x
   exact x
  simp[h2] at h1⟩
theorem dG {T:Type}{r:bY T}{ro:Addr->Option Value}{aP:List (Nat×Obj)}{R:Value->af->Prop}{argTypes:Array TypeId}{d f e h e2:TypeId}{a b:Nat}{s z:Value}{l:List T}{x:T}{cs:Array Value}{own:List (Nat×Obj)}(pre aY:List (Nat×Obj))
  (hg:aW r ro e s l aP) (i:aN (keys own)) (j:l.length+[x].length<=1000000) (k:r.rel ro x cs.toList) (m:lk pre b=some (.cells cs e2)) (o:∀off sp,ro ⟨b,off,sp⟩=none)
  (h0:argTypes[0]?=some d) (h1:argTypes[1]?=some f) (he:cW P d=some e) (p:cW P f=some h) (hs:bW P e=some r.n) (q:zeroOf P e=some z) (t:z.cells.size=r.n) (hb:bytesOf P e=some a)
  (u:0<a) (w:a<=10000)
  (y:∀v g,aW r ro e v (l++[x]) g->∀c,c=pre++(g++aY)->aN (keys c)->∃F0,Le F0 ⟨ro,c⟩/\R v F0)
  (A:own=pre++(aP++aY):=by first|rfl|simp only[List.append_nil,List.cons_append,List.nil_append,List.append_assoc]|(simp only[List.append_nil,List.cons_append,List.nil_append,List.append_assoc];rfl)):mz P argTypes s (.slice (some ⟨b,0,none⟩) 1 1) R ⟨ro,own⟩:=
 AD pre aY A hg i j k m o h0 h1 he p hs q t hb u w y
theorem kB {T:Type}{r:bY T}{ro:Addr->Option Value}{aP:List (Nat×Obj)}{R:Value->af->Prop}{argTypes:Array TypeId}{d f e h:TypeId}{a c:Nat}{ad:Option Addr}{s z:Value}{l xs:List T}{own:List (Nat×Obj)}(pre aY:List (Nat×Obj))
  (hg:aW r ro e s l aP) (i:aN (keys own)) (j:l.length+xs.length<=1000000) (k:aB r ro (.slice ad xs.length c) xs)
  (h0:argTypes[0]?=some d) (h1:argTypes[1]?=some f) (he:cW P d=some e) (m:cW P f=some h) (hs:bW P e=some r.n) (o:zeroOf P e=some z) (p:z.cells.size=r.n) (hb:bytesOf P e=some a)
  (q:0<a) (t:a<=10000)
  (u:∀v g,aW r ro e v (l++xs) g->∀b,b=pre++(g++aY)->aN (keys b)->∃F0,Le F0 ⟨ro,b⟩/\R v F0)
  (w:own=pre++(aP++aY):=by first|rfl|simp only[List.append_nil,List.cons_append,List.nil_append,List.append_assoc]|(simp only[List.append_nil,List.cons_append,List.nil_append,List.append_assoc];rfl)):mz P argTypes s (.slice ad xs.length c) R ⟨ro,own⟩:=
 Fg pre aY w hg i j k h0 h1 he m hs o p hb q t u
theorem gK (hJ:Closed P main J){f:FuncId}{args:Array Value}{ro:Addr->Option Value}{aP:List (Nat×Obj)}{K:Value->af->Prop}{own:List (Nat×Obj)}(pre aY:List (Nat×Obj))(R:Value->List (Nat×Obj)->Prop)(h:aC P f args ⟨ro,aP⟩ (fun v G=>∃a,R v a/\Le ⟨ro,a⟩ G))
  (c:∀v a,R v a->∀b,b=pre++(a++aY)->aN (keys b)->∃F0,Le F0 ⟨ro,b⟩/\K v F0)
  (d:own=pre++(aP++aY):=by first|rfl|simp only[List.append_nil,List.cons_append,List.nil_append,List.append_assoc]|(simp only[List.append_nil,List.cons_append,List.nil_append,List.append_assoc];rfl)):cL P J f args ⟨ro,own⟩ K:=AF hJ pre aY d R h c
end
end Go.Sep
end
section
namespace Go.Proofs.YtjepffnffjdloaaGreatDoor
open Go Go.Sep Go.Proofs
set_option maxRecDepth 100000
attribute [go_sem] aB.nil
theorem r7:rI.n=1:=rfl
theorem vZ:rB.n=1:=rfl
theorem FJ {T:Type}(r:bY T):(rL r).n=1:=rfl
attribute [go_sem] r7 vZ FJ
structure av where
 num:Int
 den:Int
 deriving DecidableEq
def av.v (x:av):Value:=.agg #[.int .i64 x.num,.int .i64 x.den]
def av.cells (x:av):List Value:=[.int .i64 x.num,.int .i64 x.den]
def lD:bY av:=iz 2 av.cells (fun _=>rfl) (fun _ v a=>by simp only[av.cells,List.mem_cons,List.not_mem_nil,or_false] at a;rcases a with rfl|rfl<;>rfl)
theorem FK:lD.n=2:=rfl
attribute [go_sem] av.v av.cells FK
structure bH where
 an:Int
 high:Int
 deriving DecidableEq
def bH.cells (x:bH):List Value:=[.int .i64 x.an,.int .i64 x.high]
def eD:bY bH:=iz 2 bH.cells (fun _=>rfl) (fun _ v a=>by simp only[bH.cells,List.mem_cons,List.not_mem_nil,or_false] at a;rcases a with rfl|rfl<;>rfl)
theorem FL:eD.n=2:=rfl
attribute [go_sem] bH.cells FL
structure cg where
 place:Int
 di:Int
 deriving DecidableEq
def cg.cells (x:cg):List Value:=[.int .i64 x.place,.int .i64 x.di]
def eE:bY cg:=iz 2 cg.cells (fun _=>rfl) (fun _ v a=>by simp only[cg.cells,List.mem_cons,List.not_mem_nil,or_false] at a;rcases a with rfl|rfl<;>rfl)
theorem FM:eE.n=2:=rfl
attribute [go_sem] cg.cells FM
structure c6 where
 low:Int
 high:Int
 deriving DecidableEq
def c6.v (x:c6):Value:=.agg #[.int .i64 x.low,.int .i64 x.high]
def c6.cells (x:c6):List Value:=[.int .i64 x.low,.int .i64 x.high]
def FN:bY c6:=iz 2 c6.cells (fun _=>rfl) (fun _ v a=>by simp only[c6.cells,List.mem_cons,List.not_mem_nil,or_false] at a;rcases a with rfl|rfl<;>rfl)
theorem FO:FN.n=2:=rfl
attribute [go_sem] c6.v c6.cells FO
structure b6 where
 back:Int
 high:c6
 deriving DecidableEq
def b6.cells (x:b6):List Value:=[.int .i64 x.back,.int .i64 x.high.low,.int .i64 x.high.high]
def eY:bY b6:=iz 3 b6.cells (fun _=>rfl) (fun _ v a=>by simp only[b6.cells,List.mem_cons,List.not_mem_nil,or_false] at a;rcases a with rfl|rfl|rfl<;>rfl)
theorem FP:eY.n=3:=rfl
attribute [go_sem] b6.cells FP
structure bB where
 aQ:Int
 bh:Bool
 deriving DecidableEq
def bB.v (x:bB):Value:=.agg #[.int .i64 x.aQ,.bool x.bh]
def bB.cells (x:bB):List Value:=[.int .i64 x.aQ,.bool x.bh]
def cX:bY bB:=iz 2 bB.cells (fun _=>rfl) (fun _ v a=>by simp only[bB.cells,List.mem_cons,List.not_mem_nil,or_false] at a;rcases a with rfl|rfl<;>rfl)
theorem FQ:cX.n=2:=rfl
attribute [go_sem] bB.v bB.cells FQ
structure ak where
 aZ:Int
 bD:Int
 aR:av
 aj:(List bH)
 props:(List cg)
 aE:(List b6)
 told:(List bB)
 deriving DecidableEq
def ak.rel (ro:Addr->Option Value)(x:ak)(cs:List Value):Prop:=∃a b c d,cs=[.int .i64 x.aZ,.int .i64 x.bD,.int .i64 x.aR.num,.int .i64 x.aR.den,a,b,c,d]/\aB eD ro a x.aj/\aB eE ro b x.props/\aB eY ro c x.aE/\aB cX ro d x.told
theorem ak.qa {ro:Addr->Option Value}{x:ak}{cs:List Value}(h:ak.rel ro x cs):∀v∈cs,bC v=true:=by
 obtain ⟨b,c,d,e,rfl,⟨_,_,rfl,_⟩,⟨_,_,rfl,_⟩,⟨_,_,rfl,_⟩,⟨_,_,rfl,_⟩⟩:=h
 intro v a;simp only[List.mem_cons,List.not_mem_nil,or_false] at a;rcases a with rfl|rfl|rfl|rfl|rfl|rfl|rfl|rfl<;>rfl
def FR:bY ak:=⟨8,ak.rel,fun a ⟨b,c,d,f,e,g,h,i,j⟩=>⟨b,c,d,f,e,g.mono a,h.mono a,i.mono a,j.mono a⟩,fun ⟨b,c,d,f,e,_⟩=>by rw[e];rfl,ak.qa⟩
theorem FT:FR.n=8:=rfl
attribute [go_sem] FT
structure aO where
 back:Int
 high:Int
 deriving DecidableEq
def aO.v (x:aO):Value:=.agg #[.int .i64 x.back,.int .i64 x.high]
def aO.cells (x:aO):List Value:=[.int .i64 x.back,.int .i64 x.high]
def jc:bY aO:=iz 2 aO.cells (fun _=>rfl) (fun _ v a=>by simp only[aO.cells,List.mem_cons,List.not_mem_nil,or_false] at a;rcases a with rfl|rfl<;>rfl)
theorem FU:jc.n=2:=rfl
attribute [go_sem] aO.v aO.cells FU
structure g9 where
 an:Int
 high:av
 deriving DecidableEq
def g9.cells (x:g9):List Value:=[.int .i64 x.an,.int .i64 x.high.num,.int .i64 x.high.den]
def FV:bY g9:=iz 3 g9.cells (fun _=>rfl) (fun _ v a=>by simp only[g9.cells,List.mem_cons,List.not_mem_nil,or_false] at a;rcases a with rfl|rfl|rfl<;>rfl)
theorem FW:FV.n=3:=rfl
attribute [go_sem] g9.cells FW
structure bA where
 spot:g9
 at_:Int
 high:av
 deriving DecidableEq
def bA.v (x:bA):Value:=.agg #[.int .i64 x.spot.an,.int .i64 x.spot.high.num,.int .i64 x.spot.high.den,.int .i64 x.at_,.int .i64 x.high.num,.int .i64 x.high.den]
def bA.cells (x:bA):List Value:=[.int .i64 x.spot.an,.int .i64 x.spot.high.num,.int .i64 x.spot.high.den,.int .i64 x.at_,.int .i64 x.high.num,.int .i64 x.high.den]
def kC:bY bA:=iz 6 bA.cells (fun _=>rfl) (fun _ v a=>by simp only[bA.cells,List.mem_cons,List.not_mem_nil,or_false] at a;rcases a with rfl|rfl|rfl|rfl|rfl|rfl<;>rfl)
theorem FX:kC.n=6:=rfl
attribute [go_sem] bA.v bA.cells FX
structure aS where
 e0:Int
 e1:Int
 e2:Int
 deriving DecidableEq
def aS.v (x:aS):Value:=.agg #[.int .i64 x.e0,.int .i64 x.e1,.int .i64 x.e2]
def aS.cells (x:aS):List Value:=[.int .i64 x.e0,.int .i64 x.e1,.int .i64 x.e2]
def hH:bY aS:=iz 3 aS.cells (fun _=>rfl) (fun _ v a=>by simp only[aS.cells,List.mem_cons,List.not_mem_nil,or_false] at a;rcases a with rfl|rfl|rfl<;>rfl)
theorem FY:hH.n=3:=rfl
attribute [go_sem] aS.v aS.cells FY
def aS.get (x:aS)(i:Int):Option Int:=if i=0 then some x.e0 else if i=1 then some x.e1 else if i=2 then some x.e2 else none
theorem aS.get_some {x:aS}{i:Int}{y:Int}(h:aS.get x i=some y):0<=i/\i<((3:Nat):Int)/\([.int .i64 x.e0,.int .i64 x.e1,.int .i64 x.e2]:List Value)[i.toNat]?=some (.int .i64 y):=by
 unfold aS.get at h
 by_cases h0:i=0
 ·subst h0;simp at h;subst h;exact ⟨by omega,by omega,rfl⟩
 by_cases h1:i=1
 ·subst h1;simp at h;subst h;exact ⟨by omega,by omega,rfl⟩
 by_cases h2:i=2
 ·subst h2;simp at h;subst h;exact ⟨by omega,by omega,rfl⟩
 simp[h0,h1,h2] at h
theorem aS.FZ {ro:Addr->Option Value}{b:Nat}{x:aS}{i:Int}{y:Int}(h:aS.get x i=some y)(g0:ro ⟨b,0,none⟩=some (.int .i64 x.e0))(a:ro ⟨b,1,none⟩=some (.int .i64 x.e1))(c:ro ⟨b,2,none⟩=some (.int .i64 x.e2)):ro ⟨b,i.toNat,none⟩=some (.int .i64 y):=by
 unfold aS.get at h
 by_cases h0:i=0
 ·subst h0;simp at h;subst h;exact g0
 by_cases h1:i=1
 ·subst h1;simp at h;subst h;exact a
 by_cases h2:i=2
 ·subst h2;simp at h;subst h;exact c
 simp[h0,h1,h2] at h
structure cI where
 book:ak
 all:(List aS)
 deriving DecidableEq
def cI.rel (ro:Addr->Option Value)(x:cI)(cs:List Value):Prop:=∃a b c d e,cs=[.int .i64 x.book.aZ,.int .i64 x.book.bD,.int .i64 x.book.aR.num,.int .i64 x.book.aR.den,a,b,c,d,e]/\aB eD ro a x.book.aj/\aB eE ro b x.book.props/\aB eY ro c x.book.aE/\aB cX ro d x.book.told/\aB hH ro e x.all
theorem cI.qa {ro:Addr->Option Value}{x:cI}{cs:List Value}(h:cI.rel ro x cs):∀v∈cs,bC v=true:=by
 obtain ⟨b,c,d,e,f,rfl,⟨_,_,rfl,_⟩,⟨_,_,rfl,_⟩,⟨_,_,rfl,_⟩,⟨_,_,rfl,_⟩,⟨_,_,rfl,_⟩⟩:=h
 intro v a;simp only[List.mem_cons,List.not_mem_nil,or_false] at a;rcases a with rfl|rfl|rfl|rfl|rfl|rfl|rfl|rfl|rfl<;>rfl
def F1:bY cI:=⟨9,cI.rel,fun a ⟨b,c,d,f,g,e,h,i,j,k,l⟩=>⟨b,c,d,f,g,e,h.mono a,i.mono a,j.mono a,k.mono a,l.mono a⟩,fun ⟨b,c,d,f,g,e,_⟩=>by rw[e];rfl,cI.qa⟩
theorem F2:F1.n=9:=rfl
attribute [go_sem] F2
def cV.rel (ro:Addr->Option Value)(g:(ak->Option Int))(cs:List Value):Prop:=∃(b:FuncId) (c d:Array Value),cs=[.func (.func b) c d]/\aJ Tryz.prog b=true/\∀(aK:Addr->Option Value),Ext ro aK->∀(a:ak) (e:Value) (f:Value) (h:Value) (i:Value) (z:Int),aB eD aK e a.aj->aB eE aK f a.props->aB eY aK h a.aE->aB cX aK i a.told->g a=some z->aC Tryz.prog b (c++#[.agg #[.int .i64 a.aZ,.int .i64 a.bD,.int .i64 a.aR.num,.int .i64 a.aR.den,e,f,h,i]]++d) ⟨aK,[]⟩ (fun v _=>v= .int .i64 z)
theorem cV.F3 {ro aK:Addr->Option Value}{g:(ak->Option Int)}{cs:List Value}(b:Ext ro aK)(h:cV.rel ro g cs):cV.rel aK g cs:=by
 obtain ⟨f,a,c,e,h1,h2⟩:=h
 exact ⟨f,a,c,e,h1,fun d i=>h2 d (b.trans i)⟩
theorem cV.F4 {ro:Addr->Option Value}{g:(ak->Option Int)}{cs:List Value}(h:cV.rel ro g cs):cs.length=1:=by
 obtain ⟨f,a,c,e,_⟩:=h
 rw[e];rfl
theorem cV.qa {ro:Addr->Option Value}{g:(ak->Option Int)}{cs:List Value}(h:cV.rel ro g cs):∀v∈cs,bC v=true:=by
 obtain ⟨f,a,c,e,_⟩:=h
 intro v b;rw[e] at b;simp at b;subst b;rfl
def cV:bY (ak->Option Int):=⟨1,cV.rel,cV.F3,cV.F4,cV.qa⟩
theorem F5:cV.n=1:=rfl
attribute [go_sem] F5
abbrev sl {T:Type}(d:Option Addr)(l:List T)(c:Nat):Value:=.slice d l.length c
abbrev bk (x:ak)(a b c d:Value):Obj:=.cells #[.int .i64 x.aZ,.int .i64 x.bD,.int .i64 x.aR.num,.int .i64 x.aR.den,a,b,c,d] 29
abbrev bl (x:ak)(a b c d:Value):Obj:=.cells #[.int .i64 x.aZ,.int .i64 x.bD,.int .i64 x.aR.num,.int .i64 x.aR.den,a,b,c,d] 99
abbrev bz (t:Nat):Obj:=.cells #[.int .i64 0,.int .i64 0,.int .i64 0,.int .i64 0,.slice none 0 0,.slice none 0 0,.slice none 0 0,.slice none 0 0] t
abbrev kn (x:cI)(a b c d e:Value):Obj:=.cells #[.int .i64 x.book.aZ,.int .i64 x.book.bD,.int .i64 x.book.aR.num,.int .i64 x.book.aR.den,a,b,c,d,e] 123
abbrev rt (a b:Int):Obj:=.cells #[.int .i64 a,.int .i64 b] 23
abbrev ic (a:Int):Obj:=.cells #[.int .i64 a] 3
abbrev bv (x:ak)(a b c d:Value):Value:=.agg #[.int .i64 x.aZ,.int .i64 x.bD,.int .i64 x.aR.num,.int .i64 x.aR.den,a,b,c,d]
attribute [go_sem] sl bk bl bz kn rt ic bv FH FI List.cons_append List.nil_append List.append_nil List.append_assoc
structure bI (ro:Addr->Option Value)(u:ak)(a b c d:Value):Prop where
 e:aB eD ro a u.aj
 p:aB eE ro b u.props
 y:aB eY ro c u.aE
 t:aB cX ro d u.told
theorem bI.oc {ro:Addr->Option Value}{u:ak}{a b c d:Value}(h:bI ro u a b c d):bC a=true/\bC b=true/\bC c=true/\bC d=true:=⟨h.e.oc,h.p.oc,h.y.oc,h.t.oc⟩
theorem bI.mono {ro aK:Addr->Option Value}{u:ak}{a b c d:Value}(h:bI ro u a b c d)(f:Ext ro aK):bI aK u a b c d:=⟨h.e.mono f,h.p.mono f,h.y.mono f,h.t.mono f⟩
end Go.Proofs.YtjepffnffjdloaaGreatDoor
end

/- A part of the proof of a row and its tied card: QO2. -/
import Derived.Test.YtghbphimkgamkaaGreatDoorQO1
import Derived.WalkKit
import Derived.IntWalk
import Derived.NoCompilerSame
import Derived.Test.YtghbphimkgamkaaGreatDoorProg
import Derived.KernelRfl
set_option linter.all false
section
namespace Go.Sep
open Go Go.Conc
section
variable {α β : Type} {P : Program} {Q : α → aa → Prop} {F : aa}
@[go_sem] theorem bG (a:α):aX P (Pure.pure a) Q F=Q a F:=rfl
@[go_sem] theorem Nf (a:α):aX P (Sem.pure a) Q F=Q a F:=rfl
@[go_sem] theorem bu {R:β->aa->Prop}(x:Sem α)(f:α->Sem β):aX P (x>>= f) R F=aX P x (fun a G=>aX P (f a) R G) F:=propext (zB x F)
@[go_sem] theorem Ng {R:β->aa->Prop}(x:Sem α)(f:α->β):aX P (Functor.map f x) R F=aX P x (fun a G=>R (f a) G) F:=propext (zB x F)
@[go_sem] theorem dm (c:Prop)[Decidable c](x y:Sem α):aX P (if c then x else y) Q F=if c then aX P x Q F else aX P y Q F:=by split<;>rfl
@[go_sem] theorem z1 {Q:Value->aa->Prop}(a:Addr):aX P (load a) Q F=∃v,F.get a=some v/\Q v F:=by simp[load,aX]
@[go_sem] theorem ES {Q:Unit->aa->Prop}(a:Addr)(v:Value):aX P (store a v) Q F=∃F',F.lX a v=some F'/\Q () F':=by simp[store,aX]
theorem pP {Q:Nat->aa->Prop}(o:Obj):aX P (newObj o) Q F=(o.isChan=false/\∀b,dV F b->Q b (F.push b o)):=rfl
theorem j4 {Q:Program->aa->Prop}:aX P program Q F=Q P F:=rfl
theorem vo {Q:Nat->aa->Prop}(q:Question):aX P (choose q) Q F=if q.forced then Q 0 F else ∀t,Q (q.cut t) F:=rfl
theorem nD {Q:Obj->aa->Prop}(r:Nat):aX P (getObj r) Q F=∃o,F.ff r=some o/\Q o F:=rfl
theorem l5 {Q:Unit->aa->Prop}(r:Nat)(o:Obj):aX P (Go.setObj r o) Q F=(o.isChan=false/\(F.ff r).isSome=true/\Q () (F.put r o)):=rfl
theorem Nh (s:String):aX P (stuck s:Sem α) Q F=False:=rfl
theorem Ni {Q:Unit->aa->Prop}(m:Mark):aX P (mark m) Q F=(pJ m=true/\Q () F):=rfl
attribute [go_sem] pP j4 vo nD l5 Nh Ni
@[go_sem] theorem dy {Q:TypeDesc->aa->Prop}(t:TypeId):aX P (underlying t) Q F=match P.underlying t with|some d=>Q d F|none=>False:=by
 simp only[underlying,bu,j4];cases P.underlying t<;>rfl
@[go_sem] theorem pQ {Q:TypeInfo->aa->Prop}(t:TypeId):aX P (typeInfo t) Q F=match P.info? t with|some d=>Q d F|none=>False:=by
 simp only[typeInfo,bu,j4];cases P.info? t<;>rfl
def bY (P:Program)(t:TypeId):Option Nat:=(P.info? t).map (·.size)
def zeroOf (P:Program)(t:TypeId):Option Value:=(P.info? t).bind (·.zero)
def bytesOf (P:Program)(t:TypeId):Option Nat:=(P.info? t).map (·.bytes)
@[go_sem] theorem eR {Q:Nat->aa->Prop}(t:TypeId):aX P (sizeOf t) Q F=match bY P t with|some n=>Q n F|none=>False:=by
 simp only[sizeOf,bu,pQ,bY];cases P.info? t<;>rfl
@[go_sem] theorem l6 {Q:Value->aa->Prop}(t:TypeId):aX P (zeroValue t) Q F=match zeroOf P t with|some n=>Q n F|none=>False:=by
 simp only[zeroValue,bu,pQ,zeroOf];cases P.info? t with
 |none=>rfl
 |some i=>simp only[Option.bind_some];cases i.zero<;>rfl
def cz (P:Program)(t:TypeId):Option Bool:=(P.underlying t).map fun| .struct _=>true| .array _ _=>true|_=>false
@[go_sem] theorem l7 {Q:Bool->aa->Prop}(t:TypeId):aX P (isAgg t) Q F=match cz P t with|some n=>Q n F|none=>False:=by
 simp only[isAgg,bu,dy,cz];cases P.underlying t with
 |none=>rfl
 |some d=>cases d<;>rfl
def aa.l8 (F:aa)(a:Addr):Nat->List Value->Prop
 |_,[]=>True
 |i,v::b=>F.get (a.add i)=some v/\F.l8 a (i+1) b
theorem vp {Q:Array Value->aa->Prop}(a:Addr):∀(b:List Value) (i:Nat) (acc:Array Value),F.l8 a i b->Q (acc++b.toArray) F->aX P (loadCellsFrom a i b.length acc) Q F
 |[],i,acc,_,h=>by simpa [loadCellsFrom,bG] using h
 |v::b,i,acc,hg,h=>by
  simp only[List.length_cons,loadCellsFrom,bu,z1]
  refine ⟨v,hg.1,vp a b (i+1) (acc.push v) hg.2 ?_⟩
  simpa using h
theorem ET {Q:Value->aa->Prop}{t:TypeId}{a:Addr}(b:List Value)(ht:cz P t=some true)(hs:bY P t=some b.length)(hg:F.l8 a 0 b)(h:Q (.agg b.toArray) F):aX P (loadVar t a) Q F:=by
 simp only[loadVar,bu,l7,ht,dm,if_true,eR,hs,loadCells];exact vp a b 0 #[] hg (by simpa [bG] using h)
theorem EU {Q:Value->aa->Prop}{t:TypeId}{a:Addr}(v:Value)(ht:cz P t=some false)(hg:F.get a=some v)(h:Q v F):aX P (loadVar t a) Q F:=by
 simp only[loadVar,bu,l7,ht,dm,z1];exact ⟨v,hg,h⟩
def aa.jF (F:aa)(a:Addr):Nat->List Value->Option aa
 |_,[]=>some F
 |i,v::b=>match F.lX (a.add i) v with
  |some F'=>F'.jF a (i+1) b
  |none=>none
theorem rW {Q:Unit->aa->Prop}(a:Addr):∀(b:List Value) (i:Nat) (F F':aa),F.jF a i b=some F'->Q () F'->aX P (storeCells a b i) Q F
 |[],i,F,F',hg,h=>by simp only[aa.jF,Option.some.injEq] at hg;subst hg;simpa [storeCells,bG] using h
 |v::b,i,F,F',hg,h=>by
  simp only[storeCells,bu,ES]
  unfold aa.jF at hg
  split at hg
  .rename_i c d
   exact ⟨c,d,rW a b (i+1) c F' hg h⟩
  .cases hg
theorem EV {Q:Unit->aa->Prop}{t:TypeId}{a:Addr}{v:Value}(F':aa)(hs:bY P t=some v.cells.size)(hg:F.jF a 0 v.cells.toList=some F')(h:Q () F'):aX P (storeVar t a v) Q F:=by
 simp only[storeVar,bu,eR,hs,ne_eq,not_true_eq_false,if_false];exact rW a _ 0 F F' hg h
@[go_sem] theorem z2 {Q:Addr->aa->Prop}(t:TypeId)(v:Value):aX P (newVar t v) Q F=∀b,dV F b->Q ⟨b,0,none⟩ (F.push b (.cells v.cells t)):=by
 simp only[newVar,newRow,bu,pP,bG];simp[Obj.isChan]
@[go_sem] theorem rX {Q:Addr->aa->Prop}(t:TypeId)(v:Array Value):aX P (newRow t v) Q F=∀b,dV F b->Q ⟨b,0,none⟩ (F.push b (.cells v t)):=by
 simp only[newRow,bu,pP,bG];simp[Obj.isChan]
theorem rY {Q:Addr->aa->Prop}(a:Addr):aX P (Instr.sureAddr (.pointer (some a))) Q F=Q a F:=rfl
theorem kW {Q:IntKind×Int->aa->Prop}(k:IntKind)(n:Int):aX P (asIntOf (.int k n)) Q F=Q (k,n) F:=rfl
theorem z3 {Q:Int->aa->Prop}(k:IntKind)(n:Int):aX P (asInt (.int k n)) Q F=Q n F:=rfl
theorem EW {Q:Bool->aa->Prop}(b:Bool):aX P (asBool (.bool b)) Q F=Q b F:=rfl
theorem EX {Q:Array Value->aa->Prop}(b:Array Value):aX P (asAgg (.agg b)) Q F=Q b F:=rfl
attribute [go_sem] rY kW z3 EW EX
end
def slot (a:Act)(i:Nat):Value:=a.tmps.getD i undef
def sz (a:Act):Nat:=a.tmps.size
def bg (a:Act)(d:Option Tmp)(v:Value):Act:=a.put d v
def ev (a:Act)(x:Operand):Value:=a.eval x
theorem Nj (a:Act)(t:Nat):ev a (.tmp t)=slot a t:=rfl
theorem Nk (a:Act)(v:Value):ev a (.const v)=v:=rfl
theorem Nl (a:Act)(g:Nat):ev a (.global g)= .pointer (some ⟨g,0,none⟩):=rfl
theorem Nm (a:Act)(f:Nat):ev a (.func f)= .func (.func f) #[] #[]:=rfl
theorem Nn (a:Act)(v:Value):bg a none v=a:=rfl
attribute [go_sem] Nj Nk Nl Nm Nn
@[go_sem] theorem z4 (a:Act)(d:Option Tmp)(v:Value):sz (bg a d v)=sz a:=by cases d<;>simp[sz,bg,Act.put]
theorem EY (a:Act)(d:Nat)(v:Value)(h:d<sz a):slot (bg a (some d) v) d=v:=by
 simp only[sz] at h;simp[slot,bg,Act.put,h]
theorem vq (a:Act)(d i:Nat)(v:Value)(h:¬d=i):slot (bg a (some d) v) i=slot a i:=by
 simp[slot,bg,Act.put,Array.getElem?_setIfInBounds_ne h]
@[go_sem] theorem No (a:Act)(d i:Nat)(v:Value)(h:d<sz a):slot (bg a (some d) v) i=if d=i then v else slot a i:=by
 split
 .rename_i e;subst e;exact EY a d v h
 .rename_i e;exact vq a d i v e
@[go_sem] theorem z5 (a:Act)(d:Option Tmp)(v:Value):(bg a d v).defers=a.defers:=by cases d<;>rfl
theorem aE.start {P:Program}{f:FuncId}{fn:Func}{c:Code}{n:Nat}{args:Array Value}{F:aa}{R:Value->aa->Prop}(b:P.funcs[f]?=some fn)(hb:fn.body=some c)(a:fn.ntmps=n)(d:args.size<=n)
  (h:∀main J,Closed P main J->∀A:Act,sz A=n->A.defers=[]->(∀i,slot A i=args.getD i undef)->Wp J c (rT P fn R) A F):aE P f args F R:=
 aE.of_wp b hb fun main J hJ=>h main J hJ _ (by simp[sz,a];omega) rfl fun i=>by
  simp only[slot,a,Array.getD_eq_getD_getElem?]
  rcases Nat.lt_or_ge i args.size with hi|hi
  .rw[Array.getElem?_append_left hi]
  .rw[Array.getElem?_append_right hi,Array.getElem?_replicate,Array.getElem?_eq_none hi]
   split<;>rfl
def c8 (P:Program)(t:TypeId):Option TypeId:=match P.underlying t with|some (.slice e)=>some e|_=>none
def nE (P:Program)(t:TypeId):Option (Nat×TypeId):=match P.underlying t with|some (.array n e)=>some (n,e)|_=>none
def cN (P:Program)(t:TypeId)(n:Nat):Option Nat:=
 match P.underlying t with
 |some (.struct a)=>match a[n]? with
  |some f=>match bY P f.type with
   |some (_+1)=>some f.offset
   |_=>none
  |none=>none
 |_=>none
def vr (P:Program)(t:TypeId)(n:Nat):Option (Nat×Nat×Bool):=
 match P.underlying t with
 |some (.struct a)=>match a[n]? with
  |some f=>match bY P f.type,cz P f.type with
   |some s,some g=>some (f.offset,s,g)
   |_,_=>none
  |none=>none
 |_=>none
def placesOf (P:Program)(t:TypeId):Option (List (Nat×Nat)):=
 match P.underlying t with
 |some (.struct a)=>a.toList.mapM fun f=>(bY P f.type).map fun s=>(f.offset,s)
 |_=>none
def aJ (P:Program)(f:FuncId):Bool:=match P.funcs[f]? with|some fn=>!(fn.body.isNone||fn.name== "runtime.NumGoroutine")|none=>false
def aa.dn (F:aa)(a:Addr):Nat->Nat->Option (List Value)
 |_,0=>some []
 |i,n+1=>match F.get (a.add i) with
  |some v=>match F.dn a (i+1) n with
   |some b=>some (v::b)
   |none=>none
  |none=>none
theorem vt (F:aa)(a:Addr):∀(n i:Nat) (b:List Value),F.dn a i n=some b->F.l8 a i b/\b.length=n
 |0,i,b,h=>by simp only[aa.dn,Option.some.injEq] at h;subst h;exact ⟨trivial,rfl⟩
 |n+1,i,b,h=>by
  unfold aa.dn at h
  split at h
  .rename_i v c
   split at h
   .rename_i ws d
    cases h
    obtain ⟨e,f⟩:=vt F a n (i+1) ws d
    exact ⟨⟨c,e⟩,by simp[f]⟩
   .cases h
  .cases h
def fA (P:Program)(F:aa)(t:TypeId)(ad:Addr):Option Value:=
 match cz P t with
 |some false=>F.get ad
 |some true=>match bY P t with
  |some n=>match F.dn ad 0 n with
   |some a=>some (.agg a.toArray)
   |none=>none
  |none=>none
 |none=>none
def rZ (P:Program)(F:aa)(t:TypeId)(ad:Addr)(v:Value):Option aa:=
 match bY P t with
 |some n=>if n=v.cells.size then F.jF ad 0 v.cells.toList else none
 |none=>none
theorem z6 {P:Program}{F:aa}{t:TypeId}{ad:Addr}{v:Value}{Q:Value->aa->Prop}(h:fA P F t ad=some v)(a:Q v F):aX P (loadVar t ad) Q F:=by
 unfold fA at h;split at h
 .rename_i hg;exact EU v hg h a
 .rename_i hg;split at h
  .rename_i n c;split at h
   .rename_i b d;cases h;obtain ⟨e,f⟩:=vt F ad n 0 b d;exact ET b hg (by rw[c,f]) e a
   .cases h
  .cases h
 .cases h
theorem EZ {P:Program}{F F':aa}{t:TypeId}{ad:Addr}{v:Value}{Q:Unit->aa->Prop}(h:rZ P F t ad v=some F')(a:Q () F'):aX P (storeVar t ad v) Q F:=by
 unfold rZ at h;split at h
 .rename_i n b;split at h
  .rename_i e;exact EV F' (by rw[b,e]) h a
  .cases h
 .cases h
def nF (op:BinOp):Value->Value->Option Value
 | .int k a,.int c b=>if k=c then match op with
   | .add=>some (.int k (k.wrap (a+b)))
   | .sub=>some (.int k (k.wrap (a - b)))
   | .mul=>some (.int k (k.wrap (a*b)))
   | .quo=>if b=0 then none else some (.int k (k.wrap (a.tdiv b)))
   | .rem=>if b=0 then none else some (.int k (a.tmod b))
   | .eql=>some (.bool (a==b))
   | .neq=>some (.bool (a != b))
   | .lss=>some (.bool (decide (a<b)))
   | .leq=>some (.bool (decide (a<=b)))
   | .gtr=>some (.bool (decide (a>b)))
   | .geq=>some (.bool (decide (a≥b)))
   | .shl=>if b<0 then none else some (.int k (k.wrap (a*2 ^ min b.toNat k.bits)))
   | .shr=>if b<0 then none else some (.int k (a.fdiv (2 ^ min b.toNat k.bits)))
   | .and=>some (.int k (k.wrap (BitVec.ofInt k.bits a&&& BitVec.ofInt k.bits b).toNat))
   | .or=>some (.int k (k.wrap (BitVec.ofInt k.bits a|||BitVec.ofInt k.bits b).toNat))
   | .andNot=>some (.int k (k.wrap (BitVec.ofInt k.bits a&&& ~~~(BitVec.ofInt k.bits b)).toNat))
   | .xor=>some (.int k (k.wrap (BitVec.ofInt k.bits a ^^^ BitVec.ofInt k.bits b).toNat))
  else none
 |_,_=>none
theorem iY {P:Program}{s:Sem Value}{Q:Next->aa->Prop}{F:aa}:aX P (do pure (Next.value (<-s)):Sem Next) Q F=aX P s (fun v G=>Q (.value v) G) F:=by
 simp only[bu,bG]
theorem vu {P:Program}(op:BinOp)(t:TypeId)(x y:Operand)(k c:IntKind)(a b:Int){Q:Unit->aa->Prop}{F:aa}(h:Q () F):aX P (eqGuard op t x y (.int k a) (.int c b)) Q F:=by
 unfold eqGuard;cases op<;>simp<;>exact h
theorem E0 {P:Program}{op:BinOp}{t:TypeId}{x y:Operand}{u v w:Value}{Q:Value->aa->Prop}{F:aa}(h:nF op u v=some w)(c:Q w F):aX P (do eqGuard op t x y u v;binOp op t u v) Q F:=by
 unfold nF at h;split at h
 case h_2=>cases h
 rename_i k a e b;split at h
 case isFalse=>cases h
 rename_i d;subst d;rw[bu];refine vu op t x y k k a b ?_;cases op<;>simp only[binOp,ne_eq,not_true_eq_false,if_false,Op.intArith,Op.intDiv,Op.intCmp,Op.intBits,Op.shift,dm] at h ⊢<;>first
  |(cases h;done)
  |(cases h;exact c)
  |(split at h
    .cases h
    .rename_i hb;rw[if_neg hb];cases h;exact c)
def l9 (op:UnOp):Value->Option Value
 | .int k a=>match op with
  | .neg=>some (.int k (k.wrap (0 - a)))
  |_=>none
 | .bool b=>match op with
  | .not=>some (.bool (!b))
  |_=>none
 |_=>none
theorem E1 {P:Program}{op:UnOp}{u w:Value}{Q:Value->aa->Prop}{F:aa}(h:l9 op u=some w)(a:Q w F):aX P (Op.unary op u) Q F:=by
 cases u<;>cases op<;>simp only[l9] at h<;>first|(cases h;done)|(cases h;exact a)
def r4:Value->Value->Option Value
 | .int k x,.int _ y=>some (.int k (if y>x then y else x))
 |_,_=>none
def r5:Value->Value->Option Value
 | .int k x,.int _ y=>some (.int k (if y<x then y else x))
 |_,_=>none
def pR (P:Program)(t:TypeId):Value->Value->Option Value
 | .slice (some ad) len _,.int _ i=>match c8 P t with
  |some e=>match bY P e with
   |some n=>if 0<=i/\i<(len:Int) then some (.pointer (some (ad.add (i.toNat*n)))) else none
   |none=>none
  |none=>none
 | .pointer (some ad),.int _ i=>match nE P t with
  |some (len,e)=>match bY P e with
   |some n=>if 0<=i/\i<(len:Int) then some (.pointer (some (ad.add (i.toNat*n)))) else none
   |none=>none
  |none=>none
 |_,_=>none
theorem E2 {P:Program}{t:TypeId}{u v w:Value}{Q:Value->aa->Prop}{F:aa}(h:pR P t u v=some w)(c:Q w F):aX P (Instr.indexAt t u v) Q F:=by
 unfold pR at h;split at h
 .rename_i ad len cap k i;split at h
  case h_2=>cases h
  rename_i e he;split at h
  case h_2=>cases h
  rename_i n a;split at h
  case isFalse=>cases h
  rename_i hi;cases h;have hu:P.underlying t=some (.slice e):=by
   unfold c8 at he;split at he
   .rename_i d b;cases he;exact b
   .cases he
  simp only[Instr.indexAt,bu,kW,dy,hu,bG,dm,if_pos hi,eR,a];exact c
 .rename_i ad k i;split at h
  case h_2=>cases h
  rename_i len e he;split at h
  case h_2=>cases h
  rename_i n a;split at h
  case isFalse=>cases h
  rename_i hi;cases h;have hu:P.underlying t=some (.array len e):=by
   unfold nE at he;split at he
   .rename_i f d b;cases he;exact b
   .cases he
  simp only[Instr.indexAt,bu,kW,dy,hu,bG,rY,dm,if_pos hi,eR,a];exact c
 .cases h
def nG (P:Program)(t:TypeId)(x:Value)(lo hi:Option Value):Option Value:=
 match x,c8 P t with
 | .slice ad len cap,some e=>match bY P e with
  |some n=>
   match (match lo with|none=>some 0|some (.int _ i)=>if 0<=i then some i.toNat else none|_=>none),(match hi with|none=>some len|some (.int _ i)=>if 0<=i then some i.toNat else none|_=>none) with
   |some l,some h=>if l<=h/\h<=cap then some (.slice (if cap=l then ad else ad.map (·.add (l*n))) (h - l) (cap - l)) else none
   |_,_=>none
  |none=>none
 |_,_=>none
theorem E3 {P:Program}{t:TypeId}{x w:Value}{lo hi:Option Value}{Q:Value->aa->Prop}{F:aa}(hlen:∀ad len cap,x= .slice ad len cap->len<=cap)(h:nG P t x lo hi=some w)(b:Q w F):aX P (Instr.sliceAt t x lo hi none) Q F:=by
 unfold nG at h;split at h
 case h_2=>cases h
 rename_i ad len cap e he;have p:=hlen ad len cap rfl;have hu:P.underlying t=some (.slice e):=by
  unfold c8 at he;split at he
  .rename_i q f;cases he;exact f
  .cases he
 split at h
 case h_2=>cases h
 rename_i n c;split at h
 case h_2=>cases h
 rename_i l h' a hh;split at h
 case isFalse=>cases h
 rename_i hb;cases h;simp only[Instr.sliceAt,bu,dy,hu,Instr.slice,Instr.sliceBounds,bG];cases hi with
 |none=>
  simp only[Option.some.injEq] at hh;subst hh;simp only[bG];cases lo with
  |none=>
   simp only[Option.some.injEq] at a;subst a;simp only[bG,eR,c];exact b
  |some v=>
   cases v<;>simp only[reduceCtorEq] at a;rename_i k i;split at a
   case isFalse=>cases a
   rename_i d;cases a;have:0<=i/\i<=(len:Int):=⟨d,by omega⟩
   simp only[Instr.sliceBound,bu,kW,dm,if_pos this,bG,eR,c];exact b
 |some v=>
  cases v<;>simp only[reduceCtorEq] at hh;rename_i k i;split at hh
  case isFalse=>cases hh
  rename_i d;cases hh;have g:0<=i/\i<=(cap:Int):=⟨d,by omega⟩
  simp only[Instr.sliceBound,bu,kW,dm,if_pos g,bG];cases lo with
  |none=>
   simp only[Option.some.injEq] at a;subst a;simp only[bG,eR,c];exact b
  |some v=>
   cases v<;>simp only[reduceCtorEq] at a;rename_i r j;split at a
   case isFalse=>cases a
   rename_i m;cases a;have o:0<=j/\j<=((i.toNat:Nat):Int):=⟨m,by omega⟩
   simp only[bu,kW,dm,if_pos o,bG,eR,c];exact b
def gH:List Value->List Value->Option Bool
 |[],[]=>some true
 | .int k a::xs,.int c b::ys=>if k=c then match gH xs ys with
   |some r=>some (a==b&&r)
   |none=>none
  else none
 | .bool a::xs,.bool b::ys=>match gH xs ys with
   |some r=>some (a==b&&r)
   |none=>none
 |_,_=>none
theorem r6:∀{xs ys:List Value} {us b:List Value} {r:Bool},xs.length=ys.length->gH (xs++us) (ys++b)=some r->∃r1 r2,gH xs ys=some r1/\gH us b=some r2/\r=(r1&&r2)
 |[],[],us,b,r,_,h=>⟨true,r,rfl,h,by simp⟩
 |[],y::ys,_,_,_,a,_=>by simp at a
 |x::xs,[],_,_,_,a,_=>by simp at a
 |x::xs,y::ys,us,b,r,a,h=>by
  have f:xs.length=ys.length:=by simpa using a
  cases x<;>cases y<;>simp only[List.cons_append,gH,reduceCtorEq] at h ⊢
  .split at h
   .rename_i g c
    obtain ⟨r1,r2,d,e,rfl⟩:=r6 f c
    cases h
    exact ⟨_,r2,by rw[d],e,by rw[Bool.and_assoc]⟩
   .cases h
  .split at h
   .rename_i i
    split at h
    .rename_i g c
     obtain ⟨r1,r2,d,e,rfl⟩:=r6 f c
     cases h
     exact ⟨_,r2,by rw[if_pos i,d],e,by rw[Bool.and_assoc]⟩
    .cases h
   .cases h
def Kd:List Bool->List Value->Prop
 |[],[]=>True
 |true::ks,.int _ _::xs=>Kd ks xs
 |false::ks,.bool _::xs=>Kd ks xs
 |_,_=>False
theorem Kd.length:∀{ks:List Bool} {xs:List Value},Kd ks xs->xs.length=ks.length
 |[],[],_=>rfl
 |[],x::xs,h=>by simp[Kd] at h
 |k::ks,[],h=>by cases k<;>simp[Kd] at h
 |k::ks,x::xs,h=>by
  have:Kd ks xs:=by cases k<;>cases x<;>simp only[Kd] at h<;>exact h
  simp[Kd.length this]
theorem Kd.split:∀{ks:List Bool} {ls:List Bool} {xs:List Value},Kd (ks++ls) xs->Kd ks (xs.take ks.length)/\Kd ls (xs.drop ks.length)
 |[],_,_,h=>⟨by simp[Kd],by simpa using h⟩
 |k::ks,ls,[],h=>by cases k<;>simp[Kd] at h
 |k::ks,ls,x::xs,h=>by
  cases k<;>cases x<;>simp only[List.cons_append,Kd] at h
  all_goals
   obtain ⟨a,b⟩:=Kd.split h
   exact ⟨by simpa [Kd] using a,by simpa using b⟩
def pS (P:Program)(g:TypeId->Option (List Bool)):List Field->Nat->Option (List Bool)
 |[],_=>some []
 |f::a,off=>if f.name≠ "_"/\f.offset=off then match g f.type with
   |some ks=>if bY P f.type=some ks.length then match pS P g a (off+ks.length) with
     |some ls=>some (ks++ls)
     |none=>none
    else none
   |none=>none
  else none
def j5 (P:Program):Nat->TypeId->Option (List Bool)
 |0,_=>none
 |d+1,t=>match P.underlying t with
  |some .bool=>if cz P t=some false then some [false] else none
  |some (.int _)=>if cz P t=some false then some [true] else none
  |some (.struct a)=>if cz P t=some true/\P.stoodInHeld t=false then pS P (j5 P d) a.toList 0 else none
  |some (.array n e)=>if cz P t=some true then match j5 P d e with
    |some ks=>if bY P e=some ks.length then some (List.replicate n ks).flatten else none
    |none=>none
   else none
  |_=>none
def Sc (v:Value):Prop:=(∃k a,v= .int k a)\/∃b,v= .bool b
theorem Kd.sc:∀{ks:List Bool} {xs:List Value},Kd ks xs->∀x∈xs,Sc x
 |[],[],_=>by simp
 |[],x::xs,h=>by simp[Kd] at h
 |k::ks,[],h=>by simp
 |k::ks,x::xs,h=>by
  have:Sc x/\Kd ks xs:=by cases k<;>cases x<;>simp only[Kd] at h<;>first|exact ⟨.inl ⟨_,_,rfl⟩,h⟩|exact ⟨.inr ⟨_,rfl⟩,h⟩
  simpa using ⟨this.1,Kd.sc this.2⟩
theorem Sc.cells {v:Value}(h:Sc v):v.cells=#[v]:=by
 rcases h with ⟨k,a,rfl⟩|⟨b,rfl⟩<;>rfl
def Shape (P:Program)(t:TypeId)(v:Value):Prop:=(cz P t=some true->∃xs,v= .agg xs)/\(cz P t=some false->Sc v)
section
variable {P : Program}
theorem r7 {t:TypeId}{xs:Array Value}{off m:Nat}{g:Bool}{Q:Value->aa->Prop}{F:aa}(hg:cz P t=some g)(hs:bY P t=some m)(hm:g=false->m=1)(d:off+m<=xs.size)
  (c:∀x∈xs.toList,Sc x) (h:∀v,v.cells.toList=(xs.toList.drop off).take m->Shape P t v->Q v F):aX P (part t xs off) Q F:=by
 simp only[part,bu,l7,hg,dm]
 cases g with
 |true=>
  simp only[if_true,bu,eR,hs,bG]
  refine h _ ?_ ⟨fun _=>⟨_,rfl⟩,fun hh=>by rw[hg] at hh;cases hh⟩
  simp only[Value.cells,Array.toList_extract,List.extract_eq_take_drop]
  congr 1;omega
 |false=>
  have:=hm rfl
  subst this
  have a:off<xs.size:=by omega
  simp only[Bool.false_eq_true,if_false,Array.getElem?_eq_getElem a,bG]
  have b:=c xs[off] (by simp)
  refine h _ ?_ ⟨fun hh=>(by rw[hg] at hh;cases hh),fun _=>b⟩
  rw[b.cells]
  have:off<xs.toList.length:=by simpa using a
  rw[List.drop_eq_getElem_cons this]
  simp
def vv (P:Program)(d:Nat)(t:TypeId)(ks:List Bool):Prop:=
 ∀(u v:Value) (r:Bool) (Q:Bool->aa->Prop) (F:aa),Shape P t u->Shape P t v->Kd ks u.cells.toList->Kd ks v.cells.toList->gH u.cells.toList v.cells.toList=some r->Q r F->aX P (Op.equalIn d t u v) Q F
theorem z7 {d t:Nat}{ks:List Bool}(h:j5 P d t=some ks):∃g,cz P t=some g/\(g=false->ks.length=1):=by
 cases d with
 |zero=>cases h
 |succ d=>
  unfold j5 at h;split at h
  .split at h
   .rename_i hg;cases h;exact ⟨_,hg,fun _=>rfl⟩
   .cases h
  .split at h
   .rename_i hg;cases h;exact ⟨_,hg,fun _=>rfl⟩
   .cases h
  .split at h
   .rename_i hg;exact ⟨true,hg.1,fun x=>by cases x⟩
   .cases h
  .split at h
   .rename_i hg;exact ⟨true,hg,fun x=>by cases x⟩
   .cases h
  .cases h
theorem z8 {d:Nat}(ih:∀t ks,j5 P d t=some ks->vv P d t ks){xs ys:Array Value}{Q:Bool->aa->Prop}{F:aa}(n:∀x∈xs.toList,Sc x)(o:∀x∈ys.toList,Sc x):
  ∀(c:List Field) (off:Nat) (ks:List Bool) (r:Bool),pS P (j5 P d) c off=some ks->Kd ks (xs.toList.drop off)->Kd ks (ys.toList.drop off)->gH (xs.toList.drop off) (ys.toList.drop off)=some r->off<=xs.size->off<=ys.size->Q r F->
  aX P (do
   let x<-forIn c ((none,()):Option Bool×Unit) fun f _=>do
    if f.name≠ "_" then
     if (!(<-Op.equalIn d f.type (<-part f.type xs f.offset) (<-part f.type ys f.offset)))=true then pure (ForInStep.done (some false,())) else pure (ForInStep.yield (none,()))
    else pure (ForInStep.yield (none,()))
   match x.fst with
    |some a=>pure a
    |none=>pure true:Sem Bool) Q F
 |[],off,ks,r,b,e,h,he,_,_,i=>by
  simp only[pS,Option.some.injEq] at b
  subst b
  have j:=e.length
  have l:=h.length
  rw[List.eq_nil_of_length_eq_zero j,List.eq_nil_of_length_eq_zero l] at he
  cases he
  simp only[List.forIn_nil,bu,bG]
  exact i
 |f::c,off,ks,r,b,e,h,he,G,H,i=>by
  unfold pS at b
  split at b
  case isFalse=>cases b
  rename_i m
  obtain ⟨m,rfl⟩:=m
  split at b
  case h_2=>cases b
  rename_i k p
  split at b
  case isFalse=>cases b
  rename_i hs
  split at b
  case h_2=>cases b
  rename_i ls z
  cases b
  obtain ⟨g,hg,q⟩:=z7 p
  have A:=e.length
  have B:=h.length
  simp only[List.length_drop,Array.length_toList,List.length_append] at A B
  obtain ⟨C,s⟩:=e.split
  obtain ⟨D,w⟩:=h.split
  rw[List.drop_drop] at s w
  have e1:xs.toList.drop f.offset=(xs.toList.drop f.offset).take k.length++xs.toList.drop (f.offset+k.length):=by
   rw[<-List.drop_drop,List.take_append_drop]
  have e2:ys.toList.drop f.offset=(ys.toList.drop f.offset).take k.length++ys.toList.drop (f.offset+k.length):=by
   rw[<-List.drop_drop,List.take_append_drop]
  rw[e1,e2] at he
  obtain ⟨r1,r2,j,l,rfl⟩:=r6 (by simp;omega) he
  simp only[List.forIn_cons,bu,if_pos m]
  refine r7 hg hs q (by omega) n fun u hu E=>?_
  refine r7 hg hs q (by omega) o fun v y sv=>?_
  refine ih _ _ p u v r1 _ F E sv (by rw[hu];exact C) (by rw[y];exact D) (by rw[hu,y];exact j) ?_
  cases r1 with
  |false=>simpa [bG,dm] using i
  |true=>
   have:=z8 ih n o c (f.offset+k.length) ls r2 z s w l (by omega) (by omega) (Q:=Q) (F:=F) (by simpa using i)
   simpa [bG,dm,bu] using this
theorem z9 {d e k:Nat}{ks:List Bool}{g:Bool}(t:vv P d e ks)(h:ks.length=k)(hg:cz P e=some g)(j:g=false->ks.length=1)(hs:bY P e=some ks.length){xs ys:Array Value}{Q:Bool->aa->Prop}{F:aa}(w:∀x∈xs.toList,Sc x)(y:∀x∈ys.toList,Sc x):
  ∀(n i:Nat) (r:Bool),Kd (List.replicate n ks).flatten (xs.toList.drop (i*k))->Kd (List.replicate n ks).flatten (ys.toList.drop (i*k))->gH (xs.toList.drop (i*k)) (ys.toList.drop (i*k))=some r->i*k<=xs.size->i*k<=ys.size->Q r F->
  aX P (do
   let x<-forIn (List.range' i n) ((none,()):Option Bool×Unit) fun i _=>do
    if (!(<-Op.equalIn d e (<-part e xs (i*k)) (<-part e ys (i*k))))=true then pure (ForInStep.done (some false,())) else pure (ForInStep.yield (none,()))
   match x.fst with
    |some a=>pure a
    |none=>pure true:Sem Bool) Q F
 |0,i,r,b,c,he,_,_,f=>by
  have l:=b.length
  have m:=c.length
  rw[List.eq_nil_of_length_eq_zero l,List.eq_nil_of_length_eq_zero m] at he
  cases he
  simp only[List.range'_zero,List.forIn_nil,bu,bG]
  exact f
 |n+1,i,r,b,c,he,E,G,f=>by
  have o:(i+1)*k=i*k+k:=by simp only[Nat.add_mul,Nat.one_mul]
  have B:=b.length
  have C:=c.length
  simp only[List.replicate_succ,List.flatten_cons,List.length_drop,Array.length_toList,List.length_append] at B C
  simp only[List.replicate_succ,List.flatten_cons] at b c
  obtain ⟨z,p⟩:=b.split
  obtain ⟨A,q⟩:=c.split
  rw[h] at z p A q
  rw[List.drop_drop,<-o] at p q
  have e1:xs.toList.drop (i*k)=(xs.toList.drop (i*k)).take k++xs.toList.drop ((i+1)*k):=by
   rw[o,<-List.drop_drop,List.take_append_drop]
  have e2:ys.toList.drop (i*k)=(ys.toList.drop (i*k)).take k++ys.toList.drop ((i+1)*k):=by
   rw[o,<-List.drop_drop,List.take_append_drop]
  rw[e1,e2] at he
  obtain ⟨r1,r2,l,m,rfl⟩:=r6 (by simp;omega) he
  simp only[List.range'_succ,List.forIn_cons,bu]
  refine r7 hg hs j (by omega) w fun u hu D=>?_
  refine r7 hg hs j (by omega) y fun v s sv=>?_
  rw[h] at hu s
  refine t u v r1 _ F D sv (by rw[hu];exact z) (by rw[s];exact A) (by rw[hu,s];exact l) ?_
  cases r1 with
  |false=>simpa [bG,dm] using f
  |true=>
   have:=z9 t h hg j hs w y n (i+1) r2 p q m (by omega) (by omega) (Q:=Q) (F:=F) (by simpa using f)
   simpa [bG,dm,bu] using this
theorem vw:∀(d t:Nat) (ks:List Bool),j5 P d t=some ks->vv P d t ks
 |0,_,_,h=>by cases h
 |d+1,t,ks,h=>by
  intro u v r Q F i sv hu c he j
  unfold j5 at h
  split at h
  .rename_i f
   split at h
   case isFalse=>cases h
   rename_i hg
   cases h
   have a1:=i.2 hg
   have a2:=sv.2 hg
   rw[a1.cells] at he hu
   rw[a2.cells] at he c
   simp only[Op.equalIn,bu,dy,f]
   rcases a1 with ⟨k,a,rfl⟩|⟨a,rfl⟩<;>rcases a2 with ⟨m,b,rfl⟩|⟨b,rfl⟩<;>simp[Kd] at hu c
   simp[gH] at he
   subst he
   simpa [bG] using j
  .rename_i f
   split at h
   case isFalse=>cases h
   rename_i hg
   cases h
   have a1:=i.2 hg
   have a2:=sv.2 hg
   rw[a1.cells] at he hu
   rw[a2.cells] at he c
   simp only[Op.equalIn,bu,dy,f]
   rcases a1 with ⟨k,a,rfl⟩|⟨a,rfl⟩<;>rcases a2 with ⟨m,b,rfl⟩|⟨b,rfl⟩<;>simp[Kd] at hu c
   simp[gH] at he
   obtain ⟨l,rfl⟩:=he
   simpa [bG,dm,l] using j
  .rename_i o f
   split at h
   case isFalse=>cases h
   rename_i hg
   obtain ⟨hg,p⟩:=hg
   obtain ⟨xs,rfl⟩:=i.1 hg
   obtain ⟨ys,rfl⟩:=sv.1 hg
   simp only[Op.equalIn,bu,dy,f,j4,p,Bool.false_eq_true,if_false,dm,bG]
   have:=z8 (P:=P) (d:=d) (fun t ks hh=>vw d t ks hh) (xs:=xs) (ys:=ys) (Q:=Q) (F:=F) hu.sc c.sc o.toList 0 ks r h (by simpa [Value.cells] using hu) (by simpa [Value.cells] using c) (by simpa [Value.cells] using he) (by omega) (by omega) j
   rw[<-Array.forIn_toList]
   simp[bu] at this ⊢
   exact g9 (fun a G h=>by rcases a with ⟨_|_,_⟩<;>exact h) _ _ this
  .rename_i n e f
   split at h
   case isFalse=>cases h
   rename_i hg
   split at h
   case h_2=>cases h
   rename_i k l
   split at h
   case isFalse=>cases h
   rename_i hs
   cases h
   obtain ⟨xs,rfl⟩:=i.1 hg
   obtain ⟨ys,rfl⟩:=sv.1 hg
   obtain ⟨g,q,s⟩:=z7 l
   simp only[Op.equalIn,bu,dy,f,eR,hs]
   have:=z9 (P:=P) (d:=d) (vw d e k l) rfl q s hs (xs:=xs) (ys:=ys) (Q:=Q) (F:=F) hu.sc c.sc n 0 r (by simpa [Value.cells] using hu) (by simpa [Value.cells] using c) (by simpa [Value.cells] using he) (by simp) (by simp) j
   simp only[Std.Legacy.Range.forIn_eq_forIn_range',Std.Legacy.Range.size,Nat.sub_zero,Nat.add_one_sub_one,Nat.div_one]
   simp[bu] at this ⊢
   exact g9 (fun a G h=>by rcases a with ⟨_|_,_⟩<;>exact h) _ _ this
  .cases h
def iZ:List Bool->List Value->Bool
 |[],[]=>true
 |true::ks,.int _ _::xs=>iZ ks xs
 |false::ks,.bool _::xs=>iZ ks xs
 |_,_=>false
theorem vz:∀{ks:List Bool} {xs:List Value},iZ ks xs=true->Kd ks xs
 |[],[],_=>trivial
 |[],x::xs,h=>by simp[iZ] at h
 |k::ks,[],h=>by cases k<;>simp[iZ] at h
 |k::ks,x::xs,h=>by
  cases k<;>cases x<;>first
   |(simp only[iZ,reduceCtorEq,Bool.false_eq_true] at h;done)
   |exact vz (ks:=ks) (xs:=xs) (by simpa only[iZ] using h)
def nJ (P:Program)(t:TypeId):Option (List Bool):=if P.eqGuardType P.depth t=false/\cz P t=some true then j5 P Op.maxDepth t else none
def mb (P:Program)(t:TypeId):Value->Value->Option Bool
 | .agg xs,.agg ys=>match nJ P t with
  |some ks=>if iZ ks xs.toList&&iZ ks ys.toList then gH xs.toList ys.toList else none
  |none=>none
 |_,_=>none
theorem vA {t:TypeId}{u v:Value}{r:Bool}{Q:Bool->aa->Prop}{F:aa}(h:mb P t u v=some r)(c:Q r F):aX P (Op.equal t u v) Q F/\P.eqGuardType P.depth t=false/\(∃xs,u= .agg xs)/\∃ys,v= .agg ys:=by
 unfold mb at h;split at h
 case h_2=>cases h
 rename_i xs ys;split at h
 case h_2=>cases h
 rename_i ks a;split at h
 case isFalse=>cases h
 rename_i b;simp only[Bool.and_eq_true] at b;unfold nJ at a;split at a
 case isFalse=>cases a
 rename_i hg;refine ⟨?_,hg.1,⟨_,rfl⟩,_,rfl⟩;exact vw _ _ _ a _ _ r Q F ⟨fun _=>⟨_,rfl⟩,fun x=>by rw[hg.2] at x;cases x⟩ ⟨fun _=>⟨_,rfl⟩,fun x=>by rw[hg.2] at x;cases x⟩ (vz b.1) (vz b.2) h c
def vB (P:Program)(t:TypeId):Bool:=match P.underlying t with|some .bool=>true|_=>false
def j6 (P:Program)(t:TypeId):Bool:=match P.underlying t with|some (.slice _)=>true|_=>false
def pU (P:Program)(t:TypeId):Value->Value->Option Bool
 | .bool a,.bool b=>if vB P t=true then some (a==b) else none
 | .slice none _ _,.slice b _ _=>if j6 P t=true then some b.isNone else none
 | .slice (some _) _ _,.slice none _ _=>if j6 P t=true then some false else none
 |_,_=>none
theorem Aa {t:TypeId}{u v:Value}{r:Bool}{Q:Bool->aa->Prop}{F:aa}(h:pU P t u v=some r)(e:Q r F):aX P (Op.equal t u v) Q F/\((∃a b,u= .bool a/\v= .bool b)\/∃a n c b m d,u= .slice a n c/\v= .slice b m d):=by
 obtain ⟨d,hd⟩:∃d,Op.maxDepth=d+1:=⟨_,rfl⟩
 unfold pU at h;split at h
 .split at h
  .rename_i hb;cases h;unfold vB at hb;split at hb
   .rename_i hu;refine ⟨?_,.inl ⟨_,_,rfl,rfl⟩⟩;unfold Op.equal;rw[hd];simp only[Op.equalIn,bu,dy,hu,bG];exact e
   .cases hb
  .cases h
 .split at h
  .rename_i hb;cases h;unfold j6 at hb;split at hb
   .rename_i hu;refine ⟨?_,.inr ⟨_,_,_,_,_,_,rfl,rfl⟩⟩;unfold Op.equal;rw[hd];simp only[Op.equalIn,bu,dy,hu,bG];exact e
   .cases hb
  .cases h
 .split at h
  .rename_i hb;cases h;unfold j6 at hb;split at hb
   .rename_i hu;refine ⟨?_,.inr ⟨_,_,_,_,_,_,rfl,rfl⟩⟩;unfold Op.equal;rw[hd];simp only[Op.equalIn,bu,dy,hu,bG];exact e
   .cases hb
  .cases h
 .cases h
def pV (P:Program)(op:BinOp)(t:TypeId)(u v:Value):Option Value:=
 match nF op u v with
 |some w=>some w
 |none=>match op with
  | .eql=>match mb P t u v with
   |some r=>some (.bool r)
   |none=>match pU P t u v with
    |some r=>some (.bool r)
    |none=>none
  | .neq=>match mb P t u v with
   |some r=>some (.bool (!r))
   |none=>match pU P t u v with
    |some r=>some (.bool (!r))
    |none=>none
  | .shr=>match u,v with
   | .int k a,.int _ b=>if b<0 then none else some (.int k (a.fdiv (2 ^ min b.toNat k.bits)))
   |_,_=>none
  | .shl=>match u,v with
   | .int k a,.int _ b=>if b<0 then none else some (.int k (k.wrap (a*2 ^ min b.toNat k.bits)))
   |_,_=>none
  |_=>none
theorem E4 {op:BinOp}{t:TypeId}{x y:Operand}{u v w:Value}{Q:Value->aa->Prop}{F:aa}(h:pV P op t u v=some w)(e:Q w F):aX P (do eqGuard op t x y u v;binOp op t u v) Q F:=by
 unfold pV at h;split at h
 .rename_i w' hw;cases h;exact E0 hw e
 .split at h
  .split at h
   .rename_i r f;cases h;obtain ⟨g,i,⟨xs,rfl⟩,ys,rfl⟩:=vA (Q:=fun r G=>Q (.bool r) G) f e;simp only[bu,eqGuard,binOp,j4,i,dm,bG];simpa using g
   .split at h
    .rename_i r f;cases h;obtain ⟨g,i⟩:=Aa (Q:=fun r G=>Q (.bool r) G) f e;rcases i with ⟨a,b,rfl,rfl⟩|⟨a,n,c,b,m,d,rfl,rfl⟩<;>
     .simp only[bu,eqGuard,binOp,j4,dm,bG];simpa using g
    .cases h
  .split at h
   .rename_i r f;cases h;obtain ⟨g,i,⟨xs,rfl⟩,ys,rfl⟩:=vA (Q:=fun r G=>Q (.bool (!r)) G) f e;simp only[bu,eqGuard,binOp,j4,i,dm,bG];simpa using g
   .split at h
    .rename_i r f;cases h;obtain ⟨g,i⟩:=Aa (Q:=fun r G=>Q (.bool (!r)) G) f e;rcases i with ⟨a,b,rfl,rfl⟩|⟨a,n,c,b,m,d,rfl,rfl⟩<;>
     .simp only[bu,eqGuard,binOp,j4,dm,bG];simpa using g
    .cases h
  .split at h
   .split at h
    .cases h
    .rename_i hb;cases h;rw[bu];refine vu .shr t x y _ _ _ _ ?_;simp only[binOp,Op.shift,dm];rw[if_neg hb];exact e
   .cases h
  .split at h
   .split at h
    .cases h
    .rename_i hb;cases h;rw[bu];refine vu .shl t x y _ _ _ _ ?_;simp only[binOp,Op.shift,dm];rw[if_neg hb];exact e
   .cases h
  .cases h
end
theorem vC {P:Program}{t e:TypeId}(h:c8 P t=some e):P.underlying t=some (.slice e):=by
 unfold c8 at h;split at h
 .rename_i a he;cases h;exact he
 .cases h
theorem Ab (n:Nat):∀(r c:Nat),Builtin.growBy n r c<=2 ^ r*(c+768)
 |0,c=>by simp[Builtin.growBy]
 |r+1,c=>by
  unfold Builtin.growBy
  split
  .have:1<=2 ^ (r+1):=Nat.one_le_two_pow
   have:=Nat.mul_le_mul_right (c+768) this
   omega
  .have h:=Ab n r (c+(c+768)/4)
   refine Nat.le_trans h ?_
   rw[Nat.pow_succ,Nat.mul_assoc]
   refine Nat.mul_le_mul_left _ ?_
   omega
theorem nextslicecap_le {n c:Nat}(h:c<n)(b:n<=1000000):Builtin.nextslicecap n c<=20000000:=by
 unfold Builtin.nextslicecap;split
 .omega
 .split
  .omega
  .have a:=Ab n 4 c;have e:(2:Nat) ^ 4=16:=by decide
   rw[e] at a;refine Nat.le_trans a ?_;omega
section
variable {P : Program}
theorem E5 {Q:Array Value->aa->Prop}{F:aa}(a:Addr){n:Nat}{b:List Value}(h:F.dn a 0 n=some b)(c:Q b.toArray F):aX P (loadCells a n) Q F:=by
 obtain ⟨d,e⟩:=vt F a n 0 b h;subst e;exact vp a b 0 #[] d (by simpa using c)
def gk (F:aa)(size:Nat):Value->Option (List Value)
 | .slice (some a) n _=>F.dn a 0 (n*size)
 | .slice none 0 _=>some []
 |_=>none
theorem vD {Q:Array Value->aa->Prop}{F:aa}{size n:Nat}{ad:Option Addr}{c:Nat}{b:List Value}(h:gk F size (.slice ad n c)=some b)(d:Q b.toArray F):aX P (Builtin.firstCells size n (.slice ad n c)) Q F:=by
 cases ad with
 |none=>
  cases n with
  |zero=>simp only[gk,Option.some.injEq] at h;subst h;exact d
  |succ n=>simp[gk] at h
 |some a=>exact E5 a h d
theorem vE {Q:Unit->aa->Prop}{F:aa}(n:Nat)(h:Q () F):aX P (askRoom n) Q F:=by
 unfold askRoom;rw[dm];split
 .exact ⟨rfl,h⟩
 .exact h
theorem vF {F:aa}{Q:Value->aa->Prop}{argTypes:Array TypeId}{ty i j e p:TypeId}{size d len cap n c:Nat}{base l:Option Addr}{z:Value}{old new:List Value}
  (q:argTypes[0]?=some i) (r:argTypes[1]?=some j) (he:c8 P i=some e) (s:c8 P j=some p) (hs:bY P e=some size) (u:zeroOf P e=some z) (hb:bytesOf P e=some d)
  (C:0<d) (v:d<=10000) (w:len+n<=1000000) (hold:gk F size (.slice base len cap)=some old) (m:gk F size (.slice l n c)=some new)
  (f:len+n<=cap->(∃a F',base=some a/\F.jF (a.add (len*size)) 0 new=some F'/\Q (.slice base (len+n) cap) F')\/(base=none/\Q (.slice base (len+n) cap) F))
  (x:cap<len+n->∀k b,len+n<=k->dV F b->Q (.slice (some ⟨b,0,none⟩) (len+n) k) (F.push b (.cells (old.toArray++new.toArray++Builtin.zeroCells z.cells (k - (len+n))) e))):
  aX P (Builtin.append_ argTypes ty #[.slice base len cap,.slice l n c]) Q F:=by
 have hu:=vC he
 have y:=vC s
 unfold bytesOf at hb
 obtain ⟨info,hi,rfl⟩:=Option.map_eq_some_iff.1 hb
 simp only[Builtin.append_,q,r,List.getElem?_toArray,List.getElem?_cons_zero,List.getElem?_cons_succ,bu,dy,hu,y,eR,hs,bG,Builtin.lenOf,Bool.false_eq_true,if_false,dm,Bool.not_false,if_true,pQ,hi]
 split
 .rename_i hle
  have f:=f hle
  refine vD m ?_
  rcases f with ⟨a,F',rfl,A,g⟩|⟨rfl,g⟩
  .simp only[bu]
   refine rW _ _ 0 F F' (by simpa using A) ?_
   exact g
  .exact g
 .rename_i D
  have B:=nextslicecap_le (n:=len+n) (c:=cap) (by omega) w
  have e1:¬(((len+n:Nat):Int)>IntKind.i64.max/\(false=true\/info.bytes=0)):=by
   rintro ⟨_,h|h⟩
   .cases h
   .omega
  have e2:¬(Builtin.nextslicecap (len+n) cap*info.bytes>2 ^ 48):=by
   have:Builtin.nextslicecap (len+n) cap*info.bytes<=20000000*10000:=Nat.mul_le_mul B v
   omega
  rw[if_neg (by simpa using e1),if_neg e2]
  rw[vo]
  rw[if_neg (by simp[Question.forced])]
  intro t
  have o:len+n<=(Question.appendCap (len+n) cap e).cut t:=Nat.le_add_right _ _
  generalize (Question.appendCap (len+n) cap e).cut t=k at o ⊢
  refine vE _ ?_
  refine vD hold ?_
  refine vD m ?_
  simp only[bu,l6,u,rX,bG]
  exact fun b hb=>x (by omega) k b o hb
end
theorem vG:∀{pre:List (Nat×Obj)} {b:Nat} {o:Obj},av pre b->lk (pre++[(b,o)]) b=some o
 |[],b,o,_=>by simp[lk]
 |(c,x)::pre,b,o,h=>by
  have a:¬c=b:=fun e=>h.1 e.symm
  simp[lk,a,vG h.2]
def cJ (arr:Array Value)(k:Nat):List Value->Array Value
 |[]=>arr
 |v::a=>cJ (arr.setIfInBounds k v) (k+1) a
theorem r8:∀(a:List Value) (arr:Array Value) (k:Nat),(cJ arr k a).size=arr.size
 |[],_,_=>rfl
 |v::a,arr,k=>by rw[cJ,r8 a];simp
theorem r9:∀(a:List Value) (arr:Array Value) (k:Nat),k+a.length<=arr.size->(cJ arr k a).toList=arr.toList.take k++a++arr.toList.drop (k+a.length)
 |[],arr,k,_=>by simp[cJ]
 |v::a,arr,k,h=>by
  simp only[List.length_cons] at h
  rw[cJ,r9 a _ _ (by simp;omega)]
  have b:k<arr.toList.length:=by simp;omega
  rw[Array.toList_setIfInBounds]
  have e1:(arr.toList.set k v).take (k+1)=arr.toList.take k++[v]:=by
   rw[List.take_succ_eq_append_getElem (by simpa using b),List.take_set_of_le (Nat.le_refl _)]
   simp
  have e2:(arr.toList.set k v).drop (k+1+a.length)=arr.toList.drop (k+(v::a).length):=by
   rw[List.drop_set_of_lt (by omega)]
   congr 1
   simp;omega
  rw[e1,e2]
  simp
def Gr (ro:Addr->Option Value)(e:TypeId)(size:Nat)(v:Value)(l:List (List Value))(aW:List (Nat×Obj)):Prop:=
 (v= .slice none 0 0/\l=[]/\aW=[])\/
 ∃b arr cap,v= .slice (some ⟨b,0,none⟩) l.length cap/\aW=[(b,.cells arr e)]/\arr.size=cap*size/\l.length<=cap/\arr.toList.take (l.length*size)=l.flatten/\(∀x∈l,x.length=size)/\∀off sp,ro ⟨b,off,sp⟩=none
theorem iC {size:Nat}:∀{l:List (List Value)},(∀x∈l,x.length=size)->l.flatten.length=l.length*size
 |[],_=>by simp
 |x::l,h=>by
  have ih:l.flatten.length=l.length*size:=iC (fun y a=>h y (List.mem_cons_of_mem _ a))
  simp only[List.flatten_cons,List.length_append,List.length_cons,h x (by simp),ih,Nat.add_mul,Nat.one_mul]
  omega
theorem Ac {ro:Addr->Option Value}{pre:List (Nat×Obj)}{b:Nat}{e:TypeId}{arr:Array Value}(a:av pre b)(c:∀off sp,ro ⟨b,off,sp⟩=none):∀(n i:Nat),i+n<=arr.size->
  aa.dn ⟨ro,pre++[(b,.cells arr e)]⟩ ⟨b,0,none⟩ i n=some ((arr.toList.drop i).take n)
 |0,i,_=>by simp[aa.dn]
 |n+1,i,h=>by
  have f:(⟨b,0,none⟩:Addr).add i=⟨b,i,none⟩:=by
   unfold Addr.add
   split
   .rename_i hi;subst hi;rfl
   .simp
  have d:i<arr.size:=by omega
  unfold aa.dn
  have ih:=Ac (e:=e) (arr:=arr) a c n (i+1) (by omega)
  simp only[aa.get,f,c,if_true,vG a,Option.bind_some,cellOf,Array.getElem?_eq_getElem d,ih]
  have g:i<arr.toList.length:=by simpa using d
  rw[List.drop_eq_getElem_cons g,List.take_succ_cons]
  simp
theorem Gr.gk {ro:Addr->Option Value}{e:TypeId}{size:Nat}{v:Value}{l:List (List Value)}{aW pre:List (Nat×Obj)}(h:Gr ro e size v l aW)(a:∀k∈keys aW,av pre k):
  Go.Sep.gk ⟨ro,pre++aW⟩ size v=some l.flatten:=by
 rcases h with ⟨rfl,rfl,rfl⟩|⟨b,arr,cap,rfl,rfl,hs,c,ht,f,d⟩
 .rfl
 .simp only[Go.Sep.gk]
  have hle:l.length*size<=arr.size:=by rw[hs];exact Nat.mul_le_mul_right _ c
  rw[Ac (a b (by simp[keys])) d _ _ (by omega)]
  simp[ht]
def pW (P:Program)(t:TypeId)(parts:List (Nat×Value)):Option Value:=
 match zeroOf P t,placesOf P t with
 |some z,some pl=>match Instr.fill (fun i=>pl[i]?) z.cells parts with
  |some cs=>some (.agg cs)
  |none=>none
 |_,_=>none
theorem Ad {P:Program}{Q:Array (Nat×Nat)->aa->Prop}{F:aa}:∀(a:List Field) (pl:List (Nat×Nat)) (acc:Array (Nat×Nat)),(a.mapM fun f=>(bY P f.type).map fun s=>(f.offset,s))=some pl->
  Q (acc++pl.toArray) F->aX P (a.foldlM (fun (b:Array (Nat×Nat)) f=>do let s<-sizeOf f.type;pure (b.push (f.offset,s))) acc) Q F
 |[],pl,acc,h,c=>by
  simp at h;subst h
  simpa [bG] using c
 |f::a,pl,acc,h,c=>by
  simp only[List.mapM_cons] at h
  cases hs:bY P f.type with
  |none=>simp[hs] at h
  |some s=>
   cases d:(a.mapM fun f=>(bY P f.type).map fun s=>(f.offset,s)) with
   |none=>simp[hs,d] at h
   |some pr=>
    simp[hs,d] at h
    subst h
    simp only[List.foldlM_cons,bu,eR,hs,bG]
    exact Ad a pr _ d (by simpa using c)
theorem E6 {P:Program}{Q:Array (Nat×Nat)->aa->Prop}{F:aa}(a:Array Field)(pl:List (Nat×Nat))(h:(a.toList.mapM fun f=>(bY P f.type).map fun s=>(f.offset,s))=some pl)
  (b:Q pl.toArray F):aX P (a.mapM fun f=>do let s<-sizeOf f.type;pure (f.offset,s)) Q F:=by
 rw[Array.mapM_eq_foldlM,<-Array.foldlM_toList]
 have:=Ad (Q:=Q) (F:=F) a.toList pl #[] h (by simpa using b)
 simpa using this
theorem E7 {P:Program}{t:TypeId}{parts:Array (Nat×Value)}{w:Value}{Q:Value->aa->Prop}{F:aa}(h:pW P t parts.toList=some w)(b:Q w F):aX P (Instr.build t parts) Q F:=by
 unfold pW at h;split at h
 case h_2=>cases h
 rename_i z pl c a;split at h
 case h_2=>cases h
 rename_i cs d;cases h;unfold placesOf at a;split at a
 case h_2=>cases a
 rename_i e f;simp only[Instr.build,bu,l6,c,dy,f];refine E6 e pl a ?_;simp only[List.getElem?_toArray,d,bG];exact b
def sd (P:Program)(t:TypeId)(len:Nat)(parts:List (Nat×Value)):Option (TypeId×Array Value):=
 match c8 P t with
 |some e=>match bY P e,zeroOf P e with
  |some size,some z=>if len*size<=2 ^ 24/\0<len*size then
    match Instr.fill (fun i=>some (i*size,size)) ((Array.range (len*size)).map (z.cells[· % z.cells.size]!)) parts with
    |some cs=>some (e,cs)
    |none=>none
   else if len*size=0/\parts.isEmpty=true then some (e,#[]) else none
  |_,_=>none
 |none=>none
theorem E8 {P:Program}{t:TypeId}{len:Nat}{parts:Array (Nat×Value)}{e:TypeId}{cs:Array Value}{Q:Value->aa->Prop}{F:aa}(h:sd P t len parts.toList=some (e,cs))
  (d:∀b,dV F b->Q (.slice (some ⟨b,0,none⟩) len len) (F.push b (.cells cs e))):aX P (Instr.buildSlice t len parts) Q F:=by
 unfold sd at h
 split at h
 case h_2=>cases h
 rename_i f he
 split at h
 case h_2=>cases h
 rename_i size z hs g
 split at h
 case isFalse=>
  split at h
  case isFalse=>cases h
  rename_i hb
  cases h
  have hu:P.underlying t=some (.slice e):=by
   unfold c8 at he
   split at he
   .rename_i f a;cases he;exact a
   .cases he
  have c:¬(len*size>2 ^ 24):=by rw[hb.1];decide
  have i:parts.toList=[]:=List.isEmpty_iff.1 hb.2
  simp only[Instr.buildSlice,bu,dy,hu,eR,hs,dm,if_neg c,if_pos hb.1,bG,i]
  rw[hb.1]
  have e0:Array.range 0=#[]:=rfl
  simp only[e0,Array.map_empty,Instr.fill,bu,rX,bG]
  exact d
 rename_i hb
 split at h
 case h_2=>cases h
 rename_i cs' j
 cases h
 have hu:P.underlying t=some (.slice e):=by
  unfold c8 at he
  split at he
  .rename_i f a;cases he;exact a
  .cases he
 have c:¬(len*size>2 ^ 24):=by omega
 have k:¬(len*size=0):=by omega
 simp only[Instr.buildSlice,bu,dy,hu,eR,hs,dm,if_neg c,if_neg k,l6,g,bG,j,rX]
 exact d
def pX (P:Program)(t:TypeId)(n:Nat):Value->Option Value
 | .agg cs=>match vr P t n with
  |some (off,s,true)=>some (.agg (cs.extract off (off+s)))
  |some (off,_,false)=>cs[off]?
  |none=>none
 |_=>none
theorem E9 {P:Program}{t:TypeId}{n:Nat}{u w:Value}{Q:Value->aa->Prop}{F:aa}(h:pX P t n u=some w)(b:Q w F):aX P (Instr.field t u n) Q F:=by
 cases u<;>simp only[pX,reduceCtorEq] at h;rename_i cs;unfold vr at h;cases hu:P.underlying t with
 |none=>simp[hu] at h
 |some d=>
  cases d<;>simp only[hu,reduceCtorEq] at h;rename_i c;cases a:c[n]? with
  |none=>simp[a] at h
  |some f=>
   simp only[a] at h;cases hs:bY P f.type with
   |none=>simp[hs] at h
   |some s=>
    cases hg:cz P f.type with
    |none=>simp[hs,hg] at h
    |some g=>
     simp only[hs,hg] at h;simp only[Instr.field,bu,dy,hu,a,EX,part,l7,hg,dm];cases g with
     |true=>simp only[Option.some.injEq] at h;subst h;simpa [eR,hs,bG] using b
     |false=>
      simp only at h;simp only[Bool.false_eq_true,if_false,h];exact b
def se (n:Nat):Value->Option Value
 | .tuple a=>a[n]?
 |_=>none
def mc (P:Program)(src dst:TypeId):Value->Option Value
 | .int _ n=>match P.underlying src,P.underlying dst with
  |some (.int _),some (.int k)=>some (.int k (k.wrap n))
  |_,_=>none
 |_=>none
theorem Fa {P:Program}{src dst:TypeId}{u w:Value}{Q:Value->aa->Prop}{F:aa}(h:mc P src dst u=some w)(a:Q w F):aX P (convert src dst u) Q F:=by
 cases u<;>simp only[mc,reduceCtorEq] at h;rename_i k n;split at h
 .rename_i k1 d b c;cases h;simp only[convert,bu,dy,b,c,Conv.intToInt,bG];exact a
 .cases h
def si (P:Program)(t:TypeId):Value->Option Value
 | .slice _ n _=>match c8 P t with
  |some _=>some (.int .i64 n)
  |none=>none
 |_=>none
def pY (P:Program)(t:TypeId):Value->Value->Option Value
 | .agg cs,.int _ i=>match nE P t with
  |some (len,e)=>match bY P e,cz P e with
   |some s,some true=>if 0<=i/\i<(len:Int) then some (.agg (cs.extract (i.toNat*s) (i.toNat*s+s))) else none
   |some s,some false=>if 0<=i/\i<(len:Int) then cs[i.toNat*s]? else none
   |_,_=>none
  |none=>none
 | .string s,.int _ i=>match P.underlying t with
  |some .string=>if 0<=i then (s[i.toNat]?).map fun b=>.int .u8 b.toNat else none
  |_=>none
 |_,_=>none
theorem Fb {P:Program}{t:TypeId}{u v w:Value}{Q:Value->aa->Prop}{F:aa}(h:pY P t u v=some w)(a:Q w F):aX P (Instr.index t u v) Q F:=by
 unfold pY at h;split at h
 case h_3=>cases h
 case h_2=>
  rename_i s k i;split at h
  case h_2=>cases h
  rename_i hu;split at h
  case isFalse=>cases h
  rename_i hi;obtain ⟨b,hb,rfl⟩:=Option.map_eq_some_iff.1 h;simp only[Instr.index,bu,kW,dy,hu,if_pos hi,hb,bG];exact a
 rename_i cs k i;split at h
 case h_2=>cases h
 rename_i len e he;have hu:P.underlying t=some (.array len e):=by
  unfold nE at he;split at he
  .rename_i d f c;cases he;exact c
  .cases he
 split at h
 .rename_i s hs hg;split at h
  case isFalse=>cases h
  rename_i hi;cases h;simp only[Instr.index,bu,kW,dy,hu,dm,if_pos hi,eR,hs,part,l7,hg,if_true,bG];exact a
 .rename_i s hs hg;split at h
  case isFalse=>cases h
  rename_i hi;simp only[Instr.index,bu,kW,dy,hu,dm,if_pos hi,eR,hs,part,l7,hg,Bool.false_eq_true,if_false,h,bG];exact a
 .cases h
def me (P:Program)(argTypes:Array TypeId)(s x:Value)(R:Value->aa->Prop)(F:aa):Prop:=
 ∀ty,aX P (Builtin.append_ argTypes ty #[s,x]) (fun v F=>∃F0,Le F0 F/\R v F0) F
def Oper.nL (o:Oper):Bool:=match o.op with| .call {callee:=.builtin .append, ..}=>true|_=>false
def gI (P:Program)(J:Goroutine->aa->Prop)(y:Value)(args:Array Value)(F:aa)(R:Value->aa->Prop):Prop:=
 match y with
 | .func (.func fn) first captured=>aJ P fn=true/\cU P J fn (first++args++captured) F R
 | .func (.yield l) first captured=>first=#[]/\captured=#[]/\∃r,F.ff l=some (.loop r)/\args.size=r.params.size/\jB J l r.fn ((r.params.zip args).foldl (fun tmps (t,a)=>tmps.setIfInBounds t a) r.tmps) r.assign r.body F R
 |_=>False
theorem gI.mono {P:Program}{J:Goroutine->aa->Prop}{y:Value}{args:Array Value}{F:aa}{R a:Value->aa->Prop}(h:gI P J y args F R)(b:∀v F',R v F'->a v F'):gI P J y args F a:=by
 unfold gI at h ⊢;split at h
 .exact ⟨h.1,h.2.mono b⟩
 .obtain ⟨e1,e2,r,c,d,e⟩:=h;exact ⟨e1,e2,r,c,d,e.mono b⟩
 .exact h.elim
theorem Fc {P:Program}{J:Goroutine->aa->Prop}{fn:FuncId}{first captured args:Array Value}{F:aa}{R:Value->aa->Prop}:gI P J (.func (.func fn) first captured) args F R=(aJ P fn=true/\cU P J fn (first++args++captured) F R):=rfl
def e5 (P:Program)(m:Sem Value)(R:Value->aa->Prop)(F:aa):Prop:=aX P m R F
def cK (P:Program)(J:Goroutine->aa->Prop)(o:Oper)(R:Value->aa->Prop)(a:Act)(F:aa):Prop:=
 match o.op with
 | .move x| .assign x=>R (ev a x) F
 | .nilCheck x=>match ev a x with
  | .pointer (some _)=>R (ev a x) F
  |_=>False
 | .pick c x y=>match ev a c with
  | .bool b=>R (if b then ev a x else ev a y) F
  |_=>False
 | .alloc t=>match zeroOf P t with
  |some z=>∀b,dV F b->R (.pointer (some ⟨b,0,none⟩)) (F.push b (.cells z.cells t))
  |none=>False
 | .box t x=>∀b,dV F b->R (.pointer (some ⟨b,0,none⟩)) (F.push b (.cells (ev a x).cells t))
 | .build t parts=>match pW P t (parts.map fun (i,x)=>(i,ev a x)).toList with
  |some v=>R v F
  |none=>False
 | .buildSlice t len parts=>match sd P t len (parts.map fun (i,x)=>(i,ev a x)).toList with
  |some (e,cs)=>∀b,dV F b->R (.slice (some ⟨b,0,none⟩) len len) (F.push b (.cells cs e))
  |none=>False
 | .load t x=>match ev a x with
  | .pointer (some ad)=>match fA P F t ad with
   |some v=>R v F
   |none=>False
  |_=>False
 | .store t x y=>match ev a x with
  | .pointer (some ad)=>match rZ P F t ad (ev a y) with
   |some F'=>R undef F'
   |none=>False
  |_=>False
 | .binOp op t x y _=>match pV P op t (ev a x) (ev a y) with
  |some v=>R v F
  |none=>False
 | .unOp op _ x=>match l9 op (ev a x) with
  |some v=>R v F
  |none=>False
 | .convert src dst x=>match mc P src dst (ev a x) with
  |some v=>R v F
  |none=>False
 | .makeFunc fn first captured=>R (.func fn (first.map (ev a)) (captured.map (ev a))) F
 | .slice t x lo hi none=>(match ev a x with| .slice _ len cap=>len<=cap|_=>False)/\match nG P t (ev a x) (lo.map (ev a)) (hi.map (ev a)) with
  |some v=>R v F
  |none=>False
 | .fieldAddr s x n=>match ev a x with
  | .pointer (some ad)=>match cN P s n with
   |some k=>R (.pointer (some (ad.add k))) F
   |none=>False
  |_=>False
 | .field s x n=>match pX P s n (ev a x) with
  |some v=>R v F
  |none=>False
 | .indexAddr t x i=>match pR P t (ev a x) (ev a i) with
  |some v=>R v F
  |none=>False
 | .index t x i=>match pY P t (ev a x) (ev a i) with
  |some v=>R v F
  |none=>False
 | .extract x n=>match se n (ev a x) with
  |some v=>R v F
  |none=>False
 | .call {callee:=.value x,args, ..}=>gI P J (ev a x) (args.map (ev a)) F R
 | .call {callee:=.builtin .len,args,argTypes}=>match argTypes[0]?,args[0]? with
  |some t,some x=>match si P t (ev a x) with
   |some v=>R v F
   |none=>e5 P (Builtin.len_ argTypes o.type (args.map (ev a))) R F
  |_,_=>False
 | .makeMap t r=>e5 P (Instr.makeMap t (r.map (ev a))) R F
 | .makeSlice t l c=>e5 P (Instr.makeSlice t (ev a l) (ev a c)) R F
 | .mapUpdate t m k x=>e5 P (Instr.mapUpdate t (ev a m) (ev a k) (ev a x)>>= fun _=>pure undef) R F
 | .call {callee:=.builtin .clear,args,argTypes}=>e5 P (Builtin.clear_ argTypes o.type (args.map (ev a))) R F
 | .call {callee:=.builtin .cap,args,argTypes}=>e5 P (Builtin.cap_ argTypes o.type (args.map (ev a))) R F
 | .call {callee:=.builtin .copy,args,argTypes}=>e5 P (Builtin.copy_ argTypes o.type (args.map (ev a))) R F
 | .call {callee:=.builtin .append,args,argTypes}=>match args.toList with
  |[x,y]=>me P argTypes (ev a x) (ev a y) R F
  |_=>False
 | .call {callee:=.builtin .max,args, ..}=>match args.toList with
  |[x,y]=>match r4 (ev a x) (ev a y) with
   |some v=>R v F
   |none=>False
  |_=>False
 | .call {callee:=.builtin .min,args, ..}=>match args.toList with
  |[x,y]=>match r5 (ev a x) (ev a y) with
   |some v=>R v F
   |none=>False
  |_=>False
 |_=>False
theorem eG (a:Act):a.eval=ev a:=rfl
theorem Ae {P:Program}{J:Goroutine->aa->Prop}{o:Oper}{R:Value->aa->Prop}{D:Deferred->aa->Prop}{a:Act}{F:aa}(C:Oper.nL o=false)(h:cK P J o R a F):aX P (execOp a.eval o) (fH P J R D) F:=by
 obtain ⟨dst,op,type,pos,after,guard⟩:=o;unfold execOp;simp only[eG];unfold cK at h;simp only at h;cases op<;>simp only at h ⊢
 case move x=>exact h
 case assign x=>exact h
 case nilCheck x=>
  split at h
  .rename_i ad g;simp only[g,bG,fH];rw[g] at h;exact h
  .exact h.elim
 case pick c x y=>
  split at h
  .rename_i b hb;simp only[bu,hb,EW,bG,fH];exact h
  .exact h.elim
 case alloc t=>
  split at h
  .rename_i z E;simp only[Instr.alloc,bu,l6,E,z2,bG,fH];exact h
  .exact h.elim
 case box t x=>
  simp only[Instr.box,bu,z2,bG,fH];exact h
 case build t parts=>
  split at h
  .rename_i v d;simp only[bu,bG];exact E7 d h
  .exact h.elim
 case buildSlice t len parts=>
  split at h
  .rename_i e cs d;simp only[bu,bG];exact E8 d h
  .exact h.elim
 case load t x=>
  split at h
  case h_2=>exact h.elim
  rename_i ad q;split at h
  case h_2=>exact h.elim
  rename_i v d;simp only[Instr.loadAt,bu,q,rY,bG];exact z6 d h
 case store t x y=>
  split at h
  case h_2=>exact h.elim
  rename_i ad q;split at h
  case h_2=>exact h.elim
  rename_i F' G;simp only[Instr.storeAt,bu,q,rY,bG];exact EZ G h
 case binOp op t x y X=>
  split at h
  case h_2=>exact h.elim
  rename_i v d;rw[iY];exact E4 d h
 case unOp op t x=>
  split at h
  case h_2=>exact h.elim
  rename_i v d;rw[iY];exact E1 d h
 case convert src dst x=>
  split at h
  case h_2=>exact h.elim
  rename_i v d;rw[iY];exact Fa d h
 case makeFunc fn first captured=>
  simp only[Instr.makeFunc,bu,bG,fH];exact h
 case slice t x lo hi H=>
  cases H with
  |some m=>exact h.elim
  |none=>
   simp only at h;obtain ⟨u,h⟩:=h;split at h
   case h_2=>exact h.elim
   rename_i v d;rw[iY];exact E3 (fun ad len cap e=>by rw[e] at u;exact u) d h
 case fieldAddr s x n=>
  split at h
  case h_2=>exact h.elim
  rename_i ad q;split at h
  case h_2=>exact h.elim
  rename_i k j;unfold cN at j;split at j
  case h_2=>cases j
  rename_i Y I;split at j
  case h_2=>cases j
  rename_i f w;split at j
  case h_2=>cases j
  rename_i m hm;cases j;rw[iY];simp only[Instr.fieldAt,bu,dy,I,w,q,rY,fieldPlace,eR,hm];simpa [bG,fH] using h
 case field s x n=>
  split at h
  case h_2=>exact h.elim
  rename_i v d;rw[iY];exact E9 d h
 case indexAddr t x i=>
  split at h
  case h_2=>exact h.elim
  rename_i v d;rw[iY];exact E2 d h
 case index t x i=>
  split at h
  case h_2=>exact h.elim
  rename_i v d;rw[iY];exact Fb d h
 case extract x n=>
  split at h
  case h_2=>exact h.elim
  rename_i v d;rw[iY];unfold se at d;split at d
  .rename_i Z K;simp only[K,Instr.extract,d];exact h
  .cases d
 case makeMap t r=>
  rw[iY];exact h
 case makeSlice t l c=>
  rw[iY];exact h
 case mapUpdate t m k x=>
  unfold e5 at h;rw[bu] at h;rw[bu];exact h
 case call c=>
  obtain ⟨callee,args,argTypes⟩:=c;cases callee with
  |value x=>
   simp only at h;unfold gI at h;split at h
   case h_3=>exact h.elim
   .rename_i fn first captured g
    obtain ⟨p,L⟩:=h;unfold aJ at p;split at p
    case h_2=>cases p
    rename_i f w;simp only[Bool.not_eq_true',Bool.or_eq_false_iff] at p;simp only[resolve,g,Deferred.ofValue,bu,bG,invoke,callFunc,j4,w,p.1,p.2,Bool.false_eq_true,if_false,fH];exact L
   .rename_i l first captured g
    obtain ⟨rfl,rfl,r,u,M,N⟩:=h;simp only[resolve,g,Deferred.ofValue,bu,bG,invoke,Instr.yield,Instr.getLoop,Array.append_empty,Array.empty_append,Array.map_map];refine ⟨_,u,?_⟩;have O:∀{α:Type} (x:α) (Q:α->aa->Prop) (F:aa),aX P (Sem.pure x) Q F=Q x F:=fun _ _ _=>rfl;simp only[bu,O,bG,dm,ne_eq,M,not_true_eq_false,if_false,fH];exact N
  |invoke r m=>exact h.elim
  |builtin b=>
   cases b<;>simp only at h
   case append=>simp[Oper.nL] at C
   case clear=>
    simp only[resolve,bu,bG,invoke,builtin];exact h
   case cap=>
    simp only[resolve,bu,bG,invoke,builtin];exact h
   case copy=>
    simp only[resolve,bu,bG,invoke,builtin];exact h
   case len=>
    split at h
    case h_2=>exact h.elim
    rename_i t x ht g;split at h
    case h_2=>
     simp only[resolve,bu,bG,invoke,builtin];exact h
    rename_i v d;unfold si at d;split at d
    case h_2=>cases d
    rename_i ad n cap S;split at d
    case h_2=>cases d
    rename_i e T;have he:=vC T;cases d;have U:(args.map (ev a))[0]?=some (.slice ad n cap):=by simp[g,S]
    simp only[resolve,bu,bG,invoke,builtin,Builtin.len_,ht,U,dy,he];exact h
   case max=>
    split at h
    case h_2=>exact h.elim
    rename_i x y A;split at h
    case h_2=>exact h.elim
    rename_i v d;unfold r4 at d;split at d
    case h_2=>cases d
    rename_i k V W y' g B;cases d;simp only[resolve,bu,bG,invoke,builtin,Builtin.max_,Array.toList_map,A,List.map_cons,List.map_nil,List.foldlM_cons,List.foldlM_nil,g,B,Builtin.max2,fH];exact h
   case min=>
    split at h
    case h_2=>exact h.elim
    rename_i x y A;split at h
    case h_2=>exact h.elim
    rename_i v d;unfold r5 at d;split at d
    case h_2=>cases d
    rename_i k V W y' g B;cases d;simp only[resolve,bu,bG,invoke,builtin,Builtin.min_,Array.toList_map,A,List.map_cons,List.map_nil,List.foldlM_cons,List.foldlM_nil,g,B,Builtin.min2,fH];exact h
theorem kX {P:Program}{J:Goroutine->aa->Prop}{o:Oper}{R:Value->aa->Prop}{D:Deferred->aa->Prop}{a:Act}{F:aa}(h:cK P J o R a F):aX P (execOp a.eval o) (j0 P J R D) F:=
by
 cases b:Oper.nL o with
 |false=>exact g9 EH _ _ (Ae b h)
 |true=>
  obtain ⟨dst,op,type,pos,after,guard⟩:=o
  unfold Oper.nL at b
  split at b
  .rename_i callee args argTypes c
   simp only at c
   subst c
   unfold cK at h
   simp only at h
   split at h
   case h_2=>exact h.elim
   rename_i x y d
   have e:args=#[x,y]:=by rw[<-Array.toList_inj];simpa using d
   subst e
   unfold execOp
   simp only[eG,resolve,bu,bG,invoke,builtin]
   have:=h type
   simpa [j0,fH,bu,bG] using this
  .cases b
def cC (ops:Array Oper)(o:Oper)(a:Act):Option Bool:=
 match o.guard with
 |none=>some true
 |some (j,want)=>match (ops[j]?).bind (·.dst) with
  |some d=>match slot a d with
   | .bool b=>some (b==want)
   | .tuple _=>some false
   |_=>none
  |none=>none
theorem cj {ops:Array Oper}{o:Oper}{a:Act}{t:Bool}(h:cC ops o a=some t):Region.wanted o (yielded ops a.tmps)=t:=by
 unfold cC at h;unfold Region.wanted;split at h
 .rename_i hg;rw[hg];cases h;rfl
 .rename_i j want hg;rw[hg];split at h
  .rename_i d hd;split at h
   .rename_i b hb;cases h;have ht:a.tmps[d]?=some (.bool b):=by
     unfold slot at hb;rw[Array.getD_eq_getD_getElem?] at hb;cases c:a.tmps[d]? with
     |none=>rw[c] at hb;simp[undef] at hb
     |some v=>rw[c] at hb;simpa using hb
    simp only[yielded,hd,Option.bind_some,ht];cases b<;>cases want<;>rfl
   .rename_i b hb;cases h;simp only[yielded,hd,Option.bind_some];unfold slot at hb;rw[Array.getD_eq_getD_getElem?] at hb;cases c:a.tmps[d]? with
    |none=>rfl
    |some v=>
     rw[c] at hb;simp at hb;subst hb;rfl
   .cases h
  .cases h
def Oper.calls (o:Oper):Bool:=match o.op with| .call {callee:=.value _, ..}=>true| .call {callee:=.builtin .append, ..}=>true| .call {callee:=.builtin .clear, ..}=>true| .call {callee:=.builtin .cap, ..}=>true| .call {callee:=.builtin .copy, ..}=>true| .makeMap ..=>true| .makeSlice ..=>true| .mapUpdate ..=>true|_=>false
def fB (P:Program)(J:Goroutine->aa->Prop)(ops:Array Oper)(K:Act->aa->Prop):List Oper->Bool->Act->aa->Prop
 |[],_,a,F=>K a F
 |o::rest,_,a,F=>match cC ops o a with
  |some true=>cK P J o (fun v F'=>fB P J ops K rest (!Oper.calls o) (bg a o.dst v) F') a F
  |some false=>fB P J ops K rest true (bg a o.dst undef) F
  |none=>False
theorem Af {P:Program}{J:Goroutine->aa->Prop}{ops:Array Oper}{K:Act->aa->Prop}{go:Bool}{a:Act}{F:aa}:fB P J ops K [] go a F=K a F:=rfl
theorem Ah {P:Program}{J:Goroutine->aa->Prop}{ops:Array Oper}{K:Act->aa->Prop}{o:Oper}{rest:List Oper}{a:Act}{F:aa}:fB P J ops K (o::rest) true a F=match cC ops o a with
  |some true=>cK P J o (fun v F'=>fB P J ops K rest (!Oper.calls o) (bg a o.dst v) F') a F
  |some false=>fB P J ops K rest true (bg a o.dst undef) F
  |none=>False:=(Eq.refl _).trans (Eq.refl _)
theorem aK {P:Program}{J:Goroutine->aa->Prop}{ops:Array Oper}{K:Act->aa->Prop}:∀{l:List Oper} {go:Bool} {a:Act} {F:aa},fB P J ops K l true a F->fB P J ops K l go a F
 |[],_,_,_,h=>h
 |_::_,_,_,_,h=>h
theorem vH {P:Program}{J:Goroutine->aa->Prop}{ops:Array Oper}{K:Act->aa->Prop}:∀(l:List Oper) (k:Nat) (go:Bool) (a:Act) (F:aa),ops.toList.drop k=l->fB P J ops K l go a F->
  fU P J ops K (List.range' k l.length) a F
 |[],k,_,a,F,_,h=>h
 |o::rest,k,_,a,F,b,h=>by
  have d:ops[k]?=some o:=by
   have:=congrArg List.head? b
   simpa [List.head?_drop] using this
  have c:ops.toList.drop (k+1)=rest:=by
   have:=congrArg List.tail b
   simpa [List.tail_drop] using this
  simp only[List.length_cons,List.range'_succ]
  show dM P J ops k (fU P J ops K (List.range' (k+1) rest.length)) a F
  unfold dM
  simp only[d]
  unfold fB at h
  split at h
  .rename_i hg
   rw[if_pos (cj hg)]
   exact g9 (pM (fun v F' e=>vH rest (k+1) _ _ F' c e) (fun _ _ x=>x)) _ _ (kX h)
  .rename_i hg
   rw[if_neg (by rw[cj hg];simp)]
   exact vH rest (k+1) _ _ F c h
  .exact h.elim
theorem aj {P:Program}{main:Bool}{J:Goroutine->aa->Prop}{Q:Ex->Act->aa->Prop}{a:Act}{F:aa}(hJ:Closed P main J){id:Nat}{ops:Array Oper}(h:fB P J ops (Q .normal) ops.toList true a F):Wp J (.region id ops false) Q a F:=by
 refine EO hJ ?_;have:=vH ops.toList 0 true a F (by simp) h;simpa [List.range_eq_range'] using this
theorem ah {P:Program}{main:Bool}{J:Goroutine->aa->Prop}{Q:Ex->Act->aa->Prop}{a:Act}{F:aa}(hJ:Closed P main J){id:Nat}{ops:Array Oper}{y:Code}(h:fB P J ops (vg J y Q .normal) ops.toList true a F):Wp J (.seq (.region id ops false) y) Q a F:=af hJ (aj hJ h)
attribute [irreducible] fB
theorem nM {P:Program}{J:Goroutine->aa->Prop}{ops:Array Oper}{Q:Act->aa->Prop}{S:aa->Prop}(i:Nat){b:Oper}(v:Value){fuel:Nat}{listed:Array Bool}{a:Act}{F:aa}(hi:ops[i]?=some b)
  (d:(Region.noSelect ops&&Region.free .any ops listed i&&(Region.ready .any ops listed).contains i)=true)
  (hg:cC ops b a=some true) (e:∀F R,S F->R v F->cK P J b R a F) (c:S F)
  (h:dN P J ops Q S fuel (listed.setIfInBounds i true) (bg a b.dst v) F):dN P J ops Q S (fuel+1) listed a F:=
 zQ i v hi d (.inl ⟨cj hg,fun F R c f=>kX (e F R c f)⟩) c h
theorem Ai {P:Program}{J:Goroutine->aa->Prop}{ops:Array Oper}{Q:Act->aa->Prop}{S:aa->Prop}(i:Nat){b:Oper}{fuel:Nat}{listed:Array Bool}{a:Act}{F:aa}(hi:ops[i]?=some b)
  (c:(Region.noSelect ops&&Region.free .any ops listed i&&(Region.ready .any ops listed).contains i)=true)
  (hg:cC ops b a=some false) (d:S F)
  (h:dN P J ops Q S fuel (listed.setIfInBounds i true) (bg a b.dst undef) F):dN P J ops Q S (fuel+1) listed a F:=
 zQ i undef hi c (.inr ⟨cj hg,rfl⟩) d h
theorem Aj {P:Program}{J:Goroutine->aa->Prop}{ops:Array Oper}{Q:Act->aa->Prop}{S:aa->Prop}(i:Nat){b:Oper}{fuel:Nat}{listed:Array Bool}{a:Act}{F:aa}(hi:ops[i]?=some b)
  (c:Region.ready .any ops listed=[i]) (hg:cC ops b a=some true)
  (h:cK P J b (fun v F'=>S F'/\dN P J ops Q S fuel (listed.setIfInBounds i true) (bg a b.dst v) F') a F):dN P J ops Q S (fuel+1) listed a F:=by
 refine EL i c ?_
 unfold dM
 simp only[hi]
 rw[if_pos (cj hg)]
 exact kX h
attribute [go_sem] List.isEmpty_nil List.isEmpty_cons undef Af Ah Oper.calls Bool.not_true Bool.not_false cC cK aa.push aa.get aa.put lk iW cellOf fA rZ aa.dn aa.jF aa.lX bF frozenAt pV mb pU Option.isNone_none Option.isNone_some gH iZ nF l9 r4 r5 pR pY nG pX se mc si pW sd
theorem add_zero' (a:Addr):a.add 0=a:=rfl
theorem kY (a:Addr)(m n:Nat):(a.add m).add n=a.add (m+n):=by
 unfold Addr.add;by_cases hm:m=0
 .subst hm;simp
 .by_cases b:n=0
  .subst b;simp[hm]
  .have:¬m+n=0:=by omega
   simp[hm,b,this,Nat.add_assoc]
theorem kZ (b o n:Nat):(⟨b,o,none⟩:Addr).add n=⟨b,o+n,none⟩:=by
 unfold Addr.add;by_cases a:n=0
 .subst a;simp
 .simp[a]
attribute [go_sem] add_zero' kY kZ Nat.add_assoc Int.reduceLE Int.reduceLT Int.reduceToNat Int.toNat_zero Int.le_refl
attribute [go_sem] Value.cells Instr.fill rT iB vi vg Fc
attribute [go_sem] and_true true_and Array.getD_eq_getD_getElem? List.getElem?_toArray List.getElem?_cons_zero List.getElem?_cons_succ List.getElem?_nil Option.getD_some Option.getD_none Option.bind_some Option.bind_none Option.map_some Option.map_none
attribute [go_sem] Nat.reduceLT Nat.reduceEqDiff Nat.reduceAdd Nat.reduceMul Nat.reduceSub if_true if_false reduceIte reduceCtorEq List.setIfInBounds_toArray List.set_cons_zero List.set_cons_succ
attribute [go_sem] List.map_toArray List.map_cons List.map_nil List.append_toArray List.cons_append List.nil_append List.append_nil Array.append_empty Array.empty_append List.toList_toArray List.length_cons List.length_nil List.size_toArray ne_eq not_true_eq_false not_false_eq_true forall_const
theorem eK {ro:Addr->Option Value}{own:List (Nat×Obj)}{b:Nat}(h:dV ⟨ro,own⟩ b):∀off sp,ro ⟨b,off,sp⟩=none:=h.ro
theorem fL {ro:Addr->Option Value}{own:List (Nat×Obj)}{b:Nat}(h:dV ⟨ro,own⟩ b):av own b:=h.own
def pZ (P:Program)(F:aa)(a:Act):ResultVar->Option Value
 | .tmp t=>some (slot a t)
 | .cell ad t=>match slot a ad with
  | .pointer (some p)=>fA P F t p
  |_=>none
def mg (P:Program)(F:aa)(a:Act):List ResultVar->Option (List Value)
 |[]=>some []
 |r::rs=>match pZ P F a r with
  |some v=>match mg P F a rs with
   |some b=>some (v::b)
   |none=>none
  |none=>none
def mh (P:Program)(F:aa)(a:Act)(rs:List ResultVar):Option Value:=
 match mg P F a rs with
 |some [v]=>some v
 |some b=>some (.tuple b.toArray)
 |none=>none
attribute [go_sem] pZ mg mh
theorem vI {P:Program}{F:aa}{a:Act}{Q:Array Value->aa->Prop}:∀(rs:List ResultVar) (d:List Value) (acc:Array Value),mg P F a rs=some d->Q (acc++d.toArray) F->
  aX P (rs.foldlM (fun (b:Array Value) r=>do let x<-(match r with| .tmp t=>pure (a.tmps.getD t undef)| .cell ad t=>do loadVar t (<-asAddr (a.tmps.getD ad undef)):Sem Value);pure (b.push x)) acc) Q F
 |[],d,acc,h,e=>by
  simp only[mg,Option.some.injEq] at h;subst h
  simpa [bG] using e
 |r::rs,d,acc,h,e=>by
  unfold mg at h
  split at h
  case h_2=>cases h
  rename_i v c
  split at h
  case h_2=>cases h
  rename_i ws i
  cases h
  have f:=vI rs ws (acc.push v) i (Q:=Q) (by simpa using e)
  simp only[List.foldlM_cons,bu]
  cases r with
  |tmp t=>
   simp only[pZ,Option.some.injEq,slot] at c
   subst c
   simpa only[bG] using f
  |cell ad t=>
   simp only[pZ] at c
   split at c
   .rename_i p g
    unfold slot at g
    simp only[bu,g,asAddr,bG]
    exact z6 c f
   .cases c
theorem sj {P:Program}{fn:Func}{rs:List ResultVar}{F:aa}{a:Act}{v:Value}{R:Value->aa->Prop}(d:fn.results=rs.toArray)(h:mh P F a rs=some v)(c:R v F):aX P (results fn a.tmps) R F:=by
 unfold results;rw[d,bu,Array.mapM_eq_foldlM,<-Array.foldlM_toList];unfold mh at h;split at h
 case h_3=>cases h
 .rename_i x b;cases h;exact vI rs [v] #[] b (by simpa [bG] using c)
 .rename_i e f b;cases h;refine vI rs e #[] b ?_;simp only[Array.empty_append,bG];split
  .rename_i hs;simp at hs;obtain ⟨v,rfl⟩:=List.length_eq_one_iff.1 hs;exact absurd rfl (f v)
  .exact c
def gJ (P:Program)(rs:List ResultVar)(R:Value->aa->Prop):Ex->Act->aa->Prop
 | .exit _,_,_=>False
 |_,a,F=>a.defers=[]/\match mh P F a rs with|some v=>R v F|none=>False
attribute [go_sem] gJ
theorem aE.go {P:Program}{f:FuncId}{fn:Func}{c:Code}{n:Nat}{rs:List ResultVar}{args:Array Value}{F:aa}{R:Value->aa->Prop}(g:P.funcs[f]?=some fn)(hb:fn.body=some c)(j:fn.ntmps=n)(k:fn.results=rs.toArray)(l:args.size<=n)
  (h:∀main J,Closed P main J->∀A:Act,sz A=n->A.defers=[]->(∀i,slot A i=args.getD i undef)->Wp J c (gJ P rs R) A F):aE P f args F R:=
 aE.start g hb j l fun main J hJ A m o p=>(h main J hJ A m o p).mono fun e a F d=>by
  cases e with
  |exit i=>exact d
  |_=>
   obtain ⟨hd,b⟩:=d
   split at b
   .rename_i v q
    show iB P a.defers _ F
    rw[hd]
    exact sj k q b
   .exact b.elim
def cV (n m:Nat):Array Bool:=(Array.range n).map fun i=>decide (i<m)
def p5 (ops:Array Oper)(m:Nat):Bool:=
 Region.noSelect ops&&decide (m<=ops.size)&&((List.range m).all fun i=>Region.free .any ops (cV ops.size i) i&&(Region.ready .any ops (cV ops.size i)).contains i)&&
 ((List.range (ops.size - m)).all fun j=>decide (Region.ready .any ops (cV ops.size (m+j))=[m+j]))&&decide (Region.ready .any ops (cV ops.size ops.size)=[])
def Fe (D:List Nat)(L:List (List Nat))(x y:Nat):Bool:=RegionTabs.apart ⟨#[],D.toArray,L.toArray⟩ x y
def vJ (A:List (List Nat))(D:List Nat)(L:List (List Nat))(n m:Nat):Bool:=
 decide (m<=n)&&((List.range m).all fun k=>(A.getD k []).all (fun x=>decide (x<k))&&(List.range n).all fun j=>decide (j<=k)||(A.getD j []).contains k||Fe D L k j)&&
 ((List.range (n - m)).all fun t=>(A.getD (m+t) []).all (fun x=>decide (x<m+t))&&(List.range (n - (m+t+1))).all fun u=>!(A.getD (m+t+1+u) []).all (fun x=>decide (x<m+t)))
section
variable {ops : Array Oper}
theorem Ak {n k i:Nat}(h:i<n):(cV n k).getD i true=decide (i<k):=by
 simp[cV,Array.getD_eq_getD_getElem?,h]
theorem Ff {n k i:Nat}(a:k<=n):(cV n k).getD i false=decide (i<k):=by
 rcases Nat.lt_or_ge i n with h|h
 .simp[cV,Array.getD_eq_getD_getElem?,h]
 .have:¬i<k:=by omega
  simp[cV,Array.getD_eq_getD_getElem?,Array.getElem?_eq_none,h,this]
theorem vK {A:List (List Nat)}{k:Nat}(a:Region.tabAfter .any ops=A)(b:k<=ops.size):
  Region.ready .any ops (cV ops.size k)=(List.range ops.size).filter fun i=>!decide (i<k)&&(A.getD i []).all fun x=>decide (x<k):=by
 have hlen:A.length=ops.size:=by rw[<-a];simp[Region.tabAfter]
 rw[<-RegionTabs.ready_eq]
 unfold RegionTabs.ready RegionTabs.of
 simp only[a,List.size_toArray,hlen]
 apply List.filter_congr
 intro i hi
 have c:i<ops.size:=List.mem_range.1 hi
 rw[Ak c]
 congr 1
 rw[List.getElem?_toArray,List.getD_eq_getElem?_getD,List.getElem?_eq_getElem (by omega)]
 simp only[Option.map_some,Option.getD_some]
 congr 1
 funext x
 exact Ff b
theorem filter_one {k:Nat}{p:Nat->Bool}(b:p k=true):∀(n:Nat),k<n->(∀i,i<n->i≠k->p i=false)->(List.range n).filter p=[k]
 |0,c,_=>by omega
 |n+1,c,a=>by
  rw[List.range_succ,List.filter_append]
  by_cases e:k=n
  .subst e
   have:(List.range k).filter p=[]:=by
    rw[List.filter_eq_nil_iff]
    intro i hi
    have d:=List.mem_range.1 hi
    rw[a i (by omega) (by omega)];simp
   rw[this];simp[b]
  .rw[filter_one b n (by omega) fun i hi=>a i (by omega)]
   simp[a n (by omega) (fun x=>e x.symm)]
theorem Fg {m n:Nat}(A:List (List Nat))(D:List Nat)(L:List (List Nat))(hs:Region.noSelect ops=true)(f:ops.size=n)(a:Region.tabAfter .any ops=A)(g:Region.tabDst ops=D)(k:Region.tabLooks ops=L)(h:vJ A D L n m=true):p5 ops m=true:=by
 subst f;have hlen:A.length=ops.size:=by rw[<-a];simp[Region.tabAfter]
 simp only[vJ,Bool.and_eq_true,decide_eq_true_eq,List.all_eq_true,List.mem_range] at h;obtain ⟨⟨hm,c⟩,d⟩:=h;simp only[p5,Bool.and_eq_true,decide_eq_true_eq,List.all_eq_true,List.mem_range];refine ⟨⟨⟨⟨hs,hm⟩,fun i hi=>⟨?_,?_⟩⟩,fun j b=>?_⟩,?_⟩
 .rw[<-RegionTabs.free_eq];unfold RegionTabs.free;have e1:(RegionTabs.of .any ops).after=A.toArray:=by simp[RegionTabs.of,a]
  rw[e1,List.size_toArray,hlen];simp only[Bool.and_eq_true,decide_eq_true_eq,List.all_eq_true,List.mem_range];refine ⟨by omega,fun j b=>?_⟩;have:=(c i hi).2 j b;simp only[Bool.or_eq_true,decide_eq_true_eq] at this;simp only[Bool.or_eq_true];rcases this with (hle|l)|o
  .rcases Nat.lt_or_eq_of_le hle with x|x
   .left;left;right;rw[Ak (by omega)];simpa using x
   .left;left;left;simpa using x
  .left;right;simpa [Array.getD_eq_getD_getElem?,List.getD_eq_getElem?_getD] using l
  .right;have e:RegionTabs.of .any ops=⟨A.toArray,D.toArray,L.toArray⟩:=by simp[RegionTabs.of,a,g,k]
   rw[e];exact o
 .rw[vK a (by omega)];rw[List.contains_iff_mem,List.mem_filter];refine ⟨List.mem_range.2 (by omega),?_⟩;have:=(c i hi).1;simpa [List.all_eq_true] using this
 .have p:m+j<ops.size:=by omega
  rw[vK a (by omega)];refine filter_one ?_ _ p fun i hi aD=>?_
  .have:=(d j b).1;simpa [List.all_eq_true] using this
  .rcases Nat.lt_or_ge i (m+j) with x|x
   .simp[x]
   .have:=(d j b).2 (i - (m+j+1)) (by omega);rw[show m+j+1+(i - (m+j+1))=i by omega] at this;simp only[Bool.not_eq_true'] at this;simp only[this,Bool.and_false]
 .rw[vK a (Nat.le_refl _)];rw[List.filter_eq_nil_iff];intro i hi;have:=List.mem_range.1 hi;simp[this]
def vL (n:Nat)(k:Nat->Bool):Bool:=Nat.casesOn n (k 0) fun m=>k (m+1)
def p6:List Nat->(List Nat->Bool)->Bool
 |[],k=>k []
 |x::xs,k=>vL x fun y=>p6 xs fun ys=>k (y::ys)
def p7:List (List Nat)->(List (List Nat)->Bool)->Bool
 |[],k=>k []
 |x::xs,k=>p6 x fun y=>p7 xs fun ys=>k (y::ys)
theorem Al (n:Nat)(k:Nat->Bool):vL n k=k n:=by cases n<;>rfl
theorem vM:∀(l:List Nat) (k:List Nat->Bool),p6 l k=k l
 |[],_=>rfl
 |x::xs,k=>by rw[p6,Al,vM xs]
theorem Am:∀(l:List (List Nat)) (k:List (List Nat)->Bool),p7 l k=k l
 |[],_=>rfl
 |x::xs,k=>by rw[p7,vM,Am xs]
def nN (ops:Array Oper)(m:Nat):Bool:=Region.noSelect ops&&p7 (Region.tabAfter .any ops) fun A=>p6 (Region.tabDst ops) fun D=>p7 (Region.tabLooks ops) fun L=>vL ops.size fun n=>vJ A D L n m
theorem An {m:Nat}(h:nN ops m=true):p5 ops m=true:=by
 simp only[nN,Bool.and_eq_true,Am,vM,Al] at h;exact Fg _ _ _ h.1 rfl rfl rfl rfl h.2
end
def ja:List (Nat×Obj)->List (Nat×Obj)->Prop
 |[],_=>True
 |(b,o)::l,own=>lk own b=some o/\ja l own
def Knows (F0 F:aa):Prop:=(∀a v,F0.ro a=some v->F.ro a=some v)/\(∀a,a.block∈keys F0.own->F0.ro a=none->F.ro a=none)/\ja F0.own F.own
theorem ja.lk:∀{l own:List (Nat×Obj)} {b:Nat} {o:Obj},ja l own->lk l b=some o->Go.Sep.lk own b=some o
 |[],_,_,_,_,h=>by cases h
 |(c,x)::l,own,b,o,a,h=>by
  unfold Go.Sep.lk at h
  split at h
  .rename_i e;cases h;exact e▸a.1
  .exact ja.lk a.2 h
theorem Knows.get {F0 F:aa}(h:Knows F0 F){a:Addr}{v:Value}(hg:F0.get a=some v):F.get a=some v:=by
 unfold aa.get at hg ⊢;cases b:F0.ro a with
 |some x=>rw[b] at hg;rw[h.1 a x b];exact hg
 |none=>
  rw[b] at hg;simp only at hg;split at hg
  .rename_i hs;obtain ⟨o,c,d⟩:=Option.bind_eq_some_iff.1 hg;rw[h.2.1 a (e4 (g6 c)) b];simp only;rw[if_pos hs,h.2.2.lk c];exact d
  .cases hg
theorem Fh {ro:Addr->Option Value}{l own:List (Nat×Obj)}:Knows ⟨ro,l⟩ ⟨ro,own⟩=ja l own:=
 propext ⟨fun h=>h.2.2,fun h=>⟨fun _ _ x=>x,fun _ _ x=>x,h⟩⟩
theorem Fi {ro aM:Addr->Option Value}{l own:List (Nat×Obj)}(c:∀a v,ro a=some v->aM a=some v)(d:∀b∈keys l,∀off sp,aM ⟨b,off,sp⟩=none)(h:ja l own):Knows ⟨ro,l⟩ ⟨aM,own⟩:=
 ⟨c,fun a e _=>d a.block e a.off a.spot,h⟩
theorem Knows.l8 {F0 F:aa}(h:Knows F0 F){a:Addr}:∀{n i:Nat} {b:List Value},F0.dn a i n=some b->F.dn a i n=some b
 |0,_,_,hg=>hg
 |n+1,i,b,hg=>by
  unfold aa.dn at hg ⊢
  split at hg
  case h_2=>cases hg
  rename_i v c
  split at hg
  case h_2=>cases hg
  rename_i ws d
  rw[h.get c,h.l8 d]
  exact hg
theorem Knows.fA {P:Program}{F0 F:aa}(h:Knows F0 F){t:TypeId}{ad:Addr}{v:Value}(hg:fA P F0 t ad=some v):Go.Sep.fA P F t ad=some v:=by
 unfold Go.Sep.fA at hg ⊢;split at hg
 .exact h.get hg
 .split at hg
  case h_2=>cases hg
  rename_i n b;split at hg
  case h_2=>cases hg
  rename_i c a;rw[h.l8 a];exact hg
 .cases hg
def jb (P:Program)(o:Oper)(a:Act):Option Value:=
 match o.op with
 | .move x| .assign x=>some (ev a x)
 | .nilCheck x=>match ev a x with
  | .pointer (some ad)=>some (.pointer (some ad))
  |_=>none
 | .pick c x y=>match ev a c with
  | .bool b=>some (if b then ev a x else ev a y)
  |_=>none
 | .build t parts=>pW P t (parts.map fun (i,x)=>(i,ev a x)).toList
 | .binOp op t x y _=>pV P op t (ev a x) (ev a y)
 | .unOp op _ x=>l9 op (ev a x)
 | .convert src dst x=>mc P src dst (ev a x)
 | .makeFunc fn first captured=>some (.func fn (first.map (ev a)) (captured.map (ev a)))
 | .slice t x lo hi none=>match ev a x with
  | .slice ad len cap=>if len<=cap then nG P t (.slice ad len cap) (lo.map (ev a)) (hi.map (ev a)) else none
  |_=>none
 | .fieldAddr s x n=>match ev a x with
  | .pointer (some ad)=>match cN P s n with
   |some k=>some (.pointer (some (ad.add k)))
   |none=>none
  |_=>none
 | .field s x n=>pX P s n (ev a x)
 | .indexAddr t x i=>pR P t (ev a x) (ev a i)
 | .index t x i=>pY P t (ev a x) (ev a i)
 | .extract x n=>se n (ev a x)
 | .call {callee:=.builtin .len,args,argTypes}=>match argTypes[0]?,args[0]? with
  |some t,some x=>si P t (ev a x)
  |_,_=>none
 | .call {callee:=.builtin .max,args, ..}=>match args.toList with
  |[x,y]=>r4 (ev a x) (ev a y)
  |_=>none
 | .call {callee:=.builtin .min,args, ..}=>match args.toList with
  |[x,y]=>r5 (ev a x) (ev a y)
  |_=>none
 |_=>none
theorem sk {P:Program}{J:Goroutine->aa->Prop}{o:Oper}{a:Act}{v:Value}{R:Value->aa->Prop}{F:aa}(h:jb P o a=some v)(d:R v F):cK P J o R a F:=by
 obtain ⟨dst,op,type,pos,after,guard⟩:=o;unfold jb at h;unfold cK;cases op<;>simp only[reduceCtorEq] at h ⊢
 case move x=>cases h;exact d
 case assign x=>cases h;exact d
 case nilCheck x=>
  split at h
  .rename_i ad e;cases h;rw[e];exact d
  .cases h
 case pick c x y=>
  split at h
  .rename_i b hb;cases h;try rw[hb]
   exact d
  .cases h
 case build t parts=>rw[h];exact d
 case binOp=>rw[h];exact d
 case unOp=>rw[h];exact d
 case convert=>rw[h];exact d
 case makeFunc=>cases h;exact d
 case slice t x lo hi g=>
  cases g with
  |some m=>cases h
  |none=>
   simp only at h ⊢;split at h
   case h_2=>cases h
   rename_i ad len cap e;split at h
   case isFalse=>cases h
   rename_i i;rw[e];exact ⟨i,by rw[h];exact d⟩
 case fieldAddr s x n=>
  split at h
  case h_2=>cases h
  rename_i ad e;split at h
  case h_2=>cases h
  rename_i k j;cases h;try rw[e]
  try simp only[j]
  exact d
 case field=>rw[h];exact d
 case indexAddr=>rw[h];exact d
 case index=>rw[h];exact d
 case extract=>rw[h];exact d
 case call c=>
  obtain ⟨callee,args,argTypes⟩:=c;cases callee with
  |value x=>cases h
  |invoke r m=>cases h
  |builtin b=>
   cases b<;>simp only[reduceCtorEq] at h ⊢
   case len=>
    split at h
    case h_2=>cases h
    rename_i t x ht e;simp only[ht,e,h];exact d
   case max=>
    split at h
    case h_2=>cases h
    rename_i x y f;simp only[f,h];exact d
   case min=>
    split at h
    case h_2=>cases h
    rename_i x y f;simp only[f,h];exact d
def Plain (P:Program)(J:Goroutine->aa->Prop)(F0:aa)(f:FuncId)(args:Array Value)(v:Value):Prop:=
 ∀F,Knows F0 F->cU P J f args F (fun a F'=>a=v/\F'=F)
def en (P:Program)(J:Goroutine->aa->Prop)(ops:Array Oper)(F0:aa)(K:Act->Prop):List Oper->Bool->Act->Prop
 |[],_,a=>K a
 |o::rest,_,a=>match cC ops o a with
  |some false=>en P J ops F0 K rest true (bg a o.dst undef)
  |some true=>match o.op with
   | .load t x=>match ev a x with
    | .pointer (some ad)=>match fA P F0 t ad with
     |some v=>en P J ops F0 K rest true (bg a o.dst v)
     |none=>False
    |_=>False
   | .call {callee:=.value x,args, ..}=>match ev a x with
    | .func (.func fn) first captured=>aJ P fn=true/\∃v,Plain P J F0 fn (first++args.map (ev a)++captured) v/\en P J ops F0 K rest false (bg a o.dst v)
    |_=>False
   |_=>match jb P o a with
    |some v=>en P J ops F0 K rest true (bg a o.dst v)
    |none=>False
  |none=>False
theorem Fj {P:Program}{J:Goroutine->aa->Prop}{ops:Array Oper}{F0:aa}{K:Act->Prop}{go:Bool}{a:Act}:en P J ops F0 K [] go a=K a:=rfl
theorem Fo {P:Program}{J:Goroutine->aa->Prop}{ops:Array Oper}{F0:aa}{K:Act->Prop}{o:Oper}{rest:List Oper}{a:Act}:en P J ops F0 K (o::rest) true a=match cC ops o a with
  |some false=>en P J ops F0 K rest true (bg a o.dst undef)
  |some true=>match o.op with
   | .load t x=>match ev a x with
    | .pointer (some ad)=>match fA P F0 t ad with
     |some v=>en P J ops F0 K rest true (bg a o.dst v)
     |none=>False
    |_=>False
   | .call {callee:=.value x,args, ..}=>match ev a x with
    | .func (.func fn) first captured=>aJ P fn=true/\∃v,Plain P J F0 fn (first++args.map (ev a)++captured) v/\en P J ops F0 K rest false (bg a o.dst v)
    |_=>False
   |_=>match jb P o a with
    |some v=>en P J ops F0 K rest true (bg a o.dst v)
    |none=>False
  |none=>False:=(Eq.refl _).trans (Eq.refl _)
theorem cc {P:Program}{J:Goroutine->aa->Prop}{ops:Array Oper}{F0:aa}{K:Act->Prop}:∀{l:List Oper} {go:Bool} {a:Act},en P J ops F0 K l true a->en P J ops F0 K l go a
 |[],_,_,h=>h
 |_::_,_,_,h=>h
theorem sn {n m:Nat}(h:m<n):(cV n m).setIfInBounds m true=cV n (m+1):=by
 apply Array.ext
 .simp[cV]
 .intro i a b;simp[cV] at a b;rw[Array.getElem_setIfInBounds (by simp[cV];omega)];by_cases e:m=i
  .subst e;simp[cV]
  .simp only[if_neg e,cV,Array.getElem_map,Array.getElem_range];rw[decide_eq_decide];omega
theorem Ao (n:Nat):cV n 0=Array.replicate n false:=by
 apply Array.ext
 .simp[cV]
 .intro i a b;simp[cV]
section
variable {P : Program} {main : Bool} {J : Goroutine → aa → Prop} {ops : Array Oper} {Q : Act → aa → Prop} {F0 : aa}
theorem so {K:Act->Prop}(m:Nat)(hm:m<=ops.size)(r:Region.noSelect ops=true)(s:∀i,i<m->(Region.free .any ops (cV ops.size i) i&&(Region.ready .any ops (cV ops.size i)).contains i)=true)
  {F:aa} (b:Knows F0 F) (u:∀a,K a->dN P J ops Q (Knows F0) (ops.size - m) (cV ops.size m) a F):
  ∀(l:List Oper) (k:Nat) (go:Bool) (a:Act),(ops.toList.take m).drop k=l->k<=m->en P J ops F0 K l go a->dN P J ops Q (Knows F0) (ops.size - k) (cV ops.size k) a F
 |[],k,_,a,c,A,h=>by
  have:k=m:=by
   have:=congrArg List.length c
   simp at this
   omega
  subst this
  exact u a h
 |o::rest,k,_,a,c,A,h=>by
  have g:k<m:=by
   rcases Nat.lt_or_ge k m with x|x
   .exact x
   .rw[List.drop_eq_nil_of_le (by simp;omega)] at c;cases c
  have j:ops[k]?=some o:=by
   have:=congrArg List.head? c
   rw[List.head?_drop,List.getElem?_take_of_lt g] at this
   simpa using this
  have y:(ops.toList.take m).drop (k+1)=rest:=by
   have:=congrArg List.tail c
   simpa [List.tail_drop] using this
  have B:=s k g
  have e:ops.size - k=(ops.size - (k+1))+1:=by omega
  have z:=sn (n:=ops.size) (m:=k) (by omega)
  have p:(Region.noSelect ops&&Region.free .any ops (cV ops.size k) k&&(Region.ready .any ops (cV ops.size k)).contains k)=true:=by
   rw[r,Bool.true_and];exact B
  rw[e]
  unfold en at h
  split at h
  .rename_i hg
   exact Ai k j p hg b (by rw[z];exact so m hm r s b u rest (k+1) _ _ y g h)
  .rename_i hg
   have next:∀go v,en P J ops F0 K rest go (bg a o.dst v)->dN P J ops Q (Knows F0) (ops.size - (k+1)) ((cV ops.size k).setIfInBounds k true) (bg a o.dst v) F:=fun go v d=>by
    rw[z];exact so m hm r s b u rest (k+1) _ _ y g d
   split at h
   .rename_i t x w
    split at h
    case h_2=>exact h.elim
    rename_i ad C
    split at h
    case h_2=>exact h.elim
    rename_i v d
    refine nM k v j p hg (fun F R q f=>?_) b (next _ v h)
    unfold cK
    simp only[w,C,q.fA d]
    exact f
   .rename_i x args argTypes w
    split at h
    case h_2=>exact h.elim
    rename_i fn first captured D
    obtain ⟨E,v,G,h⟩:=h
    refine nM k v j p hg (fun F R q f=>?_) b (next _ v h)
    unfold cK
    simp only[w,D]
    exact ⟨E,(G F q).mono fun I F' H=>by obtain ⟨rfl,rfl⟩:=H;exact f⟩
   .split at h
    case h_2=>exact h.elim
    rename_i v d
    exact nM k v j p hg (fun F R q f=>sk d f) b (next _ v h)
  .exact h.elim
def eL (P:Program)(J:Goroutine->aa->Prop)(ops:Array Oper)(F0:aa)(Q:Act->aa->Prop):List Oper->Bool->Act->aa->Prop
 |[],_,a,F=>Q a F
 |o::rest,_,a,F=>match cC ops o a with
  |some true=>cK P J o (fun v F'=>Knows F0 F'/\eL P J ops F0 Q rest (!Oper.calls o) (bg a o.dst v) F') a F
  |_=>False
theorem Fp {P:Program}{J:Goroutine->aa->Prop}{ops:Array Oper}{F0:aa}{Q:Act->aa->Prop}{go:Bool}{a:Act}{F:aa}:eL P J ops F0 Q [] go a F=Q a F:=rfl
theorem Fq {P:Program}{J:Goroutine->aa->Prop}{ops:Array Oper}{F0:aa}{Q:Act->aa->Prop}{o:Oper}{rest:List Oper}{a:Act}{F:aa}:eL P J ops F0 Q (o::rest) true a F=match cC ops o a with
  |some true=>cK P J o (fun v F'=>Knows F0 F'/\eL P J ops F0 Q rest (!Oper.calls o) (bg a o.dst v) F') a F
  |_=>False:=(Eq.refl _).trans (Eq.refl _)
theorem k3 {P:Program}{J:Goroutine->aa->Prop}{ops:Array Oper}{F0:aa}{Q:Act->aa->Prop}:∀{l:List Oper} {go:Bool} {a:Act} {F:aa},eL P J ops F0 Q l true a F->eL P J ops F0 Q l go a F
 |[],_,_,_,h=>h
 |_::_,_,_,_,h=>h
theorem mj (m:Nat)(i:∀j,j<ops.size - m->Region.ready .any ops (cV ops.size (m+j))=[m+j])(n:Region.ready .any ops (cV ops.size ops.size)=[]):
  ∀(l:List Oper) (k:Nat) (go:Bool) (a:Act) (F:aa),m<=k->k<=ops.size->ops.toList.drop k=l->eL P J ops F0 Q l go a F->dN P J ops Q (Knows F0) (ops.size - k) (cV ops.size k) a F
 |[],k,_,a,F,s,u,f,h=>by
  have:k=ops.size:=by
   have:=congrArg List.length f
   simp at this
   omega
  subst this
  exact zR n h _
 |o::rest,k,_,a,F,s,u,f,h=>by
  have w:k<ops.size:=by
   rcases Nat.lt_or_ge k ops.size with x|x
   .exact x
   .rw[List.drop_eq_nil_of_le (by simpa using x)] at f;cases f
  have y:ops[k]?=some o:=by
   have:=congrArg List.head? f
   simpa [List.head?_drop] using this
  have z:ops.toList.drop (k+1)=rest:=by
   have:=congrArg List.tail f
   simpa [List.tail_drop] using this
  have e:ops.size - k=(ops.size - (k+1))+1:=by omega
  have p:=i (k - m) (by omega)
  rw[show m+(k - m)=k by omega] at p
  rw[e]
  unfold eL at h
  split at h
  .rename_i hg
   refine Aj k y p hg ?_
   refine sr ?_ h
   rintro v F' ⟨A,g⟩
   refine ⟨A,?_⟩
   rw[sn w]
   exact mj m i n rest (k+1) _ _ F' (by omega) (by omega) z g
  .exact h.elim
where
 sr {o:Oper} {a:Act} {F:aa} {R q:Value->aa->Prop} (d:∀v F,R v F->q v F) (h:cK P J o R a F):cK P J o q a F:=by
  obtain ⟨dst,op,type,pos,after,guard⟩:=o
  unfold cK at h ⊢
  cases op<;>simp only at h ⊢<;>first
   |exact h.elim
   |exact d _ _ h
   |exact fun b hb=>d _ _ (h b hb)
   |exact g9 (fun v F h=>d v F h) _ _ h
   |(split at h<;>first
     |exact h.elim
     |exact d _ _ h
     |exact fun b hb=>d _ _ (h b hb)
     |(split at h<;>first|exact h.elim|exact d _ _ h|exact fun b hb=>d _ _ (h b hb)))
   |skip
  case slice t x lo hi B=>
   cases B with
   |some m=>exact h.elim
   |none=>
    refine ⟨h.1,?_⟩
    have g:=h.2
    revert g
    cases nG P t (ev a x) (lo.map (ev a)) (hi.map (ev a)) with
    |some v=>exact fun x=>d _ _ x
    |none=>exact fun x=>x
  case call c=>
   obtain ⟨callee,args,argTypes⟩:=c
   cases callee with
   |value x=>
    exact gI.mono h d
   |invoke r m=>exact h.elim
   |builtin b=>
    cases b<;>simp only at h ⊢<;>first
     |exact h.elim
     |(split at h<;>first|exact h.elim|exact fun ty=>g9 (fun v F ⟨F0,hle,h⟩=>⟨F0,hle,d _ _ h⟩) _ _ (h ty))
     |exact g9 (fun v F h=>d v F h) _ _ h
     |(split at h<;>first|exact h.elim|(split at h<;>first|exact h.elim|exact d _ _ h|exact g9 (fun v F h=>d v F h) _ _ h))
theorem fC {Q:Ex->Act->aa->Prop}(hJ:Closed P main J)(e:P.follows .mixedOrders=true)(m:Nat){id:Nat}{a:Act}{F:aa}(F0:aa)(f:Knows F0 F)(g:nN ops m=true)
  (h:en P J ops F0 (fun b=>eL P J ops F0 (Q .normal) (ops.toList.drop m) true b F) (ops.toList.take m) true a):Wp J (.region id ops true) Q a F:=by
 have c:=An g
 simp only[p5,Bool.and_eq_true,decide_eq_true_eq,List.all_eq_true,List.mem_range] at c
 obtain ⟨⟨⟨⟨j,d⟩,k⟩,l⟩,n⟩:=c
 refine vk hJ (Knows F0) e ?_
 rw[<-Ao]
 have:=so (P:=P) (J:=J) (Q:=Q .normal) m d j (fun i hi=>by have:=k i hi;simpa using this) f (fun b o=>mj m l n _ m _ b F (Nat.le_refl _) d rfl o) _ 0 true a (by simp) (Nat.zero_le _) h
 simpa using this
theorem bE (hJ:Closed P main J){F0:aa}{f:FuncId}{args:Array Value}{v:Value}(h:∀F,Knows F0 F->aE P f args F.cx (fun a _=>a=v)):Plain P J F0 f args v:=
 fun F b=>vn (h F b) main J hJ
end
attribute [irreducible] en eL
attribute [go_sem] ja Fh jb Fj Fo Fp Fq rS List.take_succ_cons List.take_zero List.drop_succ_cons List.drop_zero Array.zipIdx_toArray List.zipIdx_cons List.zipIdx_nil List.foldl_toArray List.foldl_toArray' decide_eq_true_eq Bool.and_false Bool.false_and Bool.and_self Bool.true_and Bool.and_true List.foldl_cons List.foldl_nil decide_false decide_true Bool.or_false Bool.false_or Bool.or_self Bool.or_true Bool.true_or gt_iff_lt Nat.reduceGT Nat.lt_irrefl Bool.false_eq_true Nat.zero_add Nat.add_zero Nat.not_lt_zero
section
variable {P : Program} {main : Bool} {J : Goroutine → aa → Prop} {Q : Ex → Act → aa → Prop} {a : Act} {F : aa}
theorem bn (hJ:Closed P main J){f:FuncId}{args:Array Value}{F:aa}{K:Value->aa->Prop}(v:Value)(h:aE P f args F.cx (fun a _=>a=v))(b:K v F):cU P J f args F K:=
 (vn h main J hJ).mono fun a F' c=>by obtain ⟨rfl,rfl⟩:=c;exact b
theorem dW (hJ:Closed P main J){c:Operand}{x y:Code}(b:ev a c= .bool true)(h:Wp J x Q a F):Wp J (.cond c x y) Q a F:=vh hJ true b h
theorem dO (hJ:Closed P main J){c:Operand}{x y:Code}(b:ev a c= .bool false)(h:Wp J y Q a F):Wp J (.cond c x y) Q a F:=vh hJ false b h
theorem Fs (hJ:Closed P main J){c:Operand}{x y:Code}(b:Bool)(d:ev a c= .bool b)(e:b=true->Wp J x Q a F)(f:b=false->Wp J y Q a F):Wp J (.cond c x y) Q a F:=by
 refine vh hJ b d ?_;cases b
 .exact f rfl
 .exact e rfl
theorem cr (hJ:Closed P main J){c:Code}{F':aa}(hle:Le F F')(h:Wp J c Q a F):Wp J c Q a F':=h.le (hJ:=hJ) hle
theorem Le.sub {ro:Addr->Option Value}{l l':List (Nat×Obj)}(h:l.Sublist l'):Le ⟨ro,l⟩ ⟨ro,l'⟩:=by
 have c:(keys l).Sublist (keys l'):=h.map _;exact ⟨fun w hw=>⟨hw.ro,fun b o hb=>hw.own b o (h.subset hb),c.nodup hw.nodup,fun a v d hm=>hw.apart a v d (c.subset hm)⟩,fun b hb=>c.subset hb,fun a e=>.inl e⟩
theorem vN (hJ:Closed P main J){c:Code}(I:Nat->Act->aa->Prop)(n:Nat)(b:I n a F)(hs:∀n a F,I n a F->Wp J c (rS (fun m a F=>∃F0,Le F0 F/\I m a F0) n Q) a F):Wp J (.loop c) Q a F:=
 zU hJ (fun m a F=>∃F0,Le F0 F/\I m a F0) n ⟨F,Le.refl F,b⟩ fun n a F ⟨F0,hle,d⟩=>cr hJ hle (hs n a F0 d)
end
def hH:List Nat->Nat->Bool
 |[],_=>false
 |w::ws,i=>i==w||hH ws i
abbrev In (ws:List Nat)(i:Nat):Prop:=hH ws i=true
structure cF (ws:List Nat)(a a0:Act):Prop where
 size:sz a=sz a0
 defers:a.defers=a0.defers
 dz:∀i,¬In ws i->slot a i=slot a0 i
theorem cF.refl (ws:List Nat)(a:Act):cF ws a a:=⟨rfl,rfl,fun _ _=>rfl⟩
theorem cF.trans {ws:List Nat}{a b c:Act}(h:cF ws a b)(k:cF ws b c):cF ws a c:=⟨h.size.trans k.size,h.defers.trans k.defers,fun i hi=>(h.dz i hi).trans (k.dz i hi)⟩
theorem cF.sub {ws c:List Nat}{a b:Act}(hs:∀i,In ws i->In c i)(h:cF ws a b):cF c a b:=⟨h.size,h.defers,fun i hi=>h.dz i fun x=>hi (hs i x)⟩
theorem Ft {ws:List Nat}{a:Act}:cF ws a a=True:=eq_true (cF.refl ws a)
theorem Fu {ws:List Nat}{a a0:Act}{d:Nat}{v:Value}(h:hH ws d=true):cF ws (bg a (some d) v) a0=cF ws a a0:=by
 apply propext;constructor
 .intro k;refine ⟨by rw[<-k.size,z4],by rw[<-k.defers,z5],fun i hi=>?_⟩;rw[<-k.dz i hi,vq _ _ _ _ (fun e=>hi (by subst e;exact h))]
 .intro k;refine ⟨by rw[<-k.size,z4],by rw[<-k.defers,z5],fun i hi=>?_⟩;rw[<-k.dz i hi,vq _ _ _ _ (fun e=>hi (by subst e;exact h))]
def fM (ws a:List Nat):Bool:=ws.all fun w=>hH a w
theorem Ap:∀{ws:List Nat} {i:Nat},hH ws i=true->i∈ws
 |[],_,h=>by cases h
 |w::ws,i,h=>by
  simp only[hH,Bool.or_eq_true,beq_iff_eq] at h
  rcases h with h|h
  .rw[h];exact List.mem_cons_self
  .exact List.mem_cons_of_mem _ (Ap h)
theorem cF.fM {ws c:List Nat}{a b:Act}(h:cF ws a b)(hs:Sep.fM ws c=true):cF c a b:=h.sub fun i hi=>by
 have:=Ap hi
 exact List.all_eq_true.1 hs i this
def rg:Nat->Nat->List Nat->List Nat
 |_,0,ws=>ws
 |a,n+1,ws=>a::rg (a+1) n ws
theorem Aq:∀(n a i:Nat) (ws:List Nat),hH (rg a n ws) i=(decide (a<=i)&&decide (i<a+n)||hH ws i)
 |0,a,i,ws=>by
  show hH ws i=_
  cases h:(decide (a<=i)&&decide (i<a+0)) with
  |false=>rfl
  |true=>rw[Bool.and_eq_true,decide_eq_true_eq,decide_eq_true_eq] at h;omega
 |n+1,a,i,ws=>by
  show (i==a||hH (rg (a+1) n ws) i)=_
  rw[Aq n (a+1) i ws,<-Bool.or_assoc]
  congr 1
  rw[Bool.eq_iff_iff]
  simp only[Bool.or_eq_true,Bool.and_eq_true,decide_eq_true_eq,beq_iff_eq]
  omega
attribute [go_sem] Aq Nat.reduceLeDiff Nat.reduceLT Nat.reduceAdd
attribute [go_sem] hH Ft Fu or_true true_or or_false false_or Nat.reduceBEq
section
variable {P : Program} {main : Bool} {J : Goroutine → aa → Prop} {Q : Ex → Act → aa → Prop} {a : Act} {F : aa}
theorem bQ (hJ:Closed P main J){c:Code}(ws:List Nat)(I:Nat->Act->aa->Prop)(n:Nat)(h:I n a F)
  (hs:∀n b F',cF ws b a->I n b F'->Wp J c (rS (fun m a2 d=>cF ws a2 b/\∃F0,Le F0 d/\I m a2 F0) n Q) b F'):Wp J (.loop c) Q a F:=
 zU hJ (fun m a2 d=>cF ws a2 a/\∃F0,Le F0 d/\I m a2 F0) n ⟨.refl ws a,F,Le.refl F,h⟩ fun n b F' ⟨g,F0,hle,j⟩=>
  cr hJ hle ((hs n b F0 g j).mono fun e a2 d f=>by
   cases e with
   |normal=>obtain ⟨m,hm,k,l⟩:=f;exact ⟨m,hm,k.trans g,l⟩
   |exit i=>exact f
   |ret=>exact f)
end
def Ext (ro aM:Addr->Option Value):Prop:=∀a v,ro a=some v->aM a=some v
theorem Ext.refl (ro:Addr->Option Value):Ext ro ro:=fun _ _ h=>h
theorem Ext.trans {r s t:Addr->Option Value}(h:Ext r s)(k:Ext s t):Ext r t:=fun a v x=>k a v (h a v x)
def bR (ro:Addr->Option Value)(b:Nat)(o:Obj):Addr->Option Value:=fun a=>match ro a with
 |some v=>some v
 |none=>if a.block=b/\a.spot=none then cellOf o a.off else none
theorem gm (ro:Addr->Option Value)(b:Nat)(o:Obj):Ext ro (bR ro b o):=fun a v h=>by simp[bR,h]
theorem jc {ro:Addr->Option Value}{b off:Nat}{o:Obj}(h:∀off sp,ro ⟨b,off,sp⟩=none):bR ro b o ⟨b,off,none⟩=cellOf o off:=by simp[bR,h]
theorem j7 {ro:Addr->Option Value}{own e:List (Nat×Obj)}{b:Nat}{o:Obj}(i:lk own b=some o)(hs:e.Sublist own)(hb:av e b):Le ⟨bR ro b o,e⟩ ⟨ro,own⟩:=by
 have g:(keys e).Sublist (keys own):=hs.map _;have hm:=g6 i;have j:b∉keys e:=by
  clear i hs g hm
  induction e with
  |nil=>simp[keys]
  |cons x l ih=>
   simp only[keys,List.map_cons,List.mem_cons,not_or];exact ⟨hb.1,ih hb.2⟩
 refine ⟨fun w hw=>⟨fun a v h=>?_,fun c x d=>hw.own c x (hs.subset d),g.nodup hw.nodup,fun a v h d=>?_⟩,fun c d=>g.subset d,fun a k=>?_⟩
 .replace h:bR ro b o a=some v:=h;unfold bR at h;split at h
  .rename_i x f;cases h;exact hw.ro _ _ f
  .split at h
   .rename_i d;have:=hw.own b o hm;rw[<-d.1] at this;cases o<;>simp only[cellOf,reduceCtorEq] at h;simp[World.cell?,this,d.2,h]
   .cases h
 .replace h:bR ro b o a=some v:=h;unfold bR at h;split at h
  .rename_i x f;exact hw.apart a x f (g.subset d)
  .split at h
   .rename_i m;rw[m.1] at d;exact j d
   .cases h
 .obtain ⟨v,h⟩:=Option.isSome_iff_exists.1 k;replace h:bR ro b o a=some v:=h;unfold bR at h;split at h
  .rename_i x f;exact .inl (by simp[f])
  .split at h
   .rename_i d;exact .inr (by rw[d.1];exact e4 hm)
   .cases h
def eM (P:Program)(f:FuncId)(args:Array Value)(ro:Addr->Option Value)(R:Value->(Addr->Option Value)->Prop):Prop:=
 aE P f args ⟨ro,[]⟩ (fun v G=>∃aM,Ext ro aM/\Le ⟨aM,[]⟩ G/\R v aM)
def mm (F G:aa):Prop:=∀a,(G.ro a).isSome=true->a.block∉keys F.own
def vO (J:Goroutine->aa->Prop)(F:aa)(g:Goroutine)(G:aa):Prop:=Fits F G->mm F G->J g (G.star F)
theorem Ar {P:Program}{main:Bool}{J:Goroutine->aa->Prop}(hJ:Closed P main J)(F:aa):Closed P main (vO J F) where
 mono {g G K} hle h c i:=by
  have n:=c.le hle
  have A:mm F G:=fun a d=>(hle.ro a d).elim (i a) (c.own _)
  refine hJ.mono ⟨fun w hw=>n.both (hle.has w (c.right hw)) (c.left hw),fun b hb=>?_,fun a d=>?_⟩ (h n A)
  .simp only[aa.star,cp,List.mem_append] at hb ⊢
   exact hb.imp (hle.own b) id
  .rcases j3 d with x|x
   .exact (gG (.inl x)).imp id (fun y=>by simp only[aa.star,cp,List.mem_append];exact .inr y)
   .rcases hle.ro a x with y|y
    .exact (gG (.inr y)).imp id (fun z=>by simp only[aa.star,cp,List.mem_append];exact .inr z)
    .exact .inr (by simp only[aa.star,cp,List.mem_append];exact .inl y)
 step {fr cs G} h c i:=by
  refine hJ.step fun w hw=>?_
  have B:=c.right hw
  have f:=c.left hw
  obtain ⟨g',w',es,k,hgo,hu,p,C,D⟩:=h w B
  have q:Has F w':=by
   refine ⟨fun a v l=>?_,fun b o hb=>?_,f.nodup,f.apart⟩
   .have s:=f.ro a v l
    have E:=f.g8 (a:=a) (by simp[l])
    unfold World.cell? at s ⊢
    rw[hu.frame _ E (c.ro a (by simp[l]))]
    exact s
   .rw[hu.frame b (f.lt (e4 hb)) (fun hm=>c.own b hm (e4 hb))]
    exact f.own b o hb
  have t:Fits F k:=by
   refine ⟨⟨w',p,q⟩,fun b hb hm=>?_,fun a d hm=>?_⟩
   .rcases hu.own b hb with x|x
    .exact c.own b x hm
    .have:=f.lt hm;omega
   .rcases hu.own _ hm with x|x
    .exact c.ro a d x
    .have:=f.g8 d;omega
  have H:mm F k:=fun a d hm=>by
   rcases hu.ro a d with x|x|x
   .exact i a x hm
   .exact c.own _ x hm
   .have:=f.lt hm;omega
  refine ⟨g',w',es,k.star F,hgo,⟨hu.os,hu.tape,hu.output,hu.size,fun b hb i=>hu.frame b hb fun hm=>i ?_,fun a d=>?_,fun b hb=>?_⟩,t.both p q,fun e he=>?_,D t H⟩
  .simp only[aa.star,cp,List.mem_append];exact .inl hm
  .rcases j3 d with x|x
   .exact (gG (.inl x)).imp id (fun y=>.inl (by simp only[aa.star,cp,List.mem_append];exact .inr y))
   .rcases hu.ro a x with y|y|y
    .exact (gG (.inr y)).imp id (fun z=>.inl (by simp only[aa.star,cp,List.mem_append];exact .inr z))
    .exact .inr (.inl (by simp only[aa.star,cp,List.mem_append];exact .inl y))
    .exact .inr (.inr y)
  .simp only[aa.star,cp,List.mem_append] at hb ⊢
   rcases hb with hb|hb
   .exact (hu.own b hb).imp .inl id
   .exact .inl (.inr hb)
  .have u:∀b,g7 G w.heap.size w'.heap.size b->g7 (G.star F) w.heap.size w'.heap.size b:=fun b hb=>hb.imp (fun x=>by simp only[aa.star,cp,List.mem_append];exact .inl x) id
   rcases C e he with ⟨a,wr,rfl,j|⟨I,j⟩⟩|⟨r,wr,rfl,j⟩|⟨m,rfl,hm⟩
   .exact .inl ⟨a,wr,rfl,.inl (u _ j)⟩
   .rcases gG (F:=F) (.inr j) with y|y
    .exact .inl ⟨a,wr,rfl,.inr ⟨I,y⟩⟩
    .exact .inl ⟨a,wr,rfl,.inl (.inl (by simp only[aa.star,cp,List.mem_append];exact .inr y))⟩
   .exact .inr (.inl ⟨r,wr,rfl,u _ j⟩)
   .exact .inr (.inr ⟨m,rfl,hm⟩)
section
variable {P : Program} {main : Bool} {J : Goroutine → aa → Prop}
theorem vP (hJ:Closed P main J){f:FuncId}{args:Array Value}{ro:Addr->Option Value}{own:List (Nat×Obj)}{K:Value->aa->Prop}(R:Value->(Addr->Option Value)->Prop)(h:eM P f args ro R)
  (r:∀v aM,Ext ro aM->(∀b∈keys own,∀off sp,aM ⟨b,off,sp⟩=none)->R v aM->K v ⟨aM,own⟩):cU P J f args ⟨ro,own⟩ K:=by
 intro c cs s
 by_cases hw:∃w,Has ⟨ro,own⟩ w
 .obtain ⟨i,j⟩:=hw
  let F:aa:=⟨fun _=>none,own⟩
  have m:∀w,Has ⟨ro,own⟩ w->Has F w:=fun w hw=>⟨fun a v h=>(by cases h),hw.own,hw.nodup,fun a v h=>(by cases h)⟩
  have n:∀w,Has ⟨ro,own⟩ w->Has ⟨ro,[]⟩ w:=fun w hw=>⟨hw.ro,fun b o hb=>(by cases hb),List.nodup_nil,fun a v e hm=>(by cases hm)⟩
  have p:Fits F ⟨ro,[]⟩:=⟨⟨i,n i j,m i j⟩,fun b hb=>(by cases hb),fun a d hm=>(by cases hm)⟩
  have t:mm F ⟨ro,[]⟩:=fun a d hm=>by
   obtain ⟨v,u⟩:=Option.isSome_iff_exists.1 d
   exact j.apart a v u hm
  have y:vO J F (G (Frame.enter P f args .normal) (c::cs)) ⟨ro,[]⟩:=by
   refine h main _ (Ar hJ F) c cs fun v G k l A=>?_
   obtain ⟨aM,B,hle,k⟩:=k
   have q:∀a,(aM a).isSome=true->a.block∉keys own:=fun a d=>(hle.ro a d).elim (A a) (l.own _)
   refine hJ.mono (F:=⟨aM,own⟩) ⟨fun w hw=>?_,fun b hb=>?_,fun a d=>?_⟩ (s v ⟨aM,own⟩ (r v aM B (fun b hb off sp=>?_) k))
   .have C:=hle.has w (l.right hw)
    have g:=l.left hw
    exact ⟨C.ro,g.own,g.nodup,fun a v e=>q a (by simp only at e;simp[e])⟩
   .simp only[aa.star,cp,List.mem_append];exact .inr hb
   .rcases hle.ro a d with x|x
    .exact (gG (.inr x)).imp id (fun z=>by simp only[aa.star,cp,List.mem_append];exact .inr z)
    .exact .inr (by simp only[aa.star,cp,List.mem_append];exact .inl x)
   .cases e:aM ⟨b,off,sp⟩ with
    |none=>rfl
    |some v=>exact absurd hb (q ⟨b,off,sp⟩ (by simp[e]))
  refine hJ.mono ⟨fun w hw=>p.both (n w hw) (m w hw),fun b hb=>?_,fun a d=>?_⟩ (y p t)
  .simpa [aa.star,F] using hb
  .rcases j3 d with x|x
   .cases x
   .exact .inl x
 .exact hJ.step fun w g=>absurd ⟨w,g⟩ hw
end
attribute [go_sem] beq_self_eq_true beq_iff_eq beq_true beq_false Int.toNat_natCast Int.natCast_nonneg Int.ofNat_lt Nat.zero_mul Nat.mul_one List.length_map Bool.not_eq_true Bool.not_not decide_not
inductive Fl (σ ρ:Type) where
 |nx (s:σ)
 |bk (s:σ)
 |br (k:Nat) (s:σ)
 |rt (r:ρ)
def ag {α β:Type}(x:Option α)(f:α->Option β):Option β:=match x with
 |some a=>f a
 |none=>none
theorem fV {α β:Type}{x:Option α}{f:α->Option β}{r:β}(h:ag x f=some r):∃a,x=some a/\f a=some r:=by
 cases x with
 |none=>cases h
 |some a=>exact ⟨a,rfl,h⟩
theorem jd {α:Type}{b:Bool}{x y:Option α}{r:α}(h:cond b x y=some r):(b=true/\x=some r)\/(b=false/\y=some r):=by
 cases b
 .exact .inr ⟨rfl,h⟩
 .exact .inl ⟨rfl,h⟩
def ay {σ ρ τ:Type}(o:Fl σ ρ)(f:σ->Option τ)(g:Nat->σ->Option τ)(h:ρ->Option τ):Option τ:=match o with
 | .nx s=>f s
 | .bk s=>f s
 | .br k s=>g k s
 | .rt r=>h r
def aQ {σ ρ:Type}(f:σ->Option (Fl σ ρ)):Nat->σ->Option (Fl σ ρ)
 |0,_=>none
 |n+1,s=>ag (f s) fun o=>match o with
  | .nx s'=>aQ f n s'
  | .bk s'=>some (.nx s')
  | .br k s'=>some (.br k s')
  | .rt r=>some (.rt r)
def bD {α σ ρ:Type}(f:Nat->α->σ->Option (Fl σ ρ)):Nat->List α->σ->Option (Fl σ ρ)
 |_,[],s=>some (.nx s)
 |i,x::l,s=>ag (f i x s) fun o=>match o with
  | .nx s'=>bD f (i+1) l s'
  | .bk s'=>some (.nx s')
  | .br k s'=>some (.br k s')
  | .rt r=>some (.rt r)
def fu:Nat:=1000000000000000000
def aT {α:Type}(l:List α)(i:Int):Option α:=if 0<=i then l[i.toNat]? else none
theorem cq {α:Type}{l:List α}{i:Int}{x:α}(h:aT l i=some x):0<=i/\i<l.length/\l[i.toNat]?=some x:=by
 unfold aT at h;split at h
 .rename_i a;obtain ⟨hi,_⟩:=List.getElem?_eq_some_iff.1 h;exact ⟨a,by omega,h⟩
 .cases h
def cL {α:Type}(l xs:List α):Option (List α):=if l.length+xs.length<=1000000 then some (l++xs) else none
theorem c9 {α:Type}{l xs r:List α}(h:cL l xs=some r):l.length+xs.length<=1000000/\r=l++xs:=by
 unfold cL at h;split at h
 .rename_i a;cases h;exact ⟨a,rfl⟩
 .cases h
def j8 {α:Type}(l:List α)(lo hi:Int):Option (List α):=if 0<=lo/\lo<=hi/\hi<=l.length then some ((l.take hi.toNat).drop lo.toNat) else none
theorem p8 {α:Type}{l r:List α}{lo hi:Int}(h:j8 l lo hi=some r):0<=lo/\lo<=hi/\hi<=l.length/\r=(l.take hi.toNat).drop lo.toNat:=by
 unfold j8 at h;split at h
 .rename_i a;cases h;exact ⟨a.1,a.2.1,a.2.2,rfl⟩
 .cases h
def fN (a b:Int):Option Int:=if b=0 then none else some (IntKind.i64.wrap (a.tdiv b))
theorem j9 {a b r:Int}(h:fN a b=some r):¬b=0/\IntKind.i64.wrap (a.tdiv b)=r:=by
 unfold fN at h;split at h
 .cases h
 .rename_i c;cases h;exact ⟨c,rfl⟩
def gq (a b:Int):Option Int:=if b=0 then none else some (a.tmod b)
theorem nO {a b r:Int}(h:gq a b=some r):¬b=0/\a.tmod b=r:=by
 unfold gq at h;split at h
 .cases h
 .rename_i c;cases h;exact ⟨c,rfl⟩
def vQ (a b:Int):Option Int:=if b<0 then none else some (IntKind.i64.wrap (a*2 ^ min b.toNat 64))
theorem Fv {a b r:Int}(h:vQ a b=some r):¬b<0/\IntKind.i64.wrap (a*2 ^ min b.toNat 64)=r:=by
 unfold vQ at h;split at h
 .cases h
 .rename_i c;cases h;exact ⟨c,rfl⟩
def vR (a b:Int):Option Int:=if b<0 then none else some (a.fdiv (2 ^ min b.toNat 64))
theorem Fw {a b r:Int}(h:vR a b=some r):¬b<0/\a.fdiv (2 ^ min b.toNat 64)=r:=by
 unfold vR at h;split at h
 .cases h
 .rename_i c;cases h;exact ⟨c,rfl⟩
def As (a b:Int):Int:=IntKind.i64.wrap (BitVec.ofInt 64 a&&& BitVec.ofInt 64 b).toNat
theorem Fx (a b:Int):IntKind.i64.wrap (BitVec.ofInt IntKind.i64.bits a&&& BitVec.ofInt IntKind.i64.bits b).toNat=As a b:=rfl
attribute [go_sem ↓] Fx
def Fy (a b:Int):Int:=IntKind.u8.wrap (BitVec.ofInt 8 a&&& BitVec.ofInt 8 b).toNat
theorem Fz (a b:Int):IntKind.u8.wrap (BitVec.ofInt IntKind.u8.bits a&&& BitVec.ofInt IntKind.u8.bits b).toNat=Fy a b:=rfl
attribute [go_sem ↓] Fz
def p9 (a b:Int):Option Int:=if b<0 then none else some (IntKind.u64.wrap (a*2 ^ min b.toNat IntKind.u64.bits))
theorem vS {a b r:Int}(h:p9 a b=some r):¬b<0/\IntKind.u64.wrap (a*2 ^ min b.toNat IntKind.u64.bits)=r:=by
 unfold p9 at h;split at h
 .cases h
 .rename_i c;cases h;exact ⟨c,rfl⟩
def vT (a b:Int):Option Int:=if b<0 then none else some (a.fdiv (2 ^ min b.toNat IntKind.u64.bits))
theorem FA {a b r:Int}(h:vT a b=some r):¬b<0/\a.fdiv (2 ^ min b.toNat IntKind.u64.bits)=r:=by
 unfold vT at h;split at h
 .cases h
 .rename_i c;cases h;exact ⟨c,rfl⟩
def iD (a b:Int):Int:=IntKind.u64.wrap (BitVec.ofInt 64 a&&& BitVec.ofInt 64 b).toNat
theorem FB (a b:Int):IntKind.u64.wrap (BitVec.ofInt IntKind.u64.bits a&&& BitVec.ofInt IntKind.u64.bits b).toNat=iD a b:=rfl
def hO (a b:Int):Int:=IntKind.u64.wrap (BitVec.ofInt 64 a ^^^ BitVec.ofInt 64 b).toNat
theorem FC (a b:Int):IntKind.u64.wrap (BitVec.ofInt IntKind.u64.bits a ^^^ BitVec.ofInt IntKind.u64.bits b).toNat=hO a b:=rfl
attribute [go_sem ↓] FB FC
theorem cw {n:Nat}(h:n<1000000000000000):IntKind.i64.wrap ((n:Int)+1)=((n+1:Nat):Int):=by
 simp only[IntKind.wrap,IntKind.bits,IntKind.signed];simp;omega
theorem dh {α:Type}{l:List α}{i:Nat}{x:α}(h:l[i]?=some x):l.drop i=x::l.drop (i+1):=by
 obtain ⟨hi,rfl⟩:=List.getElem?_eq_some_iff.1 h;exact List.drop_eq_getElem_cons hi
theorem cast_zero:((0:Nat):Int)=0:=rfl
attribute [go_sem] cast_zero
theorem FD (l:List Value)(i j:Nat):(l.toArray).extract i j=((l.drop i).take (j - i)).toArray:=by
 apply Array.ext';simp[List.extract_eq_drop_take]
attribute [go_sem] FD
structure b7 (T:Type) where
 n:Nat
 rel:(Addr->Option Value)->T->List Value->Prop
 mono:∀{ro aM:Addr->Option Value} {x:T} {cs:List Value},Ext ro aM->rel ro x cs->rel aM x cs
 len:∀{ro:Addr->Option Value} {x:T} {cs:List Value},rel ro x cs->cs.length=n
 one:∀{ro:Addr->Option Value} {x:T} {cs:List Value},rel ro x cs->∀v∈cs,bF v=true
def gK {T:Type}(n:Nat)(c:T->List Value)(h:∀x,(c x).length=n)(a:∀x,∀v∈c x,bF v=true):b7 T:=
 ⟨n,fun _ x cs=>cs=c x,fun _ h=>h,fun e=>by rw[e];exact h _,fun e=>by rw[e];exact a _⟩
def rI:b7 Int:=gK 1 (fun n=>[.int .i64 n]) (fun _=>rfl) (fun _ v a=>by simp at a;subst a;rfl)
def rB:b7 Bool:=gK 1 (fun n=>[.bool n]) (fun _=>rfl) (fun _ v a=>by simp at a;subst a;rfl)
def az {T:Type}(r:b7 T)(ro:Addr->Option Value)(s:Value)(l:List T):Prop:=
 ∃ad cap,s= .slice ad l.length cap/\l.length<=cap/\l.length<=1000000000000000/\∀i x,l[i]?=some x->∃p cs,ad=some p/\r.rel ro x cs/\∀j v,cs[j]?=some v->ro ((p.add (i*r.n)).add j)=some v
theorem az.mono {T:Type}{r:b7 T}{ro aM:Addr->Option Value}{s:Value}{l:List T}(h:az r ro s l)(a:Ext ro aM):az r aM s l:=by
 obtain ⟨ad,cap,b,c,d,e⟩:=h;refine ⟨ad,cap,b,c,d,fun i x hi=>?_⟩;obtain ⟨p,cs,f,g,hm⟩:=e i x hi;exact ⟨p,cs,f,r.mono a g,fun j v k=>a _ _ (hm j v k)⟩
theorem az.nil {T:Type}(r:b7 T)(ro:Addr->Option Value):az r ro (.slice none 0 0) []:=⟨none,0,rfl,Nat.le_refl _,by simp,fun i x h=>by simp at h⟩
def rL {T:Type}(r:b7 T):b7 (List T):=
 ⟨1,fun ro l cs=>∃s,cs=[s]/\az r ro s l,fun d ⟨s,a,b⟩=>⟨s,a,b.mono d⟩,fun ⟨s,a,_⟩=>by rw[a];rfl,fun ⟨s,a,ad,cap,b,_⟩ v c=>by rw[a] at c;simp at c;subst c;rw[b];rfl⟩
theorem az.part {T:Type}{r:b7 T}{ro:Addr->Option Value}{ad:Option Addr}{cap:Nat}{l:List T}(h:az r ro (.slice ad l.length cap) l)(lo hi:Nat)(g:lo<=hi)(k:hi<=l.length):
  az r ro (.slice (if cap=lo then ad else ad.map (·.add (lo*r.n))) (hi - lo) (cap - lo)) ((l.take hi).drop lo):=by
 obtain ⟨m,o,e,q,s,b⟩:=h
 cases e
 have hlen:((l.take hi).drop lo).length=hi - lo:=by simp;omega
 refine ⟨_,cap - lo,by rw[hlen],by rw[hlen];omega,by rw[hlen];omega,fun i x a=>?_⟩
 rw[List.getElem?_drop,List.getElem?_take] at a
 split at a
 case isFalse=>cases a
 obtain ⟨p,cs,c,d,hm⟩:=b _ x a
 have t:lo+i<l.length:=(List.getElem?_eq_some_iff.1 a).1
 refine ⟨p.add (lo*r.n),cs,?_,d,fun j v f=>?_⟩
 .have aD:¬cap=lo:=by omega
  rw[if_neg aD,c];rfl
 .have:=hm j v f
  rw[kY] at this
  rw[kY,kY]
  rw[show lo*r.n+(i*r.n+j)=(lo+i)*r.n+j by rw[Nat.add_mul];omega]
  exact this
def Apart (ks:List Nat)(aW:List (Nat×Obj)):Prop:=∀k∈keys aW,k∉ks
theorem Apart.nil (ks:List Nat):Apart ks []:=fun k h=>(by cases h)
theorem k4:∀{l:List (Nat×Obj)} {b:Nat},av l b->b∉keys l
 |[],_,_=>by simp[keys]
 |(c,o)::l,b,h=>by simp only[keys,List.map_cons,List.mem_cons,not_or];exact ⟨h.1,k4 h.2⟩
theorem mo:∀{l:List (Nat×Obj)} {b:Nat},b∉keys l->av l b
 |[],_,_=>trivial
 |(c,o)::l,b,h=>by simp only[keys,List.map_cons,List.mem_cons,not_or] at h;exact ⟨h.1,mo h.2⟩
theorem Apart.push {ks:List Nat}{aW:List (Nat×Obj)}{b:Nat}(h:Apart ks aW)(hb:av aW b):Apart (b::ks) aW:=fun k a=>by
 simp only[List.mem_cons,not_or]
 exact ⟨fun e=>k4 hb (e▸a),h k a⟩
theorem Apart.drop {ks:List Nat}{aW:List (Nat×Obj)}{b:Nat}(h:Apart (b::ks) aW):Apart ks aW:=fun k a=>(by have:=h k a;simp only[List.mem_cons,not_or] at this;exact this.2)
def aO {T:Type}(r:b7 T)(ro:Addr->Option Value)(e:TypeId)(v:Value)(l:List T)(aW:List (Nat×Obj)):Prop:=
 ∃ls:List (List Value),Gr ro e r.n v ls aW/\ls.length=l.length/\l.length<=1000000/\∀(i:Nat) (x:T),l[i]?=some x->∃cs:List Value,ls[i]?=some cs/\r.rel ro x cs
theorem aO.nil {T:Type}(r:b7 T)(ro:Addr->Option Value)(e:TypeId):aO r ro e (.slice none 0 0) [] []:=⟨[],.inl ⟨rfl,rfl,rfl⟩,rfl,by simp,fun i x h=>by simp at h⟩
theorem aO.len {T:Type}{r:b7 T}{ro:Addr->Option Value}{e:TypeId}{v:Value}{l:List T}{aW:List (Nat×Obj)}(h:aO r ro e v l aW):∃ad cap,v= .slice ad l.length cap/\l.length<=cap:=by
 obtain ⟨ls,hg,a,-⟩:=h;rcases hg with ⟨rfl,rfl,rfl⟩|⟨b,arr,cap,rfl,rfl,hs,hle,-⟩
 .exact ⟨none,0,by rw[<-a];rfl,by rw[<-a];exact Nat.le_refl _⟩
 .exact ⟨_,cap,by rw[a],by omega⟩
def aF (ro:Addr->Option Value)(own:List (Nat×Obj)):Prop:=∀b∈keys own,∀off sp,ro ⟨b,off,sp⟩=none
theorem aO.mono {T:Type}{r:b7 T}{ro aM:Addr->Option Value}{e:TypeId}{v:Value}{l:List T}{aW:List (Nat×Obj)}(h:aO r ro e v l aW)(d:Ext ro aM)(f:aF aM aW):aO r aM e v l aW:=by
 obtain ⟨ls,hg,g,hm,j⟩:=h;refine ⟨ls,?_,g,hm,fun i x hi=>?_⟩
 .rcases hg with h|⟨b,arr,cap,c,a,k,m,n,o,p⟩
  .exact .inl h
  .exact .inr ⟨b,arr,cap,c,a,k,m,n,o,f b (by rw[a];simp[keys])⟩
 .obtain ⟨cs,c,a⟩:=j i x hi;exact ⟨cs,c,r.mono d a⟩
theorem Apart.fresh {pre aW:List (Nat×Obj)}{ks:List Nat}(h:Apart ks aW)(a:keys pre=ks):∀k∈keys aW,av pre k:=fun k b=>mo (by rw[a];exact h k b)
theorem qa {n:Nat}:∀(ls:List (List Value)) (i:Nat) (cs:List Value),(∀x∈ls,x.length=n)->ls[i]?=some cs->∀j v,cs[j]?=some v->ls.flatten[i*n+j]?=some v
 |[],i,cs,_,h,_,_,_=>by simp at h
 |y::ls,0,cs,b,h,j,v,a=>by
  simp at h;subst h
  have:j<y.length:=(List.getElem?_eq_some_iff.1 a).1
  simp only[Nat.zero_mul,Nat.zero_add,List.flatten_cons]
  rw[List.getElem?_append_left this]
  exact a
 |y::ls,i+1,cs,b,h,j,v,a=>by
  simp at h
  have ih:=qa ls i cs (fun x d=>b x (by simp[d])) h j v a
  have c:=b y (by simp)
  simp only[List.flatten_cons]
  rw[List.getElem?_append_right (by rw[c,Nat.add_mul];omega)]
  rw[show (i+1)*n+j - y.length=i*n+j by rw[c,Nat.add_mul];omega]
  exact ih
theorem aO.Au {T:Type}{r:b7 T}{ro:Addr->Option Value}{e:TypeId}{v:Value}{l:List T}{aW:List (Nat×Obj)}{ks:List Nat}(h:aO r ro e v l aW)(pre:List (Nat×Obj))(m:Apart ks aW)(o:keys pre=ks)(d:aF ro pre):
  ∃aM,Ext ro aM/\aF aM pre/\az r aM v l/\Le ⟨aM,pre⟩ ⟨ro,pre++aW⟩:=by
 obtain ⟨ls,hg,f,hm,p⟩:=h
 rcases hg with ⟨rfl,rfl,rfl⟩|⟨b,arr,cap,rfl,rfl,hs,hle,ht,g,q⟩
 .have:l=[]:=List.eq_nil_of_length_eq_zero (by simpa using f.symm)
  subst this
  exact ⟨ro,Ext.refl ro,d,az.nil r ro,by rw[List.append_nil];exact Le.refl _⟩
 .have hb:b∉keys pre:=by rw[o];exact m b (by simp[keys])
  refine ⟨bR ro b (.cells arr e),gm _ _ _,fun c k off sp=>?_,⟨some ⟨b,0,none⟩,cap,by rw[f],by omega,by omega,fun i x hi=>?_⟩,j7 ?_ (List.sublist_append_left _ _) (mo hb)⟩
  .have aD:¬c=b:=fun e=>hb (e▸k)
   simp[bR,d c k,aD]
  .obtain ⟨cs,s,t⟩:=p i x hi
   refine ⟨_,cs,rfl,r.mono (gm _ _ _) t,fun j v u=>?_⟩
   have a:=qa ls i cs g s j v u
   rw[kY,kZ,Nat.zero_add,jc q]
   have w:i*r.n+j<ls.length*r.n:=by
    have:=(List.getElem?_eq_some_iff.1 a).1
    rw[iC g] at this
    exact this
   rw[<-ht,List.getElem?_take_of_lt w] at a
   simpa [cellOf] using a
  .have:∀(pre:List (Nat×Obj)),b∉keys pre->lk (pre++[(b,Obj.cells arr e)]) b=some (.cells arr e):=fun pre h=>vG (mo h)
   exact this pre hb
theorem aO.elem {T:Type}{r:b7 T}{ro:Addr->Option Value}{e:TypeId}{v:Value}{l:List T}{aW:List (Nat×Obj)}(h:aO r ro e v l aW){i:Nat}{x:T}(hi:l[i]?=some x):
  ∃b arr cap cs,v= .slice (some ⟨b,0,none⟩) l.length cap/\aW=[(b,.cells arr e)]/\(∀off sp,ro ⟨b,off,sp⟩=none)/\r.rel ro x cs/\∀j v,cs[j]?=some v->arr[i*r.n+j]?=some v:=by
 obtain ⟨ls,hg,f,hm,g⟩:=h
 obtain ⟨cs,c,k⟩:=g i x hi
 rcases hg with ⟨rfl,rfl,rfl⟩|⟨b,arr,cap,rfl,rfl,hs,hle,ht,d,m⟩
 .simp at c
 .refine ⟨b,arr,cap,cs,by rw[f],rfl,m,k,fun j v o=>?_⟩
  have a:=qa ls i cs d c j v o
  have p:i*r.n+j<ls.length*r.n:=by
   have:=(List.getElem?_eq_some_iff.1 a).1
   rw[iC d] at this
   exact this
  rw[<-ht,List.getElem?_take_of_lt p] at a
  simpa using a
theorem aP {ro:Addr->Option Value}{own:List (Nat×Obj)}:Ext ro (aa.cx ⟨ro,own⟩).ro:=fun a v h=>by simp[aa.cx,aa.get,h]
theorem ck {ro:Addr->Option Value}{own:List (Nat×Obj)}{F:aa}(h:Knows ⟨ro,own⟩ F):Ext ro F.cx.ro:=fun a v b=>by
 have:F.ro a=some v:=h.1 a v b
 simp[aa.cx,aa.get,this]
theorem az.qb {T:Type}{r:b7 T}{ro:Addr->Option Value}{ad:Option Addr}{cap:Nat}{l x:List T}(h:az r ro (.slice ad l.length cap) l)(lo hi:Nat)(b:lo<=hi)(c:hi<=l.length)(d:x=(l.take hi).drop lo):
  ∃a,(if cap=lo then ad else ad.map (·.add (lo*r.n)))=a/\hi - lo=x.length/\az r ro (.slice a x.length (cap - lo)) x:=by
 subst d
 have hlen:((l.take hi).drop lo).length=hi - lo:=by simp;omega
 refine ⟨_,rfl,hlen.symm,?_⟩
 rw[hlen]
 exact h.part lo hi b c
theorem az.one {T:Type}{r:b7 T}{ro:Addr->Option Value}{own:List (Nat×Obj)}{b:Nat}{x:T}{cs:Array Value}{e:TypeId}(a:∀off sp,ro ⟨b,off,sp⟩=none)(d:lk own b=some (.cells cs e))(h:r.rel ro x cs.toList):
  az r (bR ro b (.cells cs e)) (.slice (some ⟨b,0,none⟩) 1 1) [x]:=by
 refine ⟨some ⟨b,0,none⟩,1,rfl,Nat.le_refl _,by simp,fun i y hi=>?_⟩
 have:i=0/\y=x:=by
  cases i with
  |zero=>simp at hi;exact ⟨rfl,hi.symm⟩
  |succ i=>simp at hi
 obtain ⟨rfl,rfl⟩:=this
 refine ⟨_,_,rfl,r.mono (gm _ _ _) h,fun j v c=>?_⟩
 rw[Nat.zero_mul,add_zero',kZ,Nat.zero_add,jc a]
 simpa [cellOf] using c
theorem az.flat {T:Type}{r:b7 T}{ro:Addr->Option Value}{b:Nat}{cs:Array Value}{e:TypeId}(c:T->List Value)(l:List T)(a:∀x,r.rel ro x (c x))(d:∀off sp,ro ⟨b,off,sp⟩=none)(f:cs.toList=(l.map c).flatten)(hlen:l.length<=1000000000000000):
  az r (bR ro b (.cells cs e)) (.slice (some ⟨b,0,none⟩) l.length l.length) l:=by
 refine ⟨some ⟨b,0,none⟩,l.length,rfl,Nat.le_refl _,hlen,fun i x hi=>⟨_,c x,rfl,r.mono (gm _ _ _) (a x),fun j v g=>?_⟩⟩
 have h:(l.map c)[i]?=some (c x):=by rw[List.getElem?_map,hi];rfl
 have k:∀y∈l.map c,y.length=r.n:=fun y m=>by
  obtain ⟨z,_,rfl⟩:=List.mem_map.1 m
  exact r.len (a z)
 have:=qa (l.map c) i (c x) k h j v g
 rw[kZ,kZ,Nat.zero_add,jc d]
 rw[<-f] at this
 simpa [cellOf] using this
theorem kg {ro:Addr->Option Value}{own:List (Nat×Obj)}{b:Nat}{o:Obj}(e:lk own b=some o):Ext (bR ro b o) (aa.cx ⟨ro,own⟩).ro:=fun a v h=>by
 unfold bR at h
 simp only[aa.cx,aa.get]
 split at h
 .rename_i x c;rw[c];exact h
 .rename_i c
  split at h
  .rename_i d
   rw[c]
   simp only
   rw[if_pos d.2,d.1,e]
   exact h
  .cases h
section
variable {P : Program} {main : Bool} {J : Goroutine → aa → Prop}
theorem hU (hJ:Closed P main J){f:FuncId}{args:Array Value}{F F':aa}{K:Value->aa->Prop}(hle:Le F F')(h:cU P J f args F K):cU P J f args F' K:=fun c cs k=>hJ.mono hle (h c cs k)
end
theorem aO.bd {T:Type}{r:b7 T}{ro:Addr->Option Value}{e:TypeId}{v:Value}{l:List T}{aW:List (Nat×Obj)}(h:aO r ro e v l aW):l.length<=1000000:=by
 obtain ⟨ls,_,_,hm,_⟩:=h;exact hm
theorem aE.Au {P:Program}{f:FuncId}{args:Array Value}{ro:Addr->Option Value}{R:Value->Prop}(h:aE P f args ⟨ro,[]⟩ (fun v _=>R v)):aE P f args ⟨ro,[]⟩ (fun v G=>R v/\G=⟨ro,[]⟩):=by
 intro main J hJ c cs b
 exact vn (F:=⟨ro,[]⟩) (R:=R) (by
  have e:aa.cx ⟨ro,[]⟩=⟨ro,[]⟩:=by
   simp only[aa.cx,aa.mk.injEq,and_true];funext a;simp only[aa.get];cases ro a with
   |none=>simp[lk]
   |some v=>rfl
  rw[e];exact h) main J hJ c cs b
end Go.Sep
end
section
namespace Go.Sep
open Go Go.Conc Go.ConcM
open Go.ConcN (sumTo upd sumTo_upd upd_ne upd_same)
def dA (P:Program)(Φ:Goroutine->aa->Prop)(g:Goroutine)(F:aa):Prop:=
 ∀(bx:Loc->Prop) (gs:Array Goroutine) (w:World) (sl:Option (Nat×Nat)) (t:Trace) (q:Nat->Nat),jD P bx g F gs w t q->
  ∃(N:Nat) (bW:Array Goroutine) (w':World) (c:Option (Nat×Nat)) (a:Trace) (d:Nat->Nat) (g':Goroutine) (F':aa) (b:Loc->Prop),
   runNT P N (crowd gs w sl) t=(.next (crowd bW w' c),a)/\jD P b g' F' bW w' a d/\fy F F' w w'/\(∀l,b l->bx l\/¬l.low w.heap.size)/\Φ g' F'
theorem dA.done {P:Program}{Φ:Goroutine->aa->Prop}{g:Goroutine}{F:aa}(h:Φ g F):dA P Φ g F:=
 fun bx gs w sl t q a=>⟨0,gs,w,sl,t,q,g,F,bx,rfl,a,.refl _ _,fun _ h=>.inl h,h⟩
theorem qc (P:Program)(Φ:Goroutine->aa->Prop):Closed P true (dA P Φ) where
 mono hle h bx gs w sl t q b:=by
  obtain ⟨N,bW,w',z,A,B,g',F',C,g,D,hu,E,H⟩:=h bx gs w sl t q ⟨b.g0,b.lv,b.fK,hle.has w b.has,fun l hs I=>b.apart l hs (hle.gF I),b.low⟩
  exact ⟨N,bW,w',z,A,B,g',F',C,g,D,hu.le hle,E,H⟩
 step {fr cs F} h bx gs w sl t q b:=by
  obtain ⟨N,k,d,m,a3,n,t1,J,g,a4,p,r,K,L⟩:=rU (P:=P) (a:=G fr cs) rfl _ gs w sl t q (Nat.le_refl _) b.g0 b.lv b.fK
  obtain ⟨g',w',es,F',hgo,hu,M,O,hJ⟩:=h (w.at m) (b.has.at m)
  have c:dU F F' w w':=⟨hu.os,hu.tape,hu.output,hu.size,hu.frame,hu.ro,hu.own⟩
  have Q:=runT_crowd_go (P:=P) (sl:=n) (i:=0) p (show stepG P (0==0) (G fr cs) (w.at m)=_ from hgo)
  have R:0<k.size:=(Array.getElem?_eq_some_iff.1 p).1
  have s:=jD.next (P:=P) b.apart b.low c
  obtain ⟨S,T,w2,U,t2,V,W,X,Y,Z,ab,ad,ae,al⟩:=hJ bx ((k.map (woken P (G fr cs) g' w')).setIfInBounds 0 g') w' n (t1++MemOp.ofEvents 0 (G fr cs).frame.fn (G fr cs).frame.place es) J
   {g0:=by simp[R]
    lv:=⟨fun j x f u=>by
     have aD:0≠j:=by omega
     rw[Array.getElem?_setIfInBounds_ne aD,Array.getElem?_map] at u
     obtain ⟨y,ao,rfl⟩:=Option.map_eq_some_iff.1 u
     have v:=r.old j y f ao
     rw[woken_quitsD v,Deaf_other t1 (by omega) _ (fun op o=>by obtain ⟨e,_,rfl⟩:=Go.Conc.mem_ofEvents o;rfl)]
     exact v,fun j f=>by
     rw[Deaf_other t1 (g':=0) (by simp at f;omega) _ (fun op o=>by obtain ⟨e,_,rfl⟩:=Go.Conc.mem_ofEvents o;rfl)]
     exact r.above j (by simpa using f)⟩
    fK:=(K.mono c.size).own fun e he=>zV b.has c.size b.apart b.low (O e he)
    has:=M
    apart:=s.1
    low:=s.2}
  refine ⟨N+1+S,T,w2,U,t2,V,W,X,Y,?_,ab,(fy.pO c).trans ad,fun l ar=>(ae l ar).imp id fun a0 a2=>a0 (Loc.low_mono c.size a2),al⟩
  have:runNT P (N+1) (crowd gs w sl) t=(.next (crowd ((k.map (woken P (G fr cs) g' w')).setIfInBounds 0 g') w' n),t1++MemOp.ofEvents 0 (G fr cs).frame.fn (G fr cs).frame.place es):=by
   rw[runNT_add,g]
   simp only[runNT,L,Q]
  rw[jE this]
  exact Z
def fO (P:Program)(f:FuncId)(args:Array Value)(F:aa)(R:Value->aa->Prop):Prop:=∀Φ,cU P (dA P Φ) f args F R
theorem Av {P:Program}{f:FuncId}{args:Array Value}{ro:Addr->Option Value}{own:List (Nat×Obj)}{R:Value->aa->Prop}(h:fO P f args ⟨ro,[]⟩ R):
  fO P f args ⟨ro,own⟩ (fun v F'=>∃G,R v G/\F'=G.star ⟨ro,own⟩/\Fits ⟨ro,own⟩ G/\mm ⟨ro,own⟩ G):=by
 intro Φ c cs H bx gs w sl t q d
 let Fr:aa:=⟨ro,own⟩
 have I:jD P bx (G (Frame.enter P f args .normal) (c::cs)) ⟨ro,[]⟩ gs w t q:=
  ⟨d.g0,d.lv,d.fK,⟨d.has.ro,fun b o hb=>(by cases hb),List.nodup_nil,fun a v j hm=>(by cases hm)⟩,fun l hs i=>d.apart l hs (by
   cases l with
   |cell a=>exact i.elim (fun x=>by cases x) .inr
   |obj r=>cases i
   |_=>exact i),d.low⟩
 obtain ⟨N,bW,w',J,s,u,g',F',A,j,g,hu,n,v,rfl,p⟩:=h (fun g' F'=>∃v,g'=G (c.finish v) cs/\R v F') c cs (fun v F' p=>dA.done ⟨v,rfl,p⟩) bx gs w sl t q I
 have B:Has Fr w':=⟨fun a v j=>by
  have C:=d.has.ro a v j
  have K:=d.has.g8 (a:=a) (by rw[j];rfl)
  unfold World.cell? at C ⊢
  rw[hu.frame _ K (fun hm=>by cases hm)]
  exact C,fun b o hb=>by
  rw[hu.frame b (d.has.lt (e4 hb)) (fun hm=>by cases hm)]
  exact d.has.own b o hb,d.has.nodup,d.has.apart⟩
 have D:Fits Fr F':=⟨⟨w',g.has,B⟩,fun b hb hm=>by
  rcases hu.own b hb with x|x
  .cases x
  .have:=d.has.lt (b:=b) hm;omega,fun a k hm=>by
  rcases hu.own _ hm with x|x
  .cases x
  .have:=d.has.g8 (a:=a) k;omega⟩
 have L:mm Fr F':=fun a k hm=>by
  rcases hu.ro a k with x|x|x
  .obtain ⟨y,M⟩:=Option.isSome_iff_exists.1 x
   exact d.has.apart a y M hm
  .cases x
  .have:=d.has.lt (b:=a.block) hm;omega
 have O:jD P A (G (c.finish v) cs) (F'.star Fr) bW w' s u:=by
  refine ⟨g.g0,g.lv,g.fK,D.both g.has B,fun l hs i=>?_,g.low⟩
  have E:∀b,b∈keys own->(l= .obj b\/∃a,l= .cell a/\a.block=b)->False:=fun b hb m=>by
   rcases n l hs with x|x
   .refine d.apart l x ?_
    rcases m with rfl|⟨a,rfl,e⟩
    .exact hb
    .exact .inl (e▸hb)
   .refine x ?_
    have:=d.has.lt (b:=b) hb
    rcases m with rfl|⟨a,rfl,e⟩
    .exact this
    .show a.block<_;rw[e];exact this
  cases l with
  |cell a=>
   rcases i with x|x
   .simp only[aa.star,cp,List.mem_append] at x
    rcases x with x|x
    .exact g.apart _ hs (.inl x)
    .exact E _ x (.inr ⟨a,rfl,rfl⟩)
   .rcases j3 x with y|y
    .rcases n _ hs with z|z
     .exact d.apart _ z (.inr y)
     .exact z (d.has.g8 (a:=a) y)
    .exact g.apart _ hs (.inr y)
  |obj r=>
   simp only[aa.gF,aa.star,cp,List.mem_append] at i
   rcases i with x|x
   .exact g.apart _ hs x
   .exact E _ x (.inl rfl)
  |_=>exact i
 obtain ⟨Q,S,w2,T,t2,U,V,W,X,Y,Z,ab,ad,ae⟩:=H v (F'.star Fr) ⟨F',p,rfl,D,L⟩ A bW w' J s u O
 have al:fy ⟨ro,own⟩ (F'.star Fr) w w':=⟨hu.os,hu.tape,hu.output,hu.size,fun b hb F=>hu.frame b hb (fun x=>by cases x),fun a k=>by
  rcases j3 k with y|y
  .exact .inl y
  .rcases hu.ro a y with z|z|z
   .exact .inl z
   .cases z
   .exact .inr (.inr z),fun b hb=>by
  simp only[aa.star,cp,List.mem_append] at hb
  rcases hb with x|x
  .rcases hu.own b x with y|y
   .cases y
   .exact .inr y
  .exact .inl x⟩
 exact ⟨N+Q,S,w2,T,t2,U,V,W,X,by rw[jE j];exact Y,Z,al.trans ab,fun l m=>(ad l m).elim (n l) fun F=>.inr fun ao=>F (Loc.low_mono hu.size ao),ae⟩
theorem fO.go {P:Program}{f:FuncId}{fn:Func}{c:Code}{n:Nat}{rs:List ResultVar}{args:Array Value}{F:aa}{R:Value->aa->Prop}(j:P.funcs[f]?=some fn)(hb:fn.body=some c)(d:fn.ntmps=n)(k:fn.results=rs.toArray)(m:args.size<=n)
  (h:∀Φ,Closed P true (dA P Φ)->∀A:Act,sz A=n->A.defers=[]->(∀i,slot A i=args.getD i undef)->Wp (dA P Φ) c (gJ P rs R) A F):fO P f args F R:=fun Φ=>by
 refine cU.of_wp (qc P Φ) j hb ?_
 refine (h Φ (qc P Φ) _ (by simp[sz,d];omega) rfl fun i=>?_).mono fun e a F g=>?_
 .simp only[slot,d,Array.getD_eq_getD_getElem?]
  rcases Nat.lt_or_ge i args.size with hi|hi
  .rw[Array.getElem?_append_left hi]
  .rw[Array.getElem?_append_right hi,Array.getElem?_replicate,Array.getElem?_eq_none hi]
   split<;>rfl
 .cases e with
  |exit i=>exact g
  |_=>
   obtain ⟨hd,b⟩:=g
   split at b
   .rename_i v l
    show iB P a.defers _ F
    rw[hd]
    exact sj k l b
   .exact b.elim
def qd (P:Program)(f:FuncId)(args:Array Value)(ro:Addr->Option Value)(R:Value->(Addr->Option Value)->Prop):Prop:=
 fO P f args ⟨ro,[]⟩ (fun v G=>∃aM,Ext ro aM/\Le ⟨aM,[]⟩ G/\R v aM)
theorem FE {P:Program}{Φ:Goroutine->aa->Prop}{f:FuncId}{args:Array Value}{ro:Addr->Option Value}{own:List (Nat×Obj)}{K:Value->aa->Prop}(R:Value->(Addr->Option Value)->Prop)
  (h:qd P f args ro R) (k:∀v aM,Ext ro aM->(∀b∈keys own,∀off sp,aM ⟨b,off,sp⟩=none)->R v aM->K v ⟨aM,own⟩):cU P (dA P Φ) f args ⟨ro,own⟩ K:=by
 intro c cs l
 refine Av (own:=own) h Φ c cs fun v F' m=>?_
 obtain ⟨G,⟨aM,n,hle,o⟩,rfl,e,p⟩:=m
 have i:∀a,(aM a).isSome=true->a.block∉keys own:=fun a g=>(hle.ro a g).elim (p a) (e.own _)
 refine (qc P Φ).mono (F:=⟨aM,own⟩) ⟨fun w hw=>?_,fun b hb=>?_,fun a g=>?_⟩ (l v ⟨aM,own⟩ (k v aM n (fun b hb off sp=>?_) o))
 .have q:=hle.has w (e.right hw)
  have j:=e.left hw
  exact ⟨q.ro,j.own,j.nodup,fun a v d=>i a (by simp only at d;simp[d])⟩
 .simp only[aa.star,cp,List.mem_append];exact .inr hb
 .rcases hle.ro a g with x|x
  .exact (gG (.inr x)).imp id (fun z=>by simp only[aa.star,cp,List.mem_append];exact .inr z)
  .exact .inr (by simp only[aa.star,cp,List.mem_append];exact .inl x)
 .cases d:aM ⟨b,off,sp⟩ with
  |none=>rfl
  |some v=>exact absurd hb (i ⟨b,off,sp⟩ (by simp[d]))
theorem k5 {P:Program}{Φ:Goroutine->aa->Prop}{f:FuncId}{args:Array Value}{ro:Addr->Option Value}{own:List (Nat×Obj)}{K:Value->aa->Prop}(v:Value)
  (h:fO P f args ⟨ro,[]⟩ (fun d _=>d=v)) (e:K v ⟨ro,own⟩):cU P (dA P Φ) f args ⟨ro,own⟩ K:=by
 intro c cs g
 refine Av (own:=own) h Φ c cs fun d F' i=>?_
 obtain ⟨G,rfl,rfl,j,l⟩:=i
 refine (qc P Φ).mono (F:=⟨ro,own⟩) ⟨fun w hw=>j.left hw,fun b hb=>?_,fun a k=>?_⟩ (g d ⟨ro,own⟩ e)
 .simp only[aa.star,cp,List.mem_append];exact .inr hb
 .exact (gG (.inl k)).imp id (fun z=>by simp only[aa.star,cp,List.mem_append];exact .inr z)
end Go.Sep
end
section
namespace Go.Sep
open Go Go.Conc Go.ConcM
def Aw (P:Program)(R:Value->aa->Prop)(g:Goroutine)(F:aa):Prop:=
 ∃(fr:Frame) (fn:Func) (t:Nat) (v:Value),g=G fr []/\fr.kind= .normal/\P.inits.idxOf? fr.fn=none/\fr.mode= .returning/\fr.defers=[]/\P.funcs[fr.fn]?=some fn/\fn.results=#[.tmp t]/\fr.tmps.getD t undef=v/\R v F
def mq (P:Program)(f:FuncId)(args:Array Value)(F:aa)(R:Value->aa->Prop):Prop:=
 ∀Φ:Goroutine->aa->Prop,(∀g F',Aw P R g F'->Φ g F')->dA P Φ (G (Frame.enter P f args .normal) []) F
theorem mq.go {P:Program}{f:FuncId}{fn:Func}{c:Code}{n t:Nat}{args:Array Value}{F:aa}{R:Value->aa->Prop}(g:P.funcs[f]?=some fn)(hb:fn.body=some c)(j:fn.ntmps=n)(o:fn.results=[.tmp t].toArray)(x:args.size<=n)(hi:P.inits.idxOf? f=none)
  (h:∀Φ,Closed P true (dA P Φ)->∀A:Act,sz A=n->A.defers=[]->(∀i,slot A i=args.getD i undef)->Wp (dA P Φ) c (gJ P [.tmp t] R) A F):mq P f args F R:=by
 intro Φ p
 have hJ:=qc P Φ
 let b:Frame:={(default:Frame) with fn:=f,kind:=.normal}
 have q:Frame.enter P f args .normal=on b {tmps:=args++Array.replicate (fn.ntmps - args.size) undef,defers:=[]} [.code c]:=by
  simp[Frame.enter,on,g,hb,b]
  rfl
 rw[q]
 have k:∀(a:Act) (F':aa) (fr:Frame),fr.kind= .normal->fr.mode= .returning->fr.defers=a.defers->fr.fn=f->fr.tmps=a.tmps->gJ P [.tmp t] R .normal a F'->dA P Φ (G fr []) F':=by
  intro a F' fr r s u l v d
  obtain ⟨hd,w⟩:=d
  refine dA.done (p _ _ ⟨fr,fn,t,_,rfl,r,by rw[l];exact hi,s,by rw[u,hd],by rw[l];exact g,o,rfl,?_⟩)
  rw[v]
  simpa [mh,mg,pZ,slot] using w
 refine h Φ hJ _ (by simp[sz,j];omega) rfl (fun i=>?_) b [] [] ⟨by simp[b],.inl rfl⟩ fun e m F' d=>?_
 .simp only[slot,j,Array.getD_eq_getD_getElem?]
  rcases Nat.lt_or_ge i args.size with hi|hi
  .rw[Array.getElem?_append_left hi]
  .rw[Array.getElem?_append_right hi,Array.getElem?_replicate,Array.getElem?_eq_none hi]
   split<;>rfl
 .cases e with
  |normal=>exact hJ.move (fun _=>lZ rfl) (k m F' _ rfl rfl rfl rfl rfl d)
  |exit i=>exact d.elim
  |ret=>exact fun y=>hJ.move (fun _=>stepG_ret' rfl) (k m F' _ rfl rfl rfl rfl rfl d)
theorem mq.ends {P:Program}{f:FuncId}{args:Array Value}{F:aa}{R:Value->aa->Prop}(h:mq P f args F R){W:World}(i:Has F W){a:Value->World->Prop}
  (j:∀v F' w',R v F'->fy F F' W w'->a v w'):
  ∃M last o w' b,runNT P (M+1) (solo (G (Frame.enter P f args .normal) []) W) #[]=(.ended o w',b)/\runN P M (solo (G (Frame.enter P f args .normal) []) W)= .next last/\step P last= .ended o w'/\Go.Conc.Good P a last o w' b:=by
 obtain ⟨N,bW,w',k,b,B,g',F',l,g,c,hu,_,fr,fn,t,v,rfl,m,hi,n,p,q,r,s,u⟩:=h (Aw P R) (fun _ _ x=>x) (fun _=>False) #[G (Frame.enter P f args .normal) []] W none #[] (fun _=>0)
  ⟨rfl,leavers_one P _,past_nil.mono (Nat.zero_le _),i,fun _ x=>x.elim,fun _ x=>x.elim⟩
 have hg:Goes P true AtRel (fun _ _ _=>False) (AtEnd P l w'.heap.size a) 0 (G fr []) w':=by
  refine Goes.stop fun C ⟨d,hd⟩=>?_
  subst hd
  refine ⟨rfl,v,seen P fr.fn #[],?_,fun e he=>?_,j v F' _ u ⟨hu.os,hu.tape,hu.output,hu.size,hu.frame,hu.ro,hu.own⟩⟩
  .have w:fr.tmps[t]?.getD undef=v:=by rw[<-s,Array.getD_eq_getD_getElem?]
   simp[G,stepG,unwind,n,p,q,results,r,w,doReturn,GStep.after,Sem.runT,m,hi]
  .exact absurd (mem_seen he) (by simp)
 obtain ⟨y,last,o,w2,t2,e1,e2,z,A⟩:=beside_ends (sl:=k) (fun _ _ _ x=>x.elim) c.g0 c.lv c.fK hg
 refine ⟨N+y,last,o,w2,t2,?_,?_,z,A⟩
 .rw[solo_eq_crowd,Nat.add_assoc,jE g,e1]
 .rw[solo_eq_crowd,runN_add]
  have:=runNT_fst P N (crowd #[G (Frame.enter P f args .normal) []] W none) #[]
  rw[g] at this
  rw[<-this]
  exact e2
end Go.Sep
end
section
namespace Go.Proofs.YtghbphimkgamkaaGreatDoor
open Go Go.Sep Go.Proofs
set_option maxRecDepth 100000
theorem mixed:Tryz.prog.follows .mixedOrders=true:=by kernel_rfl
@[go_sem] theorem Np:cz Tryz.prog 3=some false:=by kernel_rfl
@[go_sem] theorem gL:bY Tryz.prog 3=some 1:=by kernel_rfl
theorem gO:bytesOf Tryz.prog 3=some 8:=by kernel_rfl
theorem gP:zeroOf Tryz.prog 3=some (.int .i64 0):=by kernel_rfl
theorem Nq:cz Tryz.prog 4=some false:=by kernel_rfl
theorem Ax:bY Tryz.prog 4=some 1:=by kernel_rfl
theorem FF:zeroOf Tryz.prog 4=some (.bool false):=by kernel_rfl
theorem Nr:vB Tryz.prog 4=true:=by kernel_rfl
theorem Ns:cz Tryz.prog 5=some false:=by kernel_rfl
theorem Nt:bY Tryz.prog 5=some 1:=by kernel_rfl
theorem Nu:cz Tryz.prog 23=some true:=by kernel_rfl
theorem FG:bY Tryz.prog 23=some 2:=by kernel_rfl
attribute [go_sem] gP Nq Ax FF Nr Ns Nt Nu FG
theorem FH:bytesOf Tryz.prog 23=some 16:=by kernel_rfl
theorem Ay:zeroOf Tryz.prog 23=some (.agg #[.int .i64 0,.int .i64 0]):=by kernel_rfl
theorem Nv:nJ Tryz.prog 23=some [true,true]:=by kernel_rfl
theorem Nw:cN Tryz.prog 23 0=some 0:=by kernel_rfl
theorem Ny:cN Tryz.prog 23 1=some 1:=by kernel_rfl
theorem Nz:placesOf Tryz.prog 23=some [(0,1),(1,1)]:=by kernel_rfl
theorem NA:cz Tryz.prog 24=some false:=by kernel_rfl
theorem NB:bY Tryz.prog 24=some 1:=by kernel_rfl
theorem NC:j6 Tryz.prog 24=true:=by kernel_rfl
theorem Az:c8 Tryz.prog 24=some 44:=by kernel_rfl
theorem ND:cz Tryz.prog 25=some false:=by kernel_rfl
theorem NF:bY Tryz.prog 25=some 1:=by kernel_rfl
theorem NG:j6 Tryz.prog 25=true:=by kernel_rfl
theorem k6:c8 Tryz.prog 25=some 70:=by kernel_rfl
theorem NH:cz Tryz.prog 26=some false:=by kernel_rfl
theorem NI:bY Tryz.prog 26=some 1:=by kernel_rfl
theorem NJ:j6 Tryz.prog 26=true:=by kernel_rfl
theorem AA:c8 Tryz.prog 26=some 67:=by kernel_rfl
theorem NK:cz Tryz.prog 27=some false:=by kernel_rfl
theorem NL:bY Tryz.prog 27=some 1:=by kernel_rfl
theorem NM:j6 Tryz.prog 27=true:=by kernel_rfl
theorem eA:c8 Tryz.prog 27=some 54:=by kernel_rfl
theorem NN:cz Tryz.prog 29=some true:=by kernel_rfl
theorem NO:bY Tryz.prog 29=some 8:=by kernel_rfl
theorem NP:zeroOf Tryz.prog 29=some (.agg #[.int .i64 0,.int .i64 0,.int .i64 0,.int .i64 0,.slice none 0 0,.slice none 0 0,.slice none 0 0,.slice none 0 0]):=by kernel_rfl
theorem NQ:cN Tryz.prog 29 0=some 0:=by kernel_rfl
theorem NR:cN Tryz.prog 29 1=some 1:=by kernel_rfl
theorem NS:cN Tryz.prog 29 2=some 2:=by kernel_rfl
theorem NT:cN Tryz.prog 29 3=some 4:=by kernel_rfl
theorem NU:cN Tryz.prog 29 4=some 5:=by kernel_rfl
theorem NV:cN Tryz.prog 29 5=some 6:=by kernel_rfl
theorem NW:cN Tryz.prog 29 6=some 7:=by kernel_rfl
theorem NX:placesOf Tryz.prog 29=some [(0,1),(1,1),(2,2),(4,1),(5,1),(6,1),(7,1)]:=by kernel_rfl
theorem NY:cz Tryz.prog 35=some false:=by kernel_rfl
theorem su:bY Tryz.prog 35=some 1:=by kernel_rfl
attribute [go_sem] Ay Nv Nw Ny Nz NA NB NC Az ND NF NG k6 NH NI NJ AA NK NL NM eA NN NO NP NQ NR NS NT NU NV NW NX NY su
theorem sw:bytesOf Tryz.prog 35=some 24:=by kernel_rfl
theorem sx:zeroOf Tryz.prog 35=some (.slice none 0 0):=by kernel_rfl
theorem NZ:j6 Tryz.prog 35=true:=by kernel_rfl
theorem dP:c8 Tryz.prog 35=some 3:=by kernel_rfl
theorem N0:c8 Tryz.prog 42=some 5:=by kernel_rfl
theorem N1:cz Tryz.prog 44=some true:=by kernel_rfl
theorem FI:bY Tryz.prog 44=some 2:=by kernel_rfl
attribute [go_sem] sx NZ dP N0 N1 FI
theorem FJ:bytesOf Tryz.prog 44=some 16:=by kernel_rfl
theorem AB:zeroOf Tryz.prog 44=some (.agg #[.int .i64 0,.int .i64 0]):=by kernel_rfl
theorem N2:cN Tryz.prog 44 0=some 0:=by kernel_rfl
theorem N3:cN Tryz.prog 44 1=some 1:=by kernel_rfl
theorem N4:placesOf Tryz.prog 44=some [(0,1),(1,1)]:=by kernel_rfl
theorem N5:cz Tryz.prog 54=some true:=by kernel_rfl
theorem iE:bY Tryz.prog 54=some 2:=by kernel_rfl
attribute [go_sem] AB N2 N3 N4 N5 iE
theorem iF:bytesOf Tryz.prog 54=some 16:=by kernel_rfl
theorem iG:zeroOf Tryz.prog 54=some (.agg #[.int .i64 0,.bool false]):=by kernel_rfl
theorem N6:cN Tryz.prog 54 0=some 0:=by kernel_rfl
theorem N7:cN Tryz.prog 54 1=some 1:=by kernel_rfl
theorem N8:placesOf Tryz.prog 54=some [(0,1),(1,1)]:=by kernel_rfl
theorem N9:cz Tryz.prog 56=some true:=by kernel_rfl
theorem Oa:bY Tryz.prog 56=some 2:=by kernel_rfl
theorem Ob:zeroOf Tryz.prog 56=some (.agg #[.int .i64 0,.int .i64 0]):=by kernel_rfl
theorem Oc:cN Tryz.prog 56 0=some 0:=by kernel_rfl
theorem Od:cN Tryz.prog 56 1=some 1:=by kernel_rfl
theorem Oe:placesOf Tryz.prog 56=some [(0,1),(1,1)]:=by kernel_rfl
theorem Of:cz Tryz.prog 67=some true:=by kernel_rfl
theorem FK:bY Tryz.prog 67=some 3:=by kernel_rfl
attribute [go_sem] iG N6 N7 N8 N9 Oa Ob Oc Od Oe Of FK
theorem FL:bytesOf Tryz.prog 67=some 24:=by kernel_rfl
theorem FM:zeroOf Tryz.prog 67=some (.agg #[.int .i64 0,.int .i64 0,.int .i64 0]):=by kernel_rfl
theorem Og:cN Tryz.prog 67 0=some 0:=by kernel_rfl
theorem Oh:cN Tryz.prog 67 1=some 1:=by kernel_rfl
theorem Oi:placesOf Tryz.prog 67=some [(0,1),(1,2)]:=by kernel_rfl
theorem Oj:cz Tryz.prog 70=some true:=by kernel_rfl
theorem sA:bY Tryz.prog 70=some 2:=by kernel_rfl
attribute [go_sem] FM Og Oh Oi Oj sA
theorem sB:bytesOf Tryz.prog 70=some 16:=by kernel_rfl
theorem sC:zeroOf Tryz.prog 70=some (.agg #[.int .i64 0,.int .i64 0]):=by kernel_rfl
theorem Ok:cN Tryz.prog 70 0=some 0:=by kernel_rfl
theorem Ol:cN Tryz.prog 70 1=some 1:=by kernel_rfl
theorem Om:placesOf Tryz.prog 70=some [(0,1),(1,1)]:=by kernel_rfl
theorem On:cz Tryz.prog 73=some true:=by kernel_rfl
theorem Oo:bY Tryz.prog 73=some 2:=by kernel_rfl
theorem Oq:zeroOf Tryz.prog 73=some (.agg #[.int .i64 0,.int .i64 0]):=by kernel_rfl
theorem Ot:placesOf Tryz.prog 73=some [(0,1),(1,1)]:=by kernel_rfl
theorem Ou:cz Tryz.prog 109=some true:=by kernel_rfl
theorem Ov:bY Tryz.prog 109=some 8:=by kernel_rfl
theorem Ow:zeroOf Tryz.prog 109=some (.agg #[.int .i64 0,.int .i64 0,.int .i64 0,.int .i64 0,.slice none 0 0,.slice none 0 0,.slice none 0 0,.slice none 0 0]):=by kernel_rfl
theorem Ox:cN Tryz.prog 109 0=some 0:=by kernel_rfl
theorem Oy:placesOf Tryz.prog 109=some [(0,8)]:=by kernel_rfl
theorem Oz:cz Tryz.prog 110=some false:=by kernel_rfl
theorem OA:bY Tryz.prog 110=some 1:=by kernel_rfl
theorem AD:c8 Tryz.prog 110=some 144:=by kernel_rfl
theorem OB:cz Tryz.prog 112=some true:=by kernel_rfl
theorem OC:bY Tryz.prog 112=some 9:=by kernel_rfl
theorem OD:zeroOf Tryz.prog 112=some (.agg #[.int .i64 0,.int .i64 0,.int .i64 0,.int .i64 0,.slice none 0 0,.slice none 0 0,.slice none 0 0,.slice none 0 0,.slice none 0 0]):=by kernel_rfl
theorem OE:cN Tryz.prog 112 0=some 0:=by kernel_rfl
theorem OF:cN Tryz.prog 112 1=some 8:=by kernel_rfl
theorem OG:placesOf Tryz.prog 112=some [(0,8),(8,1)]:=by kernel_rfl
theorem nP:c8 Tryz.prog 115=some 122:=by kernel_rfl
theorem OH:cz Tryz.prog 116=some false:=by kernel_rfl
theorem OI:bY Tryz.prog 116=some 1:=by kernel_rfl
theorem OJ:zeroOf Tryz.prog 116=some (.slice none 0 0):=by kernel_rfl
theorem AE:c8 Tryz.prog 116=some 118:=by kernel_rfl
theorem OK:cz Tryz.prog 118=some true:=by kernel_rfl
theorem FN:bY Tryz.prog 118=some 2:=by kernel_rfl
attribute [go_sem] sC Ok Ol Om On Oo Oq Ot Ou Ov Ow Ox Oy Oz OA AD OB OC OD OE OF OG nP OH OI OJ AE OK FN
theorem FO:bytesOf Tryz.prog 118=some 16:=by kernel_rfl
theorem FP:zeroOf Tryz.prog 118=some (.agg #[.int .i64 0,.int .i64 0]):=by kernel_rfl
theorem OL:nJ Tryz.prog 118=some [true,true]:=by kernel_rfl
theorem OM:cN Tryz.prog 118 0=some 0:=by kernel_rfl
theorem ON:cN Tryz.prog 118 1=some 1:=by kernel_rfl
theorem OO:placesOf Tryz.prog 118=some [(0,1),(1,1)]:=by kernel_rfl
theorem OP:cz Tryz.prog 120=some true:=by kernel_rfl
theorem OQ:bY Tryz.prog 120=some 3:=by kernel_rfl
theorem OR:zeroOf Tryz.prog 120=some (.agg #[.int .i64 0,.int .i64 0,.int .i64 0]):=by kernel_rfl
theorem OS:nJ Tryz.prog 120=some [true,true,true]:=by kernel_rfl
theorem OT:cN Tryz.prog 120 0=some 0:=by kernel_rfl
theorem OU:cN Tryz.prog 120 1=some 1:=by kernel_rfl
theorem OV:placesOf Tryz.prog 120=some [(0,1),(1,2)]:=by kernel_rfl
theorem OW:cz Tryz.prog 122=some true:=by kernel_rfl
theorem vU:bY Tryz.prog 122=some 6:=by kernel_rfl
attribute [go_sem] FP OL OM ON OO OP OQ OR OS OT OU OV OW vU
theorem vV:bytesOf Tryz.prog 122=some 48:=by kernel_rfl
theorem vW:zeroOf Tryz.prog 122=some (.agg #[.int .i64 0,.int .i64 0,.int .i64 0,.int .i64 0,.int .i64 0,.int .i64 0]):=by kernel_rfl
theorem OX:cN Tryz.prog 122 0=some 0:=by kernel_rfl
theorem OY:cN Tryz.prog 122 1=some 3:=by kernel_rfl
theorem OZ:cN Tryz.prog 122 2=some 4:=by kernel_rfl
theorem O0:vr Tryz.prog 122 2=some (4,2,true):=by kernel_rfl
theorem O1:placesOf Tryz.prog 122=some [(0,3),(3,1),(4,2)]:=by kernel_rfl
theorem k7:c8 Tryz.prog 127=some 35:=by kernel_rfl
theorem O2:cz Tryz.prog 133=some false:=by kernel_rfl
theorem O3:bY Tryz.prog 133=some 1:=by kernel_rfl
theorem O4:zeroOf Tryz.prog 133=some .nilFunc:=by kernel_rfl
theorem O5:cz Tryz.prog 144=some true:=by kernel_rfl
theorem FQ:bY Tryz.prog 144=some 3:=by kernel_rfl
attribute [go_sem] vW OX OY OZ O0 O1 k7 O2 O3 O4 O5 FQ
theorem FR:bytesOf Tryz.prog 144=some 24:=by kernel_rfl
theorem FT:zeroOf Tryz.prog 144=some (.agg #[.int .i64 0,.int .i64 0,.int .i64 0]):=by kernel_rfl
theorem O6:nE Tryz.prog 144=some (3,3):=by kernel_rfl
theorem O7:cz Tryz.prog 147=some false:=by kernel_rfl
theorem O8:cz Tryz.prog 156=some false:=by kernel_rfl
theorem O9:bY Tryz.prog 156=some 1:=by kernel_rfl
theorem Pa:zeroOf Tryz.prog 156=some (.map none):=by kernel_rfl
theorem AF:c8 Tryz.prog 159=some 23:=by kernel_rfl
theorem Pb:cz Tryz.prog 166=some false:=by kernel_rfl
theorem Pd:bY Tryz.prog 166=some 1:=by kernel_rfl
theorem Pe:zeroOf Tryz.prog 166=some .nilFunc:=by kernel_rfl
theorem Pf:c8 Tryz.prog 176=some 133:=by kernel_rfl
theorem Pg:cz Tryz.prog 182=some false:=by kernel_rfl
theorem Pj:bY Tryz.prog 182=some 1:=by kernel_rfl
theorem Pk:zeroOf Tryz.prog 182=some (.slice none 0 0):=by kernel_rfl
theorem Pm:c8 Tryz.prog 182=some 4:=by kernel_rfl
theorem Pn:cN Tryz.prog 187 0=some 0:=by kernel_rfl
theorem Po:cN Tryz.prog 187 1=some 1:=by kernel_rfl
theorem Pp:zeroOf Tryz.prog 189=some (.agg #[.int .i32 0,.int .u32 0]):=by kernel_rfl
theorem Pq:cN Tryz.prog 189 1=some 0:=by kernel_rfl
theorem Pt:cN Tryz.prog 194 2=some 0:=by kernel_rfl
theorem Pu:zeroOf Tryz.prog 196=some (.agg #[.int .u64 0,.int .u32 0]):=by kernel_rfl
theorem Pv:cN Tryz.prog 196 1=some 0:=by kernel_rfl
theorem Pw:cN Tryz.prog 196 2=some 1:=by kernel_rfl
theorem Px:cz Tryz.prog 200=some true:=by kernel_rfl
theorem Py:bY Tryz.prog 200=some 5:=by kernel_rfl
theorem Pz:nE Tryz.prog 200=some (5,133):=by kernel_rfl
theorem PA:cz Tryz.prog 260=some false:=by kernel_rfl
theorem PB:bY Tryz.prog 260=some 1:=by kernel_rfl
theorem PC:zeroOf Tryz.prog 260=some (.int .u64 0):=by kernel_rfl
theorem PD:aJ Tryz.prog 2=true:=by kernel_rfl
theorem PE:aJ Tryz.prog 3=true:=by kernel_rfl
theorem PF:aJ Tryz.prog 4=true:=by kernel_rfl
theorem PG:aJ Tryz.prog 5=true:=by kernel_rfl
theorem PI:aJ Tryz.prog 6=true:=by kernel_rfl
theorem PJ:aJ Tryz.prog 7=true:=by kernel_rfl
theorem PK:aJ Tryz.prog 8=true:=by kernel_rfl
theorem PL:aJ Tryz.prog 9=true:=by kernel_rfl
theorem PM:aJ Tryz.prog 10=true:=by kernel_rfl
theorem PN:aJ Tryz.prog 11=true:=by kernel_rfl
theorem PO:aJ Tryz.prog 12=true:=by kernel_rfl
theorem PR:aJ Tryz.prog 13=true:=by kernel_rfl
theorem PS:aJ Tryz.prog 14=true:=by kernel_rfl
theorem PU:aJ Tryz.prog 15=true:=by kernel_rfl
theorem PV:aJ Tryz.prog 16=true:=by kernel_rfl
theorem PW:aJ Tryz.prog 17=true:=by kernel_rfl
theorem PX:aJ Tryz.prog 18=true:=by kernel_rfl
theorem PY:aJ Tryz.prog 19=true:=by kernel_rfl
theorem PZ:aJ Tryz.prog 20=true:=by kernel_rfl
theorem P1:aJ Tryz.prog 21=true:=by kernel_rfl
theorem P2:aJ Tryz.prog 22=true:=by kernel_rfl
theorem P3:aJ Tryz.prog 23=true:=by kernel_rfl
theorem P4:aJ Tryz.prog 24=true:=by kernel_rfl
theorem P5:aJ Tryz.prog 25=true:=by kernel_rfl
theorem P6:aJ Tryz.prog 26=true:=by kernel_rfl
theorem P7:aJ Tryz.prog 27=true:=by kernel_rfl
theorem P8:aJ Tryz.prog 28=true:=by kernel_rfl
theorem P9:aJ Tryz.prog 29=true:=by kernel_rfl
theorem Qa:aJ Tryz.prog 30=true:=by kernel_rfl
theorem Qb:aJ Tryz.prog 31=true:=by kernel_rfl
theorem Qc:aJ Tryz.prog 32=true:=by kernel_rfl
theorem Qd:aJ Tryz.prog 33=true:=by kernel_rfl
theorem Qe:aJ Tryz.prog 34=true:=by kernel_rfl
theorem Qf:aJ Tryz.prog 35=true:=by kernel_rfl
theorem Qg:aJ Tryz.prog 36=true:=by kernel_rfl
theorem Qh:aJ Tryz.prog 37=true:=by kernel_rfl
theorem Qi:aJ Tryz.prog 38=true:=by kernel_rfl
theorem Qj:aJ Tryz.prog 39=true:=by kernel_rfl
theorem Qk:aJ Tryz.prog 40=true:=by kernel_rfl
theorem Ql:aJ Tryz.prog 41=true:=by kernel_rfl
theorem Qm:aJ Tryz.prog 42=true:=by kernel_rfl
theorem Qo:aJ Tryz.prog 43=true:=by kernel_rfl
theorem Qp:aJ Tryz.prog 44=true:=by kernel_rfl
theorem Qq:aJ Tryz.prog 45=true:=by kernel_rfl
theorem Qr:aJ Tryz.prog 46=true:=by kernel_rfl
theorem Qs:aJ Tryz.prog 47=true:=by kernel_rfl
theorem Qt:aJ Tryz.prog 48=true:=by kernel_rfl
theorem Qu:aJ Tryz.prog 49=true:=by kernel_rfl
theorem Qv:aJ Tryz.prog 50=true:=by kernel_rfl
theorem Qw:aJ Tryz.prog 51=true:=by kernel_rfl
theorem Qx:aJ Tryz.prog 52=true:=by kernel_rfl
theorem Qy:aJ Tryz.prog 53=true:=by kernel_rfl
theorem Qz:aJ Tryz.prog 54=true:=by kernel_rfl
theorem QA:aJ Tryz.prog 55=true:=by kernel_rfl
theorem QB:aJ Tryz.prog 56=true:=by kernel_rfl
theorem QC:aJ Tryz.prog 57=true:=by kernel_rfl
theorem QD:aJ Tryz.prog 58=true:=by kernel_rfl
theorem QE:aJ Tryz.prog 59=true:=by kernel_rfl
theorem QF:aJ Tryz.prog 60=true:=by kernel_rfl
theorem QG:aJ Tryz.prog 61=true:=by kernel_rfl
theorem QH:aJ Tryz.prog 62=true:=by kernel_rfl
theorem QI:aJ Tryz.prog 63=true:=by kernel_rfl
theorem QJ:aJ Tryz.prog 64=true:=by kernel_rfl
theorem QK:aJ Tryz.prog 65=true:=by kernel_rfl
theorem QL:aJ Tryz.prog 66=true:=by kernel_rfl
theorem QM:aJ Tryz.prog 67=true:=by kernel_rfl
theorem QN:aJ Tryz.prog 68=true:=by kernel_rfl
theorem QO:aJ Tryz.prog 69=true:=by kernel_rfl
theorem QS:aJ Tryz.prog 70=true:=by kernel_rfl
theorem QT:aJ Tryz.prog 71=true:=by kernel_rfl
theorem QU:aJ Tryz.prog 72=true:=by kernel_rfl
theorem QV:aJ Tryz.prog 73=true:=by kernel_rfl
theorem QW:aJ Tryz.prog 74=true:=by kernel_rfl
theorem QX:aJ Tryz.prog 75=true:=by kernel_rfl
theorem QY:aJ Tryz.prog 76=true:=by kernel_rfl
theorem QZ:aJ Tryz.prog 77=true:=by kernel_rfl
theorem Q0:aJ Tryz.prog 78=true:=by kernel_rfl
theorem Q1:aJ Tryz.prog 79=true:=by kernel_rfl
theorem Q2:aJ Tryz.prog 80=true:=by kernel_rfl
theorem Q3:aJ Tryz.prog 81=true:=by kernel_rfl
theorem Q4:aJ Tryz.prog 82=true:=by kernel_rfl
theorem Q5:aJ Tryz.prog 83=true:=by kernel_rfl
theorem Q6:aJ Tryz.prog 84=true:=by kernel_rfl
theorem Q7:aJ Tryz.prog 85=true:=by kernel_rfl
theorem Q8:aJ Tryz.prog 86=true:=by kernel_rfl
theorem Q9:aJ Tryz.prog 87=true:=by kernel_rfl
theorem Ra:aJ Tryz.prog 88=true:=by kernel_rfl
theorem Rb:aJ Tryz.prog 89=true:=by kernel_rfl
theorem Rc:aJ Tryz.prog 90=true:=by kernel_rfl
theorem Re:aJ Tryz.prog 91=true:=by kernel_rfl
theorem Rf:aJ Tryz.prog 92=true:=by kernel_rfl
theorem Rg:aJ Tryz.prog 93=true:=by kernel_rfl
theorem Rh:aJ Tryz.prog 94=true:=by kernel_rfl
theorem Ri:aJ Tryz.prog 95=true:=by kernel_rfl
theorem Rj:aJ Tryz.prog 96=true:=by kernel_rfl
theorem Rl:aJ Tryz.prog 97=true:=by kernel_rfl
theorem Rm:aJ Tryz.prog 98=true:=by kernel_rfl
theorem Rn:aJ Tryz.prog 99=true:=by kernel_rfl
theorem Ro:aJ Tryz.prog 100=true:=by kernel_rfl
theorem Rp:aJ Tryz.prog 101=true:=by kernel_rfl
theorem Rq:aJ Tryz.prog 102=true:=by kernel_rfl
theorem Rr:aJ Tryz.prog 103=true:=by kernel_rfl
theorem Rs:aJ Tryz.prog 104=true:=by kernel_rfl
theorem Rt:aJ Tryz.prog 105=true:=by kernel_rfl
theorem Ru:aJ Tryz.prog 106=true:=by kernel_rfl
theorem Rv:aJ Tryz.prog 107=true:=by kernel_rfl
theorem Rw:aJ Tryz.prog 108=true:=by kernel_rfl
theorem Rx:aJ Tryz.prog 109=true:=by kernel_rfl
theorem Ry:aJ Tryz.prog 110=true:=by kernel_rfl
theorem Rz:aJ Tryz.prog 111=true:=by kernel_rfl
theorem RA:aJ Tryz.prog 112=true:=by kernel_rfl
theorem RB:aJ Tryz.prog 113=true:=by kernel_rfl
theorem RD:aJ Tryz.prog 114=true:=by kernel_rfl
theorem RE:aJ Tryz.prog 115=true:=by kernel_rfl
theorem RF:aJ Tryz.prog 116=true:=by kernel_rfl
theorem RG:aJ Tryz.prog 117=true:=by kernel_rfl
theorem RH:aJ Tryz.prog 118=true:=by kernel_rfl
theorem RI:aJ Tryz.prog 119=true:=by kernel_rfl
theorem RJ:aJ Tryz.prog 120=true:=by kernel_rfl
theorem RK:aJ Tryz.prog 121=true:=by kernel_rfl
theorem RL:aJ Tryz.prog 122=true:=by kernel_rfl
theorem RN:aJ Tryz.prog 123=true:=by kernel_rfl
theorem RO:aJ Tryz.prog 124=true:=by kernel_rfl
theorem RP:aJ Tryz.prog 125=true:=by kernel_rfl
theorem RQ:aJ Tryz.prog 126=true:=by kernel_rfl
theorem RR:aJ Tryz.prog 127=true:=by kernel_rfl
theorem RS:aJ Tryz.prog 128=true:=by kernel_rfl
theorem RU:aJ Tryz.prog 129=true:=by kernel_rfl
theorem RV:aJ Tryz.prog 130=true:=by kernel_rfl
theorem RX:aJ Tryz.prog 131=true:=by kernel_rfl
theorem RY:aJ Tryz.prog 132=true:=by kernel_rfl
theorem RZ:aJ Tryz.prog 133=true:=by kernel_rfl
theorem R1:aJ Tryz.prog 134=true:=by kernel_rfl
theorem R2:aJ Tryz.prog 135=true:=by kernel_rfl
theorem R3:aJ Tryz.prog 136=true:=by kernel_rfl
theorem R4:aJ Tryz.prog 137=true:=by kernel_rfl
theorem R5:aJ Tryz.prog 138=true:=by kernel_rfl
theorem R6:aJ Tryz.prog 139=true:=by kernel_rfl
theorem R7:aJ Tryz.prog 140=true:=by kernel_rfl
theorem AG:aJ Tryz.prog 141=true:=by kernel_rfl
theorem R8:aJ Tryz.prog 142=true:=by kernel_rfl
theorem R9:aJ Tryz.prog 143=true:=by kernel_rfl
theorem Sa:aJ Tryz.prog 144=true:=by kernel_rfl
theorem Sb:aJ Tryz.prog 145=true:=by kernel_rfl
theorem FU:aJ Tryz.prog 146=true:=by kernel_rfl
theorem FV:aJ Tryz.prog 147=true:=by kernel_rfl
theorem FW:aJ Tryz.prog 148=true:=by kernel_rfl
theorem Sd:aJ Tryz.prog 149=true:=by kernel_rfl
theorem Se:aJ Tryz.prog 150=true:=by kernel_rfl
theorem Sf:aJ Tryz.prog 151=true:=by kernel_rfl
theorem Si:aJ Tryz.prog 152=true:=by kernel_rfl
theorem Sj:aJ Tryz.prog 153=true:=by kernel_rfl
theorem Sk:aJ Tryz.prog 154=true:=by kernel_rfl
theorem Sl:aJ Tryz.prog 155=true:=by kernel_rfl
theorem Sn:aJ Tryz.prog 156=true:=by kernel_rfl
theorem So:aJ Tryz.prog 157=true:=by kernel_rfl
theorem Sp:aJ Tryz.prog 158=true:=by kernel_rfl
theorem Sq:aJ Tryz.prog 159=true:=by kernel_rfl
theorem Sr:aJ Tryz.prog 160=true:=by kernel_rfl
theorem Ss:aJ Tryz.prog 161=true:=by kernel_rfl
theorem Su:aJ Tryz.prog 162=true:=by kernel_rfl
theorem Sv:aJ Tryz.prog 163=true:=by kernel_rfl
theorem Sw:aJ Tryz.prog 164=true:=by kernel_rfl
theorem Sx:aJ Tryz.prog 165=true:=by kernel_rfl
theorem Sy:aJ Tryz.prog 172=true:=by kernel_rfl
theorem AH:aJ Tryz.prog 173=true:=by kernel_rfl
theorem vX:aJ Tryz.prog 175=true:=by kernel_rfl
theorem FX:aJ Tryz.prog 176=true:=by kernel_rfl
theorem Sz:aJ Tryz.prog 179=true:=by kernel_rfl
theorem FY:aJ Tryz.prog 180=true:=by kernel_rfl
theorem FZ:aJ Tryz.prog 181=true:=by kernel_rfl
theorem F1:aJ Tryz.prog 184=true:=by kernel_rfl
theorem SA:aJ Tryz.prog 187=true:=by kernel_rfl
theorem SB:aJ Tryz.prog 188=true:=by kernel_rfl
theorem SC:aJ Tryz.prog 189=true:=by kernel_rfl
theorem SD:aJ Tryz.prog 190=true:=by kernel_rfl
theorem SE:aJ Tryz.prog 191=true:=by kernel_rfl
theorem SF:aJ Tryz.prog 192=true:=by kernel_rfl
theorem SG:aJ Tryz.prog 197=true:=by kernel_rfl
theorem F2:aJ Tryz.prog 199=true:=by kernel_rfl
theorem F3:aJ Tryz.prog 201=true:=by kernel_rfl
theorem SH:aJ Tryz.prog 203=true:=by kernel_rfl
theorem SI:aJ Tryz.prog 204=true:=by kernel_rfl
theorem SJ:aJ Tryz.prog 205=true:=by kernel_rfl
theorem SK:aJ Tryz.prog 206=true:=by kernel_rfl
theorem SL:aJ Tryz.prog 207=true:=by kernel_rfl
theorem SM:aJ Tryz.prog 208=true:=by kernel_rfl
theorem SN:aJ Tryz.prog 209=true:=by kernel_rfl
theorem SO:aJ Tryz.prog 210=true:=by kernel_rfl
theorem SP:aJ Tryz.prog 211=true:=by kernel_rfl
theorem SQ:aJ Tryz.prog 212=true:=by kernel_rfl
theorem SS:aJ Tryz.prog 213=true:=by kernel_rfl
theorem SU:aJ Tryz.prog 214=true:=by kernel_rfl
theorem SV:aJ Tryz.prog 222=true:=by kernel_rfl
theorem SW:aJ Tryz.prog 223=true:=by kernel_rfl
theorem SX:aJ Tryz.prog 224=true:=by kernel_rfl
theorem SY:aJ Tryz.prog 225=true:=by kernel_rfl
theorem SZ:aJ Tryz.prog 226=true:=by kernel_rfl
theorem S0:aJ Tryz.prog 227=true:=by kernel_rfl
theorem S1:aJ Tryz.prog 244=true:=by kernel_rfl
theorem S2:aJ Tryz.prog 245=true:=by kernel_rfl
theorem S3:aJ Tryz.prog 246=true:=by kernel_rfl
theorem S4:aJ Tryz.prog 247=true:=by kernel_rfl
theorem S5:aJ Tryz.prog 248=true:=by kernel_rfl
theorem S6:aJ Tryz.prog 252=true:=by kernel_rfl
attribute [go_sem] FT O6 O7 O8 O9 Pa AF Pb Pd Pe Pf Pg Pj Pk Pm Pn Po Pp Pq Pt Pu Pv Pw Px Py Pz PA PB PC PD PE PF PG PI PJ PK PL PM PN PO PR PS PU PV PW PX PY PZ P1 P2 P3 P4 P5 P6 P7 P8 P9 Qa Qb Qc Qd Qe Qf Qg Qh Qi Qj Qk Ql Qm Qo Qp Qq Qr Qs Qt Qu Qv Qw Qx Qy Qz QA QB QC QD QE QF QG QH QI QJ QK QL QM QN QO QS QT QU QV QW QX QY QZ Q0 Q1 Q2 Q3 Q4 Q5 Q6 Q7 Q8 Q9 Ra Rb Rc Re Rf Rg Rh Ri Rj Rl Rm Rn Ro Rp Rq Rr Rs Rt Ru Rv Rw Rx Ry Rz RA RB RD RE RF RG RH RI RJ RK RL RN RO RP RQ RR RS RU RV RX RY RZ R1 R2 R3 R4 R5 R6 R7 AG R8 R9 Sa Sb FU FV FW Sd Se Sf Si Sj Sk Sl Sn So Sp Sq Sr Ss Su Sv Sw Sx Sy AH vX FX Sz FY FZ F1 SA SB SC SD SE SF SG F2 F3 SH SI SJ SK SL SM SN SO SP SQ SS SU SV SW SX SY SZ S0 S1 S2 S3 S4 S5 S6
end Go.Proofs.YtghbphimkgamkaaGreatDoor
end
section
namespace Go.Sep
open Go Go.Conc
def ki (o:Oper):Option (TypeId×Nat):=match o.op,o.dst,o.guard with
 | .alloc t,some d,none=>some (t,d)
 |_,_,_=>none
def AI (ops:Array Oper)(m:Nat):Bool:=
 nN ops (m+1)&&decide (m+2<=ops.size)&&
 (match (ops[m]?).bind ki,(ops[m+1]?).bind ki with|some (_,d),some (_,a)=>!(d==a)|_,_=>false)&&
 decide (Region.ready .any ops (cV ops.size m)=[m,m+1])&&decide (Region.ready .any ops ((cV ops.size m).setIfInBounds (m+1) true)=[m])
theorem AJ {ro:Addr->Option Value}{x y:Nat×Obj}{l:List (Nat×Obj)}:Le ⟨ro,x::y::l⟩ ⟨ro,y::x::l⟩:=by
 have c:∀b,b∈keys (x::y::l)↔b∈keys (y::x::l):=fun b=>by
  simp only[keys,List.map_cons,List.mem_cons];exact ⟨fun h=>by rcases h with h|h|h;exact .inr (.inl h);exact .inl h;exact .inr (.inr h),fun h=>by rcases h with h|h|h;exact .inr (.inl h);exact .inl h;exact .inr (.inr h)⟩
 refine ⟨fun w hw=>⟨hw.ro,fun b o hb=>hw.own b o ?_,?_,fun a v h hm=>hw.apart a v h ((c _).1 hm)⟩,fun b hb=>(c b).1 hb,fun a d=>.inl d⟩
 .rcases List.mem_cons.1 hb with h|h
  .exact List.mem_cons_of_mem _ (h▸List.mem_cons_self)
  .rcases List.mem_cons.1 h with h|h
   .exact h▸List.mem_cons_self
   .exact List.mem_cons_of_mem _ (List.mem_cons_of_mem _ h)
 .have:=hw.nodup;simp only[keys,List.map_cons,List.nodup_cons,List.mem_cons,not_or] at this ⊢;exact ⟨⟨fun e=>this.1.1 e.symm,this.2.1⟩,this.1.2,this.2.2⟩
section
variable {P : Program} {main : Bool} {J : Goroutine → aa → Prop} {ops : Array Oper} {Q : Act → aa → Prop} {F0 : aa}
theorem AK {o:Oper}{t:TypeId}{d:Nat}(h:ki o=some (t,d)):o.op= .alloc t/\o.dst=some d/\o.guard=none:=by
 unfold ki at h;split at h
 .rename_i a b c;cases h;exact ⟨a,b,c⟩
 .cases h
theorem qf {o:Oper}{a:Act}(h:o.guard=none):cC ops o a=some true:=by unfold cC;rw[h]
theorem vY {o:Oper}{t:TypeId}{a:Act}{F:aa}{z:Value}{R:Value->aa->Prop}{D:Deferred->aa->Prop}(d:o.op= .alloc t)(e:zeroOf P t=some z)
  (h:∀b,dV F b->∃c,Le c (F.push b (.cells z.cells t))/\R (.pointer (some ⟨b,0,none⟩)) c):aX P (execOp a.eval o) (j0 P J R D) F:=by
 have:Oper.nL o=false:=by unfold Oper.nL;rw[d]
 refine Ae (R:=fun v F=>∃c,Le c F/\R v c) this ?_
 unfold cK
 rw[d]
 simp only[e]
 exact h
theorem F4 (m:Nat){o1 o2:Oper}{rest:List Oper}{t1 t2 d1 d2:Nat}(hm:m+2<=ops.size)(y:ops[m]?=some o1)(A:ops[m+1]?=some o2)(M:ki o1=some (t1,d1))(N:ki o2=some (t2,d2)){q:Value}(B:zeroOf P t2=some q)(hd:¬d1=d2)
  (C:ops.toList.drop (m+2)=rest) (D:Region.ready .any ops (cV ops.size m)=[m,m+1]) (E:Region.ready .any ops ((cV ops.size m).setIfInBounds (m+1) true)=[m])
  (G:∀j,j<ops.size - (m+1)->Region.ready .any ops (cV ops.size (m+1+j))=[m+1+j]) (H:Region.ready .any ops (cV ops.size ops.size)=[])
  {a:Act} {F:aa} (r:Knows F0 F) (h:eL P J ops F0 Q (o1::o2::rest) true a F):dN P J ops Q (Knows F0) (ops.size - m) (cV ops.size m) a F:=by
 obtain ⟨e1,s,t⟩:=AK M
 obtain ⟨e2,I,K⟩:=AK N
 have O:ops.size - m=(ops.size - (m+1))+1:=by omega
 have R:ops.size - (m+1)=(ops.size - (m+2))+1:=by omega
 unfold eL at h
 rw[qf t] at h
 simp only at h
 have k:∃z,zeroOf P t1=some z:=by
  unfold cK at h
  rw[e1] at h
  simp only at h
  split at h
  .rename_i z S;exact ⟨z,S⟩
  .exact h.elim
 obtain ⟨g,k⟩:=k
 have u:∀b,dV F b->Knows F0 (F.push b (.cells g.cells t1))/\eL P J ops F0 Q (o2::rest) (!Oper.calls o1) (bg a (some d1) (.pointer (some ⟨b,0,none⟩))) (F.push b (.cells g.cells t1)):=by
  unfold cK at h
  rw[e1] at h
  simp only[k,s] at h
  exact h
 have T:∀b,dV F b->∀f,dV (F.push b (.cells g.cells t1)) f->Knows F0 ((F.push b (.cells g.cells t1)).push f (.cells q.cells t2))/\
   eL P J ops F0 Q rest (!Oper.calls o2) (bg (bg a (some d1) (.pointer (some ⟨b,0,none⟩))) (some d2) (.pointer (some ⟨f,0,none⟩))) ((F.push b (.cells g.cells t1)).push f (.cells q.cells t2)):=by
  intro b hb
  have:=(u b hb).2
  unfold eL at this
  rw[qf K] at this
  simp only at this
  unfold cK at this
  rw[e2] at this
  simp only[B,I] at this
  exact this
 have L:=sn (n:=ops.size) (m:=m) (by omega)
 have U:=sn (n:=ops.size) (m:=m+1) (by omega)
 rw[O]
 refine ⟨fun p=>(by rw[D] at p;cases p),fun i hi=>?_⟩
 rw[D] at hi
 simp only[List.mem_cons,List.not_mem_nil,or_false] at hi
 rcases hi with hi|hi
 .subst hi
  unfold dM
  simp only[y]
  rw[if_pos (cj (qf t))]
  refine vY e1 k fun b hb=>⟨_,Le.refl _,(u b hb).1,?_⟩
  rw[L,s]
  exact mj (i+1) G H (o2::rest) (i+1) _ _ _ (Nat.le_refl _) (by omega) (by
   have:=List.drop_eq_getElem_cons (l:=ops.toList) (i:=i+1) (by simp;omega)
   rw[this,C]
   obtain ⟨_,he⟩:=Array.getElem?_eq_some_iff.1 A
   simp[he]) (u b hb).2
 .subst hi
  unfold dM
  simp only[A]
  rw[if_pos (cj (qf K))]
  refine vY e2 B fun f v=>⟨_,Le.refl _,?_,?_⟩
  .refine ⟨r.1,r.2.1,?_⟩
   have V:∀(l own:List (Nat×Obj)),av own f->ja l own->ja l ((f,.cells q.cells t2)::own):=fun l own W w=>by
    induction l with
    |nil=>trivial
    |cons x l ih=>
     obtain ⟨c,o⟩:=x
     refine ⟨?_,ih w.2⟩
     have X:¬f=c:=fun e=>k4 W (e▸e4 (g6 w.1))
     simp only[lk,if_neg X]
     exact w.1
   exact V _ _ v.own r.2.2
  .rw[R]
   refine ⟨fun p=>(by rw[E] at p;cases p),fun i hi=>?_⟩
   rw[E] at hi
   simp only[List.mem_cons,List.not_mem_nil,or_false] at hi
   subst hi
   unfold dM
   simp only[y]
   rw[if_pos (cj (qf t))]
   refine vY e1 k fun b hb=>?_
   have Y:dV F b:=⟨hb.ro,hb.own.2⟩
   have aD:¬f=b:=fun e=>hb.own.1 e.symm
   have Z:dV (F.push b (.cells g.cells t1)) f:=⟨v.ro,⟨aD,v.own⟩⟩
   obtain ⟨ab,ad⟩:=T b Y f Z
   refine ⟨_,AJ,ab,?_⟩
   have ae:bg (bg a o2.dst (.pointer (some ⟨f,0,none⟩))) o1.dst (.pointer (some ⟨b,0,none⟩))=bg (bg a (some d1) (.pointer (some ⟨b,0,none⟩))) (some d2) (.pointer (some ⟨f,0,none⟩)):=by
    rw[s,I]
    exact Act.put_comm a _ _ (fun d al=>by cases al;intro e;cases e;exact hd rfl)
   have hs:((cV ops.size i).setIfInBounds (i+1) true).setIfInBounds i true=cV ops.size (i+2):=by
    rw[Array.setIfInBounds_comm _ _ (by omega:i+1≠i),L,U]
   show dN P J ops Q (Knows F0) (ops.size - (i+2)) _ (bg (bg a o2.dst _) o1.dst _) _
   rw[hs,ae]
   exact mj (i+1) G H rest (i+2) _ _ _ (by omega) hm C ad
theorem AL {Q:Ex->Act->aa->Prop}(hJ:Closed P main J)(o:P.follows .mixedOrders=true)(m:Nat){id:Nat}{a:Act}{F:aa}(F0:aa)(e:Knows F0 F)(f:AI ops m=true)(t2:TypeId){p:Value}(g:((ops[m+1]?).bind ki).map (·.1)=some t2)(q:zeroOf P t2=some p)
  (h:en P J ops F0 (fun j=>eL P J ops F0 (Q .normal) (ops.toList.drop m) true j F) (ops.toList.take m) true a):Wp J (.region id ops true) Q a F:=by
 simp only[AI,Bool.and_eq_true,decide_eq_true_eq] at f
 obtain ⟨⟨⟨⟨r,hm⟩,b⟩,s⟩,t⟩:=f
 have k:=An r
 simp only[p5,Bool.and_eq_true,decide_eq_true_eq,List.all_eq_true,List.mem_range] at k
 obtain ⟨⟨⟨⟨u,D⟩,v⟩,w⟩,x⟩:=k
 cases c:(ops[m]?).bind ki with
 |none=>rw[c] at b;cases b
 |some y=>
  cases d:(ops[m+1]?).bind ki with
  |none=>rw[c,d] at b;cases b
  |some z=>
   obtain ⟨t1,d1⟩:=y
   obtain ⟨A,d2⟩:=z
   rw[d] at g
   obtain rfl:A=t2:=by simpa using g
   rw[c,d] at b
   obtain ⟨o1,e1,a1⟩:=Option.bind_eq_some_iff.1 c
   obtain ⟨o2,e2,a2⟩:=Option.bind_eq_some_iff.1 d
   have hd:¬d1=d2:=by simpa using b
   have B:ops.toList.drop m=o1::o2::ops.toList.drop (m+2):=by
    obtain ⟨C,c1⟩:=Array.getElem?_eq_some_iff.1 e1
    obtain ⟨b2,c2⟩:=Array.getElem?_eq_some_iff.1 e2
    rw[List.drop_eq_getElem_cons (l:=ops.toList) (i:=m) (by simpa using C),List.drop_eq_getElem_cons (l:=ops.toList) (i:=m+1) (by simpa using b2)]
    simp[c1,c2]
   refine vk hJ (Knows F0) o ?_
   rw[<-Ao]
   have:=so (P:=P) (J:=J) (Q:=Q .normal) m (by omega) u (fun i hi=>by have:=v i (by omega);simpa using this) e (fun j n=>by
    rw[B] at n
    exact F4 (F0:=F0) m hm e1 e2 a1 a2 q hd rfl s t w x e n) _ 0 true a (by simp) (Nat.zero_le _) h
   simpa using this
end
def pick (ops:Array Oper):List Nat->List Oper
 |[]=>[]
 |i::is=>match ops[i]? with
  |some o=>o::pick ops is
  |none=>pick ops is
def vZ:List Nat->Array Bool->Array Bool
 |[],L=>L
 |i::is,L=>vZ is (L.setIfInBounds i true)
def sD (ops:Array Oper):List Nat->Array Bool->Bool
 |[],_=>true
 |i::is,L=>Region.free .any ops L i&&(Region.ready .any ops L).contains i&&(ops[i]?).isSome&&sD ops is (L.setIfInBounds i true)
def qg (ops:Array Oper):List Nat->Array Bool->Bool
 |[],L=>decide (Region.ready .any ops L=[])
 |i::is,L=>decide (Region.ready .any ops L=[i])&&(ops[i]?).isSome&&qg ops is (L.setIfInBounds i true)
def AM (ops:Array Oper)(is a:List Nat):Bool:=
 Region.noSelect ops&&sD ops is (Array.replicate ops.size false)&&qg ops a (vZ is (Array.replicate ops.size false))&&decide (is.length+a.length=ops.size)
section
variable {P : Program} {main : Bool} {J : Goroutine → aa → Prop} {ops : Array Oper} {Q : Act → aa → Prop} {F0 : aa}
theorem AN {K:Act->Prop}(m:Region.noSelect ops=true){F:aa}(b:Knows F0 F)(fuel:Nat):
  ∀(is:List Nat) (L:Array Bool) (go:Bool) (a:Act),sD ops is L=true->en P J ops F0 K (pick ops is) go a->(∀n,K n->dN P J ops Q (Knows F0) fuel (vZ is L) n F)->
   dN P J ops Q (Knows F0) (fuel+is.length) L a F
 |[],L,go,a,_,h,k=>by unfold pick en at h;exact k a h
 |i::is,L,go,a,p,h,k=>by
  simp only[sD,Bool.and_eq_true] at p
  obtain ⟨⟨⟨c1,c2⟩,c3⟩,c4⟩:=p
  obtain ⟨o,c⟩:=Option.isSome_iff_exists.1 c3
  have g:(Region.noSelect ops&&Region.free .any ops L i&&(Region.ready .any ops L).contains i)=true:=by rw[m,c1,c2];rfl
  have q:pick ops (i::is)=o::pick ops is:=by simp only[pick,c]
  rw[q] at h
  have e:fuel+(i::is).length=(fuel+is.length)+1:=by simp only[List.length_cons];omega
  rw[e]
  have next:∀go v,en P J ops F0 K (pick ops is) go (bg a o.dst v)->dN P J ops Q (Knows F0) (fuel+is.length) (L.setIfInBounds i true) (bg a o.dst v) F:=fun go v d=>
   AN m b fuel is _ go _ c4 d k
  unfold en at h
  split at h
  .rename_i hg
   exact Ai i c g hg b (next true undef h)
  .rename_i hg
   split at h
   .rename_i t x l
    split at h
    case h_2=>exact h.elim
    rename_i ad r
    split at h
    case h_2=>exact h.elim
    rename_i v d
    refine nM i v c g hg (fun F R j f=>?_) b (next _ v h)
    unfold cK
    simp only[l,r,j.fA d]
    exact f
   .rename_i x args argTypes l
    split at h
    case h_2=>exact h.elim
    rename_i fn first captured s
    obtain ⟨u,v,w,h⟩:=h
    refine nM i v c g hg (fun F R j f=>?_) b (next _ v h)
    unfold cK
    simp only[l,s]
    exact ⟨u,(w F j).mono fun z F' y=>by obtain ⟨rfl,rfl⟩:=y;exact f⟩
   .split at h
    case h_2=>exact h.elim
    rename_i v d
    exact nM i v c g hg (fun F R j f=>sk d f) b (next _ v h)
  .exact h.elim
theorem AO:∀(b:List Nat) (L:Array Bool) (go:Bool) (a:Act) (F:aa),qg ops b L=true->eL P J ops F0 Q (pick ops b) go a F->dN P J ops Q (Knows F0) b.length L a F
 |[],L,go,a,F,c,h=>by
  simp only[qg,decide_eq_true_eq] at c
  unfold pick eL at h
  exact zR c h _
 |j::b,L,go,a,F,c,h=>by
  simp only[qg,Bool.and_eq_true,decide_eq_true_eq] at c
  obtain ⟨⟨c1,c3⟩,c4⟩:=c
  obtain ⟨o,d⟩:=Option.isSome_iff_exists.1 c3
  have e:pick ops (j::b)=o::pick ops b:=by simp only[pick,d]
  rw[e] at h
  unfold eL at h
  split at h
  .rename_i hg
   refine Aj j d c1 hg ?_
   refine mj.sr ?_ h
   rintro v F' ⟨f,g⟩
   exact ⟨f,AO b _ _ _ F' c4 g⟩
  .exact h.elim
theorem F5 {Q:Ex->Act->aa->Prop}(hJ:Closed P main J)(e:P.follows .mixedOrders=true)(is b:List Nat){id:Nat}{a:Act}{F:aa}(F0:aa)(f:Knows F0 F)(d:AM ops is b=true)
  (h:en P J ops F0 (fun c=>eL P J ops F0 (Q .normal) (pick ops b) true c F) (pick ops is) true a):Wp J (.region id ops true) Q a F:=by
 simp only[AM,Bool.and_eq_true,decide_eq_true_eq] at d
 obtain ⟨⟨⟨g,i⟩,j⟩,l⟩:=d
 refine vk hJ (Knows F0) e ?_
 have:=AN (P:=P) (J:=J) (Q:=Q .normal) g f b.length is _ true a i h (fun c k=>AO b _ true c F j k)
 rwa [show b.length+is.length=ops.size by omega] at this
end
attribute [go_sem] pick
inductive ko where
 |done
 |rd (i:Nat) (p:ko)
 |one (i:Nat) (p:ko)
 |two (i:Nat) (p:ko) (j:Nat) (q:ko)
inductive k8 where
 |done
 |rd (o:Oper) (p:k8)
 |one (o:Oper) (p:k8)
 |two (o:Oper) (p:k8) (o':Oper) (q:k8)
 |bad
def ko.opers (ops:Array Oper):ko->k8
 | .done=>.done
 | .rd i p=>match ops[i]? with
  |some o=>.rd o (p.opers ops)
  |none=>.bad
 | .one i p=>match ops[i]? with
  |some o=>.one o (p.opers ops)
  |none=>.bad
 | .two i p j q=>match ops[i]?,ops[j]? with
  |some o,some o'=>.two o (p.opers ops) o' (q.opers ops)
  |_,_=>.bad
def ko.len:ko->Nat
 | .done=>0
 | .rd _ p=>p.len+1
 | .one _ p=>p.len+1
 | .two _ p _ q=>max p.len q.len+1
def fW (P:Program)(J:Goroutine->aa->Prop)(ops:Array Oper)(F0:aa)(Q:Act->aa->Prop):k8->Bool->Act->aa->Prop
 | .done,_,a,F=>Q a F
 | .bad,_,_,_=>False
 | .rd o p,_,a,F=>match cC ops o a with
  |some false=>fW P J ops F0 Q p true (bg a o.dst undef) F
  |some true=>match o.op with
   | .load t x=>match ev a x with
    | .pointer (some ad)=>match fA P F0 t ad with
     |some v=>fW P J ops F0 Q p true (bg a o.dst v) F
     |none=>False
    |_=>False
   | .call {callee:=.value x,args, ..}=>match ev a x with
    | .func (.func fn) first captured=>aJ P fn=true/\∃v,Plain P J F0 fn (first++args.map (ev a)++captured) v/\fW P J ops F0 Q p false (bg a o.dst v) F
    |_=>False
   |_=>match jb P o a with
    |some v=>fW P J ops F0 Q p true (bg a o.dst v) F
    |none=>False
  |none=>False
 | .one o p,_,a,F=>match cC ops o a with
  |some true=>cK P J o (fun v F'=>Knows F0 F'/\fW P J ops F0 Q p (!Oper.calls o) (bg a o.dst v) F') a F
  |_=>False
 | .two o p o' q,_,a,F=>(match cC ops o a with
  |some true=>cK P J o (fun v F'=>Knows F0 F'/\fW P J ops F0 Q p (!Oper.calls o) (bg a o.dst v) F') a F
  |_=>False)/\(match cC ops o' a with
  |some true=>cK P J o' (fun v F'=>Knows F0 F'/\fW P J ops F0 Q q (!Oper.calls o') (bg a o'.dst v) F') a F
  |_=>False)
theorem F6 {P:Program}{J:Goroutine->aa->Prop}{ops:Array Oper}{F0:aa}{Q:Act->aa->Prop}{go:Bool}{a:Act}{F:aa}:fW P J ops F0 Q .done go a F=Q a F:=rfl
theorem F7 {P:Program}{J:Goroutine->aa->Prop}{ops:Array Oper}{F0:aa}{Q:Act->aa->Prop}{o:Oper}{p:k8}{a:Act}{F:aa}:fW P J ops F0 Q (.rd o p) true a F=match cC ops o a with
  |some false=>fW P J ops F0 Q p true (bg a o.dst undef) F
  |some true=>match o.op with
   | .load t x=>match ev a x with
    | .pointer (some ad)=>match fA P F0 t ad with
     |some v=>fW P J ops F0 Q p true (bg a o.dst v) F
     |none=>False
    |_=>False
   | .call {callee:=.value x,args, ..}=>match ev a x with
    | .func (.func fn) first captured=>aJ P fn=true/\∃v,Plain P J F0 fn (first++args.map (ev a)++captured) v/\fW P J ops F0 Q p false (bg a o.dst v) F
    |_=>False
   |_=>match jb P o a with
    |some v=>fW P J ops F0 Q p true (bg a o.dst v) F
    |none=>False
  |none=>False:=(Eq.refl _).trans (Eq.refl _)
theorem F8 {P:Program}{J:Goroutine->aa->Prop}{ops:Array Oper}{F0:aa}{Q:Act->aa->Prop}{o:Oper}{p:k8}{a:Act}{F:aa}:fW P J ops F0 Q (.one o p) true a F=match cC ops o a with
  |some true=>cK P J o (fun v F'=>Knows F0 F'/\fW P J ops F0 Q p (!Oper.calls o) (bg a o.dst v) F') a F
  |_=>False:=(Eq.refl _).trans (Eq.refl _)
attribute [irreducible] fW
attribute [go_sem] F6 F7 F8 ko.opers
theorem AP {F:aa}{a:Addr}:∀(cs:List Value) (i:Nat),(∀j v,cs[j]?=some v->F.get (a.add (i+j))=some v)->F.dn a i cs.length=some cs
 |[],i,_=>rfl
 |v::cs,i,h=>by
  have b:=h 0 v rfl
  rw[Nat.add_zero] at b
  have ih:=AP cs (i+1) (fun j w hw=>by
   have:=h (j+1) w (by simpa using hw)
   rwa [show i+(j+1)=i+1+j by omega] at this)
  simp only[List.length_cons,aa.dn,b,ih]
theorem AQ {F:aa}{a:Addr}:∀(m i k:Nat) (d c:List Value),F.dn a i m=some d->F.dn a (i+m) k=some c->F.dn a i (m+k)=some (d++c)
 |0,i,k,d,c,b,e=>by
  simp only[aa.dn,Option.some.injEq] at b
  subst b
  rw[Nat.zero_add]
  simpa using e
 |m+1,i,k,d,c,b,e=>by
  unfold aa.dn at b
  split at b
  case h_2=>cases b
  rename_i v f
  split at b
  case h_2=>cases b
  rename_i g h
  cases b
  have ih:=AQ m (i+1) k g c h (by rwa [show i+1+m=i+(m+1) by omega])
  rw[show m+1+k=(m+k)+1 by omega]
  simp only[aa.dn,f,ih,List.cons_append]
theorem az.cells {T:Type}{r:b7 T}{ro:Addr->Option Value}{ad:Option Addr}{c:Nat}{l:List T}(h:az r ro (.slice ad l.length c) l)(F:aa)(z:∀a v,ro a=some v->F.get a=some v):
  ∃b:List (List Value),b.length=l.length/\(∀x∈b,x.length=r.n/\∀v∈x,bF v=true)/\(∀(i:Nat) (x:T),l[i]?=some x->∃cs,b[i]?=some cs/\r.rel ro x cs)/\gk F r.n (.slice ad l.length c)=some b.flatten:=by
 obtain ⟨G,H,e,_,_,he⟩:=h
 cases e
 cases m:l with
 |nil=>subst m;refine ⟨[],rfl,by simp,by simp,?_⟩;cases ad<;>simp[gk,aa.dn]
 |cons A l0=>
  obtain ⟨p,I,B,-,-⟩:=he 0 A (by rw[m];rfl)
  subst B
  rw[<-m]
  have key:∀k,k<=l.length->∃b:List (List Value),b.length=k/\(∀x∈b,x.length=r.n/\∀v∈x,bF v=true)/\(∀(i:Nat) (x:T),i<k->l[i]?=some x->∃cs,b[i]?=some cs/\r.rel ro x cs)/\F.dn p 0 (k*r.n)=some b.flatten:=by
   intro k
   induction k with
   |zero=>intro _;exact ⟨[],rfl,by simp,by simp,by simp[aa.dn]⟩
   |succ k ih=>
    intro J
    obtain ⟨b,f,o,q,s⟩:=ih (by omega)
    have d:l[k]?=some l[k]:=List.getElem?_eq_getElem (by omega)
    obtain ⟨K,cs,C,t,hm⟩:=he k _ d
    cases C
    have w:=r.len t
    refine ⟨b++[cs],by simp[f],fun y D=>?_,fun i x hi u=>?_,?_⟩
    .rcases List.mem_append.1 D with h|h
     .exact o y h
     .simp only[List.mem_singleton] at h;subst h;exact ⟨w,r.one t⟩
    .rcases Nat.lt_or_ge i k with h|h
     .obtain ⟨cs',a1,a2⟩:=q i x h u
      exact ⟨cs',by rw[List.getElem?_append_left (by omega)];exact a1,a2⟩
     .have:i=k:=by omega
      subst this
      rw[d] at u
      obtain rfl:=Option.some.inj u
      exact ⟨cs,by rw[List.getElem?_append_right (by omega)];simp[f],t⟩
    .rw[Nat.succ_mul]
     have g:=AP (F:=F) (a:=p) cs (k*r.n) (fun j v E=>z _ _ (by have:=hm j v E;rwa [kY] at this))
     rw[w] at g
     have:=AQ (k*r.n) 0 r.n b.flatten cs s (by rw[Nat.zero_add];exact g)
     rw[this]
     simp
  obtain ⟨b,f,o,q,s⟩:=key l.length (Nat.le_refl _)
  exact ⟨b,f,o,fun i x d=>q i x (List.getElem?_eq_some_iff.1 d).1 d,s⟩
theorem aO.empty {T:Type}{r:b7 T}{ro:Addr->Option Value}{e:TypeId}{b:Nat}(a:∀off sp,ro ⟨b,off,sp⟩=none):aO r ro e (.slice (some ⟨b,0,none⟩) 0 0) [] [(b,.cells #[] e)]:=
 ⟨[],.inr ⟨b,#[],0,rfl,rfl,by simp,Nat.le_refl _,by simp,by simp,a⟩,rfl,by simp,fun i x h=>by simp at h⟩
theorem AR {ro:Addr->Option Value}{x:Nat×Obj}{l:List (Nat×Obj)}:Le ⟨ro,l++[x]⟩ ⟨ro,x::l⟩:=by
 have d:∀b,b∈keys (l++[x])↔b∈keys (x::l):=fun b=>by
  simp only[keys,List.map_append,List.map_cons,List.map_nil,List.mem_append,List.mem_cons,List.not_mem_nil,or_false];exact Or.comm
 refine ⟨fun w hw=>⟨hw.ro,fun b o hb=>hw.own b o ?_,?_,fun a v h hm=>hw.apart a v h ((d _).1 hm)⟩,fun b hb=>(d b).1 hb,fun a c=>.inl c⟩
 .rcases List.mem_append.1 hb with h|h
  .exact List.mem_cons_of_mem _ h
  .simp only[List.mem_singleton] at h;rw[h];exact List.mem_cons_self
 .have:=hw.nodup;simp only[keys,List.map_cons,List.nodup_cons] at this;simp only[keys,List.map_append,List.map_cons,List.map_nil];rw[List.nodup_append];refine ⟨this.2,by simp,fun a c b hb e=>?_⟩;simp only[List.mem_singleton] at hb;subst hb;exact this.1 (e▸c)
theorem qh {P:Program}{T:Type}{r:b7 T}{ro:Addr->Option Value}{rest:List (Nat×Obj)}{ks:List Nat}{R:Value->aa->Prop}{argTypes:Array TypeId}{m o e y:TypeId}{f b c:Nat}{ad:Option Addr}{z:Value}{xs:List T}
  (A:∀off sp,ro ⟨b,off,sp⟩=none) (B:av rest b) (p:keys rest=ks) (hlen:xs.length<=1000000) (C:az r ro (.slice ad xs.length c) xs)
  (D:argTypes[0]?=some m) (E:argTypes[1]?=some o) (he:c8 P m=some e) (F:c8 P o=some y) (hs:bY P e=some r.n) (G:zeroOf P e=some z) (H:z.cells.size=r.n) (hb:bytesOf P e=some f)
  (I:0<f) (J:f<=10000)
  (q:∀v g,aO r ro e v xs g->Apart ks g->R v ⟨ro,rest++g⟩):me P argTypes (.slice (some ⟨b,0,none⟩) 0 0) (.slice ad xs.length c) R ⟨ro,(b,.cells #[] e)::rest⟩:=by
 intro ty
 obtain ⟨d,k1,K,L,M⟩:=C.cells ⟨ro,(b,.cells #[] e)::rest⟩ (fun a v h=>by simp[aa.get,h])
 have s:∀x∈d,x.length=r.n:=fun x h=>(K x h).1
 have i:=iC s
 refine vF (old:=[]) D E he F hs G hb I J (by simpa using hlen) (by simp[gk,aa.dn]) M (fun N=>?_) (fun N k t l u=>?_)
 .have O:xs.length=0:=by omega
  have Q:xs=[]:=List.eq_nil_of_length_eq_zero O
  have S:d=[]:=List.eq_nil_of_length_eq_zero (by omega)
  subst Q S
  refine .inl ⟨_,_,rfl,rfl,⟨ro,rest++[(b,.cells #[] e)]⟩,AR,q _ _ (aO.empty A) fun k l=>?_⟩
  simp only[keys,List.map_cons,List.map_nil,List.mem_singleton] at l
  subst l
  rw[<-p]
  exact k4 B
 .refine ⟨⟨ro,rest++[(t,.cells (([]:List Value).toArray++d.flatten.toArray++Builtin.zeroCells z.cells (k - (0+xs.length))) e)]⟩,AR.trans (Le.sub (.cons₂ _ (.cons _ (List.Sublist.refl _)))),q _ _ ?_ fun j w=>?_⟩
  .refine ⟨d,.inr ⟨t,_,k,by rw[k1,Nat.zero_add],rfl,?_,by omega,?_,s,u.ro⟩,k1,hlen,L⟩
   .simp only[List.nil_append,Array.size_append,List.size_toArray,List.length_nil,Builtin.zeroCells,Array.size_map,Array.size_range,i,H,k1]
    rw[Nat.zero_add,<-Nat.add_mul]
    congr 1;omega
   .simp only[Array.toList_append,List.nil_append]
    rw[List.take_append_of_le_length (by simp[i])]
    rw[List.take_of_length_le (by simp[i])]
  .simp only[keys,List.map_cons,List.map_nil,List.mem_singleton] at w
   subst w
   rw[<-p]
   exact k4 u.own.2
end Go.Sep
end

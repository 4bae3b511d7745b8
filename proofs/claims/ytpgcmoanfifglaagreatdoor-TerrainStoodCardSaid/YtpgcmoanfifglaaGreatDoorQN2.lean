/- A part of the proof of a row and its tied card: QN2. -/
import Derived.Test.YtpgcmoanfifglaaGreatDoorQN1
import Derived.WalkKit
import Derived.IntWalk
import Derived.NoCompilerSame
import Derived.Test.YtpgcmoanfifglaaGreatDoorProg
import Derived.KernelRfl
set_option linter.all false
section
namespace Go.Sep
open Go Go.Conc
section
variable {α β : Type} {P : Program} {Q : α → aa → Prop} {F : aa}
@[go_sem] theorem bF (a:α):aU P (Pure.pure a) Q F=Q a F:=rfl
@[go_sem] theorem L5 (a:α):aU P (Sem.pure a) Q F=Q a F:=rfl
@[go_sem] theorem bq {R:β->aa->Prop}(x:Sem α)(f:α->Sem β):aU P (x>>= f) R F=aU P x (fun a G=>aU P (f a) R G) F:=propext (y2 x F)
@[go_sem] theorem L6 {R:β->aa->Prop}(x:Sem α)(f:α->β):aU P (Functor.map f x) R F=aU P x (fun a G=>R (f a) G) F:=propext (y2 x F)
@[go_sem] theorem dg (c:Prop)[Decidable c](x y:Sem α):aU P (if c then x else y) Q F=if c then aU P x Q F else aU P y Q F:=by split<;>rfl
@[go_sem] theorem zw {Q:Value->aa->Prop}(a:Addr):aU P (load a) Q F=∃v,F.get a=some v/\Q v F:=by simp[load,aU]
@[go_sem] theorem D5 {Q:Unit->aa->Prop}(a:Addr)(v:Value):aU P (store a v) Q F=∃F',F.lG a v=some F'/\Q () F':=by simp[store,aU]
@[go_sem] theorem oW {Q:Nat->aa->Prop}(o:Obj):aU P (newObj o) Q F=(o.isChan=false/\∀b,dO F b->Q b (F.push b o)):=rfl
@[go_sem] theorem jN {Q:Program->aa->Prop}:aU P program Q F=Q P F:=rfl
@[go_sem] theorem uM {Q:Nat->aa->Prop}(q:Question):aU P (choose q) Q F=if q.forced then Q 0 F else ∀t,Q (q.cut t) F:=rfl
@[go_sem] theorem mW {Q:Obj->aa->Prop}(r:Nat):aU P (getObj r) Q F=∃o,F.eW r=some o/\Q o F:=rfl
@[go_sem] theorem lJ {Q:Unit->aa->Prop}(r:Nat)(o:Obj):aU P (Go.setObj r o) Q F=(o.isChan=false/\(F.eW r).isSome=true/\Q () (F.put r o)):=rfl
@[go_sem] theorem L7 (s:String):aU P (stuck s:Sem α) Q F=False:=rfl
@[go_sem] theorem L8 {Q:Unit->aa->Prop}(m:Mark):aU P (mark m) Q F=(oR m=true/\Q () F):=rfl
@[go_sem] theorem dn {Q:TypeDesc->aa->Prop}(t:TypeId):aU P (underlying t) Q F=match P.underlying t with|some d=>Q d F|none=>False:=by
 simp only[underlying,bq,jN];cases P.underlying t<;>rfl
@[go_sem] theorem oX {Q:TypeInfo->aa->Prop}(t:TypeId):aU P (typeInfo t) Q F=match P.info? t with|some d=>Q d F|none=>False:=by
 simp only[typeInfo,bq,jN];cases P.info? t<;>rfl
def bX (P:Program)(t:TypeId):Option Nat:=(P.info? t).map (·.size)
def zeroOf (P:Program)(t:TypeId):Option Value:=(P.info? t).bind (·.zero)
def bytesOf (P:Program)(t:TypeId):Option Nat:=(P.info? t).map (·.bytes)
@[go_sem] theorem eH {Q:Nat->aa->Prop}(t:TypeId):aU P (sizeOf t) Q F=match bX P t with|some n=>Q n F|none=>False:=by
 simp only[sizeOf,bq,oX,bX];cases P.info? t<;>rfl
@[go_sem] theorem lK {Q:Value->aa->Prop}(t:TypeId):aU P (zeroValue t) Q F=match zeroOf P t with|some n=>Q n F|none=>False:=by
 simp only[zeroValue,bq,oX,zeroOf];cases P.info? t with
 |none=>rfl
 |some i=>simp only[Option.bind_some];cases i.zero<;>rfl
def cx (P:Program)(t:TypeId):Option Bool:=(P.underlying t).map fun| .struct _=>true| .array _ _=>true|_=>false
@[go_sem] theorem lM {Q:Bool->aa->Prop}(t:TypeId):aU P (isAgg t) Q F=match cx P t with|some n=>Q n F|none=>False:=by
 simp only[isAgg,bq,dn,cx];cases P.underlying t with
 |none=>rfl
 |some d=>cases d<;>rfl
def aa.lN (F:aa)(a:Addr):Nat->List Value->Prop
 |_,[]=>True
 |i,v::b=>F.get (a.add i)=some v/\F.lN a (i+1) b
theorem uN {Q:Array Value->aa->Prop}(a:Addr):∀(b:List Value) (i:Nat) (acc:Array Value),F.lN a i b->Q (acc++b.toArray) F->aU P (loadCellsFrom a i b.length acc) Q F
 |[],i,acc,_,h=>by simpa [loadCellsFrom,bF] using h
 |v::b,i,acc,hg,h=>by
  simp only[List.length_cons,loadCellsFrom,bq,zw]
  refine ⟨v,hg.1,uN a b (i+1) (acc.push v) hg.2 ?_⟩
  simpa using h
theorem D6 {Q:Value->aa->Prop}{t:TypeId}{a:Addr}(b:List Value)(ht:cx P t=some true)(hs:bX P t=some b.length)(hg:F.lN a 0 b)(h:Q (.agg b.toArray) F):aU P (loadVar t a) Q F:=by
 simp only[loadVar,bq,lM,ht,dg,if_true,eH,hs,loadCells];exact uN a b 0 #[] hg (by simpa [bF] using h)
theorem D7 {Q:Value->aa->Prop}{t:TypeId}{a:Addr}(v:Value)(ht:cx P t=some false)(hg:F.get a=some v)(h:Q v F):aU P (loadVar t a) Q F:=by
 simp only[loadVar,bq,lM,ht,dg,zw];exact ⟨v,hg,h⟩
def aa.jo (F:aa)(a:Addr):Nat->List Value->Option aa
 |_,[]=>some F
 |i,v::b=>match F.lG (a.add i) v with
  |some F'=>F'.jo a (i+1) b
  |none=>none
theorem q6 {Q:Unit->aa->Prop}(a:Addr):∀(b:List Value) (i:Nat) (F F':aa),F.jo a i b=some F'->Q () F'->aU P (storeCells a b i) Q F
 |[],i,F,F',hg,h=>by simp only[aa.jo,Option.some.injEq] at hg;subst hg;simpa [storeCells,bF] using h
 |v::b,i,F,F',hg,h=>by
  simp only[storeCells,bq,D5]
  unfold aa.jo at hg
  split at hg
  ·rename_i c d
   exact ⟨c,d,q6 a b (i+1) c F' hg h⟩
  ·cases hg
theorem D8 {Q:Unit->aa->Prop}{t:TypeId}{a:Addr}{v:Value}(F':aa)(hs:bX P t=some v.cells.size)(hg:F.jo a 0 v.cells.toList=some F')(h:Q () F'):aU P (storeVar t a v) Q F:=by
 simp only[storeVar,bq,eH,hs,ne_eq,not_true_eq_false,if_false];exact q6 a _ 0 F F' hg h
@[go_sem] theorem zx {Q:Addr->aa->Prop}(t:TypeId)(v:Value):aU P (newVar t v) Q F=∀b,dO F b->Q ⟨b,0,none⟩ (F.push b (.cells v.cells t)):=by
 simp only[newVar,newRow,bq,oW,bF];simp[Obj.isChan]
@[go_sem] theorem q7 {Q:Addr->aa->Prop}(t:TypeId)(v:Array Value):aU P (newRow t v) Q F=∀b,dO F b->Q ⟨b,0,none⟩ (F.push b (.cells v t)):=by
 simp only[newRow,bq,oW,bF];simp[Obj.isChan]
@[go_sem] theorem q8 {Q:Addr->aa->Prop}(a:Addr):aU P (Instr.sureAddr (.pointer (some a))) Q F=Q a F:=rfl
@[go_sem] theorem kG {Q:IntKind×Int->aa->Prop}(k:IntKind)(n:Int):aU P (asIntOf (.int k n)) Q F=Q (k,n) F:=rfl
@[go_sem] theorem zy {Q:Int->aa->Prop}(k:IntKind)(n:Int):aU P (asInt (.int k n)) Q F=Q n F:=rfl
@[go_sem] theorem D9 {Q:Bool->aa->Prop}(b:Bool):aU P (asBool (.bool b)) Q F=Q b F:=rfl
@[go_sem] theorem Ea {Q:Array Value->aa->Prop}(b:Array Value):aU P (asAgg (.agg b)) Q F=Q b F:=rfl
end
def slot (a:Act)(i:Nat):Value:=a.tmps.getD i undef
def sz (a:Act):Nat:=a.tmps.size
def bg (a:Act)(d:Option Tmp)(v:Value):Act:=a.put d v
def ev (a:Act)(x:Operand):Value:=a.eval x
@[go_sem] theorem L9 (a:Act)(t:Nat):ev a (.tmp t)=slot a t:=rfl
@[go_sem] theorem Ma (a:Act)(v:Value):ev a (.const v)=v:=rfl
@[go_sem] theorem Mb (a:Act)(g:Nat):ev a (.global g)= .pointer (some ⟨g,0,none⟩):=rfl
@[go_sem] theorem Mc (a:Act)(f:Nat):ev a (.func f)= .func (.func f) #[] #[]:=rfl
@[go_sem] theorem Md (a:Act)(v:Value):bg a none v=a:=rfl
@[go_sem] theorem zz (a:Act)(d:Option Tmp)(v:Value):sz (bg a d v)=sz a:=by cases d<;>simp[sz,bg,Act.put]
theorem Eb (a:Act)(d:Nat)(v:Value)(h:d<sz a):slot (bg a (some d) v) d=v:=by
 simp only[sz] at h;simp[slot,bg,Act.put,h]
theorem uO (a:Act)(d i:Nat)(v:Value)(h:¬d=i):slot (bg a (some d) v) i=slot a i:=by
 simp[slot,bg,Act.put,Array.getElem?_setIfInBounds_ne h]
@[go_sem] theorem Me (a:Act)(d i:Nat)(v:Value)(h:d<sz a):slot (bg a (some d) v) i=if d=i then v else slot a i:=by
 split
 ·rename_i e;subst e;exact Eb a d v h
 ·rename_i e;exact uO a d i v e
@[go_sem] theorem zA (a:Act)(d:Option Tmp)(v:Value):(bg a d v).defers=a.defers:=by cases d<;>rfl
theorem aD.start {P:Program}{f:FuncId}{fn:Func}{c:Code}{n:Nat}{args:Array Value}{F:aa}{R:Value->aa->Prop}(b:P.funcs[f]?=some fn)(hb:fn.body=some c)(a:fn.ntmps=n)(d:args.size<=n)
  (h:∀main J,Closed P main J->∀A:Act,sz A=n->A.defers=[]->(∀i,slot A i=args.getD i undef)->Wp J c (q3 P fn R) A F):aD P f args F R:=
 aD.of_wp b hb fun main J hJ=>h main J hJ _ (by simp[sz,a];omega) rfl fun i=>by
  simp only[slot,a,Array.getD_eq_getD_getElem?]
  rcases Nat.lt_or_ge i args.size with hi|hi
  ·rw[Array.getElem?_append_left hi]
  ·rw[Array.getElem?_append_right hi,Array.getElem?_replicate,Array.getElem?_eq_none hi]
   split<;>rfl
def c5 (P:Program)(t:TypeId):Option TypeId:=match P.underlying t with|some (.slice e)=>some e|_=>none
def mX (P:Program)(t:TypeId):Option (Nat×TypeId):=match P.underlying t with|some (.array n e)=>some (n,e)|_=>none
def cL (P:Program)(t:TypeId)(n:Nat):Option Nat:=
 match P.underlying t with
 |some (.struct a)=>match a[n]? with
  |some f=>match bX P f.type with
   |some (_+1)=>some f.offset
   |_=>none
  |none=>none
 |_=>none
def uP (P:Program)(t:TypeId)(n:Nat):Option (Nat×Nat×Bool):=
 match P.underlying t with
 |some (.struct a)=>match a[n]? with
  |some f=>match bX P f.type,cx P f.type with
   |some s,some g=>some (f.offset,s,g)
   |_,_=>none
  |none=>none
 |_=>none
def placesOf (P:Program)(t:TypeId):Option (List (Nat×Nat)):=
 match P.underlying t with
 |some (.struct a)=>a.toList.mapM fun f=>(bX P f.type).map fun s=>(f.offset,s)
 |_=>none
def aJ (P:Program)(f:FuncId):Bool:=match P.funcs[f]? with|some fn=>!(fn.body.isNone||fn.name== "runtime.NumGoroutine")|none=>false
def aa.dh (F:aa)(a:Addr):Nat->Nat->Option (List Value)
 |_,0=>some []
 |i,n+1=>match F.get (a.add i) with
  |some v=>match F.dh a (i+1) n with
   |some b=>some (v::b)
   |none=>none
  |none=>none
theorem uQ (F:aa)(a:Addr):∀(n i:Nat) (b:List Value),F.dh a i n=some b->F.lN a i b/\b.length=n
 |0,i,b,h=>by simp only[aa.dh,Option.some.injEq] at h;subst h;exact ⟨trivial,rfl⟩
 |n+1,i,b,h=>by
  unfold aa.dh at h
  split at h
  ·rename_i v c
   split at h
   ·rename_i ws d
    cases h
    obtain ⟨e,f⟩:=uQ F a n (i+1) ws d
    exact ⟨⟨c,e⟩,by simp[f]⟩
   ·cases h
  ·cases h
def e8 (P:Program)(F:aa)(t:TypeId)(ad:Addr):Option Value:=
 match cx P t with
 |some false=>F.get ad
 |some true=>match bX P t with
  |some n=>match F.dh ad 0 n with
   |some a=>some (.agg a.toArray)
   |none=>none
  |none=>none
 |none=>none
def q9 (P:Program)(F:aa)(t:TypeId)(ad:Addr)(v:Value):Option aa:=
 match bX P t with
 |some n=>if n=v.cells.size then F.jo ad 0 v.cells.toList else none
 |none=>none
theorem zB {P:Program}{F:aa}{t:TypeId}{ad:Addr}{v:Value}{Q:Value->aa->Prop}(h:e8 P F t ad=some v)(a:Q v F):aU P (loadVar t ad) Q F:=by
 unfold e8 at h;split at h
 ·rename_i hg;exact D7 v hg h a
 ·rename_i hg;split at h
  ·rename_i n c;split at h
   ·rename_i b d;cases h;obtain ⟨e,f⟩:=uQ F ad n 0 b d;exact D6 b hg (by rw[c,f]) e a
   ·cases h
  ·cases h
 ·cases h
theorem Ec {P:Program}{F F':aa}{t:TypeId}{ad:Addr}{v:Value}{Q:Unit->aa->Prop}(h:q9 P F t ad v=some F')(a:Q () F'):aU P (storeVar t ad v) Q F:=by
 unfold q9 at h;split at h
 ·rename_i n b;split at h
  ·rename_i e;exact D8 F' (by rw[b,e]) h a
  ·cases h
 ·cases h
def mY (op:BinOp):Value->Value->Option Value
 | .int k a,.int c b=>if k=c then match op with
   | .add=>some (.int k (k.wrap (a+b)))
   | .sub=>some (.int k (k.wrap (a - b)))
   | .mul=>some (.int k (k.wrap (a*b)))
   | .quo=>if b=0 then none else some (.int k (k.wrap (a.tdiv b)))
   | .rem=>if b=0 then none else some (.int k (a.tmod b))
   | .eql=>some (.bool (a==b))
   | .neq=>some (.bool (a != b))
   | .lss=>some (.bool (decide (a<b)))
   | .leq=>some (.bool (decide (a<=b)))
   | .gtr=>some (.bool (decide (a>b)))
   | .geq=>some (.bool (decide (a≥b)))
   | .shl=>if b<0 then none else some (.int k (k.wrap (a*2 ^ min b.toNat k.bits)))
   | .shr=>if b<0 then none else some (.int k (a.fdiv (2 ^ min b.toNat k.bits)))
   | .and=>some (.int k (k.wrap (BitVec.ofInt k.bits a&&& BitVec.ofInt k.bits b).toNat))
   | .or=>some (.int k (k.wrap (BitVec.ofInt k.bits a|||BitVec.ofInt k.bits b).toNat))
   | .andNot=>some (.int k (k.wrap (BitVec.ofInt k.bits a&&& ~~~(BitVec.ofInt k.bits b)).toNat))
   | .xor=>some (.int k (k.wrap (BitVec.ofInt k.bits a ^^^ BitVec.ofInt k.bits b).toNat))
  else none
 |_,_=>none
theorem iJ {P:Program}{s:Sem Value}{Q:Next->aa->Prop}{F:aa}:aU P (do pure (Next.value (<-s)):Sem Next) Q F=aU P s (fun v G=>Q (.value v) G) F:=by
 simp only[bq,bF]
theorem uR {P:Program}(op:BinOp)(t:TypeId)(x y:Operand)(k c:IntKind)(a b:Int){Q:Unit->aa->Prop}{F:aa}(h:Q () F):aU P (eqGuard op t x y (.int k a) (.int c b)) Q F:=by
 unfold eqGuard;cases op<;>simp<;>exact h
theorem Ed {P:Program}{op:BinOp}{t:TypeId}{x y:Operand}{u v w:Value}{Q:Value->aa->Prop}{F:aa}(h:mY op u v=some w)(c:Q w F):aU P (do eqGuard op t x y u v;binOp op t u v) Q F:=by
 unfold mY at h;split at h
 case h_2=>cases h
 rename_i k a e b;split at h
 case isFalse=>cases h
 rename_i d;subst d;rw[bq];refine uR op t x y k k a b ?_;cases op<;>simp only[binOp,ne_eq,not_true_eq_false,if_false,Op.intArith,Op.intDiv,Op.intCmp,Op.intBits,Op.shift,dg] at h ⊢<;>first
  |(cases h;done)
  |(cases h;exact c)
  |(split at h
    ·cases h
    ·rename_i hb;rw[if_neg hb];cases h;exact c)
def lO (op:UnOp):Value->Option Value
 | .int k a=>match op with
  | .neg=>some (.int k (k.wrap (0 - a)))
  |_=>none
 | .bool b=>match op with
  | .not=>some (.bool (!b))
  |_=>none
 |_=>none
theorem Ee {P:Program}{op:UnOp}{u w:Value}{Q:Value->aa->Prop}{F:aa}(h:lO op u=some w)(a:Q w F):aU P (Op.unary op u) Q F:=by
 cases u<;>cases op<;>simp only[lO] at h<;>first|(cases h;done)|(cases h;exact a)
def rf:Value->Value->Option Value
 | .int k x,.int _ y=>some (.int k (if y>x then y else x))
 |_,_=>none
def ri:Value->Value->Option Value
 | .int k x,.int _ y=>some (.int k (if y<x then y else x))
 |_,_=>none
def oY (P:Program)(t:TypeId):Value->Value->Option Value
 | .slice (some ad) len _,.int _ i=>match c5 P t with
  |some e=>match bX P e with
   |some n=>if 0<=i/\i<(len:Int) then some (.pointer (some (ad.add (i.toNat*n)))) else none
   |none=>none
  |none=>none
 | .pointer (some ad),.int _ i=>match mX P t with
  |some (len,e)=>match bX P e with
   |some n=>if 0<=i/\i<(len:Int) then some (.pointer (some (ad.add (i.toNat*n)))) else none
   |none=>none
  |none=>none
 |_,_=>none
theorem Ef {P:Program}{t:TypeId}{u v w:Value}{Q:Value->aa->Prop}{F:aa}(h:oY P t u v=some w)(c:Q w F):aU P (Instr.indexAt t u v) Q F:=by
 unfold oY at h;split at h
 ·rename_i ad len cap k i;split at h
  case h_2=>cases h
  rename_i e he;split at h
  case h_2=>cases h
  rename_i n a;split at h
  case isFalse=>cases h
  rename_i hi;cases h;have hu:P.underlying t=some (.slice e):=by
   unfold c5 at he;split at he
   ·rename_i d b;cases he;exact b
   ·cases he
  simp only[Instr.indexAt,bq,kG,dn,hu,bF,dg,if_pos hi,eH,a];exact c
 ·rename_i ad k i;split at h
  case h_2=>cases h
  rename_i len e he;split at h
  case h_2=>cases h
  rename_i n a;split at h
  case isFalse=>cases h
  rename_i hi;cases h;have hu:P.underlying t=some (.array len e):=by
   unfold mX at he;split at he
   ·rename_i f d b;cases he;exact b
   ·cases he
  simp only[Instr.indexAt,bq,kG,dn,hu,bF,q8,dg,if_pos hi,eH,a];exact c
 ·cases h
def mZ (P:Program)(t:TypeId)(x:Value)(lo hi:Option Value):Option Value:=
 match x,c5 P t with
 | .slice ad len cap,some e=>match bX P e with
  |some n=>
   match (match lo with|none=>some 0|some (.int _ i)=>if 0<=i then some i.toNat else none|_=>none),(match hi with|none=>some len|some (.int _ i)=>if 0<=i then some i.toNat else none|_=>none) with
   |some l,some h=>if l<=h/\h<=cap then some (.slice (if cap=l then ad else ad.map (·.add (l*n))) (h - l) (cap - l)) else none
   |_,_=>none
  |none=>none
 |_,_=>none
theorem Eg {P:Program}{t:TypeId}{x w:Value}{lo hi:Option Value}{Q:Value->aa->Prop}{F:aa}(hlen:∀ad len cap,x= .slice ad len cap->len<=cap)(h:mZ P t x lo hi=some w)(b:Q w F):aU P (Instr.sliceAt t x lo hi none) Q F:=by
 unfold mZ at h;split at h
 case h_2=>cases h
 rename_i ad len cap e he;have p:=hlen ad len cap rfl;have hu:P.underlying t=some (.slice e):=by
  unfold c5 at he;split at he
  ·rename_i q f;cases he;exact f
  ·cases he
 split at h
 case h_2=>cases h
 rename_i n c;split at h
 case h_2=>cases h
 rename_i l h' a hh;split at h
 case isFalse=>cases h
 rename_i hb;cases h;simp only[Instr.sliceAt,bq,dn,hu,Instr.slice,Instr.sliceBounds,bF];cases hi with
 |none=>
  simp only[Option.some.injEq] at hh;subst hh;simp only[bF];cases lo with
  |none=>
   simp only[Option.some.injEq] at a;subst a;simp only[bF,eH,c];exact b
  |some v=>
   cases v<;>simp only[reduceCtorEq] at a;rename_i k i;split at a
   case isFalse=>cases a
   rename_i d;cases a;have:0<=i/\i<=(len:Int):=⟨d,by omega⟩
   simp only[Instr.sliceBound,bq,kG,dg,if_pos this,bF,eH,c];exact b
 |some v=>
  cases v<;>simp only[reduceCtorEq] at hh;rename_i k i;split at hh
  case isFalse=>cases hh
  rename_i d;cases hh;have g:0<=i/\i<=(cap:Int):=⟨d,by omega⟩
  simp only[Instr.sliceBound,bq,kG,dg,if_pos g,bF];cases lo with
  |none=>
   simp only[Option.some.injEq] at a;subst a;simp only[bF,eH,c];exact b
  |some v=>
   cases v<;>simp only[reduceCtorEq] at a;rename_i r j;split at a
   case isFalse=>cases a
   rename_i m;cases a;have o:0<=j/\j<=((i.toNat:Nat):Int):=⟨m,by omega⟩
   simp only[bq,kG,dg,if_pos o,bF,eH,c];exact b
def gx:List Value->List Value->Option Bool
 |[],[]=>some true
 | .int k a::xs,.int c b::ys=>if k=c then match gx xs ys with
   |some r=>some (a==b&&r)
   |none=>none
  else none
 | .bool a::xs,.bool b::ys=>match gx xs ys with
   |some r=>some (a==b&&r)
   |none=>none
 |_,_=>none
theorem rj:∀{xs ys:List Value} {us b:List Value} {r:Bool},xs.length=ys.length->gx (xs++us) (ys++b)=some r->∃r1 r2,gx xs ys=some r1/\gx us b=some r2/\r=(r1&&r2)
 |[],[],us,b,r,_,h=>⟨true,r,rfl,h,by simp⟩
 |[],y::ys,_,_,_,a,_=>by simp at a
 |x::xs,[],_,_,_,a,_=>by simp at a
 |x::xs,y::ys,us,b,r,a,h=>by
  have f:xs.length=ys.length:=by simpa using a
  cases x<;>cases y<;>simp only[List.cons_append,gx,reduceCtorEq] at h ⊢
  ·split at h
   ·rename_i g c
    obtain ⟨r1,r2,d,e,rfl⟩:=rj f c
    cases h
    exact ⟨_,r2,by rw[d],e,by rw[Bool.and_assoc]⟩
   ·cases h
  ·split at h
   ·rename_i i
    split at h
    ·rename_i g c
     obtain ⟨r1,r2,d,e,rfl⟩:=rj f c
     cases h
     exact ⟨_,r2,by rw[if_pos i,d],e,by rw[Bool.and_assoc]⟩
    ·cases h
   ·cases h
def Kd:List Bool->List Value->Prop
 |[],[]=>True
 |true::ks,.int _ _::xs=>Kd ks xs
 |false::ks,.bool _::xs=>Kd ks xs
 |_,_=>False
theorem Kd.length:∀{ks:List Bool} {xs:List Value},Kd ks xs->xs.length=ks.length
 |[],[],_=>rfl
 |[],x::xs,h=>by simp[Kd] at h
 |k::ks,[],h=>by cases k<;>simp[Kd] at h
 |k::ks,x::xs,h=>by
  have:Kd ks xs:=by cases k<;>cases x<;>simp only[Kd] at h<;>exact h
  simp[Kd.length this]
theorem Kd.split:∀{ks:List Bool} {ls:List Bool} {xs:List Value},Kd (ks++ls) xs->Kd ks (xs.take ks.length)/\Kd ls (xs.drop ks.length)
 |[],_,_,h=>⟨by simp[Kd],by simpa using h⟩
 |k::ks,ls,[],h=>by cases k<;>simp[Kd] at h
 |k::ks,ls,x::xs,h=>by
  cases k<;>cases x<;>simp only[List.cons_append,Kd] at h
  all_goals
   obtain ⟨a,b⟩:=Kd.split h
   exact ⟨by simpa [Kd] using a,by simpa using b⟩
def oZ (P:Program)(g:TypeId->Option (List Bool)):List Field->Nat->Option (List Bool)
 |[],_=>some []
 |f::a,off=>if f.name≠ "_"/\f.offset=off then match g f.type with
   |some ks=>if bX P f.type=some ks.length then match oZ P g a (off+ks.length) with
     |some ls=>some (ks++ls)
     |none=>none
    else none
   |none=>none
  else none
def jO (P:Program):Nat->TypeId->Option (List Bool)
 |0,_=>none
 |d+1,t=>match P.underlying t with
  |some .bool=>if cx P t=some false then some [false] else none
  |some (.int _)=>if cx P t=some false then some [true] else none
  |some (.struct a)=>if cx P t=some true/\P.stoodInHeld t=false then oZ P (jO P d) a.toList 0 else none
  |some (.array n e)=>if cx P t=some true then match jO P d e with
    |some ks=>if bX P e=some ks.length then some (List.replicate n ks).flatten else none
    |none=>none
   else none
  |_=>none
def Sc (v:Value):Prop:=(∃k a,v= .int k a)\/∃b,v= .bool b
theorem Kd.sc:∀{ks:List Bool} {xs:List Value},Kd ks xs->∀x∈xs,Sc x
 |[],[],_=>by simp
 |[],x::xs,h=>by simp[Kd] at h
 |k::ks,[],h=>by simp
 |k::ks,x::xs,h=>by
  have:Sc x/\Kd ks xs:=by cases k<;>cases x<;>simp only[Kd] at h<;>first|exact ⟨.inl ⟨_,_,rfl⟩,h⟩|exact ⟨.inr ⟨_,rfl⟩,h⟩
  simpa using ⟨this.1,Kd.sc this.2⟩
theorem Sc.cells {v:Value}(h:Sc v):v.cells=#[v]:=by
 rcases h with ⟨k,a,rfl⟩|⟨b,rfl⟩<;>rfl
def Shape (P:Program)(t:TypeId)(v:Value):Prop:=(cx P t=some true->∃xs,v= .agg xs)/\(cx P t=some false->Sc v)
section
variable {P : Program}
theorem rm {t:TypeId}{xs:Array Value}{off m:Nat}{g:Bool}{Q:Value->aa->Prop}{F:aa}(hg:cx P t=some g)(hs:bX P t=some m)(hm:g=false->m=1)(d:off+m<=xs.size)
  (c:∀x∈xs.toList,Sc x) (h:∀v,v.cells.toList=(xs.toList.drop off).take m->Shape P t v->Q v F):aU P (part t xs off) Q F:=by
 simp only[part,bq,lM,hg,dg]
 cases g with
 |true=>
  simp only[if_true,bq,eH,hs,bF]
  refine h _ ?_ ⟨fun _=>⟨_,rfl⟩,fun hh=>by rw[hg] at hh;cases hh⟩
  simp only[Value.cells,Array.toList_extract,List.extract_eq_take_drop]
  congr 1;omega
 |false=>
  have:=hm rfl
  subst this
  have a:off<xs.size:=by omega
  simp only[Bool.false_eq_true,if_false,Array.getElem?_eq_getElem a,bF]
  have b:=c xs[off] (by simp)
  refine h _ ?_ ⟨fun hh=>(by rw[hg] at hh;cases hh),fun _=>b⟩
  rw[b.cells]
  have:off<xs.toList.length:=by simpa using a
  rw[List.drop_eq_getElem_cons this]
  simp
def uS (P:Program)(d:Nat)(t:TypeId)(ks:List Bool):Prop:=
 ∀(u v:Value) (r:Bool) (Q:Bool->aa->Prop) (F:aa),Shape P t u->Shape P t v->Kd ks u.cells.toList->Kd ks v.cells.toList->gx u.cells.toList v.cells.toList=some r->Q r F->aU P (Op.equalIn d t u v) Q F
theorem zC {d t:Nat}{ks:List Bool}(h:jO P d t=some ks):∃g,cx P t=some g/\(g=false->ks.length=1):=by
 cases d with
 |zero=>cases h
 |succ d=>
  unfold jO at h;split at h
  ·split at h
   ·rename_i hg;cases h;exact ⟨_,hg,fun _=>rfl⟩
   ·cases h
  ·split at h
   ·rename_i hg;cases h;exact ⟨_,hg,fun _=>rfl⟩
   ·cases h
  ·split at h
   ·rename_i hg;exact ⟨true,hg.1,fun x=>by cases x⟩
   ·cases h
  ·split at h
   ·rename_i hg;exact ⟨true,hg,fun x=>by cases x⟩
   ·cases h
  ·cases h
theorem zD {d:Nat}(ih:∀t ks,jO P d t=some ks->uS P d t ks){xs ys:Array Value}{Q:Bool->aa->Prop}{F:aa}(n:∀x∈xs.toList,Sc x)(o:∀x∈ys.toList,Sc x):
  ∀(c:List Field) (off:Nat) (ks:List Bool) (r:Bool),oZ P (jO P d) c off=some ks->Kd ks (xs.toList.drop off)->Kd ks (ys.toList.drop off)->gx (xs.toList.drop off) (ys.toList.drop off)=some r->off<=xs.size->off<=ys.size->Q r F->
  aU P (do
   let x<-forIn c ((none,()):Option Bool×Unit) fun f _=>do
    if f.name≠ "_" then
     if (!(<-Op.equalIn d f.type (<-part f.type xs f.offset) (<-part f.type ys f.offset)))=true then pure (ForInStep.done (some false,())) else pure (ForInStep.yield (none,()))
    else pure (ForInStep.yield (none,()))
   match x.fst with
    |some a=>pure a
    |none=>pure true:Sem Bool) Q F
 |[],off,ks,r,b,e,h,he,_,_,i=>by
  simp only[oZ,Option.some.injEq] at b
  subst b
  have j:=e.length
  have l:=h.length
  rw[List.eq_nil_of_length_eq_zero j,List.eq_nil_of_length_eq_zero l] at he
  cases he
  simp only[List.forIn_nil,bq,bF]
  exact i
 |f::c,off,ks,r,b,e,h,he,G,H,i=>by
  unfold oZ at b
  split at b
  case isFalse=>cases b
  rename_i m
  obtain ⟨m,rfl⟩:=m
  split at b
  case h_2=>cases b
  rename_i k p
  split at b
  case isFalse=>cases b
  rename_i hs
  split at b
  case h_2=>cases b
  rename_i ls z
  cases b
  obtain ⟨g,hg,q⟩:=zC p
  have A:=e.length
  have B:=h.length
  simp only[List.length_drop,Array.length_toList,List.length_append] at A B
  obtain ⟨C,s⟩:=e.split
  obtain ⟨D,w⟩:=h.split
  rw[List.drop_drop] at s w
  have e1:xs.toList.drop f.offset=(xs.toList.drop f.offset).take k.length++xs.toList.drop (f.offset+k.length):=by
   rw[<-List.drop_drop,List.take_append_drop]
  have e2:ys.toList.drop f.offset=(ys.toList.drop f.offset).take k.length++ys.toList.drop (f.offset+k.length):=by
   rw[<-List.drop_drop,List.take_append_drop]
  rw[e1,e2] at he
  obtain ⟨r1,r2,j,l,rfl⟩:=rj (by simp;omega) he
  simp only[List.forIn_cons,bq,if_pos m]
  refine rm hg hs q (by omega) n fun u hu E=>?_
  refine rm hg hs q (by omega) o fun v y sv=>?_
  refine ih _ _ p u v r1 _ F E sv (by rw[hu];exact C) (by rw[y];exact D) (by rw[hu,y];exact j) ?_
  cases r1 with
  |false=>simpa [bF,dg] using i
  |true=>
   have:=zD ih n o c (f.offset+k.length) ls r2 z s w l (by omega) (by omega) (Q:=Q) (F:=F) (by simpa using i)
   simpa [bF,dg,bq] using this
theorem zE {d e k:Nat}{ks:List Bool}{g:Bool}(t:uS P d e ks)(h:ks.length=k)(hg:cx P e=some g)(j:g=false->ks.length=1)(hs:bX P e=some ks.length){xs ys:Array Value}{Q:Bool->aa->Prop}{F:aa}(w:∀x∈xs.toList,Sc x)(y:∀x∈ys.toList,Sc x):
  ∀(n i:Nat) (r:Bool),Kd (List.replicate n ks).flatten (xs.toList.drop (i*k))->Kd (List.replicate n ks).flatten (ys.toList.drop (i*k))->gx (xs.toList.drop (i*k)) (ys.toList.drop (i*k))=some r->i*k<=xs.size->i*k<=ys.size->Q r F->
  aU P (do
   let x<-forIn (List.range' i n) ((none,()):Option Bool×Unit) fun i _=>do
    if (!(<-Op.equalIn d e (<-part e xs (i*k)) (<-part e ys (i*k))))=true then pure (ForInStep.done (some false,())) else pure (ForInStep.yield (none,()))
   match x.fst with
    |some a=>pure a
    |none=>pure true:Sem Bool) Q F
 |0,i,r,b,c,he,_,_,f=>by
  have l:=b.length
  have m:=c.length
  rw[List.eq_nil_of_length_eq_zero l,List.eq_nil_of_length_eq_zero m] at he
  cases he
  simp only[List.range'_zero,List.forIn_nil,bq,bF]
  exact f
 |n+1,i,r,b,c,he,E,G,f=>by
  have o:(i+1)*k=i*k+k:=by simp only[Nat.add_mul,Nat.one_mul]
  have B:=b.length
  have C:=c.length
  simp only[List.replicate_succ,List.flatten_cons,List.length_drop,Array.length_toList,List.length_append] at B C
  simp only[List.replicate_succ,List.flatten_cons] at b c
  obtain ⟨z,p⟩:=b.split
  obtain ⟨A,q⟩:=c.split
  rw[h] at z p A q
  rw[List.drop_drop,<-o] at p q
  have e1:xs.toList.drop (i*k)=(xs.toList.drop (i*k)).take k++xs.toList.drop ((i+1)*k):=by
   rw[o,<-List.drop_drop,List.take_append_drop]
  have e2:ys.toList.drop (i*k)=(ys.toList.drop (i*k)).take k++ys.toList.drop ((i+1)*k):=by
   rw[o,<-List.drop_drop,List.take_append_drop]
  rw[e1,e2] at he
  obtain ⟨r1,r2,l,m,rfl⟩:=rj (by simp;omega) he
  simp only[List.range'_succ,List.forIn_cons,bq]
  refine rm hg hs j (by omega) w fun u hu D=>?_
  refine rm hg hs j (by omega) y fun v s sv=>?_
  rw[h] at hu s
  refine t u v r1 _ F D sv (by rw[hu];exact z) (by rw[s];exact A) (by rw[hu,s];exact l) ?_
  cases r1 with
  |false=>simpa [bF,dg] using f
  |true=>
   have:=zE t h hg j hs w y n (i+1) r2 p q m (by omega) (by omega) (Q:=Q) (F:=F) (by simpa using f)
   simpa [bF,dg,bq] using this
theorem uT:∀(d t:Nat) (ks:List Bool),jO P d t=some ks->uS P d t ks
 |0,_,_,h=>by cases h
 |d+1,t,ks,h=>by
  intro u v r Q F i sv hu c he j
  unfold jO at h
  split at h
  ·rename_i f
   split at h
   case isFalse=>cases h
   rename_i hg
   cases h
   have a1:=i.2 hg
   have a2:=sv.2 hg
   rw[a1.cells] at he hu
   rw[a2.cells] at he c
   simp only[Op.equalIn,bq,dn,f]
   rcases a1 with ⟨k,a,rfl⟩|⟨a,rfl⟩<;>rcases a2 with ⟨m,b,rfl⟩|⟨b,rfl⟩<;>simp[Kd] at hu c
   simp[gx] at he
   subst he
   simpa [bF] using j
  ·rename_i f
   split at h
   case isFalse=>cases h
   rename_i hg
   cases h
   have a1:=i.2 hg
   have a2:=sv.2 hg
   rw[a1.cells] at he hu
   rw[a2.cells] at he c
   simp only[Op.equalIn,bq,dn,f]
   rcases a1 with ⟨k,a,rfl⟩|⟨a,rfl⟩<;>rcases a2 with ⟨m,b,rfl⟩|⟨b,rfl⟩<;>simp[Kd] at hu c
   simp[gx] at he
   obtain ⟨l,rfl⟩:=he
   simpa [bF,dg,l] using j
  ·rename_i o f
   split at h
   case isFalse=>cases h
   rename_i hg
   obtain ⟨hg,p⟩:=hg
   obtain ⟨xs,rfl⟩:=i.1 hg
   obtain ⟨ys,rfl⟩:=sv.1 hg
   simp only[Op.equalIn,bq,dn,f,jN,p,Bool.false_eq_true,if_false,dg,bF]
   have:=zD (P:=P) (d:=d) (fun t ks hh=>uT d t ks hh) (xs:=xs) (ys:=ys) (Q:=Q) (F:=F) hu.sc c.sc o.toList 0 ks r h (by simpa [Value.cells] using hu) (by simpa [Value.cells] using c) (by simpa [Value.cells] using he) (by omega) (by omega) j
   rw[<-Array.forIn_toList]
   simp[bq] at this ⊢
   exact gL (fun a G h=>by rcases a with ⟨_|_,_⟩<;>exact h) _ _ this
  ·rename_i n e f
   split at h
   case isFalse=>cases h
   rename_i hg
   split at h
   case h_2=>cases h
   rename_i k l
   split at h
   case isFalse=>cases h
   rename_i hs
   cases h
   obtain ⟨xs,rfl⟩:=i.1 hg
   obtain ⟨ys,rfl⟩:=sv.1 hg
   obtain ⟨g,q,s⟩:=zC l
   simp only[Op.equalIn,bq,dn,f,eH,hs]
   have:=zE (P:=P) (d:=d) (uT d e k l) rfl q s hs (xs:=xs) (ys:=ys) (Q:=Q) (F:=F) hu.sc c.sc n 0 r (by simpa [Value.cells] using hu) (by simpa [Value.cells] using c) (by simpa [Value.cells] using he) (by simp) (by simp) j
   simp only[Std.Legacy.Range.forIn_eq_forIn_range',Std.Legacy.Range.size,Nat.sub_zero,Nat.add_one_sub_one,Nat.div_one]
   simp[bq] at this ⊢
   exact gL (fun a G h=>by rcases a with ⟨_|_,_⟩<;>exact h) _ _ this
  ·cases h
def iK:List Bool->List Value->Bool
 |[],[]=>true
 |true::ks,.int _ _::xs=>iK ks xs
 |false::ks,.bool _::xs=>iK ks xs
 |_,_=>false
theorem uU:∀{ks:List Bool} {xs:List Value},iK ks xs=true->Kd ks xs
 |[],[],_=>trivial
 |[],x::xs,h=>by simp[iK] at h
 |k::ks,[],h=>by cases k<;>simp[iK] at h
 |k::ks,x::xs,h=>by
  cases k<;>cases x<;>first
   |(simp only[iK,reduceCtorEq,Bool.false_eq_true] at h;done)
   |exact uU (ks:=ks) (xs:=xs) (by simpa only[iK] using h)
def m0 (P:Program)(t:TypeId):Option (List Bool):=if P.eqGuardType P.depth t=false/\cx P t=some true then jO P Op.maxDepth t else none
def lP (P:Program)(t:TypeId):Value->Value->Option Bool
 | .agg xs,.agg ys=>match m0 P t with
  |some ks=>if iK ks xs.toList&&iK ks ys.toList then gx xs.toList ys.toList else none
  |none=>none
 |_,_=>none
theorem uV {t:TypeId}{u v:Value}{r:Bool}{Q:Bool->aa->Prop}{F:aa}(h:lP P t u v=some r)(c:Q r F):aU P (Op.equal t u v) Q F/\P.eqGuardType P.depth t=false/\(∃xs,u= .agg xs)/\∃ys,v= .agg ys:=by
 unfold lP at h;split at h
 case h_2=>cases h
 rename_i xs ys;split at h
 case h_2=>cases h
 rename_i ks a;split at h
 case isFalse=>cases h
 rename_i b;simp only[Bool.and_eq_true] at b;unfold m0 at a;split at a
 case isFalse=>cases a
 rename_i hg;refine ⟨?_,hg.1,⟨_,rfl⟩,_,rfl⟩;exact uT _ _ _ a _ _ r Q F ⟨fun _=>⟨_,rfl⟩,fun x=>by rw[hg.2] at x;cases x⟩ ⟨fun _=>⟨_,rfl⟩,fun x=>by rw[hg.2] at x;cases x⟩ (uU b.1) (uU b.2) h c
def uW (P:Program)(t:TypeId):Bool:=match P.underlying t with|some .bool=>true|_=>false
def jP (P:Program)(t:TypeId):Bool:=match P.underlying t with|some (.slice _)=>true|_=>false
def o3 (P:Program)(t:TypeId):Value->Value->Option Bool
 | .bool a,.bool b=>if uW P t=true then some (a==b) else none
 | .slice none _ _,.slice b _ _=>if jP P t=true then some b.isNone else none
 | .slice (some _) _ _,.slice none _ _=>if jP P t=true then some false else none
 |_,_=>none
theorem zF {t:TypeId}{u v:Value}{r:Bool}{Q:Bool->aa->Prop}{F:aa}(h:o3 P t u v=some r)(e:Q r F):aU P (Op.equal t u v) Q F/\((∃a b,u= .bool a/\v= .bool b)\/∃a n c b m d,u= .slice a n c/\v= .slice b m d):=by
 obtain ⟨d,hd⟩:∃d,Op.maxDepth=d+1:=⟨_,rfl⟩
 unfold o3 at h;split at h
 ·split at h
  ·rename_i hb;cases h;unfold uW at hb;split at hb
   ·rename_i hu;refine ⟨?_,.inl ⟨_,_,rfl,rfl⟩⟩;unfold Op.equal;rw[hd];simp only[Op.equalIn,bq,dn,hu,bF];exact e
   ·cases hb
  ·cases h
 ·split at h
  ·rename_i hb;cases h;unfold jP at hb;split at hb
   ·rename_i hu;refine ⟨?_,.inr ⟨_,_,_,_,_,_,rfl,rfl⟩⟩;unfold Op.equal;rw[hd];simp only[Op.equalIn,bq,dn,hu,bF];exact e
   ·cases hb
  ·cases h
 ·split at h
  ·rename_i hb;cases h;unfold jP at hb;split at hb
   ·rename_i hu;refine ⟨?_,.inr ⟨_,_,_,_,_,_,rfl,rfl⟩⟩;unfold Op.equal;rw[hd];simp only[Op.equalIn,bq,dn,hu,bF];exact e
   ·cases hb
  ·cases h
 ·cases h
def o5 (P:Program)(op:BinOp)(t:TypeId)(u v:Value):Option Value:=
 match mY op u v with
 |some w=>some w
 |none=>match op with
  | .eql=>match lP P t u v with
   |some r=>some (.bool r)
   |none=>match o3 P t u v with
    |some r=>some (.bool r)
    |none=>none
  | .neq=>match lP P t u v with
   |some r=>some (.bool (!r))
   |none=>match o3 P t u v with
    |some r=>some (.bool (!r))
    |none=>none
  | .shr=>match u,v with
   | .int k a,.int _ b=>if b<0 then none else some (.int k (a.fdiv (2 ^ min b.toNat k.bits)))
   |_,_=>none
  | .shl=>match u,v with
   | .int k a,.int _ b=>if b<0 then none else some (.int k (k.wrap (a*2 ^ min b.toNat k.bits)))
   |_,_=>none
  |_=>none
theorem Eh {op:BinOp}{t:TypeId}{x y:Operand}{u v w:Value}{Q:Value->aa->Prop}{F:aa}(h:o5 P op t u v=some w)(e:Q w F):aU P (do eqGuard op t x y u v;binOp op t u v) Q F:=by
 unfold o5 at h;split at h
 ·rename_i w' hw;cases h;exact Ed hw e
 ·split at h
  ·split at h
   ·rename_i r f;cases h;obtain ⟨g,i,⟨xs,rfl⟩,ys,rfl⟩:=uV (Q:=fun r G=>Q (.bool r) G) f e;simp only[bq,eqGuard,binOp,jN,i,dg,bF];simpa using g
   ·split at h
    ·rename_i r f;cases h;obtain ⟨g,i⟩:=zF (Q:=fun r G=>Q (.bool r) G) f e;rcases i with ⟨a,b,rfl,rfl⟩|⟨a,n,c,b,m,d,rfl,rfl⟩<;>
     ·simp only[bq,eqGuard,binOp,jN,dg,bF];simpa using g
    ·cases h
  ·split at h
   ·rename_i r f;cases h;obtain ⟨g,i,⟨xs,rfl⟩,ys,rfl⟩:=uV (Q:=fun r G=>Q (.bool (!r)) G) f e;simp only[bq,eqGuard,binOp,jN,i,dg,bF];simpa using g
   ·split at h
    ·rename_i r f;cases h;obtain ⟨g,i⟩:=zF (Q:=fun r G=>Q (.bool (!r)) G) f e;rcases i with ⟨a,b,rfl,rfl⟩|⟨a,n,c,b,m,d,rfl,rfl⟩<;>
     ·simp only[bq,eqGuard,binOp,jN,dg,bF];simpa using g
    ·cases h
  ·split at h
   ·split at h
    ·cases h
    ·rename_i hb;cases h;rw[bq];refine uR .shr t x y _ _ _ _ ?_;simp only[binOp,Op.shift,dg];rw[if_neg hb];exact e
   ·cases h
  ·split at h
   ·split at h
    ·cases h
    ·rename_i hb;cases h;rw[bq];refine uR .shl t x y _ _ _ _ ?_;simp only[binOp,Op.shift,dg];rw[if_neg hb];exact e
   ·cases h
  ·cases h
end
theorem uX {P:Program}{t e:TypeId}(h:c5 P t=some e):P.underlying t=some (.slice e):=by
 unfold c5 at h;split at h
 ·rename_i a he;cases h;exact he
 ·cases h
theorem zG (n:Nat):∀(r c:Nat),Builtin.growBy n r c<=2 ^ r*(c+768)
 |0,c=>by simp[Builtin.growBy]
 |r+1,c=>by
  unfold Builtin.growBy
  split
  ·have:1<=2 ^ (r+1):=Nat.one_le_two_pow
   have:=Nat.mul_le_mul_right (c+768) this
   omega
  ·have h:=zG n r (c+(c+768)/4)
   refine Nat.le_trans h ?_
   rw[Nat.pow_succ,Nat.mul_assoc]
   refine Nat.mul_le_mul_left _ ?_
   omega
theorem nextslicecap_le {n c:Nat}(h:c<n)(b:n<=1000000):Builtin.nextslicecap n c<=20000000:=by
 unfold Builtin.nextslicecap;split
 ·omega
 ·split
  ·omega
  ·have a:=zG n 4 c;have e:(2:Nat) ^ 4=16:=by decide
   rw[e] at a;refine Nat.le_trans a ?_;omega
section
variable {P : Program}
theorem Ei {Q:Array Value->aa->Prop}{F:aa}(a:Addr){n:Nat}{b:List Value}(h:F.dh a 0 n=some b)(c:Q b.toArray F):aU P (loadCells a n) Q F:=by
 obtain ⟨d,e⟩:=uQ F a n 0 b h;subst e;exact uN a b 0 #[] d (by simpa using c)
def fY (F:aa)(size:Nat):Value->Option (List Value)
 | .slice (some a) n _=>F.dh a 0 (n*size)
 | .slice none 0 _=>some []
 |_=>none
theorem uY {Q:Array Value->aa->Prop}{F:aa}{size n:Nat}{ad:Option Addr}{c:Nat}{b:List Value}(h:fY F size (.slice ad n c)=some b)(d:Q b.toArray F):aU P (Builtin.firstCells size n (.slice ad n c)) Q F:=by
 cases ad with
 |none=>
  cases n with
  |zero=>simp only[fY,Option.some.injEq] at h;subst h;exact d
  |succ n=>simp[fY] at h
 |some a=>exact Ei a h d
theorem uZ {Q:Unit->aa->Prop}{F:aa}(n:Nat)(h:Q () F):aU P (askRoom n) Q F:=by
 unfold askRoom;rw[dg];split
 ·exact ⟨rfl,h⟩
 ·exact h
theorem u5 {F:aa}{Q:Value->aa->Prop}{argTypes:Array TypeId}{ty i j e p:TypeId}{size d len cap n c:Nat}{base l:Option Addr}{z:Value}{old new:List Value}
  (q:argTypes[0]?=some i) (r:argTypes[1]?=some j) (he:c5 P i=some e) (s:c5 P j=some p) (hs:bX P e=some size) (u:zeroOf P e=some z) (hb:bytesOf P e=some d)
  (C:0<d) (v:d<=10000) (w:len+n<=1000000) (hold:fY F size (.slice base len cap)=some old) (m:fY F size (.slice l n c)=some new)
  (f:len+n<=cap->(∃a F',base=some a/\F.jo (a.add (len*size)) 0 new=some F'/\Q (.slice base (len+n) cap) F')\/(base=none/\Q (.slice base (len+n) cap) F))
  (x:cap<len+n->∀k b,len+n<=k->dO F b->Q (.slice (some ⟨b,0,none⟩) (len+n) k) (F.push b (.cells (old.toArray++new.toArray++Builtin.zeroCells z.cells (k - (len+n))) e))):
  aU P (Builtin.append_ argTypes ty #[.slice base len cap,.slice l n c]) Q F:=by
 have hu:=uX he
 have y:=uX s
 unfold bytesOf at hb
 obtain ⟨info,hi,rfl⟩:=Option.map_eq_some_iff.1 hb
 simp only[Builtin.append_,q,r,List.getElem?_toArray,List.getElem?_cons_zero,List.getElem?_cons_succ,bq,dn,hu,y,eH,hs,bF,Builtin.lenOf,Bool.false_eq_true,if_false,dg,Bool.not_false,if_true,oX,hi]
 split
 ·rename_i hle
  have f:=f hle
  refine uY m ?_
  rcases f with ⟨a,F',rfl,A,g⟩|⟨rfl,g⟩
  ·simp only[bq]
   refine q6 _ _ 0 F F' (by simpa using A) ?_
   exact g
  ·exact g
 ·rename_i D
  have B:=nextslicecap_le (n:=len+n) (c:=cap) (by omega) w
  have e1:¬(((len+n:Nat):Int)>IntKind.i64.max/\(false=true\/info.bytes=0)):=by
   rintro ⟨_,h|h⟩
   ·cases h
   ·omega
  have e2:¬(Builtin.nextslicecap (len+n) cap*info.bytes>2 ^ 48):=by
   have:Builtin.nextslicecap (len+n) cap*info.bytes<=20000000*10000:=Nat.mul_le_mul B v
   omega
  rw[if_neg (by simpa using e1),if_neg e2]
  rw[uM]
  rw[if_neg (by simp[Question.forced])]
  intro t
  have o:len+n<=(Question.appendCap (len+n) cap e).cut t:=Nat.le_add_right _ _
  generalize (Question.appendCap (len+n) cap e).cut t=k at o ⊢
  refine uZ _ ?_
  refine uY hold ?_
  refine uY m ?_
  simp only[bq,lK,u,q7,bF]
  exact fun b hb=>x (by omega) k b o hb
end
theorem u6:∀{pre:List (Nat×Obj)} {b:Nat} {o:Obj},au pre b->lk (pre++[(b,o)]) b=some o
 |[],b,o,_=>by simp[lk]
 |(c,x)::pre,b,o,h=>by
  have a:¬c=b:=fun e=>h.1 e.symm
  simp[lk,a,u6 h.2]
def cI (arr:Array Value)(k:Nat):List Value->Array Value
 |[]=>arr
 |v::a=>cI (arr.setIfInBounds k v) (k+1) a
theorem rq:∀(a:List Value) (arr:Array Value) (k:Nat),(cI arr k a).size=arr.size
 |[],_,_=>rfl
 |v::a,arr,k=>by rw[cI,rq a];simp
theorem ru:∀(a:List Value) (arr:Array Value) (k:Nat),k+a.length<=arr.size->(cI arr k a).toList=arr.toList.take k++a++arr.toList.drop (k+a.length)
 |[],arr,k,_=>by simp[cI]
 |v::a,arr,k,h=>by
  simp only[List.length_cons] at h
  rw[cI,ru a _ _ (by simp;omega)]
  have b:k<arr.toList.length:=by simp;omega
  rw[Array.toList_setIfInBounds]
  have e1:(arr.toList.set k v).take (k+1)=arr.toList.take k++[v]:=by
   rw[List.take_succ_eq_append_getElem (by simpa using b),List.take_set_of_le (Nat.le_refl _)]
   simp
  have e2:(arr.toList.set k v).drop (k+1+a.length)=arr.toList.drop (k+(v::a).length):=by
   rw[List.drop_set_of_lt (by omega)]
   congr 1
   simp;omega
  rw[e1,e2]
  simp
def Gr (ro:Addr->Option Value)(e:TypeId)(size:Nat)(v:Value)(l:List (List Value))(aS:List (Nat×Obj)):Prop:=
 (v= .slice none 0 0/\l=[]/\aS=[])\/
 ∃b arr cap,v= .slice (some ⟨b,0,none⟩) l.length cap/\aS=[(b,.cells arr e)]/\arr.size=cap*size/\l.length<=cap/\arr.toList.take (l.length*size)=l.flatten/\(∀x∈l,x.length=size)/\∀off sp,ro ⟨b,off,sp⟩=none
theorem g9 {size:Nat}:∀{l:List (List Value)},(∀x∈l,x.length=size)->l.flatten.length=l.length*size
 |[],_=>by simp
 |x::l,h=>by
  have ih:l.flatten.length=l.length*size:=g9 (fun y a=>h y (List.mem_cons_of_mem _ a))
  simp only[List.flatten_cons,List.length_append,List.length_cons,h x (by simp),ih,Nat.add_mul,Nat.one_mul]
  omega
theorem zH {ro:Addr->Option Value}{pre:List (Nat×Obj)}{b:Nat}{e:TypeId}{arr:Array Value}(a:au pre b)(c:∀off sp,ro ⟨b,off,sp⟩=none):∀(n i:Nat),i+n<=arr.size->
  aa.dh ⟨ro,pre++[(b,.cells arr e)]⟩ ⟨b,0,none⟩ i n=some ((arr.toList.drop i).take n)
 |0,i,_=>by simp[aa.dh]
 |n+1,i,h=>by
  have f:(⟨b,0,none⟩:Addr).add i=⟨b,i,none⟩:=by
   unfold Addr.add
   split
   ·rename_i hi;subst hi;rfl
   ·simp
  have d:i<arr.size:=by omega
  unfold aa.dh
  have ih:=zH (e:=e) (arr:=arr) a c n (i+1) (by omega)
  simp only[aa.get,f,c,if_true,u6 a,Option.bind_some,cellOf,Array.getElem?_eq_getElem d,ih]
  have g:i<arr.toList.length:=by simpa using d
  rw[List.drop_eq_getElem_cons g,List.take_succ_cons]
  simp
theorem Gr.fY {ro:Addr->Option Value}{e:TypeId}{size:Nat}{v:Value}{l:List (List Value)}{aS pre:List (Nat×Obj)}(h:Gr ro e size v l aS)(a:∀k∈keys aS,au pre k):
  Go.Sep.fY ⟨ro,pre++aS⟩ size v=some l.flatten:=by
 rcases h with ⟨rfl,rfl,rfl⟩|⟨b,arr,cap,rfl,rfl,hs,c,ht,f,d⟩
 ·rfl
 ·simp only[Go.Sep.fY]
  have hle:l.length*size<=arr.size:=by rw[hs];exact Nat.mul_le_mul_right _ c
  rw[zH (a b (by simp[keys])) d _ _ (by omega)]
  simp[ht]
def o6 (P:Program)(t:TypeId)(parts:List (Nat×Value)):Option Value:=
 match zeroOf P t,placesOf P t with
 |some z,some pl=>match Instr.fill (fun i=>pl[i]?) z.cells parts with
  |some cs=>some (.agg cs)
  |none=>none
 |_,_=>none
theorem zI {P:Program}{Q:Array (Nat×Nat)->aa->Prop}{F:aa}:∀(a:List Field) (pl:List (Nat×Nat)) (acc:Array (Nat×Nat)),(a.mapM fun f=>(bX P f.type).map fun s=>(f.offset,s))=some pl->
  Q (acc++pl.toArray) F->aU P (a.foldlM (fun (b:Array (Nat×Nat)) f=>do let s<-sizeOf f.type;pure (b.push (f.offset,s))) acc) Q F
 |[],pl,acc,h,c=>by
  simp at h;subst h
  simpa [bF] using c
 |f::a,pl,acc,h,c=>by
  simp only[List.mapM_cons] at h
  cases hs:bX P f.type with
  |none=>simp[hs] at h
  |some s=>
   cases d:(a.mapM fun f=>(bX P f.type).map fun s=>(f.offset,s)) with
   |none=>simp[hs,d] at h
   |some pr=>
    simp[hs,d] at h
    subst h
    simp only[List.foldlM_cons,bq,eH,hs,bF]
    exact zI a pr _ d (by simpa using c)
theorem Ej {P:Program}{Q:Array (Nat×Nat)->aa->Prop}{F:aa}(a:Array Field)(pl:List (Nat×Nat))(h:(a.toList.mapM fun f=>(bX P f.type).map fun s=>(f.offset,s))=some pl)
  (b:Q pl.toArray F):aU P (a.mapM fun f=>do let s<-sizeOf f.type;pure (f.offset,s)) Q F:=by
 rw[Array.mapM_eq_foldlM,<-Array.foldlM_toList]
 have:=zI (Q:=Q) (F:=F) a.toList pl #[] h (by simpa using b)
 simpa using this
theorem Ek {P:Program}{t:TypeId}{parts:Array (Nat×Value)}{w:Value}{Q:Value->aa->Prop}{F:aa}(h:o6 P t parts.toList=some w)(b:Q w F):aU P (Instr.build t parts) Q F:=by
 unfold o6 at h;split at h
 case h_2=>cases h
 rename_i z pl c a;split at h
 case h_2=>cases h
 rename_i cs d;cases h;unfold placesOf at a;split at a
 case h_2=>cases a
 rename_i e f;simp only[Instr.build,bq,lK,c,dn,f];refine Ej e pl a ?_;simp only[List.getElem?_toArray,d,bF];exact b
def ry (P:Program)(t:TypeId)(len:Nat)(parts:List (Nat×Value)):Option (TypeId×Array Value):=
 match c5 P t with
 |some e=>match bX P e,zeroOf P e with
  |some size,some z=>if len*size<=2 ^ 24/\0<len*size then
    match Instr.fill (fun i=>some (i*size,size)) ((Array.range (len*size)).map (z.cells[· % z.cells.size]!)) parts with
    |some cs=>some (e,cs)
    |none=>none
   else if len*size=0/\parts.isEmpty=true then some (e,#[]) else none
  |_,_=>none
 |none=>none
theorem El {P:Program}{t:TypeId}{len:Nat}{parts:Array (Nat×Value)}{e:TypeId}{cs:Array Value}{Q:Value->aa->Prop}{F:aa}(h:ry P t len parts.toList=some (e,cs))
  (d:∀b,dO F b->Q (.slice (some ⟨b,0,none⟩) len len) (F.push b (.cells cs e))):aU P (Instr.buildSlice t len parts) Q F:=by
 unfold ry at h
 split at h
 case h_2=>cases h
 rename_i f he
 split at h
 case h_2=>cases h
 rename_i size z hs g
 split at h
 case isFalse=>
  split at h
  case isFalse=>cases h
  rename_i hb
  cases h
  have hu:P.underlying t=some (.slice e):=by
   unfold c5 at he
   split at he
   ·rename_i f a;cases he;exact a
   ·cases he
  have c:¬(len*size>2 ^ 24):=by rw[hb.1];decide
  have i:parts.toList=[]:=List.isEmpty_iff.1 hb.2
  simp only[Instr.buildSlice,bq,dn,hu,eH,hs,dg,if_neg c,if_pos hb.1,bF,i]
  rw[hb.1]
  have e0:Array.range 0=#[]:=rfl
  simp only[e0,Array.map_empty,Instr.fill,bq,q7,bF]
  exact d
 rename_i hb
 split at h
 case h_2=>cases h
 rename_i cs' j
 cases h
 have hu:P.underlying t=some (.slice e):=by
  unfold c5 at he
  split at he
  ·rename_i f a;cases he;exact a
  ·cases he
 have c:¬(len*size>2 ^ 24):=by omega
 have k:¬(len*size=0):=by omega
 simp only[Instr.buildSlice,bq,dn,hu,eH,hs,dg,if_neg c,if_neg k,lK,g,bF,j,q7]
 exact d
def o7 (P:Program)(t:TypeId)(n:Nat):Value->Option Value
 | .agg cs=>match uP P t n with
  |some (off,s,true)=>some (.agg (cs.extract off (off+s)))
  |some (off,_,false)=>cs[off]?
  |none=>none
 |_=>none
theorem Em {P:Program}{t:TypeId}{n:Nat}{u w:Value}{Q:Value->aa->Prop}{F:aa}(h:o7 P t n u=some w)(b:Q w F):aU P (Instr.field t u n) Q F:=by
 cases u<;>simp only[o7,reduceCtorEq] at h;rename_i cs;unfold uP at h;cases hu:P.underlying t with
 |none=>simp[hu] at h
 |some d=>
  cases d<;>simp only[hu,reduceCtorEq] at h;rename_i c;cases a:c[n]? with
  |none=>simp[a] at h
  |some f=>
   simp only[a] at h;cases hs:bX P f.type with
   |none=>simp[hs] at h
   |some s=>
    cases hg:cx P f.type with
    |none=>simp[hs,hg] at h
    |some g=>
     simp only[hs,hg] at h;simp only[Instr.field,bq,dn,hu,a,Ea,part,lM,hg,dg];cases g with
     |true=>simp only[Option.some.injEq] at h;subst h;simpa [eH,hs,bF] using b
     |false=>
      simp only at h;simp only[Bool.false_eq_true,if_false,h];exact b
def rz (n:Nat):Value->Option Value
 | .tuple a=>a[n]?
 |_=>none
def lQ (P:Program)(src dst:TypeId):Value->Option Value
 | .int _ n=>match P.underlying src,P.underlying dst with
  |some (.int _),some (.int k)=>some (.int k (k.wrap n))
  |_,_=>none
 |_=>none
theorem En {P:Program}{src dst:TypeId}{u w:Value}{Q:Value->aa->Prop}{F:aa}(h:lQ P src dst u=some w)(a:Q w F):aU P (convert src dst u) Q F:=by
 cases u<;>simp only[lQ,reduceCtorEq] at h;rename_i k n;split at h
 ·rename_i k1 d b c;cases h;simp only[convert,bq,dn,b,c,Conv.intToInt,bF];exact a
 ·cases h
def rA (P:Program)(t:TypeId):Value->Option Value
 | .slice _ n _=>match c5 P t with
  |some _=>some (.int .i64 n)
  |none=>none
 |_=>none
def o8 (P:Program)(t:TypeId):Value->Value->Option Value
 | .agg cs,.int _ i=>match mX P t with
  |some (len,e)=>match bX P e,cx P e with
   |some s,some true=>if 0<=i/\i<(len:Int) then some (.agg (cs.extract (i.toNat*s) (i.toNat*s+s))) else none
   |some s,some false=>if 0<=i/\i<(len:Int) then cs[i.toNat*s]? else none
   |_,_=>none
  |none=>none
 | .string s,.int _ i=>match P.underlying t with
  |some .string=>if 0<=i then (s[i.toNat]?).map fun b=>.int .u8 b.toNat else none
  |_=>none
 |_,_=>none
theorem Eo {P:Program}{t:TypeId}{u v w:Value}{Q:Value->aa->Prop}{F:aa}(h:o8 P t u v=some w)(a:Q w F):aU P (Instr.index t u v) Q F:=by
 unfold o8 at h;split at h
 case h_3=>cases h
 case h_2=>
  rename_i s k i;split at h
  case h_2=>cases h
  rename_i hu;split at h
  case isFalse=>cases h
  rename_i hi;obtain ⟨b,hb,rfl⟩:=Option.map_eq_some_iff.1 h;simp only[Instr.index,bq,kG,dn,hu,if_pos hi,hb,bF];exact a
 rename_i cs k i;split at h
 case h_2=>cases h
 rename_i len e he;have hu:P.underlying t=some (.array len e):=by
  unfold mX at he;split at he
  ·rename_i d f c;cases he;exact c
  ·cases he
 split at h
 ·rename_i s hs hg;split at h
  case isFalse=>cases h
  rename_i hi;cases h;simp only[Instr.index,bq,kG,dn,hu,dg,if_pos hi,eH,hs,part,lM,hg,if_true,bF];exact a
 ·rename_i s hs hg;split at h
  case isFalse=>cases h
  rename_i hi;simp only[Instr.index,bq,kG,dn,hu,dg,if_pos hi,eH,hs,part,lM,hg,Bool.false_eq_true,if_false,h,bF];exact a
 ·cases h
def lR (P:Program)(argTypes:Array TypeId)(s x:Value)(R:Value->aa->Prop)(F:aa):Prop:=
 ∀ty,aU P (Builtin.append_ argTypes ty #[s,x]) (fun v F=>∃F0,Le F0 F/\R v F0) F
def Oper.m3 (o:Oper):Bool:=match o.op with| .call {callee:=.builtin .append, ..}=>true|_=>false
def gy (P:Program)(J:Goroutine->aa->Prop)(y:Value)(args:Array Value)(F:aa)(R:Value->aa->Prop):Prop:=
 match y with
 | .func (.func fn) first captured=>aJ P fn=true/\cO P J fn (first++args++captured) F R
 | .func (.yield l) first captured=>first=#[]/\captured=#[]/\∃r,F.eW l=some (.loop r)/\args.size=r.params.size/\jk J l r.fn ((r.params.zip args).foldl (fun tmps (t,a)=>tmps.setIfInBounds t a) r.tmps) r.assign r.body F R
 |_=>False
theorem gy.mono {P:Program}{J:Goroutine->aa->Prop}{y:Value}{args:Array Value}{F:aa}{R a:Value->aa->Prop}(h:gy P J y args F R)(b:∀v F',R v F'->a v F'):gy P J y args F a:=by
 unfold gy at h ⊢;split at h
 ·exact ⟨h.1,h.2.mono b⟩
 ·obtain ⟨e1,e2,r,c,d,e⟩:=h;exact ⟨e1,e2,r,c,d,e.mono b⟩
 ·exact h.elim
theorem Ep {P:Program}{J:Goroutine->aa->Prop}{fn:FuncId}{first captured args:Array Value}{F:aa}{R:Value->aa->Prop}:gy P J (.func (.func fn) first captured) args F R=(aJ P fn=true/\cO P J fn (first++args++captured) F R):=rfl
def eP (P:Program)(m:Sem Value)(R:Value->aa->Prop)(F:aa):Prop:=aU P m R F
def cJ (P:Program)(J:Goroutine->aa->Prop)(o:Oper)(R:Value->aa->Prop)(a:Act)(F:aa):Prop:=
 match o.op with
 | .move x| .assign x=>R (ev a x) F
 | .nilCheck x=>match ev a x with
  | .pointer (some _)=>R (ev a x) F
  |_=>False
 | .pick c x y=>match ev a c with
  | .bool b=>R (if b then ev a x else ev a y) F
  |_=>False
 | .alloc t=>match zeroOf P t with
  |some z=>∀b,dO F b->R (.pointer (some ⟨b,0,none⟩)) (F.push b (.cells z.cells t))
  |none=>False
 | .box t x=>∀b,dO F b->R (.pointer (some ⟨b,0,none⟩)) (F.push b (.cells (ev a x).cells t))
 | .build t parts=>match o6 P t (parts.map fun (i,x)=>(i,ev a x)).toList with
  |some v=>R v F
  |none=>False
 | .buildSlice t len parts=>match ry P t len (parts.map fun (i,x)=>(i,ev a x)).toList with
  |some (e,cs)=>∀b,dO F b->R (.slice (some ⟨b,0,none⟩) len len) (F.push b (.cells cs e))
  |none=>False
 | .load t x=>match ev a x with
  | .pointer (some ad)=>match e8 P F t ad with
   |some v=>R v F
   |none=>False
  |_=>False
 | .store t x y=>match ev a x with
  | .pointer (some ad)=>match q9 P F t ad (ev a y) with
   |some F'=>R undef F'
   |none=>False
  |_=>False
 | .binOp op t x y _=>match o5 P op t (ev a x) (ev a y) with
  |some v=>R v F
  |none=>False
 | .unOp op _ x=>match lO op (ev a x) with
  |some v=>R v F
  |none=>False
 | .convert src dst x=>match lQ P src dst (ev a x) with
  |some v=>R v F
  |none=>False
 | .makeFunc fn first captured=>R (.func fn (first.map (ev a)) (captured.map (ev a))) F
 | .slice t x lo hi none=>(match ev a x with| .slice _ len cap=>len<=cap|_=>False)/\match mZ P t (ev a x) (lo.map (ev a)) (hi.map (ev a)) with
  |some v=>R v F
  |none=>False
 | .fieldAddr s x n=>match ev a x with
  | .pointer (some ad)=>match cL P s n with
   |some k=>R (.pointer (some (ad.add k))) F
   |none=>False
  |_=>False
 | .field s x n=>match o7 P s n (ev a x) with
  |some v=>R v F
  |none=>False
 | .indexAddr t x i=>match oY P t (ev a x) (ev a i) with
  |some v=>R v F
  |none=>False
 | .index t x i=>match o8 P t (ev a x) (ev a i) with
  |some v=>R v F
  |none=>False
 | .extract x n=>match rz n (ev a x) with
  |some v=>R v F
  |none=>False
 | .call {callee:=.value x,args, ..}=>gy P J (ev a x) (args.map (ev a)) F R
 | .call {callee:=.builtin .len,args,argTypes}=>match argTypes[0]?,args[0]? with
  |some t,some x=>match rA P t (ev a x) with
   |some v=>R v F
   |none=>eP P (Builtin.len_ argTypes o.type (args.map (ev a))) R F
  |_,_=>False
 | .makeMap t r=>eP P (Instr.makeMap t (r.map (ev a))) R F
 | .makeSlice t l c=>eP P (Instr.makeSlice t (ev a l) (ev a c)) R F
 | .mapUpdate t m k x=>eP P (Instr.mapUpdate t (ev a m) (ev a k) (ev a x)>>= fun _=>pure undef) R F
 | .call {callee:=.builtin .clear,args,argTypes}=>eP P (Builtin.clear_ argTypes o.type (args.map (ev a))) R F
 | .call {callee:=.builtin .cap,args,argTypes}=>eP P (Builtin.cap_ argTypes o.type (args.map (ev a))) R F
 | .call {callee:=.builtin .copy,args,argTypes}=>eP P (Builtin.copy_ argTypes o.type (args.map (ev a))) R F
 | .call {callee:=.builtin .append,args,argTypes}=>match args.toList with
  |[x,y]=>lR P argTypes (ev a x) (ev a y) R F
  |_=>False
 | .call {callee:=.builtin .max,args, ..}=>match args.toList with
  |[x,y]=>match rf (ev a x) (ev a y) with
   |some v=>R v F
   |none=>False
  |_=>False
 | .call {callee:=.builtin .min,args, ..}=>match args.toList with
  |[x,y]=>match ri (ev a x) (ev a y) with
   |some v=>R v F
   |none=>False
  |_=>False
 |_=>False
theorem ey (a:Act):a.eval=ev a:=rfl
theorem zJ {P:Program}{J:Goroutine->aa->Prop}{o:Oper}{R:Value->aa->Prop}{D:Deferred->aa->Prop}{a:Act}{F:aa}(C:Oper.m3 o=false)(h:cJ P J o R a F):aU P (execOp a.eval o) (fy P J R D) F:=by
 obtain ⟨dst,op,type,pos,after,guard⟩:=o;unfold execOp;simp only[ey];unfold cJ at h;simp only at h;cases op<;>simp only at h ⊢
 case move x=>exact h
 case assign x=>exact h
 case nilCheck x=>
  split at h
  ·rename_i ad g;simp only[g,bF,fy];rw[g] at h;exact h
  ·exact h.elim
 case pick c x y=>
  split at h
  ·rename_i b hb;simp only[bq,hb,D9,bF,fy];exact h
  ·exact h.elim
 case alloc t=>
  split at h
  ·rename_i z E;simp only[Instr.alloc,bq,lK,E,zx,bF,fy];exact h
  ·exact h.elim
 case box t x=>
  simp only[Instr.box,bq,zx,bF,fy];exact h
 case build t parts=>
  split at h
  ·rename_i v d;simp only[bq,bF];exact Ek d h
  ·exact h.elim
 case buildSlice t len parts=>
  split at h
  ·rename_i e cs d;simp only[bq,bF];exact El d h
  ·exact h.elim
 case load t x=>
  split at h
  case h_2=>exact h.elim
  rename_i ad q;split at h
  case h_2=>exact h.elim
  rename_i v d;simp only[Instr.loadAt,bq,q,q8,bF];exact zB d h
 case store t x y=>
  split at h
  case h_2=>exact h.elim
  rename_i ad q;split at h
  case h_2=>exact h.elim
  rename_i F' G;simp only[Instr.storeAt,bq,q,q8,bF];exact Ec G h
 case binOp op t x y X=>
  split at h
  case h_2=>exact h.elim
  rename_i v d;rw[iJ];exact Eh d h
 case unOp op t x=>
  split at h
  case h_2=>exact h.elim
  rename_i v d;rw[iJ];exact Ee d h
 case convert src dst x=>
  split at h
  case h_2=>exact h.elim
  rename_i v d;rw[iJ];exact En d h
 case makeFunc fn first captured=>
  simp only[Instr.makeFunc,bq,bF,fy];exact h
 case slice t x lo hi H=>
  cases H with
  |some m=>exact h.elim
  |none=>
   simp only at h;obtain ⟨u,h⟩:=h;split at h
   case h_2=>exact h.elim
   rename_i v d;rw[iJ];exact Eg (fun ad len cap e=>by rw[e] at u;exact u) d h
 case fieldAddr s x n=>
  split at h
  case h_2=>exact h.elim
  rename_i ad q;split at h
  case h_2=>exact h.elim
  rename_i k j;unfold cL at j;split at j
  case h_2=>cases j
  rename_i Y I;split at j
  case h_2=>cases j
  rename_i f w;split at j
  case h_2=>cases j
  rename_i m hm;cases j;rw[iJ];simp only[Instr.fieldAt,bq,dn,I,w,q,q8,fieldPlace,eH,hm];simpa [bF,fy] using h
 case field s x n=>
  split at h
  case h_2=>exact h.elim
  rename_i v d;rw[iJ];exact Em d h
 case indexAddr t x i=>
  split at h
  case h_2=>exact h.elim
  rename_i v d;rw[iJ];exact Ef d h
 case index t x i=>
  split at h
  case h_2=>exact h.elim
  rename_i v d;rw[iJ];exact Eo d h
 case extract x n=>
  split at h
  case h_2=>exact h.elim
  rename_i v d;rw[iJ];unfold rz at d;split at d
  ·rename_i Z K;simp only[K,Instr.extract,d];exact h
  ·cases d
 case makeMap t r=>
  rw[iJ];exact h
 case makeSlice t l c=>
  rw[iJ];exact h
 case mapUpdate t m k x=>
  unfold eP at h;rw[bq] at h;rw[bq];exact h
 case call c=>
  obtain ⟨callee,args,argTypes⟩:=c;cases callee with
  |value x=>
   simp only at h;unfold gy at h;split at h
   case h_3=>exact h.elim
   ·rename_i fn first captured g
    obtain ⟨p,L⟩:=h;unfold aJ at p;split at p
    case h_2=>cases p
    rename_i f w;simp only[Bool.not_eq_true',Bool.or_eq_false_iff] at p;simp only[resolve,g,Deferred.ofValue,bq,bF,invoke,callFunc,jN,w,p.1,p.2,Bool.false_eq_true,if_false,fy];exact L
   ·rename_i l first captured g
    obtain ⟨rfl,rfl,r,u,M,N⟩:=h;simp only[resolve,g,Deferred.ofValue,bq,bF,invoke,Instr.yield,Instr.getLoop,Array.append_empty,Array.empty_append,Array.map_map];refine ⟨_,u,?_⟩;have O:∀{α:Type} (x:α) (Q:α->aa->Prop) (F:aa),aU P (Sem.pure x) Q F=Q x F:=fun _ _ _=>rfl;simp only[bq,O,bF,dg,ne_eq,M,not_true_eq_false,if_false,fy];exact N
  |invoke r m=>exact h.elim
  |builtin b=>
   cases b<;>simp only at h
   case append=>simp[Oper.m3] at C
   case clear=>
    simp only[resolve,bq,bF,invoke,builtin];exact h
   case cap=>
    simp only[resolve,bq,bF,invoke,builtin];exact h
   case copy=>
    simp only[resolve,bq,bF,invoke,builtin];exact h
   case len=>
    split at h
    case h_2=>exact h.elim
    rename_i t x ht g;split at h
    case h_2=>
     simp only[resolve,bq,bF,invoke,builtin];exact h
    rename_i v d;unfold rA at d;split at d
    case h_2=>cases d
    rename_i ad n cap S;split at d
    case h_2=>cases d
    rename_i e T;have he:=uX T;cases d;have U:(args.map (ev a))[0]?=some (.slice ad n cap):=by simp[g,S]
    simp only[resolve,bq,bF,invoke,builtin,Builtin.len_,ht,U,dn,he];exact h
   case max=>
    split at h
    case h_2=>exact h.elim
    rename_i x y A;split at h
    case h_2=>exact h.elim
    rename_i v d;unfold rf at d;split at d
    case h_2=>cases d
    rename_i k V W y' g B;cases d;simp only[resolve,bq,bF,invoke,builtin,Builtin.max_,Array.toList_map,A,List.map_cons,List.map_nil,List.foldlM_cons,List.foldlM_nil,g,B,Builtin.max2,fy];exact h
   case min=>
    split at h
    case h_2=>exact h.elim
    rename_i x y A;split at h
    case h_2=>exact h.elim
    rename_i v d;unfold ri at d;split at d
    case h_2=>cases d
    rename_i k V W y' g B;cases d;simp only[resolve,bq,bF,invoke,builtin,Builtin.min_,Array.toList_map,A,List.map_cons,List.map_nil,List.foldlM_cons,List.foldlM_nil,g,B,Builtin.min2,fy];exact h
theorem kH {P:Program}{J:Goroutine->aa->Prop}{o:Oper}{R:Value->aa->Prop}{D:Deferred->aa->Prop}{a:Act}{F:aa}(h:cJ P J o R a F):aU P (execOp a.eval o) (jL P J R D) F:=
by
 cases b:Oper.m3 o with
 |false=>exact gL DU _ _ (zJ b h)
 |true=>
  obtain ⟨dst,op,type,pos,after,guard⟩:=o
  unfold Oper.m3 at b
  split at b
  ·rename_i callee args argTypes c
   simp only at c
   subst c
   unfold cJ at h
   simp only at h
   split at h
   case h_2=>exact h.elim
   rename_i x y d
   have e:args=#[x,y]:=by rw[<-Array.toList_inj];simpa using d
   subst e
   unfold execOp
   simp only[ey,resolve,bq,bF,invoke,builtin]
   have:=h type
   simpa [jL,fy,bq,bF] using this
  ·cases b
def cz (ops:Array Oper)(o:Oper)(a:Act):Option Bool:=
 match o.guard with
 |none=>some true
 |some (j,want)=>match (ops[j]?).bind (·.dst) with
  |some d=>match slot a d with
   | .bool b=>some (b==want)
   | .tuple _=>some false
   |_=>none
  |none=>none
theorem cg {ops:Array Oper}{o:Oper}{a:Act}{t:Bool}(h:cz ops o a=some t):Region.wanted o (yielded ops a.tmps)=t:=by
 unfold cz at h;unfold Region.wanted;split at h
 ·rename_i hg;rw[hg];cases h;rfl
 ·rename_i j want hg;rw[hg];split at h
  ·rename_i d hd;split at h
   ·rename_i b hb;cases h;have ht:a.tmps[d]?=some (.bool b):=by
     unfold slot at hb;rw[Array.getD_eq_getD_getElem?] at hb;cases c:a.tmps[d]? with
     |none=>rw[c] at hb;simp[undef] at hb
     |some v=>rw[c] at hb;simpa using hb
    simp only[yielded,hd,Option.bind_some,ht];cases b<;>cases want<;>rfl
   ·rename_i b hb;cases h;simp only[yielded,hd,Option.bind_some];unfold slot at hb;rw[Array.getD_eq_getD_getElem?] at hb;cases c:a.tmps[d]? with
    |none=>rfl
    |some v=>
     rw[c] at hb;simp at hb;subst hb;rfl
   ·cases h
  ·cases h
def Oper.calls (o:Oper):Bool:=match o.op with| .call {callee:=.value _, ..}=>true| .call {callee:=.builtin .append, ..}=>true| .call {callee:=.builtin .clear, ..}=>true| .call {callee:=.builtin .cap, ..}=>true| .call {callee:=.builtin .copy, ..}=>true| .makeMap ..=>true| .makeSlice ..=>true| .mapUpdate ..=>true|_=>false
def e9 (P:Program)(J:Goroutine->aa->Prop)(ops:Array Oper)(K:Act->aa->Prop):List Oper->Bool->Act->aa->Prop
 |[],_,a,F=>K a F
 |o::rest,_,a,F=>match cz ops o a with
  |some true=>cJ P J o (fun v F'=>e9 P J ops K rest (!Oper.calls o) (bg a o.dst v) F') a F
  |some false=>e9 P J ops K rest true (bg a o.dst undef) F
  |none=>False
theorem zK {P:Program}{J:Goroutine->aa->Prop}{ops:Array Oper}{K:Act->aa->Prop}{go:Bool}{a:Act}{F:aa}:e9 P J ops K [] go a F=K a F:=rfl
theorem zL {P:Program}{J:Goroutine->aa->Prop}{ops:Array Oper}{K:Act->aa->Prop}{o:Oper}{rest:List Oper}{a:Act}{F:aa}:e9 P J ops K (o::rest) true a F=match cz ops o a with
  |some true=>cJ P J o (fun v F'=>e9 P J ops K rest (!Oper.calls o) (bg a o.dst v) F') a F
  |some false=>e9 P J ops K rest true (bg a o.dst undef) F
  |none=>False:=(Eq.refl _).trans (Eq.refl _)
theorem aK {P:Program}{J:Goroutine->aa->Prop}{ops:Array Oper}{K:Act->aa->Prop}:∀{l:List Oper} {go:Bool} {a:Act} {F:aa},e9 P J ops K l true a F->e9 P J ops K l go a F
 |[],_,_,_,h=>h
 |_::_,_,_,_,h=>h
theorem u7 {P:Program}{J:Goroutine->aa->Prop}{ops:Array Oper}{K:Act->aa->Prop}:∀(l:List Oper) (k:Nat) (go:Bool) (a:Act) (F:aa),ops.toList.drop k=l->e9 P J ops K l go a F->
  fJ P J ops K (List.range' k l.length) a F
 |[],k,_,a,F,_,h=>h
 |o::rest,k,_,a,F,b,h=>by
  have d:ops[k]?=some o:=by
   have:=congrArg List.head? b
   simpa [List.head?_drop] using this
  have c:ops.toList.drop (k+1)=rest:=by
   have:=congrArg List.tail b
   simpa [List.tail_drop] using this
  simp only[List.length_cons,List.range'_succ]
  show dH P J ops k (fJ P J ops K (List.range' (k+1) rest.length)) a F
  unfold dH
  simp only[d]
  unfold e9 at h
  split at h
  ·rename_i hg
   rw[if_pos (cg hg)]
   exact gL (oT (fun v F' e=>u7 rest (k+1) _ _ F' c e) (fun _ _ x=>x)) _ _ (kH h)
  ·rename_i hg
   rw[if_neg (by rw[cg hg];simp)]
   exact u7 rest (k+1) _ _ F c h
  ·exact h.elim
theorem aj {P:Program}{main:Bool}{J:Goroutine->aa->Prop}{Q:Ex->Act->aa->Prop}{a:Act}{F:aa}(hJ:Closed P main J){id:Nat}{ops:Array Oper}(h:e9 P J ops (Q .normal) ops.toList true a F):Wp J (.region id ops false) Q a F:=by
 refine D2 hJ ?_;have:=u7 ops.toList 0 true a F (by simp) h;simpa [List.range_eq_range'] using this
theorem ah {P:Program}{main:Bool}{J:Goroutine->aa->Prop}{Q:Ex->Act->aa->Prop}{a:Act}{F:aa}(hJ:Closed P main J){id:Nat}{ops:Array Oper}{y:Code}(h:e9 P J ops (uE J y Q .normal) ops.toList true a F):Wp J (.seq (.region id ops false) y) Q a F:=af hJ (aj hJ h)
attribute [irreducible] e9
theorem m4 {P:Program}{J:Goroutine->aa->Prop}{ops:Array Oper}{Q:Act->aa->Prop}{S:aa->Prop}(i:Nat){b:Oper}(v:Value){fuel:Nat}{listed:Array Bool}{a:Act}{F:aa}(hi:ops[i]?=some b)
  (d:(Region.noSelect ops&&Region.free .any ops listed i&&(Region.ready .any ops listed).contains i)=true)
  (hg:cz ops b a=some true) (e:∀F R,S F->R v F->cJ P J b R a F) (c:S F)
  (h:dI P J ops Q S fuel (listed.setIfInBounds i true) (bg a b.dst v) F):dI P J ops Q S (fuel+1) listed a F:=
 zi i v hi d (.inl ⟨cg hg,fun F R c f=>kH (e F R c f)⟩) c h
theorem zM {P:Program}{J:Goroutine->aa->Prop}{ops:Array Oper}{Q:Act->aa->Prop}{S:aa->Prop}(i:Nat){b:Oper}{fuel:Nat}{listed:Array Bool}{a:Act}{F:aa}(hi:ops[i]?=some b)
  (c:(Region.noSelect ops&&Region.free .any ops listed i&&(Region.ready .any ops listed).contains i)=true)
  (hg:cz ops b a=some false) (d:S F)
  (h:dI P J ops Q S fuel (listed.setIfInBounds i true) (bg a b.dst undef) F):dI P J ops Q S (fuel+1) listed a F:=
 zi i undef hi c (.inr ⟨cg hg,rfl⟩) d h
theorem zN {P:Program}{J:Goroutine->aa->Prop}{ops:Array Oper}{Q:Act->aa->Prop}{S:aa->Prop}(i:Nat){b:Oper}{fuel:Nat}{listed:Array Bool}{a:Act}{F:aa}(hi:ops[i]?=some b)
  (c:Region.ready .any ops listed=[i]) (hg:cz ops b a=some true)
  (h:cJ P J b (fun v F'=>S F'/\dI P J ops Q S fuel (listed.setIfInBounds i true) (bg a b.dst v) F') a F):dI P J ops Q S (fuel+1) listed a F:=by
 refine DY i c ?_
 unfold dH
 simp only[hi]
 rw[if_pos (cg hg)]
 exact kH h
attribute [go_sem] List.isEmpty_nil List.isEmpty_cons undef zK zL Oper.calls Bool.not_true Bool.not_false cz cJ aa.push aa.get aa.put lk iH cellOf e8 q9 aa.dh aa.jo aa.lG bE frozenAt o5 lP o3 Option.isNone_none Option.isNone_some gx iK mY lO rf ri oY o8 mZ o7 rz lQ rA o6 ry
theorem add_zero' (a:Addr):a.add 0=a:=rfl
theorem kI (a:Addr)(m n:Nat):(a.add m).add n=a.add (m+n):=by
 unfold Addr.add;by_cases hm:m=0
 ·subst hm;simp
 ·by_cases b:n=0
  ·subst b;simp[hm]
  ·have:¬m+n=0:=by omega
   simp[hm,b,this,Nat.add_assoc]
theorem kJ (b o n:Nat):(⟨b,o,none⟩:Addr).add n=⟨b,o+n,none⟩:=by
 unfold Addr.add;by_cases a:n=0
 ·subst a;simp
 ·simp[a]
attribute [go_sem] add_zero' kI kJ Nat.add_assoc Int.reduceLE Int.reduceLT Int.reduceToNat Int.toNat_zero Int.le_refl
attribute [go_sem] Value.cells Instr.fill q3 g8 uG uE Ep
attribute [go_sem] and_true true_and Array.getD_eq_getD_getElem? List.getElem?_toArray List.getElem?_cons_zero List.getElem?_cons_succ List.getElem?_nil Option.getD_some Option.getD_none Option.bind_some Option.bind_none Option.map_some Option.map_none
attribute [go_sem] Nat.reduceLT Nat.reduceEqDiff Nat.reduceAdd Nat.reduceMul Nat.reduceSub if_true if_false reduceIte reduceCtorEq List.setIfInBounds_toArray List.set_cons_zero List.set_cons_succ
attribute [go_sem] List.map_toArray List.map_cons List.map_nil List.append_toArray List.cons_append List.nil_append List.append_nil Array.append_empty Array.empty_append List.toList_toArray List.length_cons List.length_nil List.size_toArray ne_eq not_true_eq_false not_false_eq_true forall_const
theorem eC {ro:Addr->Option Value}{own:List (Nat×Obj)}{b:Nat}(h:dO ⟨ro,own⟩ b):∀off sp,ro ⟨b,off,sp⟩=none:=h.ro
theorem fC {ro:Addr->Option Value}{own:List (Nat×Obj)}{b:Nat}(h:dO ⟨ro,own⟩ b):au own b:=h.own
def o9 (P:Program)(F:aa)(a:Act):ResultVar->Option Value
 | .tmp t=>some (slot a t)
 | .cell ad t=>match slot a ad with
  | .pointer (some p)=>e8 P F t p
  |_=>none
def lS (P:Program)(F:aa)(a:Act):List ResultVar->Option (List Value)
 |[]=>some []
 |r::rs=>match o9 P F a r with
  |some v=>match lS P F a rs with
   |some b=>some (v::b)
   |none=>none
  |none=>none
def lT (P:Program)(F:aa)(a:Act)(rs:List ResultVar):Option Value:=
 match lS P F a rs with
 |some [v]=>some v
 |some b=>some (.tuple b.toArray)
 |none=>none
attribute [go_sem] o9 lS lT
theorem u9 {P:Program}{F:aa}{a:Act}{Q:Array Value->aa->Prop}:∀(rs:List ResultVar) (d:List Value) (acc:Array Value),lS P F a rs=some d->Q (acc++d.toArray) F->
  aU P (rs.foldlM (fun (b:Array Value) r=>do let x<-(match r with| .tmp t=>pure (a.tmps.getD t undef)| .cell ad t=>do loadVar t (<-asAddr (a.tmps.getD ad undef)):Sem Value);pure (b.push x)) acc) Q F
 |[],d,acc,h,e=>by
  simp only[lS,Option.some.injEq] at h;subst h
  simpa [bF] using e
 |r::rs,d,acc,h,e=>by
  unfold lS at h
  split at h
  case h_2=>cases h
  rename_i v c
  split at h
  case h_2=>cases h
  rename_i ws i
  cases h
  have f:=u9 rs ws (acc.push v) i (Q:=Q) (by simpa using e)
  simp only[List.foldlM_cons,bq]
  cases r with
  |tmp t=>
   simp only[o9,Option.some.injEq,slot] at c
   subst c
   simpa only[bF] using f
  |cell ad t=>
   simp only[o9] at c
   split at c
   ·rename_i p g
    unfold slot at g
    simp only[bq,g,asAddr,bF]
    exact zB c f
   ·cases c
theorem rC {P:Program}{fn:Func}{rs:List ResultVar}{F:aa}{a:Act}{v:Value}{R:Value->aa->Prop}(d:fn.results=rs.toArray)(h:lT P F a rs=some v)(c:R v F):aU P (results fn a.tmps) R F:=by
 unfold results;rw[d,bq,Array.mapM_eq_foldlM,<-Array.foldlM_toList];unfold lT at h;split at h
 case h_3=>cases h
 ·rename_i x b;cases h;exact u9 rs [v] #[] b (by simpa [bF] using c)
 ·rename_i e f b;cases h;refine u9 rs e #[] b ?_;simp only[Array.empty_append,bF];split
  ·rename_i hs;simp at hs;obtain ⟨v,rfl⟩:=List.length_eq_one_iff.1 hs;exact absurd rfl (f v)
  ·exact c
def iL (P:Program)(rs:List ResultVar)(R:Value->aa->Prop):Ex->Act->aa->Prop
 | .exit _,_,_=>False
 |_,a,F=>a.defers=[]/\match lT P F a rs with|some v=>R v F|none=>False
attribute [go_sem] iL
theorem aD.go {P:Program}{f:FuncId}{fn:Func}{c:Code}{n:Nat}{rs:List ResultVar}{args:Array Value}{F:aa}{R:Value->aa->Prop}(g:P.funcs[f]?=some fn)(hb:fn.body=some c)(j:fn.ntmps=n)(k:fn.results=rs.toArray)(l:args.size<=n)
  (h:∀main J,Closed P main J->∀A:Act,sz A=n->A.defers=[]->(∀i,slot A i=args.getD i undef)->Wp J c (iL P rs R) A F):aD P f args F R:=
 aD.start g hb j l fun main J hJ A m o p=>(h main J hJ A m o p).mono fun e a F d=>by
  cases e with
  |exit i=>exact d
  |_=>
   obtain ⟨hd,b⟩:=d
   split at b
   ·rename_i v q
    show g8 P a.defers _ F
    rw[hd]
    exact rC k q b
   ·exact b.elim
def cP (n m:Nat):Array Bool:=(Array.range n).map fun i=>decide (i<m)
def pe (ops:Array Oper)(m:Nat):Bool:=
 Region.noSelect ops&&decide (m<=ops.size)&&((List.range m).all fun i=>Region.free .any ops (cP ops.size i) i&&(Region.ready .any ops (cP ops.size i)).contains i)&&
 ((List.range (ops.size - m)).all fun j=>decide (Region.ready .any ops (cP ops.size (m+j))=[m+j]))&&decide (Region.ready .any ops (cP ops.size ops.size)=[])
def Er (D:List Nat)(L:List (List Nat))(x y:Nat):Bool:=RegionTabs.apart ⟨#[],D.toArray,L.toArray⟩ x y
def vb (A:List (List Nat))(D:List Nat)(L:List (List Nat))(n m:Nat):Bool:=
 decide (m<=n)&&((List.range m).all fun k=>(A.getD k []).all (fun x=>decide (x<k))&&(List.range n).all fun j=>decide (j<=k)||(A.getD j []).contains k||Er D L k j)&&
 ((List.range (n - m)).all fun t=>(A.getD (m+t) []).all (fun x=>decide (x<m+t))&&(List.range (n - (m+t+1))).all fun u=>!(A.getD (m+t+1+u) []).all (fun x=>decide (x<m+t)))
section
variable {ops : Array Oper}
theorem zO {n k i:Nat}(h:i<n):(cP n k).getD i true=decide (i<k):=by
 simp[cP,Array.getD_eq_getD_getElem?,h]
theorem Es {n k i:Nat}(a:k<=n):(cP n k).getD i false=decide (i<k):=by
 rcases Nat.lt_or_ge i n with h|h
 ·simp[cP,Array.getD_eq_getD_getElem?,h]
 ·have:¬i<k:=by omega
  simp[cP,Array.getD_eq_getD_getElem?,Array.getElem?_eq_none,h,this]
theorem vc {A:List (List Nat)}{k:Nat}(a:Region.tabAfter .any ops=A)(b:k<=ops.size):
  Region.ready .any ops (cP ops.size k)=(List.range ops.size).filter fun i=>!decide (i<k)&&(A.getD i []).all fun x=>decide (x<k):=by
 have hlen:A.length=ops.size:=by rw[<-a];simp[Region.tabAfter]
 rw[<-RegionTabs.ready_eq]
 unfold RegionTabs.ready RegionTabs.of
 simp only[a,List.size_toArray,hlen]
 apply List.filter_congr
 intro i hi
 have c:i<ops.size:=List.mem_range.1 hi
 rw[zO c]
 congr 1
 rw[List.getElem?_toArray,List.getD_eq_getElem?_getD,List.getElem?_eq_getElem (by omega)]
 simp only[Option.map_some,Option.getD_some]
 congr 1
 funext x
 exact Es b
theorem filter_one {k:Nat}{p:Nat->Bool}(b:p k=true):∀(n:Nat),k<n->(∀i,i<n->i≠k->p i=false)->(List.range n).filter p=[k]
 |0,c,_=>by omega
 |n+1,c,a=>by
  rw[List.range_succ,List.filter_append]
  by_cases e:k=n
  ·subst e
   have:(List.range k).filter p=[]:=by
    rw[List.filter_eq_nil_iff]
    intro i hi
    have d:=List.mem_range.1 hi
    rw[a i (by omega) (by omega)];simp
   rw[this];simp[b]
  ·rw[filter_one b n (by omega) fun i hi=>a i (by omega)]
   simp[a n (by omega) (fun x=>e x.symm)]
theorem Et {m n:Nat}(A:List (List Nat))(D:List Nat)(L:List (List Nat))(hs:Region.noSelect ops=true)(f:ops.size=n)(a:Region.tabAfter .any ops=A)(g:Region.tabDst ops=D)(k:Region.tabLooks ops=L)(h:vb A D L n m=true):pe ops m=true:=by
 subst f;have hlen:A.length=ops.size:=by rw[<-a];simp[Region.tabAfter]
 simp only[vb,Bool.and_eq_true,decide_eq_true_eq,List.all_eq_true,List.mem_range] at h;obtain ⟨⟨hm,c⟩,d⟩:=h;simp only[pe,Bool.and_eq_true,decide_eq_true_eq,List.all_eq_true,List.mem_range];refine ⟨⟨⟨⟨hs,hm⟩,fun i hi=>⟨?_,?_⟩⟩,fun j b=>?_⟩,?_⟩
 ·rw[<-RegionTabs.free_eq];unfold RegionTabs.free;have e1:(RegionTabs.of .any ops).after=A.toArray:=by simp[RegionTabs.of,a]
  rw[e1,List.size_toArray,hlen];simp only[Bool.and_eq_true,decide_eq_true_eq,List.all_eq_true,List.mem_range];refine ⟨by omega,fun j b=>?_⟩;have:=(c i hi).2 j b;simp only[Bool.or_eq_true,decide_eq_true_eq] at this;simp only[Bool.or_eq_true];rcases this with (hle|l)|o
  ·rcases Nat.lt_or_eq_of_le hle with x|x
   ·left;left;right;rw[zO (by omega)];simpa using x
   ·left;left;left;simpa using x
  ·left;right;simpa [Array.getD_eq_getD_getElem?,List.getD_eq_getElem?_getD] using l
  ·right;have e:RegionTabs.of .any ops=⟨A.toArray,D.toArray,L.toArray⟩:=by simp[RegionTabs.of,a,g,k]
   rw[e];exact o
 ·rw[vc a (by omega)];rw[List.contains_iff_mem,List.mem_filter];refine ⟨List.mem_range.2 (by omega),?_⟩;have:=(c i hi).1;simpa [List.all_eq_true] using this
 ·have p:m+j<ops.size:=by omega
  rw[vc a (by omega)];refine filter_one ?_ _ p fun i hi aF=>?_
  ·have:=(d j b).1;simpa [List.all_eq_true] using this
  ·rcases Nat.lt_or_ge i (m+j) with x|x
   ·simp[x]
   ·have:=(d j b).2 (i - (m+j+1)) (by omega);rw[show m+j+1+(i - (m+j+1))=i by omega] at this;simp only[Bool.not_eq_true'] at this;simp only[this,Bool.and_false]
 ·rw[vc a (Nat.le_refl _)];rw[List.filter_eq_nil_iff];intro i hi;have:=List.mem_range.1 hi;simp[this]
def ve (n:Nat)(k:Nat->Bool):Bool:=Nat.casesOn n (k 0) fun m=>k (m+1)
def pg:List Nat->(List Nat->Bool)->Bool
 |[],k=>k []
 |x::xs,k=>ve x fun y=>pg xs fun ys=>k (y::ys)
def pn:List (List Nat)->(List (List Nat)->Bool)->Bool
 |[],k=>k []
 |x::xs,k=>pg x fun y=>pn xs fun ys=>k (y::ys)
theorem zP (n:Nat)(k:Nat->Bool):ve n k=k n:=by cases n<;>rfl
theorem vf:∀(l:List Nat) (k:List Nat->Bool),pg l k=k l
 |[],_=>rfl
 |x::xs,k=>by rw[pg,zP,vf xs]
theorem zQ:∀(l:List (List Nat)) (k:List (List Nat)->Bool),pn l k=k l
 |[],_=>rfl
 |x::xs,k=>by rw[pn,vf,zQ xs]
def m5 (ops:Array Oper)(m:Nat):Bool:=Region.noSelect ops&&pn (Region.tabAfter .any ops) fun A=>pg (Region.tabDst ops) fun D=>pn (Region.tabLooks ops) fun L=>ve ops.size fun n=>vb A D L n m
theorem zR {m:Nat}(h:m5 ops m=true):pe ops m=true:=by
 simp only[m5,Bool.and_eq_true,zQ,vf,zP] at h;exact Et _ _ _ h.1 rfl rfl rfl rfl h.2
end
def iM:List (Nat×Obj)->List (Nat×Obj)->Prop
 |[],_=>True
 |(b,o)::l,own=>lk own b=some o/\iM l own
def Knows (F0 F:aa):Prop:=(∀a v,F0.ro a=some v->F.ro a=some v)/\(∀a,a.block∈keys F0.own->F0.ro a=none->F.ro a=none)/\iM F0.own F.own
theorem iM.lk:∀{l own:List (Nat×Obj)} {b:Nat} {o:Obj},iM l own->lk l b=some o->Go.Sep.lk own b=some o
 |[],_,_,_,_,h=>by cases h
 |(c,x)::l,own,b,o,a,h=>by
  unfold Go.Sep.lk at h
  split at h
  ·rename_i e;cases h;exact e▸a.1
  ·exact iM.lk a.2 h
theorem Knows.get {F0 F:aa}(h:Knows F0 F){a:Addr}{v:Value}(hg:F0.get a=some v):F.get a=some v:=by
 unfold aa.get at hg ⊢;cases b:F0.ro a with
 |some x=>rw[b] at hg;rw[h.1 a x b];exact hg
 |none=>
  rw[b] at hg;simp only at hg;split at hg
  ·rename_i hs;obtain ⟨o,c,d⟩:=Option.bind_eq_some_iff.1 hg;rw[h.2.1 a (eO (gI c)) b];simp only;rw[if_pos hs,h.2.2.lk c];exact d
  ·cases hg
theorem Eu {ro:Addr->Option Value}{l own:List (Nat×Obj)}:Knows ⟨ro,l⟩ ⟨ro,own⟩=iM l own:=
 propext ⟨fun h=>h.2.2,fun h=>⟨fun _ _ x=>x,fun _ _ x=>x,h⟩⟩
theorem Ev {ro aM:Addr->Option Value}{l own:List (Nat×Obj)}(c:∀a v,ro a=some v->aM a=some v)(d:∀b∈keys l,∀off sp,aM ⟨b,off,sp⟩=none)(h:iM l own):Knows ⟨ro,l⟩ ⟨aM,own⟩:=
 ⟨c,fun a e _=>d a.block e a.off a.spot,h⟩
theorem Knows.lN {F0 F:aa}(h:Knows F0 F){a:Addr}:∀{n i:Nat} {b:List Value},F0.dh a i n=some b->F.dh a i n=some b
 |0,_,_,hg=>hg
 |n+1,i,b,hg=>by
  unfold aa.dh at hg ⊢
  split at hg
  case h_2=>cases hg
  rename_i v c
  split at hg
  case h_2=>cases hg
  rename_i ws d
  rw[h.get c,h.lN d]
  exact hg
theorem Knows.e8 {P:Program}{F0 F:aa}(h:Knows F0 F){t:TypeId}{ad:Addr}{v:Value}(hg:e8 P F0 t ad=some v):Go.Sep.e8 P F t ad=some v:=by
 unfold Go.Sep.e8 at hg ⊢;split at hg
 ·exact h.get hg
 ·split at hg
  case h_2=>cases hg
  rename_i n b;split at hg
  case h_2=>cases hg
  rename_i c a;rw[h.lN a];exact hg
 ·cases hg
def iN (P:Program)(o:Oper)(a:Act):Option Value:=
 match o.op with
 | .move x| .assign x=>some (ev a x)
 | .nilCheck x=>match ev a x with
  | .pointer (some ad)=>some (.pointer (some ad))
  |_=>none
 | .pick c x y=>match ev a c with
  | .bool b=>some (if b then ev a x else ev a y)
  |_=>none
 | .build t parts=>o6 P t (parts.map fun (i,x)=>(i,ev a x)).toList
 | .binOp op t x y _=>o5 P op t (ev a x) (ev a y)
 | .unOp op _ x=>lO op (ev a x)
 | .convert src dst x=>lQ P src dst (ev a x)
 | .makeFunc fn first captured=>some (.func fn (first.map (ev a)) (captured.map (ev a)))
 | .slice t x lo hi none=>match ev a x with
  | .slice ad len cap=>if len<=cap then mZ P t (.slice ad len cap) (lo.map (ev a)) (hi.map (ev a)) else none
  |_=>none
 | .fieldAddr s x n=>match ev a x with
  | .pointer (some ad)=>match cL P s n with
   |some k=>some (.pointer (some (ad.add k)))
   |none=>none
  |_=>none
 | .field s x n=>o7 P s n (ev a x)
 | .indexAddr t x i=>oY P t (ev a x) (ev a i)
 | .index t x i=>o8 P t (ev a x) (ev a i)
 | .extract x n=>rz n (ev a x)
 | .call {callee:=.builtin .len,args,argTypes}=>match argTypes[0]?,args[0]? with
  |some t,some x=>rA P t (ev a x)
  |_,_=>none
 | .call {callee:=.builtin .max,args, ..}=>match args.toList with
  |[x,y]=>rf (ev a x) (ev a y)
  |_=>none
 | .call {callee:=.builtin .min,args, ..}=>match args.toList with
  |[x,y]=>ri (ev a x) (ev a y)
  |_=>none
 |_=>none
theorem rD {P:Program}{J:Goroutine->aa->Prop}{o:Oper}{a:Act}{v:Value}{R:Value->aa->Prop}{F:aa}(h:iN P o a=some v)(d:R v F):cJ P J o R a F:=by
 obtain ⟨dst,op,type,pos,after,guard⟩:=o;unfold iN at h;unfold cJ;cases op<;>simp only[reduceCtorEq] at h ⊢
 case move x=>cases h;exact d
 case assign x=>cases h;exact d
 case nilCheck x=>
  split at h
  ·rename_i ad e;cases h;rw[e];exact d
  ·cases h
 case pick c x y=>
  split at h
  ·rename_i b hb;cases h;try rw[hb]
   exact d
  ·cases h
 case build t parts=>rw[h];exact d
 case binOp=>rw[h];exact d
 case unOp=>rw[h];exact d
 case convert=>rw[h];exact d
 case makeFunc=>cases h;exact d
 case slice t x lo hi g=>
  cases g with
  |some m=>cases h
  |none=>
   simp only at h ⊢;split at h
   case h_2=>cases h
   rename_i ad len cap e;split at h
   case isFalse=>cases h
   rename_i i;rw[e];exact ⟨i,by rw[h];exact d⟩
 case fieldAddr s x n=>
  split at h
  case h_2=>cases h
  rename_i ad e;split at h
  case h_2=>cases h
  rename_i k j;cases h;try rw[e]
  try simp only[j]
  exact d
 case field=>rw[h];exact d
 case indexAddr=>rw[h];exact d
 case index=>rw[h];exact d
 case extract=>rw[h];exact d
 case call c=>
  obtain ⟨callee,args,argTypes⟩:=c;cases callee with
  |value x=>cases h
  |invoke r m=>cases h
  |builtin b=>
   cases b<;>simp only[reduceCtorEq] at h ⊢
   case len=>
    split at h
    case h_2=>cases h
    rename_i t x ht e;simp only[ht,e,h];exact d
   case max=>
    split at h
    case h_2=>cases h
    rename_i x y f;simp only[f,h];exact d
   case min=>
    split at h
    case h_2=>cases h
    rename_i x y f;simp only[f,h];exact d
def Plain (P:Program)(J:Goroutine->aa->Prop)(F0:aa)(f:FuncId)(args:Array Value)(v:Value):Prop:=
 ∀F,Knows F0 F->cO P J f args F (fun a F'=>a=v/\F'=F)
def dY (P:Program)(J:Goroutine->aa->Prop)(ops:Array Oper)(F0:aa)(K:Act->Prop):List Oper->Bool->Act->Prop
 |[],_,a=>K a
 |o::rest,_,a=>match cz ops o a with
  |some false=>dY P J ops F0 K rest true (bg a o.dst undef)
  |some true=>match o.op with
   | .load t x=>match ev a x with
    | .pointer (some ad)=>match e8 P F0 t ad with
     |some v=>dY P J ops F0 K rest true (bg a o.dst v)
     |none=>False
    |_=>False
   | .call {callee:=.value x,args, ..}=>match ev a x with
    | .func (.func fn) first captured=>aJ P fn=true/\∃v,Plain P J F0 fn (first++args.map (ev a)++captured) v/\dY P J ops F0 K rest false (bg a o.dst v)
    |_=>False
   |_=>match iN P o a with
    |some v=>dY P J ops F0 K rest true (bg a o.dst v)
    |none=>False
  |none=>False
theorem Ew {P:Program}{J:Goroutine->aa->Prop}{ops:Array Oper}{F0:aa}{K:Act->Prop}{go:Bool}{a:Act}:dY P J ops F0 K [] go a=K a:=rfl
theorem Ey {P:Program}{J:Goroutine->aa->Prop}{ops:Array Oper}{F0:aa}{K:Act->Prop}{o:Oper}{rest:List Oper}{a:Act}:dY P J ops F0 K (o::rest) true a=match cz ops o a with
  |some false=>dY P J ops F0 K rest true (bg a o.dst undef)
  |some true=>match o.op with
   | .load t x=>match ev a x with
    | .pointer (some ad)=>match e8 P F0 t ad with
     |some v=>dY P J ops F0 K rest true (bg a o.dst v)
     |none=>False
    |_=>False
   | .call {callee:=.value x,args, ..}=>match ev a x with
    | .func (.func fn) first captured=>aJ P fn=true/\∃v,Plain P J F0 fn (first++args.map (ev a)++captured) v/\dY P J ops F0 K rest false (bg a o.dst v)
    |_=>False
   |_=>match iN P o a with
    |some v=>dY P J ops F0 K rest true (bg a o.dst v)
    |none=>False
  |none=>False:=(Eq.refl _).trans (Eq.refl _)
theorem b9 {P:Program}{J:Goroutine->aa->Prop}{ops:Array Oper}{F0:aa}{K:Act->Prop}:∀{l:List Oper} {go:Bool} {a:Act},dY P J ops F0 K l true a->dY P J ops F0 K l go a
 |[],_,_,h=>h
 |_::_,_,_,h=>h
theorem rE {n m:Nat}(h:m<n):(cP n m).setIfInBounds m true=cP n (m+1):=by
 apply Array.ext
 ·simp[cP]
 ·intro i a b;simp[cP] at a b;rw[Array.getElem_setIfInBounds (by simp[cP];omega)];by_cases e:m=i
  ·subst e;simp[cP]
  ·simp only[if_neg e,cP,Array.getElem_map,Array.getElem_range];rw[decide_eq_decide];omega
theorem zS (n:Nat):cP n 0=Array.replicate n false:=by
 apply Array.ext
 ·simp[cP]
 ·intro i a b;simp[cP]
section
variable {P : Program} {main : Bool} {J : Goroutine → aa → Prop} {ops : Array Oper} {Q : Act → aa → Prop} {F0 : aa}
theorem rF {K:Act->Prop}(m:Nat)(hm:m<=ops.size)(r:Region.noSelect ops=true)(s:∀i,i<m->(Region.free .any ops (cP ops.size i) i&&(Region.ready .any ops (cP ops.size i)).contains i)=true)
  {F:aa} (b:Knows F0 F) (u:∀a,K a->dI P J ops Q (Knows F0) (ops.size - m) (cP ops.size m) a F):
  ∀(l:List Oper) (k:Nat) (go:Bool) (a:Act),(ops.toList.take m).drop k=l->k<=m->dY P J ops F0 K l go a->dI P J ops Q (Knows F0) (ops.size - k) (cP ops.size k) a F
 |[],k,_,a,c,A,h=>by
  have:k=m:=by
   have:=congrArg List.length c
   simp at this
   omega
  subst this
  exact u a h
 |o::rest,k,_,a,c,A,h=>by
  have g:k<m:=by
   rcases Nat.lt_or_ge k m with x|x
   ·exact x
   ·rw[List.drop_eq_nil_of_le (by simp;omega)] at c;cases c
  have j:ops[k]?=some o:=by
   have:=congrArg List.head? c
   rw[List.head?_drop,List.getElem?_take_of_lt g] at this
   simpa using this
  have y:(ops.toList.take m).drop (k+1)=rest:=by
   have:=congrArg List.tail c
   simpa [List.tail_drop] using this
  have B:=s k g
  have e:ops.size - k=(ops.size - (k+1))+1:=by omega
  have z:=rE (n:=ops.size) (m:=k) (by omega)
  have p:(Region.noSelect ops&&Region.free .any ops (cP ops.size k) k&&(Region.ready .any ops (cP ops.size k)).contains k)=true:=by
   rw[r,Bool.true_and];exact B
  rw[e]
  unfold dY at h
  split at h
  ·rename_i hg
   exact zM k j p hg b (by rw[z];exact rF m hm r s b u rest (k+1) _ _ y g h)
  ·rename_i hg
   have next:∀go v,dY P J ops F0 K rest go (bg a o.dst v)->dI P J ops Q (Knows F0) (ops.size - (k+1)) ((cP ops.size k).setIfInBounds k true) (bg a o.dst v) F:=fun go v d=>by
    rw[z];exact rF m hm r s b u rest (k+1) _ _ y g d
   split at h
   ·rename_i t x w
    split at h
    case h_2=>exact h.elim
    rename_i ad C
    split at h
    case h_2=>exact h.elim
    rename_i v d
    refine m4 k v j p hg (fun F R q f=>?_) b (next _ v h)
    unfold cJ
    simp only[w,C,q.e8 d]
    exact f
   ·rename_i x args argTypes w
    split at h
    case h_2=>exact h.elim
    rename_i fn first captured D
    obtain ⟨E,v,G,h⟩:=h
    refine m4 k v j p hg (fun F R q f=>?_) b (next _ v h)
    unfold cJ
    simp only[w,D]
    exact ⟨E,(G F q).mono fun I F' H=>by obtain ⟨rfl,rfl⟩:=H;exact f⟩
   ·split at h
    case h_2=>exact h.elim
    rename_i v d
    exact m4 k v j p hg (fun F R q f=>rD d f) b (next _ v h)
  ·exact h.elim
def eD (P:Program)(J:Goroutine->aa->Prop)(ops:Array Oper)(F0:aa)(Q:Act->aa->Prop):List Oper->Bool->Act->aa->Prop
 |[],_,a,F=>Q a F
 |o::rest,_,a,F=>match cz ops o a with
  |some true=>cJ P J o (fun v F'=>Knows F0 F'/\eD P J ops F0 Q rest (!Oper.calls o) (bg a o.dst v) F') a F
  |_=>False
theorem Ez {P:Program}{J:Goroutine->aa->Prop}{ops:Array Oper}{F0:aa}{Q:Act->aa->Prop}{go:Bool}{a:Act}{F:aa}:eD P J ops F0 Q [] go a F=Q a F:=rfl
theorem EA {P:Program}{J:Goroutine->aa->Prop}{ops:Array Oper}{F0:aa}{Q:Act->aa->Prop}{o:Oper}{rest:List Oper}{a:Act}{F:aa}:eD P J ops F0 Q (o::rest) true a F=match cz ops o a with
  |some true=>cJ P J o (fun v F'=>Knows F0 F'/\eD P J ops F0 Q rest (!Oper.calls o) (bg a o.dst v) F') a F
  |_=>False:=(Eq.refl _).trans (Eq.refl _)
theorem lU {P:Program}{J:Goroutine->aa->Prop}{ops:Array Oper}{F0:aa}{Q:Act->aa->Prop}:∀{l:List Oper} {go:Bool} {a:Act} {F:aa},eD P J ops F0 Q l true a F->eD P J ops F0 Q l go a F
 |[],_,_,_,h=>h
 |_::_,_,_,_,h=>h
theorem lV (m:Nat)(i:∀j,j<ops.size - m->Region.ready .any ops (cP ops.size (m+j))=[m+j])(n:Region.ready .any ops (cP ops.size ops.size)=[]):
  ∀(l:List Oper) (k:Nat) (go:Bool) (a:Act) (F:aa),m<=k->k<=ops.size->ops.toList.drop k=l->eD P J ops F0 Q l go a F->dI P J ops Q (Knows F0) (ops.size - k) (cP ops.size k) a F
 |[],k,_,a,F,s,u,f,h=>by
  have:k=ops.size:=by
   have:=congrArg List.length f
   simp at this
   omega
  subst this
  exact zj n h _
 |o::rest,k,_,a,F,s,u,f,h=>by
  have w:k<ops.size:=by
   rcases Nat.lt_or_ge k ops.size with x|x
   ·exact x
   ·rw[List.drop_eq_nil_of_le (by simpa using x)] at f;cases f
  have y:ops[k]?=some o:=by
   have:=congrArg List.head? f
   simpa [List.head?_drop] using this
  have z:ops.toList.drop (k+1)=rest:=by
   have:=congrArg List.tail f
   simpa [List.tail_drop] using this
  have e:ops.size - k=(ops.size - (k+1))+1:=by omega
  have p:=i (k - m) (by omega)
  rw[show m+(k - m)=k by omega] at p
  rw[e]
  unfold eD at h
  split at h
  ·rename_i hg
   refine zN k y p hg ?_
   refine rG ?_ h
   rintro v F' ⟨A,g⟩
   refine ⟨A,?_⟩
   rw[rE w]
   exact lV m i n rest (k+1) _ _ F' (by omega) (by omega) z g
  ·exact h.elim
where
 rG {o:Oper} {a:Act} {F:aa} {R q:Value->aa->Prop} (d:∀v F,R v F->q v F) (h:cJ P J o R a F):cJ P J o q a F:=by
  obtain ⟨dst,op,type,pos,after,guard⟩:=o
  unfold cJ at h ⊢
  cases op<;>simp only at h ⊢<;>first
   |exact h.elim
   |exact d _ _ h
   |exact fun b hb=>d _ _ (h b hb)
   |exact gL (fun v F h=>d v F h) _ _ h
   |(split at h<;>first
     |exact h.elim
     |exact d _ _ h
     |exact fun b hb=>d _ _ (h b hb)
     |(split at h<;>first|exact h.elim|exact d _ _ h|exact fun b hb=>d _ _ (h b hb)))
   |skip
  case slice t x lo hi B=>
   cases B with
   |some m=>exact h.elim
   |none=>
    refine ⟨h.1,?_⟩
    have g:=h.2
    revert g
    cases mZ P t (ev a x) (lo.map (ev a)) (hi.map (ev a)) with
    |some v=>exact fun x=>d _ _ x
    |none=>exact fun x=>x
  case call c=>
   obtain ⟨callee,args,argTypes⟩:=c
   cases callee with
   |value x=>
    exact gy.mono h d
   |invoke r m=>exact h.elim
   |builtin b=>
    cases b<;>simp only at h ⊢<;>first
     |exact h.elim
     |(split at h<;>first|exact h.elim|exact fun ty=>gL (fun v F ⟨F0,hle,h⟩=>⟨F0,hle,d _ _ h⟩) _ _ (h ty))
     |exact gL (fun v F h=>d v F h) _ _ h
     |(split at h<;>first|exact h.elim|(split at h<;>first|exact h.elim|exact d _ _ h|exact gL (fun v F h=>d v F h) _ _ h))
theorem fc {Q:Ex->Act->aa->Prop}(hJ:Closed P main J)(e:P.follows .mixedOrders=true)(m:Nat){id:Nat}{a:Act}{F:aa}(F0:aa)(f:Knows F0 F)(g:m5 ops m=true)
  (h:dY P J ops F0 (fun b=>eD P J ops F0 (Q .normal) (ops.toList.drop m) true b F) (ops.toList.take m) true a):Wp J (.region id ops true) Q a F:=by
 have c:=zR g
 simp only[pe,Bool.and_eq_true,decide_eq_true_eq,List.all_eq_true,List.mem_range] at c
 obtain ⟨⟨⟨⟨j,d⟩,k⟩,l⟩,n⟩:=c
 refine uI hJ (Knows F0) e ?_
 rw[<-zS]
 have:=rF (P:=P) (J:=J) (Q:=Q .normal) m d j (fun i hi=>by have:=k i hi;simpa using this) f (fun b o=>lV m l n _ m _ b F (Nat.le_refl _) d rfl o) _ 0 true a (by simp) (Nat.zero_le _) h
 simpa using this
theorem bD (hJ:Closed P main J){F0:aa}{f:FuncId}{args:Array Value}{v:Value}(h:∀F,Knows F0 F->aD P f args F.cr (fun a _=>a=v)):Plain P J F0 f args v:=
 fun F b=>uL (h F b) main J hJ
end
attribute [irreducible] dY eD
attribute [go_sem] iM Eu iN Ew Ey Ez EA q2 List.take_succ_cons List.take_zero List.drop_succ_cons List.drop_zero Array.zipIdx_toArray List.zipIdx_cons List.zipIdx_nil List.foldl_toArray List.foldl_toArray' decide_eq_true_eq Bool.and_false Bool.false_and Bool.and_self Bool.true_and Bool.and_true List.foldl_cons List.foldl_nil decide_false decide_true Bool.or_false Bool.false_or Bool.or_self Bool.or_true Bool.true_or gt_iff_lt Nat.reduceGT Nat.lt_irrefl Bool.false_eq_true Nat.zero_add Nat.add_zero Nat.not_lt_zero
section
variable {P : Program} {main : Bool} {J : Goroutine → aa → Prop} {Q : Ex → Act → aa → Prop} {a : Act} {F : aa}
theorem bn (hJ:Closed P main J){f:FuncId}{args:Array Value}{F:aa}{K:Value->aa->Prop}(v:Value)(h:aD P f args F.cr (fun a _=>a=v))(b:K v F):cO P J f args F K:=
 (uL h main J hJ).mono fun a F' c=>by obtain ⟨rfl,rfl⟩:=c;exact b
theorem bP (hJ:Closed P main J){c:Operand}{x y:Code}(b:ev a c= .bool true)(h:Wp J x Q a F):Wp J (.cond c x y) Q a F:=uF hJ true b h
theorem bM (hJ:Closed P main J){c:Operand}{x y:Code}(b:ev a c= .bool false)(h:Wp J y Q a F):Wp J (.cond c x y) Q a F:=uF hJ false b h
theorem EB (hJ:Closed P main J){c:Operand}{x y:Code}(b:Bool)(d:ev a c= .bool b)(e:b=true->Wp J x Q a F)(f:b=false->Wp J y Q a F):Wp J (.cond c x y) Q a F:=by
 refine uF hJ b d ?_;cases b
 ·exact f rfl
 ·exact e rfl
theorem cG (hJ:Closed P main J){c:Code}{F':aa}(hle:Le F F')(h:Wp J c Q a F):Wp J c Q a F':=h.le (hJ:=hJ) hle
theorem Le.sub {ro:Addr->Option Value}{l l':List (Nat×Obj)}(h:l.Sublist l'):Le ⟨ro,l⟩ ⟨ro,l'⟩:=by
 have c:(keys l).Sublist (keys l'):=h.map _;exact ⟨fun w hw=>⟨hw.ro,fun b o hb=>hw.own b o (h.subset hb),c.nodup hw.nodup,fun a v d hm=>hw.apart a v d (c.subset hm)⟩,fun b hb=>c.subset hb,fun a e=>.inl e⟩
theorem vg (hJ:Closed P main J){c:Code}(I:Nat->Act->aa->Prop)(n:Nat)(b:I n a F)(hs:∀n a F,I n a F->Wp J c (q2 (fun m a F=>∃F0,Le F0 F/\I m a F0) n Q) a F):Wp J (.loop c) Q a F:=
 zm hJ (fun m a F=>∃F0,Le F0 F/\I m a F0) n ⟨F,Le.refl F,b⟩ fun n a F ⟨F0,hle,d⟩=>cG hJ hle (hs n a F0 d)
end
def jQ:List Nat->Nat->Bool
 |[],_=>false
 |w::ws,i=>i==w||jQ ws i
abbrev In (ws:List Nat)(i:Nat):Prop:=jQ ws i=true
structure cE (ws:List Nat)(a a0:Act):Prop where
 size:sz a=sz a0
 defers:a.defers=a0.defers
 fe:∀i,¬In ws i->slot a i=slot a0 i
theorem cE.refl (ws:List Nat)(a:Act):cE ws a a:=⟨rfl,rfl,fun _ _=>rfl⟩
theorem cE.trans {ws:List Nat}{a b c:Act}(h:cE ws a b)(k:cE ws b c):cE ws a c:=⟨h.size.trans k.size,h.defers.trans k.defers,fun i hi=>(h.fe i hi).trans (k.fe i hi)⟩
theorem cE.sub {ws c:List Nat}{a b:Act}(hs:∀i,In ws i->In c i)(h:cE ws a b):cE c a b:=⟨h.size,h.defers,fun i hi=>h.fe i fun x=>hi (hs i x)⟩
theorem EC {ws:List Nat}{a:Act}:cE ws a a=True:=eq_true (cE.refl ws a)
theorem ED {ws:List Nat}{a a0:Act}{d:Nat}{v:Value}(h:jQ ws d=true):cE ws (bg a (some d) v) a0=cE ws a a0:=by
 apply propext;constructor
 ·intro k;refine ⟨by rw[<-k.size,zz],by rw[<-k.defers,zA],fun i hi=>?_⟩;rw[<-k.fe i hi,uO _ _ _ _ (fun e=>hi (by subst e;exact h))]
 ·intro k;refine ⟨by rw[<-k.size,zz],by rw[<-k.defers,zA],fun i hi=>?_⟩;rw[<-k.fe i hi,uO _ _ _ _ (fun e=>hi (by subst e;exact h))]
def fK (ws a:List Nat):Bool:=ws.all fun w=>jQ a w
theorem zT:∀{ws:List Nat} {i:Nat},jQ ws i=true->i∈ws
 |[],_,h=>by cases h
 |w::ws,i,h=>by
  simp only[jQ,Bool.or_eq_true,beq_iff_eq] at h
  rcases h with h|h
  ·rw[h];exact List.mem_cons_self
  ·exact List.mem_cons_of_mem _ (zT h)
theorem cE.fK {ws c:List Nat}{a b:Act}(h:cE ws a b)(hs:Sep.fK ws c=true):cE c a b:=h.sub fun i hi=>by
 have:=zT hi
 exact List.all_eq_true.1 hs i this
attribute [go_sem] jQ EC ED or_true true_or or_false false_or Nat.reduceBEq
section
variable {P : Program} {main : Bool} {J : Goroutine → aa → Prop} {Q : Ex → Act → aa → Prop} {a : Act} {F : aa}
theorem bQ (hJ:Closed P main J){c:Code}(ws:List Nat)(I:Nat->Act->aa->Prop)(n:Nat)(h:I n a F)
  (hs:∀n b F',cE ws b a->I n b F'->Wp J c (q2 (fun m a2 d=>cE ws a2 b/\∃F0,Le F0 d/\I m a2 F0) n Q) b F'):Wp J (.loop c) Q a F:=
 zm hJ (fun m a2 d=>cE ws a2 a/\∃F0,Le F0 d/\I m a2 F0) n ⟨.refl ws a,F,Le.refl F,h⟩ fun n b F' ⟨g,F0,hle,j⟩=>
  cG hJ hle ((hs n b F0 g j).mono fun e a2 d f=>by
   cases e with
   |normal=>obtain ⟨m,hm,k,l⟩:=f;exact ⟨m,hm,k.trans g,l⟩
   |exit i=>exact f
   |ret=>exact f)
end
def Ext (ro aM:Addr->Option Value):Prop:=∀a v,ro a=some v->aM a=some v
theorem Ext.refl (ro:Addr->Option Value):Ext ro ro:=fun _ _ h=>h
theorem Ext.trans {r s t:Addr->Option Value}(h:Ext r s)(k:Ext s t):Ext r t:=fun a v x=>k a v (h a v x)
def bR (ro:Addr->Option Value)(b:Nat)(o:Obj):Addr->Option Value:=fun a=>match ro a with
 |some v=>some v
 |none=>if a.block=b/\a.spot=none then cellOf o a.off else none
theorem fZ (ro:Addr->Option Value)(b:Nat)(o:Obj):Ext ro (bR ro b o):=fun a v h=>by simp[bR,h]
theorem iO {ro:Addr->Option Value}{b off:Nat}{o:Obj}(h:∀off sp,ro ⟨b,off,sp⟩=none):bR ro b o ⟨b,off,none⟩=cellOf o off:=by simp[bR,h]
theorem jR {ro:Addr->Option Value}{own e:List (Nat×Obj)}{b:Nat}{o:Obj}(i:lk own b=some o)(hs:e.Sublist own)(hb:au e b):Le ⟨bR ro b o,e⟩ ⟨ro,own⟩:=by
 have g:(keys e).Sublist (keys own):=hs.map _;have hm:=gI i;have j:b∉keys e:=by
  clear i hs g hm
  induction e with
  |nil=>simp[keys]
  |cons x l ih=>
   simp only[keys,List.map_cons,List.mem_cons,not_or];exact ⟨hb.1,ih hb.2⟩
 refine ⟨fun w hw=>⟨fun a v h=>?_,fun c x d=>hw.own c x (hs.subset d),g.nodup hw.nodup,fun a v h d=>?_⟩,fun c d=>g.subset d,fun a k=>?_⟩
 ·replace h:bR ro b o a=some v:=h;unfold bR at h;split at h
  ·rename_i x f;cases h;exact hw.ro _ _ f
  ·split at h
   ·rename_i d;have:=hw.own b o hm;rw[<-d.1] at this;cases o<;>simp only[cellOf,reduceCtorEq] at h;simp[World.cell?,this,d.2,h]
   ·cases h
 ·replace h:bR ro b o a=some v:=h;unfold bR at h;split at h
  ·rename_i x f;exact hw.apart a x f (g.subset d)
  ·split at h
   ·rename_i m;rw[m.1] at d;exact j d
   ·cases h
 ·obtain ⟨v,h⟩:=Option.isSome_iff_exists.1 k;replace h:bR ro b o a=some v:=h;unfold bR at h;split at h
  ·rename_i x f;exact .inl (by simp[f])
  ·split at h
   ·rename_i d;exact .inr (by rw[d.1];exact eO hm)
   ·cases h
def eI (P:Program)(f:FuncId)(args:Array Value)(ro:Addr->Option Value)(R:Value->(Addr->Option Value)->Prop):Prop:=
 aD P f args ⟨ro,[]⟩ (fun v G=>∃aM,Ext ro aM/\Le ⟨aM,[]⟩ G/\R v aM)
def lW (F G:aa):Prop:=∀a,(G.ro a).isSome=true->a.block∉keys F.own
def vh (J:Goroutine->aa->Prop)(F:aa)(g:Goroutine)(G:aa):Prop:=Fits F G->lW F G->J g (G.star F)
theorem zU {P:Program}{main:Bool}{J:Goroutine->aa->Prop}(hJ:Closed P main J)(F:aa):Closed P main (vh J F) where
 mono {g G K} hle h c i:=by
  have n:=c.le hle
  have A:lW F G:=fun a d=>(hle.ro a d).elim (i a) (c.own _)
  refine hJ.mono ⟨fun w hw=>n.both (hle.has w (c.right hw)) (c.left hw),fun b hb=>?_,fun a d=>?_⟩ (h n A)
  ·simp only[aa.star,ck,List.mem_append] at hb ⊢
   exact hb.imp (hle.own b) id
  ·rcases jM d with x|x
   ·exact (gw (.inl x)).imp id (fun y=>by simp only[aa.star,ck,List.mem_append];exact .inr y)
   ·rcases hle.ro a x with y|y
    ·exact (gw (.inr y)).imp id (fun z=>by simp only[aa.star,ck,List.mem_append];exact .inr z)
    ·exact .inr (by simp only[aa.star,ck,List.mem_append];exact .inl y)
 step {fr cs G} h c i:=by
  refine hJ.step fun w hw=>?_
  have B:=c.right hw
  have f:=c.left hw
  obtain ⟨g',w',es,k,hgo,hu,p,C,D⟩:=h w B
  have q:Has F w':=by
   refine ⟨fun a v l=>?_,fun b o hb=>?_,f.nodup,f.apart⟩
   ·have s:=f.ro a v l
    have E:=f.gK (a:=a) (by simp[l])
    unfold World.cell? at s ⊢
    rw[hu.frame _ E (c.ro a (by simp[l]))]
    exact s
   ·rw[hu.frame b (f.lt (eO hb)) (fun hm=>c.own b hm (eO hb))]
    exact f.own b o hb
  have t:Fits F k:=by
   refine ⟨⟨w',p,q⟩,fun b hb hm=>?_,fun a d hm=>?_⟩
   ·rcases hu.own b hb with x|x
    ·exact c.own b x hm
    ·have:=f.lt hm;omega
   ·rcases hu.own _ hm with x|x
    ·exact c.ro a d x
    ·have:=f.gK d;omega
  have H:lW F k:=fun a d hm=>by
   rcases hu.ro a d with x|x|x
   ·exact i a x hm
   ·exact c.own _ x hm
   ·have:=f.lt hm;omega
  refine ⟨g',w',es,k.star F,hgo,⟨hu.os,hu.tape,hu.output,hu.size,fun b hb i=>hu.frame b hb fun hm=>i ?_,fun a d=>?_,fun b hb=>?_⟩,t.both p q,fun e he=>?_,D t H⟩
  ·simp only[aa.star,ck,List.mem_append];exact .inl hm
  ·rcases jM d with x|x
   ·exact (gw (.inl x)).imp id (fun y=>.inl (by simp only[aa.star,ck,List.mem_append];exact .inr y))
   ·rcases hu.ro a x with y|y|y
    ·exact (gw (.inr y)).imp id (fun z=>.inl (by simp only[aa.star,ck,List.mem_append];exact .inr z))
    ·exact .inr (.inl (by simp only[aa.star,ck,List.mem_append];exact .inl y))
    ·exact .inr (.inr y)
  ·simp only[aa.star,ck,List.mem_append] at hb ⊢
   rcases hb with hb|hb
   ·exact (hu.own b hb).imp .inl id
   ·exact .inl (.inr hb)
  ·have u:∀b,gJ G w.heap.size w'.heap.size b->gJ (G.star F) w.heap.size w'.heap.size b:=fun b hb=>hb.imp (fun x=>by simp only[aa.star,ck,List.mem_append];exact .inl x) id
   rcases C e he with ⟨a,wr,rfl,j|⟨I,j⟩⟩|⟨r,wr,rfl,j⟩|⟨m,rfl,hm⟩
   ·exact .inl ⟨a,wr,rfl,.inl (u _ j)⟩
   ·rcases gw (F:=F) (.inr j) with y|y
    ·exact .inl ⟨a,wr,rfl,.inr ⟨I,y⟩⟩
    ·exact .inl ⟨a,wr,rfl,.inl (.inl (by simp only[aa.star,ck,List.mem_append];exact .inr y))⟩
   ·exact .inr (.inl ⟨r,wr,rfl,u _ j⟩)
   ·exact .inr (.inr ⟨m,rfl,hm⟩)
section
variable {P : Program} {main : Bool} {J : Goroutine → aa → Prop}
theorem vi (hJ:Closed P main J){f:FuncId}{args:Array Value}{ro:Addr->Option Value}{own:List (Nat×Obj)}{K:Value->aa->Prop}(R:Value->(Addr->Option Value)->Prop)(h:eI P f args ro R)
  (r:∀v aM,Ext ro aM->(∀b∈keys own,∀off sp,aM ⟨b,off,sp⟩=none)->R v aM->K v ⟨aM,own⟩):cO P J f args ⟨ro,own⟩ K:=by
 intro c cs s
 by_cases hw:∃w,Has ⟨ro,own⟩ w
 ·obtain ⟨i,j⟩:=hw
  let F:aa:=⟨fun _=>none,own⟩
  have m:∀w,Has ⟨ro,own⟩ w->Has F w:=fun w hw=>⟨fun a v h=>(by cases h),hw.own,hw.nodup,fun a v h=>(by cases h)⟩
  have n:∀w,Has ⟨ro,own⟩ w->Has ⟨ro,[]⟩ w:=fun w hw=>⟨hw.ro,fun b o hb=>(by cases hb),List.nodup_nil,fun a v e hm=>(by cases hm)⟩
  have p:Fits F ⟨ro,[]⟩:=⟨⟨i,n i j,m i j⟩,fun b hb=>(by cases hb),fun a d hm=>(by cases hm)⟩
  have t:lW F ⟨ro,[]⟩:=fun a d hm=>by
   obtain ⟨v,u⟩:=Option.isSome_iff_exists.1 d
   exact j.apart a v u hm
  have y:vh J F (G (Frame.enter P f args .normal) (c::cs)) ⟨ro,[]⟩:=by
   refine h main _ (zU hJ F) c cs fun v G k l A=>?_
   obtain ⟨aM,B,hle,k⟩:=k
   have q:∀a,(aM a).isSome=true->a.block∉keys own:=fun a d=>(hle.ro a d).elim (A a) (l.own _)
   refine hJ.mono (F:=⟨aM,own⟩) ⟨fun w hw=>?_,fun b hb=>?_,fun a d=>?_⟩ (s v ⟨aM,own⟩ (r v aM B (fun b hb off sp=>?_) k))
   ·have C:=hle.has w (l.right hw)
    have g:=l.left hw
    exact ⟨C.ro,g.own,g.nodup,fun a v e=>q a (by simp only at e;simp[e])⟩
   ·simp only[aa.star,ck,List.mem_append];exact .inr hb
   ·rcases hle.ro a d with x|x
    ·exact (gw (.inr x)).imp id (fun z=>by simp only[aa.star,ck,List.mem_append];exact .inr z)
    ·exact .inr (by simp only[aa.star,ck,List.mem_append];exact .inl x)
   ·cases e:aM ⟨b,off,sp⟩ with
    |none=>rfl
    |some v=>exact absurd hb (q ⟨b,off,sp⟩ (by simp[e]))
  refine hJ.mono ⟨fun w hw=>p.both (n w hw) (m w hw),fun b hb=>?_,fun a d=>?_⟩ (y p t)
  ·simpa [aa.star,F] using hb
  ·rcases jM d with x|x
   ·cases x
   ·exact .inl x
 ·exact hJ.step fun w g=>absurd ⟨w,g⟩ hw
end
attribute [go_sem] beq_self_eq_true beq_iff_eq beq_true beq_false Int.toNat_natCast Int.natCast_nonneg Int.ofNat_lt Nat.zero_mul Nat.mul_one List.length_map Bool.not_eq_true Bool.not_not decide_not
inductive Fl (σ ρ:Type) where
 |nx (s:σ)
 |bk (s:σ)
 |br (k:Nat) (s:σ)
 |rt (r:ρ)
def ag {α β:Type}(x:Option α)(f:α->Option β):Option β:=match x with
 |some a=>f a
 |none=>none
theorem fL {α β:Type}{x:Option α}{f:α->Option β}{r:β}(h:ag x f=some r):∃a,x=some a/\f a=some r:=by
 cases x with
 |none=>cases h
 |some a=>exact ⟨a,rfl,h⟩
theorem iP {α:Type}{b:Bool}{x y:Option α}{r:α}(h:cond b x y=some r):(b=true/\x=some r)\/(b=false/\y=some r):=by
 cases b
 ·exact .inr ⟨rfl,h⟩
 ·exact .inl ⟨rfl,h⟩
def aB {σ ρ τ:Type}(o:Fl σ ρ)(f:σ->Option τ)(g:Nat->σ->Option τ)(h:ρ->Option τ):Option τ:=match o with
 | .nx s=>f s
 | .bk s=>f s
 | .br k s=>g k s
 | .rt r=>h r
def aR {σ ρ:Type}(f:σ->Option (Fl σ ρ)):Nat->σ->Option (Fl σ ρ)
 |0,_=>none
 |n+1,s=>ag (f s) fun o=>match o with
  | .nx s'=>aR f n s'
  | .bk s'=>some (.nx s')
  | .br k s'=>some (.br k s')
  | .rt r=>some (.rt r)
def bB {α σ ρ:Type}(f:Nat->α->σ->Option (Fl σ ρ)):Nat->List α->σ->Option (Fl σ ρ)
 |_,[],s=>some (.nx s)
 |i,x::l,s=>ag (f i x s) fun o=>match o with
  | .nx s'=>bB f (i+1) l s'
  | .bk s'=>some (.nx s')
  | .br k s'=>some (.br k s')
  | .rt r=>some (.rt r)
def fu:Nat:=1000000000000000000
def bf {α:Type}(l:List α)(i:Int):Option α:=if 0<=i then l[i.toNat]? else none
theorem cH {α:Type}{l:List α}{i:Int}{x:α}(h:bf l i=some x):0<=i/\i<l.length/\l[i.toNat]?=some x:=by
 unfold bf at h;split at h
 ·rename_i a;obtain ⟨hi,_⟩:=List.getElem?_eq_some_iff.1 h;exact ⟨a,by omega,h⟩
 ·cases h
def cY {α:Type}(l xs:List α):Option (List α):=if l.length+xs.length<=1000000 then some (l++xs) else none
theorem dr {α:Type}{l xs r:List α}(h:cY l xs=some r):l.length+xs.length<=1000000/\r=l++xs:=by
 unfold cY at h;split at h
 ·rename_i a;cases h;exact ⟨a,rfl⟩
 ·cases h
def jS {α:Type}(l:List α)(lo hi:Int):Option (List α):=if 0<=lo/\lo<=hi/\hi<=l.length then some ((l.take hi.toNat).drop lo.toNat) else none
theorem pq {α:Type}{l r:List α}{lo hi:Int}(h:jS l lo hi=some r):0<=lo/\lo<=hi/\hi<=l.length/\r=(l.take hi.toNat).drop lo.toNat:=by
 unfold jS at h;split at h
 ·rename_i a;cases h;exact ⟨a.1,a.2.1,a.2.2,rfl⟩
 ·cases h
def fD (a b:Int):Option Int:=if b=0 then none else some (IntKind.i64.wrap (a.tdiv b))
theorem jT {a b r:Int}(h:fD a b=some r):¬b=0/\IntKind.i64.wrap (a.tdiv b)=r:=by
 unfold fD at h;split at h
 ·cases h
 ·rename_i c;cases h;exact ⟨c,rfl⟩
def ga (a b:Int):Option Int:=if b=0 then none else some (a.tmod b)
theorem m6 {a b r:Int}(h:ga a b=some r):¬b=0/\a.tmod b=r:=by
 unfold ga at h;split at h
 ·cases h
 ·rename_i c;cases h;exact ⟨c,rfl⟩
def vj (a b:Int):Option Int:=if b<0 then none else some (IntKind.i64.wrap (a*2 ^ min b.toNat 64))
theorem EE {a b r:Int}(h:vj a b=some r):¬b<0/\IntKind.i64.wrap (a*2 ^ min b.toNat 64)=r:=by
 unfold vj at h;split at h
 ·cases h
 ·rename_i c;cases h;exact ⟨c,rfl⟩
def vk (a b:Int):Option Int:=if b<0 then none else some (a.fdiv (2 ^ min b.toNat 64))
theorem EF {a b r:Int}(h:vk a b=some r):¬b<0/\a.fdiv (2 ^ min b.toNat 64)=r:=by
 unfold vk at h;split at h
 ·cases h
 ·rename_i c;cases h;exact ⟨c,rfl⟩
def zV (a b:Int):Int:=IntKind.i64.wrap (BitVec.ofInt 64 a&&& BitVec.ofInt 64 b).toNat
theorem EG (a b:Int):IntKind.i64.wrap (BitVec.ofInt IntKind.i64.bits a&&& BitVec.ofInt IntKind.i64.bits b).toNat=zV a b:=rfl
attribute [go_sem ↓] EG
def EH (a b:Int):Int:=IntKind.u8.wrap (BitVec.ofInt 8 a&&& BitVec.ofInt 8 b).toNat
theorem EI (a b:Int):IntKind.u8.wrap (BitVec.ofInt IntKind.u8.bits a&&& BitVec.ofInt IntKind.u8.bits b).toNat=EH a b:=rfl
attribute [go_sem ↓] EI
def pz (a b:Int):Option Int:=if b<0 then none else some (IntKind.u64.wrap (a*2 ^ min b.toNat IntKind.u64.bits))
theorem vl {a b r:Int}(h:pz a b=some r):¬b<0/\IntKind.u64.wrap (a*2 ^ min b.toNat IntKind.u64.bits)=r:=by
 unfold pz at h;split at h
 ·cases h
 ·rename_i c;cases h;exact ⟨c,rfl⟩
def vm (a b:Int):Option Int:=if b<0 then none else some (a.fdiv (2 ^ min b.toNat IntKind.u64.bits))
theorem EJ {a b r:Int}(h:vm a b=some r):¬b<0/\a.fdiv (2 ^ min b.toNat IntKind.u64.bits)=r:=by
 unfold vm at h;split at h
 ·cases h
 ·rename_i c;cases h;exact ⟨c,rfl⟩
def hH (a b:Int):Int:=IntKind.u64.wrap (BitVec.ofInt 64 a&&& BitVec.ofInt 64 b).toNat
theorem EK (a b:Int):IntKind.u64.wrap (BitVec.ofInt IntKind.u64.bits a&&& BitVec.ofInt IntKind.u64.bits b).toNat=hH a b:=rfl
def gN (a b:Int):Int:=IntKind.u64.wrap (BitVec.ofInt 64 a ^^^ BitVec.ofInt 64 b).toNat
theorem EL (a b:Int):IntKind.u64.wrap (BitVec.ofInt IntKind.u64.bits a ^^^ BitVec.ofInt IntKind.u64.bits b).toNat=gN a b:=rfl
attribute [go_sem ↓] EK EL
theorem cq {n:Nat}(h:n<1000000000000000):IntKind.i64.wrap ((n:Int)+1)=((n+1:Nat):Int):=by
 simp only[IntKind.wrap,IntKind.bits,IntKind.signed];simp;omega
theorem c8 {α:Type}{l:List α}{i:Nat}{x:α}(h:l[i]?=some x):l.drop i=x::l.drop (i+1):=by
 obtain ⟨hi,rfl⟩:=List.getElem?_eq_some_iff.1 h;exact List.drop_eq_getElem_cons hi
theorem cast_zero:((0:Nat):Int)=0:=rfl
attribute [go_sem] cast_zero
theorem EM (l:List Value)(i j:Nat):(l.toArray).extract i j=((l.drop i).take (j - i)).toArray:=by
 apply Array.ext';simp[List.extract_eq_drop_take]
attribute [go_sem] EM
structure b7 (T:Type) where
 n:Nat
 rel:(Addr->Option Value)->T->List Value->Prop
 mono:∀{ro aM:Addr->Option Value} {x:T} {cs:List Value},Ext ro aM->rel ro x cs->rel aM x cs
 len:∀{ro:Addr->Option Value} {x:T} {cs:List Value},rel ro x cs->cs.length=n
 one:∀{ro:Addr->Option Value} {x:T} {cs:List Value},rel ro x cs->∀v∈cs,bE v=true
def hO {T:Type}(n:Nat)(c:T->List Value)(h:∀x,(c x).length=n)(a:∀x,∀v∈c x,bE v=true):b7 T:=
 ⟨n,fun _ x cs=>cs=c x,fun _ h=>h,fun e=>by rw[e];exact h _,fun e=>by rw[e];exact a _⟩
def rI:b7 Int:=hO 1 (fun n=>[.int .i64 n]) (fun _=>rfl) (fun _ v a=>by simp at a;subst a;rfl)
def rB:b7 Bool:=hO 1 (fun n=>[.bool n]) (fun _=>rfl) (fun _ v a=>by simp at a;subst a;rfl)
def aC {T:Type}(r:b7 T)(ro:Addr->Option Value)(s:Value)(l:List T):Prop:=
 ∃ad cap,s= .slice ad l.length cap/\l.length<=cap/\l.length<=1000000000000000/\∀i x,l[i]?=some x->∃p cs,ad=some p/\r.rel ro x cs/\∀j v,cs[j]?=some v->ro ((p.add (i*r.n)).add j)=some v
theorem aC.mono {T:Type}{r:b7 T}{ro aM:Addr->Option Value}{s:Value}{l:List T}(h:aC r ro s l)(a:Ext ro aM):aC r aM s l:=by
 obtain ⟨ad,cap,b,c,d,e⟩:=h;refine ⟨ad,cap,b,c,d,fun i x hi=>?_⟩;obtain ⟨p,cs,f,g,hm⟩:=e i x hi;exact ⟨p,cs,f,r.mono a g,fun j v k=>a _ _ (hm j v k)⟩
theorem aC.nil {T:Type}(r:b7 T)(ro:Addr->Option Value):aC r ro (.slice none 0 0) []:=⟨none,0,rfl,Nat.le_refl _,by simp,fun i x h=>by simp at h⟩
def rL {T:Type}(r:b7 T):b7 (List T):=
 ⟨1,fun ro l cs=>∃s,cs=[s]/\aC r ro s l,fun d ⟨s,a,b⟩=>⟨s,a,b.mono d⟩,fun ⟨s,a,_⟩=>by rw[a];rfl,fun ⟨s,a,ad,cap,b,_⟩ v c=>by rw[a] at c;simp at c;subst c;rw[b];rfl⟩
theorem aC.part {T:Type}{r:b7 T}{ro:Addr->Option Value}{ad:Option Addr}{cap:Nat}{l:List T}(h:aC r ro (.slice ad l.length cap) l)(lo hi:Nat)(g:lo<=hi)(k:hi<=l.length):
  aC r ro (.slice (if cap=lo then ad else ad.map (·.add (lo*r.n))) (hi - lo) (cap - lo)) ((l.take hi).drop lo):=by
 obtain ⟨m,o,e,q,s,b⟩:=h
 cases e
 have hlen:((l.take hi).drop lo).length=hi - lo:=by simp;omega
 refine ⟨_,cap - lo,by rw[hlen],by rw[hlen];omega,by rw[hlen];omega,fun i x a=>?_⟩
 rw[List.getElem?_drop,List.getElem?_take] at a
 split at a
 case isFalse=>cases a
 obtain ⟨p,cs,c,d,hm⟩:=b _ x a
 have t:lo+i<l.length:=(List.getElem?_eq_some_iff.1 a).1
 refine ⟨p.add (lo*r.n),cs,?_,d,fun j v f=>?_⟩
 ·have aF:¬cap=lo:=by omega
  rw[if_neg aF,c];rfl
 ·have:=hm j v f
  rw[kI] at this
  rw[kI,kI]
  rw[show lo*r.n+(i*r.n+j)=(lo+i)*r.n+j by rw[Nat.add_mul];omega]
  exact this
def Apart (ks:List Nat)(aS:List (Nat×Obj)):Prop:=∀k∈keys aS,k∉ks
theorem Apart.nil (ks:List Nat):Apart ks []:=fun k h=>(by cases h)
theorem kK:∀{l:List (Nat×Obj)} {b:Nat},au l b->b∉keys l
 |[],_,_=>by simp[keys]
 |(c,o)::l,b,h=>by simp only[keys,List.map_cons,List.mem_cons,not_or];exact ⟨h.1,kK h.2⟩
theorem lX:∀{l:List (Nat×Obj)} {b:Nat},b∉keys l->au l b
 |[],_,_=>trivial
 |(c,o)::l,b,h=>by simp only[keys,List.map_cons,List.mem_cons,not_or] at h;exact ⟨h.1,lX h.2⟩
theorem Apart.push {ks:List Nat}{aS:List (Nat×Obj)}{b:Nat}(h:Apart ks aS)(hb:au aS b):Apart (b::ks) aS:=fun k a=>by
 simp only[List.mem_cons,not_or]
 exact ⟨fun e=>kK hb (e▸a),h k a⟩
theorem Apart.drop {ks:List Nat}{aS:List (Nat×Obj)}{b:Nat}(h:Apart (b::ks) aS):Apart ks aS:=fun k a=>(by have:=h k a;simp only[List.mem_cons,not_or] at this;exact this.2)
def aO {T:Type}(r:b7 T)(ro:Addr->Option Value)(e:TypeId)(v:Value)(l:List T)(aS:List (Nat×Obj)):Prop:=
 ∃ls:List (List Value),Gr ro e r.n v ls aS/\ls.length=l.length/\l.length<=1000000/\∀(i:Nat) (x:T),l[i]?=some x->∃cs:List Value,ls[i]?=some cs/\r.rel ro x cs
theorem aO.nil {T:Type}(r:b7 T)(ro:Addr->Option Value)(e:TypeId):aO r ro e (.slice none 0 0) [] []:=⟨[],.inl ⟨rfl,rfl,rfl⟩,rfl,by simp,fun i x h=>by simp at h⟩
theorem aO.len {T:Type}{r:b7 T}{ro:Addr->Option Value}{e:TypeId}{v:Value}{l:List T}{aS:List (Nat×Obj)}(h:aO r ro e v l aS):∃ad cap,v= .slice ad l.length cap/\l.length<=cap:=by
 obtain ⟨ls,hg,a,-⟩:=h;rcases hg with ⟨rfl,rfl,rfl⟩|⟨b,arr,cap,rfl,rfl,hs,hle,-⟩
 ·exact ⟨none,0,by rw[<-a];rfl,by rw[<-a];exact Nat.le_refl _⟩
 ·exact ⟨_,cap,by rw[a],by omega⟩
def aE (ro:Addr->Option Value)(own:List (Nat×Obj)):Prop:=∀b∈keys own,∀off sp,ro ⟨b,off,sp⟩=none
theorem aO.mono {T:Type}{r:b7 T}{ro aM:Addr->Option Value}{e:TypeId}{v:Value}{l:List T}{aS:List (Nat×Obj)}(h:aO r ro e v l aS)(d:Ext ro aM)(f:aE aM aS):aO r aM e v l aS:=by
 obtain ⟨ls,hg,g,hm,j⟩:=h;refine ⟨ls,?_,g,hm,fun i x hi=>?_⟩
 ·rcases hg with h|⟨b,arr,cap,c,a,k,m,n,o,p⟩
  ·exact .inl h
  ·exact .inr ⟨b,arr,cap,c,a,k,m,n,o,f b (by rw[a];simp[keys])⟩
 ·obtain ⟨cs,c,a⟩:=j i x hi;exact ⟨cs,c,r.mono d a⟩
theorem Apart.fresh {pre aS:List (Nat×Obj)}{ks:List Nat}(h:Apart ks aS)(a:keys pre=ks):∀k∈keys aS,au pre k:=fun k b=>lX (by rw[a];exact h k b)
theorem pE {n:Nat}:∀(ls:List (List Value)) (i:Nat) (cs:List Value),(∀x∈ls,x.length=n)->ls[i]?=some cs->∀j v,cs[j]?=some v->ls.flatten[i*n+j]?=some v
 |[],i,cs,_,h,_,_,_=>by simp at h
 |y::ls,0,cs,b,h,j,v,a=>by
  simp at h;subst h
  have:j<y.length:=(List.getElem?_eq_some_iff.1 a).1
  simp only[Nat.zero_mul,Nat.zero_add,List.flatten_cons]
  rw[List.getElem?_append_left this]
  exact a
 |y::ls,i+1,cs,b,h,j,v,a=>by
  simp at h
  have ih:=pE ls i cs (fun x d=>b x (by simp[d])) h j v a
  have c:=b y (by simp)
  simp only[List.flatten_cons]
  rw[List.getElem?_append_right (by rw[c,Nat.add_mul];omega)]
  rw[show (i+1)*n+j - y.length=i*n+j by rw[c,Nat.add_mul];omega]
  exact ih
theorem aO.zW {T:Type}{r:b7 T}{ro:Addr->Option Value}{e:TypeId}{v:Value}{l:List T}{aS:List (Nat×Obj)}{ks:List Nat}(h:aO r ro e v l aS)(pre:List (Nat×Obj))(m:Apart ks aS)(o:keys pre=ks)(d:aE ro pre):
  ∃aM,Ext ro aM/\aE aM pre/\aC r aM v l/\Le ⟨aM,pre⟩ ⟨ro,pre++aS⟩:=by
 obtain ⟨ls,hg,f,hm,p⟩:=h
 rcases hg with ⟨rfl,rfl,rfl⟩|⟨b,arr,cap,rfl,rfl,hs,hle,ht,g,q⟩
 ·have:l=[]:=List.eq_nil_of_length_eq_zero (by simpa using f.symm)
  subst this
  exact ⟨ro,Ext.refl ro,d,aC.nil r ro,by rw[List.append_nil];exact Le.refl _⟩
 ·have hb:b∉keys pre:=by rw[o];exact m b (by simp[keys])
  refine ⟨bR ro b (.cells arr e),fZ _ _ _,fun c k off sp=>?_,⟨some ⟨b,0,none⟩,cap,by rw[f],by omega,by omega,fun i x hi=>?_⟩,jR ?_ (List.sublist_append_left _ _) (lX hb)⟩
  ·have aF:¬c=b:=fun e=>hb (e▸k)
   simp[bR,d c k,aF]
  ·obtain ⟨cs,s,t⟩:=p i x hi
   refine ⟨_,cs,rfl,r.mono (fZ _ _ _) t,fun j v u=>?_⟩
   have a:=pE ls i cs g s j v u
   rw[kI,kJ,Nat.zero_add,iO q]
   have w:i*r.n+j<ls.length*r.n:=by
    have:=(List.getElem?_eq_some_iff.1 a).1
    rw[g9 g] at this
    exact this
   rw[<-ht,List.getElem?_take_of_lt w] at a
   simpa [cellOf] using a
  ·have:∀(pre:List (Nat×Obj)),b∉keys pre->lk (pre++[(b,Obj.cells arr e)]) b=some (.cells arr e):=fun pre h=>u6 (lX h)
   exact this pre hb
theorem aO.elem {T:Type}{r:b7 T}{ro:Addr->Option Value}{e:TypeId}{v:Value}{l:List T}{aS:List (Nat×Obj)}(h:aO r ro e v l aS){i:Nat}{x:T}(hi:l[i]?=some x):
  ∃b arr cap cs,v= .slice (some ⟨b,0,none⟩) l.length cap/\aS=[(b,.cells arr e)]/\(∀off sp,ro ⟨b,off,sp⟩=none)/\r.rel ro x cs/\∀j v,cs[j]?=some v->arr[i*r.n+j]?=some v:=by
 obtain ⟨ls,hg,f,hm,g⟩:=h
 obtain ⟨cs,c,k⟩:=g i x hi
 rcases hg with ⟨rfl,rfl,rfl⟩|⟨b,arr,cap,rfl,rfl,hs,hle,ht,d,m⟩
 ·simp at c
 ·refine ⟨b,arr,cap,cs,by rw[f],rfl,m,k,fun j v o=>?_⟩
  have a:=pE ls i cs d c j v o
  have p:i*r.n+j<ls.length*r.n:=by
   have:=(List.getElem?_eq_some_iff.1 a).1
   rw[g9 d] at this
   exact this
  rw[<-ht,List.getElem?_take_of_lt p] at a
  simpa using a
theorem aT {ro:Addr->Option Value}{own:List (Nat×Obj)}:Ext ro (aa.cr ⟨ro,own⟩).ro:=fun a v h=>by simp[aa.cr,aa.get,h]
theorem bZ {ro:Addr->Option Value}{own:List (Nat×Obj)}{F:aa}(h:Knows ⟨ro,own⟩ F):Ext ro F.cr.ro:=fun a v b=>by
 have:F.ro a=some v:=h.1 a v b
 simp[aa.cr,aa.get,this]
theorem aC.pF {T:Type}{r:b7 T}{ro:Addr->Option Value}{ad:Option Addr}{cap:Nat}{l x:List T}(h:aC r ro (.slice ad l.length cap) l)(lo hi:Nat)(b:lo<=hi)(c:hi<=l.length)(d:x=(l.take hi).drop lo):
  ∃a,(if cap=lo then ad else ad.map (·.add (lo*r.n)))=a/\hi - lo=x.length/\aC r ro (.slice a x.length (cap - lo)) x:=by
 subst d
 have hlen:((l.take hi).drop lo).length=hi - lo:=by simp;omega
 refine ⟨_,rfl,hlen.symm,?_⟩
 rw[hlen]
 exact h.part lo hi b c
theorem aC.one {T:Type}{r:b7 T}{ro:Addr->Option Value}{own:List (Nat×Obj)}{b:Nat}{x:T}{cs:Array Value}{e:TypeId}(a:∀off sp,ro ⟨b,off,sp⟩=none)(d:lk own b=some (.cells cs e))(h:r.rel ro x cs.toList):
  aC r (bR ro b (.cells cs e)) (.slice (some ⟨b,0,none⟩) 1 1) [x]:=by
 refine ⟨some ⟨b,0,none⟩,1,rfl,Nat.le_refl _,by simp,fun i y hi=>?_⟩
 have:i=0/\y=x:=by
  cases i with
  |zero=>simp at hi;exact ⟨rfl,hi.symm⟩
  |succ i=>simp at hi
 obtain ⟨rfl,rfl⟩:=this
 refine ⟨_,_,rfl,r.mono (fZ _ _ _) h,fun j v c=>?_⟩
 rw[Nat.zero_mul,add_zero',kJ,Nat.zero_add,iO a]
 simpa [cellOf] using c
theorem aC.flat {T:Type}{r:b7 T}{ro:Addr->Option Value}{b:Nat}{cs:Array Value}{e:TypeId}(c:T->List Value)(l:List T)(a:∀x,r.rel ro x (c x))(d:∀off sp,ro ⟨b,off,sp⟩=none)(f:cs.toList=(l.map c).flatten)(hlen:l.length<=1000000000000000):
  aC r (bR ro b (.cells cs e)) (.slice (some ⟨b,0,none⟩) l.length l.length) l:=by
 refine ⟨some ⟨b,0,none⟩,l.length,rfl,Nat.le_refl _,hlen,fun i x hi=>⟨_,c x,rfl,r.mono (fZ _ _ _) (a x),fun j v g=>?_⟩⟩
 have h:(l.map c)[i]?=some (c x):=by rw[List.getElem?_map,hi];rfl
 have k:∀y∈l.map c,y.length=r.n:=fun y m=>by
  obtain ⟨z,_,rfl⟩:=List.mem_map.1 m
  exact r.len (a z)
 have:=pE (l.map c) i (c x) k h j v g
 rw[kJ,kJ,Nat.zero_add,iO d]
 rw[<-f] at this
 simpa [cellOf] using this
theorem jq {ro:Addr->Option Value}{own:List (Nat×Obj)}{b:Nat}{o:Obj}(e:lk own b=some o):Ext (bR ro b o) (aa.cr ⟨ro,own⟩).ro:=fun a v h=>by
 unfold bR at h
 simp only[aa.cr,aa.get]
 split at h
 ·rename_i x c;rw[c];exact h
 ·rename_i c
  split at h
  ·rename_i d
   rw[c]
   simp only
   rw[if_pos d.2,d.1,e]
   exact h
  ·cases h
section
variable {P : Program} {main : Bool} {J : Goroutine → aa → Prop}
theorem gO (hJ:Closed P main J){f:FuncId}{args:Array Value}{F F':aa}{K:Value->aa->Prop}(hle:Le F F')(h:cO P J f args F K):cO P J f args F' K:=fun c cs k=>hJ.mono hle (h c cs k)
end
theorem aO.bd {T:Type}{r:b7 T}{ro:Addr->Option Value}{e:TypeId}{v:Value}{l:List T}{aS:List (Nat×Obj)}(h:aO r ro e v l aS):l.length<=1000000:=by
 obtain ⟨ls,_,_,hm,_⟩:=h;exact hm
theorem aD.zW {P:Program}{f:FuncId}{args:Array Value}{ro:Addr->Option Value}{R:Value->Prop}(h:aD P f args ⟨ro,[]⟩ (fun v _=>R v)):aD P f args ⟨ro,[]⟩ (fun v G=>R v/\G=⟨ro,[]⟩):=by
 intro main J hJ c cs b
 exact uL (F:=⟨ro,[]⟩) (R:=R) (by
  have e:aa.cr ⟨ro,[]⟩=⟨ro,[]⟩:=by
   simp only[aa.cr,aa.mk.injEq,and_true];funext a;simp only[aa.get];cases ro a with
   |none=>simp[lk]
   |some v=>rfl
  rw[e];exact h) main J hJ c cs b
end Go.Sep
end
section
namespace Go.Sep
open Go Go.Conc Go.ConcM
open Go.ConcN (sumTo upd sumTo_upd upd_ne upd_same)
def dZ (P:Program)(Φ:Goroutine->aa->Prop)(g:Goroutine)(F:aa):Prop:=
 ∀(bu:Loc->Prop) (gs:Array Goroutine) (w:World) (sl:Option (Nat×Nat)) (t:Trace) (q:Nat->Nat),jl P bu g F gs w t q->
  ∃(N:Nat) (bV:Array Goroutine) (w':World) (c:Option (Nat×Nat)) (a:Trace) (d:Nat->Nat) (g':Goroutine) (F':aa) (b:Loc->Prop),
   runNT P N (crowd gs w sl) t=(.next (crowd bV w' c),a)/\jl P b g' F' bV w' a d/\e7 F F' w w'/\(∀l,b l->bu l\/¬l.low w.heap.size)/\Φ g' F'
theorem dZ.done {P:Program}{Φ:Goroutine->aa->Prop}{g:Goroutine}{F:aa}(h:Φ g F):dZ P Φ g F:=
 fun bu gs w sl t q a=>⟨0,gs,w,sl,t,q,g,F,bu,rfl,a,.refl _ _,fun _ h=>.inl h,h⟩
theorem pG (P:Program)(Φ:Goroutine->aa->Prop):Closed P true (dZ P Φ) where
 mono hle h bu gs w sl t q b:=by
  obtain ⟨N,bV,w',z,A,B,g',F',C,g,D,hu,E,H⟩:=h bu gs w sl t q ⟨b.g0,b.lv,b.fB,hle.has w b.has,fun l hs I=>b.apart l hs (hle.gv I),b.low⟩
  exact ⟨N,bV,w',z,A,B,g',F',C,g,D,hu.le hle,E,H⟩
 step {fr cs F} h bu gs w sl t q b:=by
  obtain ⟨N,k,d,m,a3,n,t1,J,g,a4,p,r,K,L⟩:=q4 (P:=P) (a:=G fr cs) rfl _ gs w sl t q (Nat.le_refl _) b.g0 b.lv b.fB
  obtain ⟨g',w',es,F',hgo,hu,M,O,hJ⟩:=h (w.at m) (b.has.at m)
  have c:dN F F' w w':=⟨hu.os,hu.tape,hu.output,hu.size,hu.frame,hu.ro,hu.own⟩
  have Q:=runT_crowd_go (P:=P) (sl:=n) (i:=0) p (show stepG P (0==0) (G fr cs) (w.at m)=_ from hgo)
  have R:0<k.size:=(Array.getElem?_eq_some_iff.1 p).1
  have s:=jl.next (P:=P) b.apart b.low c
  obtain ⟨S,T,w2,U,t2,V,W,X,Y,Z,ab,ad,ae,al⟩:=hJ bu ((k.map (woken P (G fr cs) g' w')).setIfInBounds 0 g') w' n (t1++MemOp.ofEvents 0 (G fr cs).frame.fn (G fr cs).frame.place es) J
   {g0:=by simp[R]
    lv:=⟨fun j x f u=>by
     have aF:0≠j:=by omega
     rw[Array.getElem?_setIfInBounds_ne aF,Array.getElem?_map] at u
     obtain ⟨y,ao,rfl⟩:=Option.map_eq_some_iff.1 u
     have v:=r.old j y f ao
     rw[woken_quitsD v,Deaf_other t1 (by omega) _ (fun op o=>by obtain ⟨e,_,rfl⟩:=Go.Conc.mem_ofEvents o;rfl)]
     exact v,fun j f=>by
     rw[Deaf_other t1 (g':=0) (by simp at f;omega) _ (fun op o=>by obtain ⟨e,_,rfl⟩:=Go.Conc.mem_ofEvents o;rfl)]
     exact r.above j (by simpa using f)⟩
    fB:=(K.mono c.size).own fun e he=>zn b.has c.size b.apart b.low (O e he)
    has:=M
    apart:=s.1
    low:=s.2}
  refine ⟨N+1+S,T,w2,U,t2,V,W,X,Y,?_,ab,(e7.oV c).trans ad,fun l ar=>(ae l ar).imp id fun a0 a2=>a0 (Loc.low_mono c.size a2),al⟩
  have:runNT P (N+1) (crowd gs w sl) t=(.next (crowd ((k.map (woken P (G fr cs) g' w')).setIfInBounds 0 g') w' n),t1++MemOp.ofEvents 0 (G fr cs).frame.fn (G fr cs).frame.place es):=by
   rw[runNT_add,g]
   simp only[runNT,L,Q]
  rw[jm this]
  exact Z
def fE (P:Program)(f:FuncId)(args:Array Value)(F:aa)(R:Value->aa->Prop):Prop:=∀Φ,cO P (dZ P Φ) f args F R
theorem zX {P:Program}{f:FuncId}{args:Array Value}{ro:Addr->Option Value}{own:List (Nat×Obj)}{R:Value->aa->Prop}(h:fE P f args ⟨ro,[]⟩ R):
  fE P f args ⟨ro,own⟩ (fun v F'=>∃G,R v G/\F'=G.star ⟨ro,own⟩/\Fits ⟨ro,own⟩ G/\lW ⟨ro,own⟩ G):=by
 intro Φ c cs H bu gs w sl t q d
 let Fr:aa:=⟨ro,own⟩
 have I:jl P bu (G (Frame.enter P f args .normal) (c::cs)) ⟨ro,[]⟩ gs w t q:=
  ⟨d.g0,d.lv,d.fB,⟨d.has.ro,fun b o hb=>(by cases hb),List.nodup_nil,fun a v j hm=>(by cases hm)⟩,fun l hs i=>d.apart l hs (by
   cases l with
   |cell a=>exact i.elim (fun x=>by cases x) .inr
   |obj r=>cases i
   |_=>exact i),d.low⟩
 obtain ⟨N,bV,w',J,s,u,g',F',A,j,g,hu,n,v,rfl,p⟩:=h (fun g' F'=>∃v,g'=G (c.finish v) cs/\R v F') c cs (fun v F' p=>dZ.done ⟨v,rfl,p⟩) bu gs w sl t q I
 have B:Has Fr w':=⟨fun a v j=>by
  have C:=d.has.ro a v j
  have K:=d.has.gK (a:=a) (by rw[j];rfl)
  unfold World.cell? at C ⊢
  rw[hu.frame _ K (fun hm=>by cases hm)]
  exact C,fun b o hb=>by
  rw[hu.frame b (d.has.lt (eO hb)) (fun hm=>by cases hm)]
  exact d.has.own b o hb,d.has.nodup,d.has.apart⟩
 have D:Fits Fr F':=⟨⟨w',g.has,B⟩,fun b hb hm=>by
  rcases hu.own b hb with x|x
  ·cases x
  ·have:=d.has.lt (b:=b) hm;omega,fun a k hm=>by
  rcases hu.own _ hm with x|x
  ·cases x
  ·have:=d.has.gK (a:=a) k;omega⟩
 have L:lW Fr F':=fun a k hm=>by
  rcases hu.ro a k with x|x|x
  ·obtain ⟨y,M⟩:=Option.isSome_iff_exists.1 x
   exact d.has.apart a y M hm
  ·cases x
  ·have:=d.has.lt (b:=a.block) hm;omega
 have O:jl P A (G (c.finish v) cs) (F'.star Fr) bV w' s u:=by
  refine ⟨g.g0,g.lv,g.fB,D.both g.has B,fun l hs i=>?_,g.low⟩
  have E:∀b,b∈keys own->(l= .obj b\/∃a,l= .cell a/\a.block=b)->False:=fun b hb m=>by
   rcases n l hs with x|x
   ·refine d.apart l x ?_
    rcases m with rfl|⟨a,rfl,e⟩
    ·exact hb
    ·exact .inl (e▸hb)
   ·refine x ?_
    have:=d.has.lt (b:=b) hb
    rcases m with rfl|⟨a,rfl,e⟩
    ·exact this
    ·show a.block<_;rw[e];exact this
  cases l with
  |cell a=>
   rcases i with x|x
   ·simp only[aa.star,ck,List.mem_append] at x
    rcases x with x|x
    ·exact g.apart _ hs (.inl x)
    ·exact E _ x (.inr ⟨a,rfl,rfl⟩)
   ·rcases jM x with y|y
    ·rcases n _ hs with z|z
     ·exact d.apart _ z (.inr y)
     ·exact z (d.has.gK (a:=a) y)
    ·exact g.apart _ hs (.inr y)
  |obj r=>
   simp only[aa.gv,aa.star,ck,List.mem_append] at i
   rcases i with x|x
   ·exact g.apart _ hs x
   ·exact E _ x (.inl rfl)
  |_=>exact i
 obtain ⟨Q,S,w2,T,t2,U,V,W,X,Y,Z,ab,ad,ae⟩:=H v (F'.star Fr) ⟨F',p,rfl,D,L⟩ A bV w' J s u O
 have al:e7 ⟨ro,own⟩ (F'.star Fr) w w':=⟨hu.os,hu.tape,hu.output,hu.size,fun b hb F=>hu.frame b hb (fun x=>by cases x),fun a k=>by
  rcases jM k with y|y
  ·exact .inl y
  ·rcases hu.ro a y with z|z|z
   ·exact .inl z
   ·cases z
   ·exact .inr (.inr z),fun b hb=>by
  simp only[aa.star,ck,List.mem_append] at hb
  rcases hb with x|x
  ·rcases hu.own b x with y|y
   ·cases y
   ·exact .inr y
  ·exact .inl x⟩
 exact ⟨N+Q,S,w2,T,t2,U,V,W,X,by rw[jm j];exact Y,Z,al.trans ab,fun l m=>(ad l m).elim (n l) fun F=>.inr fun ao=>F (Loc.low_mono hu.size ao),ae⟩
theorem fE.go {P:Program}{f:FuncId}{fn:Func}{c:Code}{n:Nat}{rs:List ResultVar}{args:Array Value}{F:aa}{R:Value->aa->Prop}(j:P.funcs[f]?=some fn)(hb:fn.body=some c)(d:fn.ntmps=n)(k:fn.results=rs.toArray)(m:args.size<=n)
  (h:∀Φ,Closed P true (dZ P Φ)->∀A:Act,sz A=n->A.defers=[]->(∀i,slot A i=args.getD i undef)->Wp (dZ P Φ) c (iL P rs R) A F):fE P f args F R:=fun Φ=>by
 refine cO.of_wp (pG P Φ) j hb ?_
 refine (h Φ (pG P Φ) _ (by simp[sz,d];omega) rfl fun i=>?_).mono fun e a F g=>?_
 ·simp only[slot,d,Array.getD_eq_getD_getElem?]
  rcases Nat.lt_or_ge i args.size with hi|hi
  ·rw[Array.getElem?_append_left hi]
  ·rw[Array.getElem?_append_right hi,Array.getElem?_replicate,Array.getElem?_eq_none hi]
   split<;>rfl
 ·cases e with
  |exit i=>exact g
  |_=>
   obtain ⟨hd,b⟩:=g
   split at b
   ·rename_i v l
    show g8 P a.defers _ F
    rw[hd]
    exact rC k l b
   ·exact b.elim
def pH (P:Program)(f:FuncId)(args:Array Value)(ro:Addr->Option Value)(R:Value->(Addr->Option Value)->Prop):Prop:=
 fE P f args ⟨ro,[]⟩ (fun v G=>∃aM,Ext ro aM/\Le ⟨aM,[]⟩ G/\R v aM)
theorem EN {P:Program}{Φ:Goroutine->aa->Prop}{f:FuncId}{args:Array Value}{ro:Addr->Option Value}{own:List (Nat×Obj)}{K:Value->aa->Prop}(R:Value->(Addr->Option Value)->Prop)
  (h:pH P f args ro R) (k:∀v aM,Ext ro aM->(∀b∈keys own,∀off sp,aM ⟨b,off,sp⟩=none)->R v aM->K v ⟨aM,own⟩):cO P (dZ P Φ) f args ⟨ro,own⟩ K:=by
 intro c cs l
 refine zX (own:=own) h Φ c cs fun v F' m=>?_
 obtain ⟨G,⟨aM,n,hle,o⟩,rfl,e,p⟩:=m
 have i:∀a,(aM a).isSome=true->a.block∉keys own:=fun a g=>(hle.ro a g).elim (p a) (e.own _)
 refine (pG P Φ).mono (F:=⟨aM,own⟩) ⟨fun w hw=>?_,fun b hb=>?_,fun a g=>?_⟩ (l v ⟨aM,own⟩ (k v aM n (fun b hb off sp=>?_) o))
 ·have q:=hle.has w (e.right hw)
  have j:=e.left hw
  exact ⟨q.ro,j.own,j.nodup,fun a v d=>i a (by simp only at d;simp[d])⟩
 ·simp only[aa.star,ck,List.mem_append];exact .inr hb
 ·rcases hle.ro a g with x|x
  ·exact (gw (.inr x)).imp id (fun z=>by simp only[aa.star,ck,List.mem_append];exact .inr z)
  ·exact .inr (by simp only[aa.star,ck,List.mem_append];exact .inl x)
 ·cases d:aM ⟨b,off,sp⟩ with
  |none=>rfl
  |some v=>exact absurd hb (i ⟨b,off,sp⟩ (by simp[d]))
theorem rH {P:Program}{Φ:Goroutine->aa->Prop}{f:FuncId}{args:Array Value}{ro:Addr->Option Value}{own:List (Nat×Obj)}{K:Value->aa->Prop}(v:Value)
  (h:fE P f args ⟨ro,[]⟩ (fun d _=>d=v)) (e:K v ⟨ro,own⟩):cO P (dZ P Φ) f args ⟨ro,own⟩ K:=by
 intro c cs g
 refine zX (own:=own) h Φ c cs fun d F' i=>?_
 obtain ⟨G,rfl,rfl,j,l⟩:=i
 refine (pG P Φ).mono (F:=⟨ro,own⟩) ⟨fun w hw=>j.left hw,fun b hb=>?_,fun a k=>?_⟩ (g d ⟨ro,own⟩ e)
 ·simp only[aa.star,ck,List.mem_append];exact .inr hb
 ·exact (gw (.inl k)).imp id (fun z=>by simp only[aa.star,ck,List.mem_append];exact .inr z)
end Go.Sep
end
section
namespace Go.Sep
open Go Go.Conc Go.ConcM
def zY (P:Program)(R:Value->aa->Prop)(g:Goroutine)(F:aa):Prop:=
 ∃(fr:Frame) (fn:Func) (t:Nat) (v:Value),g=G fr []/\fr.kind= .normal/\P.inits.idxOf? fr.fn=none/\fr.mode= .returning/\fr.defers=[]/\P.funcs[fr.fn]?=some fn/\fn.results=#[.tmp t]/\fr.tmps.getD t undef=v/\R v F
def lY (P:Program)(f:FuncId)(args:Array Value)(F:aa)(R:Value->aa->Prop):Prop:=
 ∀Φ:Goroutine->aa->Prop,(∀g F',zY P R g F'->Φ g F')->dZ P Φ (G (Frame.enter P f args .normal) []) F
theorem lY.go {P:Program}{f:FuncId}{fn:Func}{c:Code}{n t:Nat}{args:Array Value}{F:aa}{R:Value->aa->Prop}(g:P.funcs[f]?=some fn)(hb:fn.body=some c)(j:fn.ntmps=n)(o:fn.results=[.tmp t].toArray)(x:args.size<=n)(hi:P.inits.idxOf? f=none)
  (h:∀Φ,Closed P true (dZ P Φ)->∀A:Act,sz A=n->A.defers=[]->(∀i,slot A i=args.getD i undef)->Wp (dZ P Φ) c (iL P [.tmp t] R) A F):lY P f args F R:=by
 intro Φ p
 have hJ:=pG P Φ
 let b:Frame:={(default:Frame) with fn:=f,kind:=.normal}
 have q:Frame.enter P f args .normal=on b {tmps:=args++Array.replicate (fn.ntmps - args.size) undef,defers:=[]} [.code c]:=by
  simp[Frame.enter,on,g,hb,b]
  rfl
 rw[q]
 have k:∀(a:Act) (F':aa) (fr:Frame),fr.kind= .normal->fr.mode= .returning->fr.defers=a.defers->fr.fn=f->fr.tmps=a.tmps->iL P [.tmp t] R .normal a F'->dZ P Φ (G fr []) F':=by
  intro a F' fr r s u l v d
  obtain ⟨hd,w⟩:=d
  refine dZ.done (p _ _ ⟨fr,fn,t,_,rfl,r,by rw[l];exact hi,s,by rw[u,hd],by rw[l];exact g,o,rfl,?_⟩)
  rw[v]
  simpa [lT,lS,o9,slot] using w
 refine h Φ hJ _ (by simp[sz,j];omega) rfl (fun i=>?_) b [] [] ⟨by simp[b],.inl rfl⟩ fun e m F' d=>?_
 ·simp only[slot,j,Array.getD_eq_getD_getElem?]
  rcases Nat.lt_or_ge i args.size with hi|hi
  ·rw[Array.getElem?_append_left hi]
  ·rw[Array.getElem?_append_right hi,Array.getElem?_replicate,Array.getElem?_eq_none hi]
   split<;>rfl
 ·cases e with
  |normal=>exact hJ.move (fun _=>lI rfl) (k m F' _ rfl rfl rfl rfl rfl d)
  |exit i=>exact d.elim
  |ret=>exact fun y=>hJ.move (fun _=>stepG_ret' rfl) (k m F' _ rfl rfl rfl rfl rfl d)
theorem lY.ends {P:Program}{f:FuncId}{args:Array Value}{F:aa}{R:Value->aa->Prop}(h:lY P f args F R){W:World}(i:Has F W){a:Value->World->Prop}
  (j:∀v F' w',R v F'->e7 F F' W w'->a v w'):
  ∃M last o w' b,runNT P (M+1) (solo (G (Frame.enter P f args .normal) []) W) #[]=(.ended o w',b)/\runN P M (solo (G (Frame.enter P f args .normal) []) W)= .next last/\step P last= .ended o w'/\Go.Conc.Good P a last o w' b:=by
 obtain ⟨N,bV,w',k,b,B,g',F',l,g,c,hu,_,fr,fn,t,v,rfl,m,hi,n,p,q,r,s,u⟩:=h (zY P R) (fun _ _ x=>x) (fun _=>False) #[G (Frame.enter P f args .normal) []] W none #[] (fun _=>0)
  ⟨rfl,leavers_one P _,past_nil.mono (Nat.zero_le _),i,fun _ x=>x.elim,fun _ x=>x.elim⟩
 have hg:Goes P true AtRel (fun _ _ _=>False) (AtEnd P l w'.heap.size a) 0 (G fr []) w':=by
  refine Goes.stop fun C ⟨d,hd⟩=>?_
  subst hd
  refine ⟨rfl,v,seen P fr.fn #[],?_,fun e he=>?_,j v F' _ u ⟨hu.os,hu.tape,hu.output,hu.size,hu.frame,hu.ro,hu.own⟩⟩
  ·have w:fr.tmps[t]?.getD undef=v:=by rw[<-s,Array.getD_eq_getD_getElem?]
   simp[G,stepG,unwind,n,p,q,results,r,w,doReturn,GStep.after,Sem.runT,m,hi]
  ·exact absurd (mem_seen he) (by simp)
 obtain ⟨y,last,o,w2,t2,e1,e2,z,A⟩:=beside_ends (sl:=k) (fun _ _ _ x=>x.elim) c.g0 c.lv c.fB hg
 refine ⟨N+y,last,o,w2,t2,?_,?_,z,A⟩
 ·rw[solo_eq_crowd,Nat.add_assoc,jm g,e1]
 ·rw[solo_eq_crowd,runN_add]
  have:=runNT_fst P N (crowd #[G (Frame.enter P f args .normal) []] W none) #[]
  rw[g] at this
  rw[<-this]
  exact e2
end Go.Sep
end
section
namespace Go.Proofs.YtpgcmoanfifglaaGreatDoor
open Go Go.Sep Go.Proofs
set_option maxRecDepth 100000
theorem mixed:Tryz.prog.follows .mixedOrders=true:=by kernel_rfl
@[go_sem] theorem Mf:cx Tryz.prog 3=some false:=by kernel_rfl
@[go_sem] theorem kL:bX Tryz.prog 3=some 1:=by kernel_rfl
theorem kM:bytesOf Tryz.prog 3=some 8:=by kernel_rfl
@[go_sem] theorem kN:zeroOf Tryz.prog 3=some (.int .i64 0):=by kernel_rfl
@[go_sem] theorem Mg:cx Tryz.prog 4=some false:=by kernel_rfl
@[go_sem] theorem zZ:bX Tryz.prog 4=some 1:=by kernel_rfl
@[go_sem] theorem EO:zeroOf Tryz.prog 4=some (.bool false):=by kernel_rfl
@[go_sem] theorem Mh:uW Tryz.prog 4=true:=by kernel_rfl
@[go_sem] theorem Mi:cx Tryz.prog 23=some true:=by kernel_rfl
@[go_sem] theorem EP:bX Tryz.prog 23=some 2:=by kernel_rfl
theorem ER:bytesOf Tryz.prog 23=some 16:=by kernel_rfl
@[go_sem] theorem z0:zeroOf Tryz.prog 23=some (.agg #[.int .i64 0,.int .i64 0]):=by kernel_rfl
@[go_sem] theorem Mj:m0 Tryz.prog 23=some [true,true]:=by kernel_rfl
@[go_sem] theorem Mk:cL Tryz.prog 23 0=some 0:=by kernel_rfl
@[go_sem] theorem Ml:cL Tryz.prog 23 1=some 1:=by kernel_rfl
@[go_sem] theorem Mm:placesOf Tryz.prog 23=some [(0,1),(1,1)]:=by kernel_rfl
@[go_sem] theorem Mn:cx Tryz.prog 24=some false:=by kernel_rfl
@[go_sem] theorem Mo:bX Tryz.prog 24=some 1:=by kernel_rfl
@[go_sem] theorem Mq:jP Tryz.prog 24=true:=by kernel_rfl
@[go_sem] theorem z1:c5 Tryz.prog 24=some 85:=by kernel_rfl
@[go_sem] theorem Mr:cx Tryz.prog 25=some false:=by kernel_rfl
@[go_sem] theorem Ms:bX Tryz.prog 25=some 1:=by kernel_rfl
@[go_sem] theorem Mt:jP Tryz.prog 25=true:=by kernel_rfl
@[go_sem] theorem kO:c5 Tryz.prog 25=some 96:=by kernel_rfl
@[go_sem] theorem Mv:cx Tryz.prog 26=some false:=by kernel_rfl
@[go_sem] theorem Mw:bX Tryz.prog 26=some 1:=by kernel_rfl
@[go_sem] theorem Mx:jP Tryz.prog 26=true:=by kernel_rfl
@[go_sem] theorem z2:c5 Tryz.prog 26=some 41:=by kernel_rfl
@[go_sem] theorem My:cx Tryz.prog 27=some false:=by kernel_rfl
@[go_sem] theorem Mz:bX Tryz.prog 27=some 1:=by kernel_rfl
@[go_sem] theorem MA:jP Tryz.prog 27=true:=by kernel_rfl
@[go_sem] theorem er:c5 Tryz.prog 27=some 76:=by kernel_rfl
@[go_sem] theorem MB:cx Tryz.prog 29=some true:=by kernel_rfl
@[go_sem] theorem MC:bX Tryz.prog 29=some 8:=by kernel_rfl
@[go_sem] theorem MD:zeroOf Tryz.prog 29=some (.agg #[.int .i64 0,.int .i64 0,.int .i64 0,.int .i64 0,.slice none 0 0,.slice none 0 0,.slice none 0 0,.slice none 0 0]):=by kernel_rfl
@[go_sem] theorem ME:cL Tryz.prog 29 0=some 0:=by kernel_rfl
@[go_sem] theorem MF:cL Tryz.prog 29 1=some 1:=by kernel_rfl
@[go_sem] theorem MG:cL Tryz.prog 29 2=some 2:=by kernel_rfl
@[go_sem] theorem MH:cL Tryz.prog 29 3=some 4:=by kernel_rfl
@[go_sem] theorem MI:cL Tryz.prog 29 4=some 5:=by kernel_rfl
@[go_sem] theorem MJ:cL Tryz.prog 29 5=some 6:=by kernel_rfl
@[go_sem] theorem MK:cL Tryz.prog 29 6=some 7:=by kernel_rfl
@[go_sem] theorem ML:placesOf Tryz.prog 29=some [(0,1),(1,1),(2,2),(4,1),(5,1),(6,1),(7,1)]:=by kernel_rfl
@[go_sem] theorem MM:cx Tryz.prog 35=some false:=by kernel_rfl
@[go_sem] theorem rJ:bX Tryz.prog 35=some 1:=by kernel_rfl
theorem rK:bytesOf Tryz.prog 35=some 24:=by kernel_rfl
@[go_sem] theorem rM:zeroOf Tryz.prog 35=some (.slice none 0 0):=by kernel_rfl
@[go_sem] theorem MN:jP Tryz.prog 35=true:=by kernel_rfl
@[go_sem] theorem fM:c5 Tryz.prog 35=some 3:=by kernel_rfl
@[go_sem] theorem MO:cx Tryz.prog 39=some true:=by kernel_rfl
@[go_sem] theorem MP:bX Tryz.prog 39=some 2:=by kernel_rfl
@[go_sem] theorem MQ:zeroOf Tryz.prog 39=some (.agg #[.int .i64 0,.int .i64 0]):=by kernel_rfl
@[go_sem] theorem MR:cL Tryz.prog 39 0=some 0:=by kernel_rfl
@[go_sem] theorem MS:cL Tryz.prog 39 1=some 1:=by kernel_rfl
@[go_sem] theorem MT:placesOf Tryz.prog 39=some [(0,1),(1,1)]:=by kernel_rfl
@[go_sem] theorem MU:cx Tryz.prog 41=some true:=by kernel_rfl
@[go_sem] theorem ES:bX Tryz.prog 41=some 3:=by kernel_rfl
theorem ET:bytesOf Tryz.prog 41=some 24:=by kernel_rfl
@[go_sem] theorem EU:zeroOf Tryz.prog 41=some (.agg #[.int .i64 0,.int .i64 0,.int .i64 0]):=by kernel_rfl
@[go_sem] theorem MV:cL Tryz.prog 41 0=some 0:=by kernel_rfl
@[go_sem] theorem MW:cL Tryz.prog 41 1=some 1:=by kernel_rfl
@[go_sem] theorem MX:placesOf Tryz.prog 41=some [(0,1),(1,2)]:=by kernel_rfl
@[go_sem] theorem MY:cx Tryz.prog 53=some true:=by kernel_rfl
@[go_sem] theorem MZ:bX Tryz.prog 53=some 2:=by kernel_rfl
@[go_sem] theorem M0:zeroOf Tryz.prog 53=some (.agg #[.int .i64 0,.int .i64 0]):=by kernel_rfl
@[go_sem] theorem M1:placesOf Tryz.prog 53=some [(0,1),(1,1)]:=by kernel_rfl
@[go_sem] theorem z3:c5 Tryz.prog 72=some 23:=by kernel_rfl
@[go_sem] theorem M3:cx Tryz.prog 76=some true:=by kernel_rfl
@[go_sem] theorem hU:bX Tryz.prog 76=some 2:=by kernel_rfl
theorem ia:bytesOf Tryz.prog 76=some 16:=by kernel_rfl
@[go_sem] theorem ie:zeroOf Tryz.prog 76=some (.agg #[.int .i64 0,.bool false]):=by kernel_rfl
@[go_sem] theorem M4:cL Tryz.prog 76 0=some 0:=by kernel_rfl
@[go_sem] theorem M5:cL Tryz.prog 76 1=some 1:=by kernel_rfl
@[go_sem] theorem M6:placesOf Tryz.prog 76=some [(0,1),(1,1)]:=by kernel_rfl
@[go_sem] theorem M7:cx Tryz.prog 85=some true:=by kernel_rfl
@[go_sem] theorem EV:bX Tryz.prog 85=some 2:=by kernel_rfl
theorem EW:bytesOf Tryz.prog 85=some 16:=by kernel_rfl
@[go_sem] theorem z4:zeroOf Tryz.prog 85=some (.agg #[.int .i64 0,.int .i64 0]):=by kernel_rfl
@[go_sem] theorem M8:cL Tryz.prog 85 0=some 0:=by kernel_rfl
@[go_sem] theorem M9:cL Tryz.prog 85 1=some 1:=by kernel_rfl
@[go_sem] theorem Na:placesOf Tryz.prog 85=some [(0,1),(1,1)]:=by kernel_rfl
@[go_sem] theorem Nb:cx Tryz.prog 96=some true:=by kernel_rfl
@[go_sem] theorem rN:bX Tryz.prog 96=some 2:=by kernel_rfl
theorem rO:bytesOf Tryz.prog 96=some 16:=by kernel_rfl
@[go_sem] theorem rP:zeroOf Tryz.prog 96=some (.agg #[.int .i64 0,.int .i64 0]):=by kernel_rfl
@[go_sem] theorem Nc:cL Tryz.prog 96 0=some 0:=by kernel_rfl
@[go_sem] theorem Nf:cL Tryz.prog 96 1=some 1:=by kernel_rfl
@[go_sem] theorem Ng:placesOf Tryz.prog 96=some [(0,1),(1,1)]:=by kernel_rfl
@[go_sem] theorem Nh:cx Tryz.prog 115=some true:=by kernel_rfl
@[go_sem] theorem Ni:bX Tryz.prog 115=some 8:=by kernel_rfl
@[go_sem] theorem Nj:zeroOf Tryz.prog 115=some (.agg #[.int .i64 0,.int .i64 0,.int .i64 0,.int .i64 0,.slice none 0 0,.slice none 0 0,.slice none 0 0,.slice none 0 0]):=by kernel_rfl
@[go_sem] theorem Nk:cL Tryz.prog 115 0=some 0:=by kernel_rfl
@[go_sem] theorem Nl:placesOf Tryz.prog 115=some [(0,8)]:=by kernel_rfl
@[go_sem] theorem Nm:cx Tryz.prog 118=some false:=by kernel_rfl
@[go_sem] theorem Nn:bX Tryz.prog 118=some 1:=by kernel_rfl
@[go_sem] theorem No:zeroOf Tryz.prog 118=some (.map none):=by kernel_rfl
@[go_sem] theorem Np:cx Tryz.prog 121=some true:=by kernel_rfl
@[go_sem] theorem EX:bX Tryz.prog 121=some 3:=by kernel_rfl
theorem EY:bytesOf Tryz.prog 121=some 24:=by kernel_rfl
@[go_sem] theorem EZ:zeroOf Tryz.prog 121=some (.agg #[.int .i64 0,.int .i64 0,.int .i64 0]):=by kernel_rfl
@[go_sem] theorem Nq:mX Tryz.prog 121=some (3,3):=by kernel_rfl
@[go_sem] theorem Nr:cx Tryz.prog 122=some false:=by kernel_rfl
@[go_sem] theorem Ns:bX Tryz.prog 122=some 1:=by kernel_rfl
@[go_sem] theorem z5:c5 Tryz.prog 122=some 121:=by kernel_rfl
@[go_sem] theorem Nt:cx Tryz.prog 124=some true:=by kernel_rfl
@[go_sem] theorem Nu:bX Tryz.prog 124=some 9:=by kernel_rfl
@[go_sem] theorem Nv:zeroOf Tryz.prog 124=some (.agg #[.int .i64 0,.int .i64 0,.int .i64 0,.int .i64 0,.slice none 0 0,.slice none 0 0,.slice none 0 0,.slice none 0 0,.slice none 0 0]):=by kernel_rfl
@[go_sem] theorem Nw:cL Tryz.prog 124 0=some 0:=by kernel_rfl
@[go_sem] theorem Ny:cL Tryz.prog 124 1=some 8:=by kernel_rfl
@[go_sem] theorem Nz:placesOf Tryz.prog 124=some [(0,8),(8,1)]:=by kernel_rfl
@[go_sem] theorem NA:cx Tryz.prog 127=some false:=by kernel_rfl
@[go_sem] theorem NB:bX Tryz.prog 127=some 1:=by kernel_rfl
@[go_sem] theorem NC:zeroOf Tryz.prog 127=some .nilFunc:=by kernel_rfl
@[go_sem] theorem ND:cx Tryz.prog 134=some true:=by kernel_rfl
@[go_sem] theorem E0:bX Tryz.prog 134=some 2:=by kernel_rfl
theorem E1:bytesOf Tryz.prog 134=some 16:=by kernel_rfl
@[go_sem] theorem E2:zeroOf Tryz.prog 134=some (.agg #[.int .i64 0,.int .i64 0]):=by kernel_rfl
@[go_sem] theorem NF:m0 Tryz.prog 134=some [true,true]:=by kernel_rfl
@[go_sem] theorem NG:cL Tryz.prog 134 0=some 0:=by kernel_rfl
@[go_sem] theorem NH:cL Tryz.prog 134 1=some 1:=by kernel_rfl
@[go_sem] theorem NI:placesOf Tryz.prog 134=some [(0,1),(1,1)]:=by kernel_rfl
@[go_sem] theorem NJ:cx Tryz.prog 139=some false:=by kernel_rfl
@[go_sem] theorem m7:c5 Tryz.prog 141=some 147:=by kernel_rfl
@[go_sem] theorem NK:cx Tryz.prog 142=some false:=by kernel_rfl
@[go_sem] theorem NL:bX Tryz.prog 142=some 1:=by kernel_rfl
@[go_sem] theorem NM:zeroOf Tryz.prog 142=some (.slice none 0 0):=by kernel_rfl
@[go_sem] theorem z6:c5 Tryz.prog 142=some 134:=by kernel_rfl
@[go_sem] theorem NN:cx Tryz.prog 145=some true:=by kernel_rfl
@[go_sem] theorem NO:bX Tryz.prog 145=some 3:=by kernel_rfl
@[go_sem] theorem NP:zeroOf Tryz.prog 145=some (.agg #[.int .i64 0,.int .i64 0,.int .i64 0]):=by kernel_rfl
@[go_sem] theorem NQ:m0 Tryz.prog 145=some [true,true,true]:=by kernel_rfl
@[go_sem] theorem NR:cL Tryz.prog 145 0=some 0:=by kernel_rfl
@[go_sem] theorem NS:cL Tryz.prog 145 1=some 1:=by kernel_rfl
@[go_sem] theorem NT:placesOf Tryz.prog 145=some [(0,1),(1,2)]:=by kernel_rfl
@[go_sem] theorem NU:cx Tryz.prog 147=some true:=by kernel_rfl
@[go_sem] theorem vn:bX Tryz.prog 147=some 6:=by kernel_rfl
theorem vo:bytesOf Tryz.prog 147=some 48:=by kernel_rfl
@[go_sem] theorem vp:zeroOf Tryz.prog 147=some (.agg #[.int .i64 0,.int .i64 0,.int .i64 0,.int .i64 0,.int .i64 0,.int .i64 0]):=by kernel_rfl
@[go_sem] theorem NV:cL Tryz.prog 147 0=some 0:=by kernel_rfl
@[go_sem] theorem NW:cL Tryz.prog 147 1=some 3:=by kernel_rfl
@[go_sem] theorem NX:cL Tryz.prog 147 2=some 4:=by kernel_rfl
@[go_sem] theorem NY:uP Tryz.prog 147 2=some (4,2,true):=by kernel_rfl
@[go_sem] theorem NZ:placesOf Tryz.prog 147=some [(0,3),(3,1),(4,2)]:=by kernel_rfl
@[go_sem] theorem kP:c5 Tryz.prog 154=some 35:=by kernel_rfl
@[go_sem] theorem N0:cx Tryz.prog 165=some false:=by kernel_rfl
@[go_sem] theorem N1:bX Tryz.prog 165=some 1:=by kernel_rfl
@[go_sem] theorem N2:zeroOf Tryz.prog 165=some .nilFunc:=by kernel_rfl
@[go_sem] theorem N3:c5 Tryz.prog 167=some 127:=by kernel_rfl
@[go_sem] theorem N4:cx Tryz.prog 174=some true:=by kernel_rfl
@[go_sem] theorem N5:bX Tryz.prog 174=some 5:=by kernel_rfl
@[go_sem] theorem N6:mX Tryz.prog 174=some (5,127):=by kernel_rfl
@[go_sem] theorem N7:cx Tryz.prog 177=some false:=by kernel_rfl
@[go_sem] theorem N8:bX Tryz.prog 177=some 1:=by kernel_rfl
@[go_sem] theorem N9:zeroOf Tryz.prog 177=some (.slice none 0 0):=by kernel_rfl
@[go_sem] theorem Oa:c5 Tryz.prog 177=some 4:=by kernel_rfl
@[go_sem] theorem Ob:cL Tryz.prog 182 0=some 0:=by kernel_rfl
@[go_sem] theorem Oc:cL Tryz.prog 182 1=some 1:=by kernel_rfl
@[go_sem] theorem Od:zeroOf Tryz.prog 184=some (.agg #[.int .i32 0,.int .u32 0]):=by kernel_rfl
@[go_sem] theorem Oe:cL Tryz.prog 184 1=some 0:=by kernel_rfl
@[go_sem] theorem Of:cL Tryz.prog 189 2=some 0:=by kernel_rfl
@[go_sem] theorem Og:zeroOf Tryz.prog 191=some (.agg #[.int .u64 0,.int .u32 0]):=by kernel_rfl
@[go_sem] theorem Oh:cL Tryz.prog 191 1=some 0:=by kernel_rfl
@[go_sem] theorem Oi:cL Tryz.prog 191 2=some 1:=by kernel_rfl
@[go_sem] theorem Oj:cx Tryz.prog 254=some false:=by kernel_rfl
@[go_sem] theorem Ok:bX Tryz.prog 254=some 1:=by kernel_rfl
@[go_sem] theorem Ol:zeroOf Tryz.prog 254=some (.int .u64 0):=by kernel_rfl
@[go_sem] theorem Om:aJ Tryz.prog 2=true:=by kernel_rfl
@[go_sem] theorem On:aJ Tryz.prog 3=true:=by kernel_rfl
@[go_sem] theorem Oo:aJ Tryz.prog 4=true:=by kernel_rfl
@[go_sem] theorem Oq:aJ Tryz.prog 5=true:=by kernel_rfl
@[go_sem] theorem Ot:aJ Tryz.prog 6=true:=by kernel_rfl
@[go_sem] theorem Ou:aJ Tryz.prog 7=true:=by kernel_rfl
@[go_sem] theorem Ov:aJ Tryz.prog 8=true:=by kernel_rfl
@[go_sem] theorem Ow:aJ Tryz.prog 9=true:=by kernel_rfl
@[go_sem] theorem Ox:aJ Tryz.prog 10=true:=by kernel_rfl
@[go_sem] theorem Oy:aJ Tryz.prog 11=true:=by kernel_rfl
@[go_sem] theorem Oz:aJ Tryz.prog 12=true:=by kernel_rfl
@[go_sem] theorem OA:aJ Tryz.prog 13=true:=by kernel_rfl
@[go_sem] theorem OB:aJ Tryz.prog 14=true:=by kernel_rfl
@[go_sem] theorem OC:aJ Tryz.prog 15=true:=by kernel_rfl
@[go_sem] theorem OD:aJ Tryz.prog 16=true:=by kernel_rfl
@[go_sem] theorem OE:aJ Tryz.prog 17=true:=by kernel_rfl
@[go_sem] theorem OF:aJ Tryz.prog 18=true:=by kernel_rfl
@[go_sem] theorem OG:aJ Tryz.prog 19=true:=by kernel_rfl
@[go_sem] theorem OH:aJ Tryz.prog 20=true:=by kernel_rfl
@[go_sem] theorem OI:aJ Tryz.prog 21=true:=by kernel_rfl
@[go_sem] theorem OJ:aJ Tryz.prog 22=true:=by kernel_rfl
@[go_sem] theorem OK:aJ Tryz.prog 23=true:=by kernel_rfl
@[go_sem] theorem OL:aJ Tryz.prog 24=true:=by kernel_rfl
@[go_sem] theorem OM:aJ Tryz.prog 25=true:=by kernel_rfl
@[go_sem] theorem ON:aJ Tryz.prog 26=true:=by kernel_rfl
@[go_sem] theorem OO:aJ Tryz.prog 27=true:=by kernel_rfl
@[go_sem] theorem OP:aJ Tryz.prog 28=true:=by kernel_rfl
@[go_sem] theorem OQ:aJ Tryz.prog 29=true:=by kernel_rfl
@[go_sem] theorem OR:aJ Tryz.prog 30=true:=by kernel_rfl
@[go_sem] theorem OS:aJ Tryz.prog 31=true:=by kernel_rfl
@[go_sem] theorem OT:aJ Tryz.prog 32=true:=by kernel_rfl
@[go_sem] theorem OU:aJ Tryz.prog 33=true:=by kernel_rfl
@[go_sem] theorem OV:aJ Tryz.prog 34=true:=by kernel_rfl
@[go_sem] theorem OW:aJ Tryz.prog 35=true:=by kernel_rfl
@[go_sem] theorem OX:aJ Tryz.prog 36=true:=by kernel_rfl
@[go_sem] theorem OY:aJ Tryz.prog 37=true:=by kernel_rfl
@[go_sem] theorem OZ:aJ Tryz.prog 38=true:=by kernel_rfl
@[go_sem] theorem O0:aJ Tryz.prog 39=true:=by kernel_rfl
@[go_sem] theorem O1:aJ Tryz.prog 40=true:=by kernel_rfl
@[go_sem] theorem O2:aJ Tryz.prog 41=true:=by kernel_rfl
@[go_sem] theorem O3:aJ Tryz.prog 42=true:=by kernel_rfl
@[go_sem] theorem O4:aJ Tryz.prog 43=true:=by kernel_rfl
@[go_sem] theorem O5:aJ Tryz.prog 44=true:=by kernel_rfl
@[go_sem] theorem O6:aJ Tryz.prog 45=true:=by kernel_rfl
@[go_sem] theorem O7:aJ Tryz.prog 46=true:=by kernel_rfl
@[go_sem] theorem O8:aJ Tryz.prog 47=true:=by kernel_rfl
@[go_sem] theorem O9:aJ Tryz.prog 48=true:=by kernel_rfl
@[go_sem] theorem Pa:aJ Tryz.prog 49=true:=by kernel_rfl
@[go_sem] theorem Pb:aJ Tryz.prog 50=true:=by kernel_rfl
@[go_sem] theorem Pd:aJ Tryz.prog 51=true:=by kernel_rfl
@[go_sem] theorem Pe:aJ Tryz.prog 52=true:=by kernel_rfl
@[go_sem] theorem Pf:aJ Tryz.prog 53=true:=by kernel_rfl
@[go_sem] theorem Pg:aJ Tryz.prog 54=true:=by kernel_rfl
@[go_sem] theorem Pj:aJ Tryz.prog 55=true:=by kernel_rfl
@[go_sem] theorem Pk:aJ Tryz.prog 56=true:=by kernel_rfl
@[go_sem] theorem Pm:aJ Tryz.prog 57=true:=by kernel_rfl
@[go_sem] theorem Pn:aJ Tryz.prog 58=true:=by kernel_rfl
@[go_sem] theorem Po:aJ Tryz.prog 59=true:=by kernel_rfl
@[go_sem] theorem Pp:aJ Tryz.prog 60=true:=by kernel_rfl
@[go_sem] theorem Pq:aJ Tryz.prog 61=true:=by kernel_rfl
@[go_sem] theorem Pt:aJ Tryz.prog 62=true:=by kernel_rfl
@[go_sem] theorem Pu:aJ Tryz.prog 63=true:=by kernel_rfl
@[go_sem] theorem Pv:aJ Tryz.prog 64=true:=by kernel_rfl
@[go_sem] theorem Pw:aJ Tryz.prog 65=true:=by kernel_rfl
@[go_sem] theorem Px:aJ Tryz.prog 66=true:=by kernel_rfl
@[go_sem] theorem Py:aJ Tryz.prog 67=true:=by kernel_rfl
@[go_sem] theorem Pz:aJ Tryz.prog 68=true:=by kernel_rfl
@[go_sem] theorem PA:aJ Tryz.prog 69=true:=by kernel_rfl
@[go_sem] theorem PB:aJ Tryz.prog 70=true:=by kernel_rfl
@[go_sem] theorem PC:aJ Tryz.prog 71=true:=by kernel_rfl
@[go_sem] theorem PD:aJ Tryz.prog 72=true:=by kernel_rfl
@[go_sem] theorem PE:aJ Tryz.prog 73=true:=by kernel_rfl
@[go_sem] theorem PF:aJ Tryz.prog 74=true:=by kernel_rfl
@[go_sem] theorem PG:aJ Tryz.prog 75=true:=by kernel_rfl
@[go_sem] theorem PI:aJ Tryz.prog 76=true:=by kernel_rfl
@[go_sem] theorem PJ:aJ Tryz.prog 77=true:=by kernel_rfl
@[go_sem] theorem PK:aJ Tryz.prog 78=true:=by kernel_rfl
@[go_sem] theorem PL:aJ Tryz.prog 79=true:=by kernel_rfl
@[go_sem] theorem PM:aJ Tryz.prog 80=true:=by kernel_rfl
@[go_sem] theorem PN:aJ Tryz.prog 81=true:=by kernel_rfl
@[go_sem] theorem PO:aJ Tryz.prog 82=true:=by kernel_rfl
@[go_sem] theorem PR:aJ Tryz.prog 83=true:=by kernel_rfl
@[go_sem] theorem PS:aJ Tryz.prog 84=true:=by kernel_rfl
@[go_sem] theorem PU:aJ Tryz.prog 85=true:=by kernel_rfl
@[go_sem] theorem PV:aJ Tryz.prog 86=true:=by kernel_rfl
@[go_sem] theorem PW:aJ Tryz.prog 87=true:=by kernel_rfl
@[go_sem] theorem PX:aJ Tryz.prog 88=true:=by kernel_rfl
@[go_sem] theorem PY:aJ Tryz.prog 89=true:=by kernel_rfl
@[go_sem] theorem PZ:aJ Tryz.prog 90=true:=by kernel_rfl
@[go_sem] theorem P1:aJ Tryz.prog 91=true:=by kernel_rfl
@[go_sem] theorem P2:aJ Tryz.prog 92=true:=by kernel_rfl
@[go_sem] theorem P3:aJ Tryz.prog 93=true:=by kernel_rfl
@[go_sem] theorem P4:aJ Tryz.prog 94=true:=by kernel_rfl
@[go_sem] theorem P5:aJ Tryz.prog 95=true:=by kernel_rfl
@[go_sem] theorem P6:aJ Tryz.prog 96=true:=by kernel_rfl
@[go_sem] theorem P7:aJ Tryz.prog 97=true:=by kernel_rfl
@[go_sem] theorem P8:aJ Tryz.prog 98=true:=by kernel_rfl
@[go_sem] theorem P9:aJ Tryz.prog 99=true:=by kernel_rfl
@[go_sem] theorem Qa:aJ Tryz.prog 100=true:=by kernel_rfl
@[go_sem] theorem Qb:aJ Tryz.prog 101=true:=by kernel_rfl
@[go_sem] theorem Qc:aJ Tryz.prog 102=true:=by kernel_rfl
@[go_sem] theorem Qd:aJ Tryz.prog 103=true:=by kernel_rfl
@[go_sem] theorem Qe:aJ Tryz.prog 104=true:=by kernel_rfl
@[go_sem] theorem Qf:aJ Tryz.prog 105=true:=by kernel_rfl
@[go_sem] theorem Qg:aJ Tryz.prog 106=true:=by kernel_rfl
@[go_sem] theorem Qh:aJ Tryz.prog 107=true:=by kernel_rfl
@[go_sem] theorem Qi:aJ Tryz.prog 108=true:=by kernel_rfl
@[go_sem] theorem Qj:aJ Tryz.prog 109=true:=by kernel_rfl
@[go_sem] theorem Qk:aJ Tryz.prog 110=true:=by kernel_rfl
@[go_sem] theorem Ql:aJ Tryz.prog 111=true:=by kernel_rfl
@[go_sem] theorem Qm:aJ Tryz.prog 112=true:=by kernel_rfl
@[go_sem] theorem Qo:aJ Tryz.prog 113=true:=by kernel_rfl
@[go_sem] theorem Qp:aJ Tryz.prog 114=true:=by kernel_rfl
@[go_sem] theorem Qq:aJ Tryz.prog 115=true:=by kernel_rfl
@[go_sem] theorem Qr:aJ Tryz.prog 116=true:=by kernel_rfl
@[go_sem] theorem Qs:aJ Tryz.prog 117=true:=by kernel_rfl
@[go_sem] theorem Qt:aJ Tryz.prog 118=true:=by kernel_rfl
@[go_sem] theorem Qu:aJ Tryz.prog 119=true:=by kernel_rfl
@[go_sem] theorem Qv:aJ Tryz.prog 120=true:=by kernel_rfl
@[go_sem] theorem Qw:aJ Tryz.prog 121=true:=by kernel_rfl
@[go_sem] theorem Qx:aJ Tryz.prog 122=true:=by kernel_rfl
@[go_sem] theorem Qy:aJ Tryz.prog 123=true:=by kernel_rfl
@[go_sem] theorem Qz:aJ Tryz.prog 124=true:=by kernel_rfl
@[go_sem] theorem QA:aJ Tryz.prog 125=true:=by kernel_rfl
@[go_sem] theorem QB:aJ Tryz.prog 126=true:=by kernel_rfl
@[go_sem] theorem QC:aJ Tryz.prog 127=true:=by kernel_rfl
@[go_sem] theorem QD:aJ Tryz.prog 128=true:=by kernel_rfl
@[go_sem] theorem QE:aJ Tryz.prog 129=true:=by kernel_rfl
@[go_sem] theorem QF:aJ Tryz.prog 130=true:=by kernel_rfl
@[go_sem] theorem QG:aJ Tryz.prog 131=true:=by kernel_rfl
@[go_sem] theorem z7:aJ Tryz.prog 132=true:=by kernel_rfl
@[go_sem] theorem QH:aJ Tryz.prog 133=true:=by kernel_rfl
@[go_sem] theorem QI:aJ Tryz.prog 134=true:=by kernel_rfl
@[go_sem] theorem QJ:aJ Tryz.prog 135=true:=by kernel_rfl
@[go_sem] theorem QK:aJ Tryz.prog 136=true:=by kernel_rfl
@[go_sem] theorem E3:aJ Tryz.prog 137=true:=by kernel_rfl
@[go_sem] theorem E4:aJ Tryz.prog 138=true:=by kernel_rfl
@[go_sem] theorem E5:aJ Tryz.prog 139=true:=by kernel_rfl
@[go_sem] theorem QL:aJ Tryz.prog 140=true:=by kernel_rfl
@[go_sem] theorem QM:aJ Tryz.prog 141=true:=by kernel_rfl
@[go_sem] theorem QN:aJ Tryz.prog 142=true:=by kernel_rfl
@[go_sem] theorem QO:aJ Tryz.prog 143=true:=by kernel_rfl
@[go_sem] theorem QS:aJ Tryz.prog 144=true:=by kernel_rfl
@[go_sem] theorem QT:aJ Tryz.prog 145=true:=by kernel_rfl
@[go_sem] theorem QU:aJ Tryz.prog 146=true:=by kernel_rfl
@[go_sem] theorem QV:aJ Tryz.prog 147=true:=by kernel_rfl
@[go_sem] theorem QW:aJ Tryz.prog 148=true:=by kernel_rfl
@[go_sem] theorem QX:aJ Tryz.prog 149=true:=by kernel_rfl
@[go_sem] theorem QY:aJ Tryz.prog 150=true:=by kernel_rfl
@[go_sem] theorem QZ:aJ Tryz.prog 157=true:=by kernel_rfl
@[go_sem] theorem z8:aJ Tryz.prog 158=true:=by kernel_rfl
@[go_sem] theorem vq:aJ Tryz.prog 160=true:=by kernel_rfl
@[go_sem] theorem E6:aJ Tryz.prog 161=true:=by kernel_rfl
@[go_sem] theorem Q0:aJ Tryz.prog 164=true:=by kernel_rfl
@[go_sem] theorem E7:aJ Tryz.prog 165=true:=by kernel_rfl
@[go_sem] theorem E8:aJ Tryz.prog 166=true:=by kernel_rfl
@[go_sem] theorem E9:aJ Tryz.prog 169=true:=by kernel_rfl
@[go_sem] theorem Q1:aJ Tryz.prog 172=true:=by kernel_rfl
@[go_sem] theorem Q2:aJ Tryz.prog 173=true:=by kernel_rfl
@[go_sem] theorem Q3:aJ Tryz.prog 174=true:=by kernel_rfl
@[go_sem] theorem Q4:aJ Tryz.prog 175=true:=by kernel_rfl
@[go_sem] theorem Q5:aJ Tryz.prog 176=true:=by kernel_rfl
@[go_sem] theorem Q6:aJ Tryz.prog 177=true:=by kernel_rfl
@[go_sem] theorem Q7:aJ Tryz.prog 178=true:=by kernel_rfl
@[go_sem] theorem Q8:aJ Tryz.prog 179=true:=by kernel_rfl
@[go_sem] theorem Q9:aJ Tryz.prog 180=true:=by kernel_rfl
@[go_sem] theorem Ra:aJ Tryz.prog 181=true:=by kernel_rfl
@[go_sem] theorem Rb:aJ Tryz.prog 182=true:=by kernel_rfl
@[go_sem] theorem Rc:aJ Tryz.prog 183=true:=by kernel_rfl
@[go_sem] theorem Re:aJ Tryz.prog 184=true:=by kernel_rfl
@[go_sem] theorem Rf:aJ Tryz.prog 185=true:=by kernel_rfl
@[go_sem] theorem Rg:aJ Tryz.prog 186=true:=by kernel_rfl
@[go_sem] theorem Rh:aJ Tryz.prog 187=true:=by kernel_rfl
@[go_sem] theorem Ri:aJ Tryz.prog 192=true:=by kernel_rfl
@[go_sem] theorem Fa:aJ Tryz.prog 194=true:=by kernel_rfl
@[go_sem] theorem Fb:aJ Tryz.prog 196=true:=by kernel_rfl
@[go_sem] theorem Rj:aJ Tryz.prog 198=true:=by kernel_rfl
@[go_sem] theorem Rl:aJ Tryz.prog 199=true:=by kernel_rfl
@[go_sem] theorem Rm:aJ Tryz.prog 200=true:=by kernel_rfl
@[go_sem] theorem Rn:aJ Tryz.prog 201=true:=by kernel_rfl
@[go_sem] theorem Ro:aJ Tryz.prog 202=true:=by kernel_rfl
@[go_sem] theorem Rp:aJ Tryz.prog 203=true:=by kernel_rfl
@[go_sem] theorem Rq:aJ Tryz.prog 204=true:=by kernel_rfl
@[go_sem] theorem Rr:aJ Tryz.prog 212=true:=by kernel_rfl
@[go_sem] theorem Rs:aJ Tryz.prog 229=true:=by kernel_rfl
@[go_sem] theorem Rt:aJ Tryz.prog 230=true:=by kernel_rfl
@[go_sem] theorem Ru:aJ Tryz.prog 231=true:=by kernel_rfl
@[go_sem] theorem Rv:aJ Tryz.prog 232=true:=by kernel_rfl
@[go_sem] theorem Rw:aJ Tryz.prog 233=true:=by kernel_rfl
@[go_sem] theorem Rx:aJ Tryz.prog 237=true:=by kernel_rfl
end Go.Proofs.YtpgcmoanfifglaaGreatDoor
end
section
namespace Go.Sep
open Go Go.Conc
def jU (o:Oper):Option (TypeId×Nat):=match o.op,o.dst,o.guard with
 | .alloc t,some d,none=>some (t,d)
 |_,_,_=>none
def z9 (ops:Array Oper)(m:Nat):Bool:=
 m5 ops (m+1)&&decide (m+2<=ops.size)&&
 (match (ops[m]?).bind jU,(ops[m+1]?).bind jU with|some (_,d),some (_,a)=>!(d==a)|_,_=>false)&&
 decide (Region.ready .any ops (cP ops.size m)=[m,m+1])&&decide (Region.ready .any ops ((cP ops.size m).setIfInBounds (m+1) true)=[m])
theorem Aa {ro:Addr->Option Value}{x y:Nat×Obj}{l:List (Nat×Obj)}:Le ⟨ro,x::y::l⟩ ⟨ro,y::x::l⟩:=by
 have c:∀b,b∈keys (x::y::l)↔b∈keys (y::x::l):=fun b=>by
  simp only[keys,List.map_cons,List.mem_cons];exact ⟨fun h=>by rcases h with h|h|h;exact .inr (.inl h);exact .inl h;exact .inr (.inr h),fun h=>by rcases h with h|h|h;exact .inr (.inl h);exact .inl h;exact .inr (.inr h)⟩
 refine ⟨fun w hw=>⟨hw.ro,fun b o hb=>hw.own b o ?_,?_,fun a v h hm=>hw.apart a v h ((c _).1 hm)⟩,fun b hb=>(c b).1 hb,fun a d=>.inl d⟩
 ·rcases List.mem_cons.1 hb with h|h
  ·exact List.mem_cons_of_mem _ (h▸List.mem_cons_self)
  ·rcases List.mem_cons.1 h with h|h
   ·exact h▸List.mem_cons_self
   ·exact List.mem_cons_of_mem _ (List.mem_cons_of_mem _ h)
 ·have:=hw.nodup;simp only[keys,List.map_cons,List.nodup_cons,List.mem_cons,not_or] at this ⊢;exact ⟨⟨fun e=>this.1.1 e.symm,this.2.1⟩,this.1.2,this.2.2⟩
section
variable {P : Program} {main : Bool} {J : Goroutine → aa → Prop} {ops : Array Oper} {Q : Act → aa → Prop} {F0 : aa}
theorem Ab {o:Oper}{t:TypeId}{d:Nat}(h:jU o=some (t,d)):o.op= .alloc t/\o.dst=some d/\o.guard=none:=by
 unfold jU at h;split at h
 ·rename_i a b c;cases h;exact ⟨a,b,c⟩
 ·cases h
theorem pI {o:Oper}{a:Act}(h:o.guard=none):cz ops o a=some true:=by unfold cz;rw[h]
theorem vr {o:Oper}{t:TypeId}{a:Act}{F:aa}{z:Value}{R:Value->aa->Prop}{D:Deferred->aa->Prop}(d:o.op= .alloc t)(e:zeroOf P t=some z)
  (h:∀b,dO F b->∃c,Le c (F.push b (.cells z.cells t))/\R (.pointer (some ⟨b,0,none⟩)) c):aU P (execOp a.eval o) (jL P J R D) F:=by
 have:Oper.m3 o=false:=by unfold Oper.m3;rw[d]
 refine zJ (R:=fun v F=>∃c,Le c F/\R v c) this ?_
 unfold cJ
 rw[d]
 simp only[e]
 exact h
theorem Fc (m:Nat){o1 o2:Oper}{rest:List Oper}{t1 t2 d1 d2:Nat}(hm:m+2<=ops.size)(y:ops[m]?=some o1)(A:ops[m+1]?=some o2)(M:jU o1=some (t1,d1))(N:jU o2=some (t2,d2)){q:Value}(B:zeroOf P t2=some q)(hd:¬d1=d2)
  (C:ops.toList.drop (m+2)=rest) (D:Region.ready .any ops (cP ops.size m)=[m,m+1]) (E:Region.ready .any ops ((cP ops.size m).setIfInBounds (m+1) true)=[m])
  (G:∀j,j<ops.size - (m+1)->Region.ready .any ops (cP ops.size (m+1+j))=[m+1+j]) (H:Region.ready .any ops (cP ops.size ops.size)=[])
  {a:Act} {F:aa} (r:Knows F0 F) (h:eD P J ops F0 Q (o1::o2::rest) true a F):dI P J ops Q (Knows F0) (ops.size - m) (cP ops.size m) a F:=by
 obtain ⟨e1,s,t⟩:=Ab M
 obtain ⟨e2,I,K⟩:=Ab N
 have O:ops.size - m=(ops.size - (m+1))+1:=by omega
 have R:ops.size - (m+1)=(ops.size - (m+2))+1:=by omega
 unfold eD at h
 rw[pI t] at h
 simp only at h
 have k:∃z,zeroOf P t1=some z:=by
  unfold cJ at h
  rw[e1] at h
  simp only at h
  split at h
  ·rename_i z S;exact ⟨z,S⟩
  ·exact h.elim
 obtain ⟨g,k⟩:=k
 have u:∀b,dO F b->Knows F0 (F.push b (.cells g.cells t1))/\eD P J ops F0 Q (o2::rest) (!Oper.calls o1) (bg a (some d1) (.pointer (some ⟨b,0,none⟩))) (F.push b (.cells g.cells t1)):=by
  unfold cJ at h
  rw[e1] at h
  simp only[k,s] at h
  exact h
 have T:∀b,dO F b->∀f,dO (F.push b (.cells g.cells t1)) f->Knows F0 ((F.push b (.cells g.cells t1)).push f (.cells q.cells t2))/\
   eD P J ops F0 Q rest (!Oper.calls o2) (bg (bg a (some d1) (.pointer (some ⟨b,0,none⟩))) (some d2) (.pointer (some ⟨f,0,none⟩))) ((F.push b (.cells g.cells t1)).push f (.cells q.cells t2)):=by
  intro b hb
  have:=(u b hb).2
  unfold eD at this
  rw[pI K] at this
  simp only at this
  unfold cJ at this
  rw[e2] at this
  simp only[B,I] at this
  exact this
 have L:=rE (n:=ops.size) (m:=m) (by omega)
 have U:=rE (n:=ops.size) (m:=m+1) (by omega)
 rw[O]
 refine ⟨fun p=>(by rw[D] at p;cases p),fun i hi=>?_⟩
 rw[D] at hi
 simp only[List.mem_cons,List.not_mem_nil,or_false] at hi
 rcases hi with hi|hi
 ·subst hi
  unfold dH
  simp only[y]
  rw[if_pos (cg (pI t))]
  refine vr e1 k fun b hb=>⟨_,Le.refl _,(u b hb).1,?_⟩
  rw[L,s]
  exact lV (i+1) G H (o2::rest) (i+1) _ _ _ (Nat.le_refl _) (by omega) (by
   have:=List.drop_eq_getElem_cons (l:=ops.toList) (i:=i+1) (by simp;omega)
   rw[this,C]
   obtain ⟨_,he⟩:=Array.getElem?_eq_some_iff.1 A
   simp[he]) (u b hb).2
 ·subst hi
  unfold dH
  simp only[A]
  rw[if_pos (cg (pI K))]
  refine vr e2 B fun f v=>⟨_,Le.refl _,?_,?_⟩
  ·refine ⟨r.1,r.2.1,?_⟩
   have V:∀(l own:List (Nat×Obj)),au own f->iM l own->iM l ((f,.cells q.cells t2)::own):=fun l own W w=>by
    induction l with
    |nil=>trivial
    |cons x l ih=>
     obtain ⟨c,o⟩:=x
     refine ⟨?_,ih w.2⟩
     have X:¬f=c:=fun e=>kK W (e▸eO (gI w.1))
     simp only[lk,if_neg X]
     exact w.1
   exact V _ _ v.own r.2.2
  ·rw[R]
   refine ⟨fun p=>(by rw[E] at p;cases p),fun i hi=>?_⟩
   rw[E] at hi
   simp only[List.mem_cons,List.not_mem_nil,or_false] at hi
   subst hi
   unfold dH
   simp only[y]
   rw[if_pos (cg (pI t))]
   refine vr e1 k fun b hb=>?_
   have Y:dO F b:=⟨hb.ro,hb.own.2⟩
   have aF:¬f=b:=fun e=>hb.own.1 e.symm
   have Z:dO (F.push b (.cells g.cells t1)) f:=⟨v.ro,⟨aF,v.own⟩⟩
   obtain ⟨ab,ad⟩:=T b Y f Z
   refine ⟨_,Aa,ab,?_⟩
   have ae:bg (bg a o2.dst (.pointer (some ⟨f,0,none⟩))) o1.dst (.pointer (some ⟨b,0,none⟩))=bg (bg a (some d1) (.pointer (some ⟨b,0,none⟩))) (some d2) (.pointer (some ⟨f,0,none⟩)):=by
    rw[s,I]
    exact Act.put_comm a _ _ (fun d al=>by cases al;intro e;cases e;exact hd rfl)
   have hs:((cP ops.size i).setIfInBounds (i+1) true).setIfInBounds i true=cP ops.size (i+2):=by
    rw[Array.setIfInBounds_comm _ _ (by omega:i+1≠i),L,U]
   show dI P J ops Q (Knows F0) (ops.size - (i+2)) _ (bg (bg a o2.dst _) o1.dst _) _
   rw[hs,ae]
   exact lV (i+1) G H rest (i+2) _ _ _ (by omega) hm C ad
theorem Ac {Q:Ex->Act->aa->Prop}(hJ:Closed P main J)(o:P.follows .mixedOrders=true)(m:Nat){id:Nat}{a:Act}{F:aa}(F0:aa)(e:Knows F0 F)(f:z9 ops m=true)(t2:TypeId){p:Value}(g:((ops[m+1]?).bind jU).map (·.1)=some t2)(q:zeroOf P t2=some p)
  (h:dY P J ops F0 (fun j=>eD P J ops F0 (Q .normal) (ops.toList.drop m) true j F) (ops.toList.take m) true a):Wp J (.region id ops true) Q a F:=by
 simp only[z9,Bool.and_eq_true,decide_eq_true_eq] at f
 obtain ⟨⟨⟨⟨r,hm⟩,b⟩,s⟩,t⟩:=f
 have k:=zR r
 simp only[pe,Bool.and_eq_true,decide_eq_true_eq,List.all_eq_true,List.mem_range] at k
 obtain ⟨⟨⟨⟨u,D⟩,v⟩,w⟩,x⟩:=k
 cases c:(ops[m]?).bind jU with
 |none=>rw[c] at b;cases b
 |some y=>
  cases d:(ops[m+1]?).bind jU with
  |none=>rw[c,d] at b;cases b
  |some z=>
   obtain ⟨t1,d1⟩:=y
   obtain ⟨A,d2⟩:=z
   rw[d] at g
   obtain rfl:A=t2:=by simpa using g
   rw[c,d] at b
   obtain ⟨o1,e1,a1⟩:=Option.bind_eq_some_iff.1 c
   obtain ⟨o2,e2,a2⟩:=Option.bind_eq_some_iff.1 d
   have hd:¬d1=d2:=by simpa using b
   have B:ops.toList.drop m=o1::o2::ops.toList.drop (m+2):=by
    obtain ⟨C,c1⟩:=Array.getElem?_eq_some_iff.1 e1
    obtain ⟨b2,c2⟩:=Array.getElem?_eq_some_iff.1 e2
    rw[List.drop_eq_getElem_cons (l:=ops.toList) (i:=m) (by simpa using C),List.drop_eq_getElem_cons (l:=ops.toList) (i:=m+1) (by simpa using b2)]
    simp[c1,c2]
   refine uI hJ (Knows F0) o ?_
   rw[<-zS]
   have:=rF (P:=P) (J:=J) (Q:=Q .normal) m (by omega) u (fun i hi=>by have:=v i (by omega);simpa using this) e (fun j n=>by
    rw[B] at n
    exact Fc (F0:=F0) m hm e1 e2 a1 a2 q hd rfl s t w x e n) _ 0 true a (by simp) (Nat.zero_le _) h
   simpa using this
end
def pick (ops:Array Oper):List Nat->List Oper
 |[]=>[]
 |i::is=>match ops[i]? with
  |some o=>o::pick ops is
  |none=>pick ops is
def vt:List Nat->Array Bool->Array Bool
 |[],L=>L
 |i::is,L=>vt is (L.setIfInBounds i true)
def rQ (ops:Array Oper):List Nat->Array Bool->Bool
 |[],_=>true
 |i::is,L=>Region.free .any ops L i&&(Region.ready .any ops L).contains i&&(ops[i]?).isSome&&rQ ops is (L.setIfInBounds i true)
def pJ (ops:Array Oper):List Nat->Array Bool->Bool
 |[],L=>decide (Region.ready .any ops L=[])
 |i::is,L=>decide (Region.ready .any ops L=[i])&&(ops[i]?).isSome&&pJ ops is (L.setIfInBounds i true)
def Ad (ops:Array Oper)(is a:List Nat):Bool:=
 Region.noSelect ops&&rQ ops is (Array.replicate ops.size false)&&pJ ops a (vt is (Array.replicate ops.size false))&&decide (is.length+a.length=ops.size)
section
variable {P : Program} {main : Bool} {J : Goroutine → aa → Prop} {ops : Array Oper} {Q : Act → aa → Prop} {F0 : aa}
theorem Ae {K:Act->Prop}(m:Region.noSelect ops=true){F:aa}(b:Knows F0 F)(fuel:Nat):
  ∀(is:List Nat) (L:Array Bool) (go:Bool) (a:Act),rQ ops is L=true->dY P J ops F0 K (pick ops is) go a->(∀n,K n->dI P J ops Q (Knows F0) fuel (vt is L) n F)->
   dI P J ops Q (Knows F0) (fuel+is.length) L a F
 |[],L,go,a,_,h,k=>by unfold pick dY at h;exact k a h
 |i::is,L,go,a,p,h,k=>by
  simp only[rQ,Bool.and_eq_true] at p
  obtain ⟨⟨⟨c1,c2⟩,c3⟩,c4⟩:=p
  obtain ⟨o,c⟩:=Option.isSome_iff_exists.1 c3
  have g:(Region.noSelect ops&&Region.free .any ops L i&&(Region.ready .any ops L).contains i)=true:=by rw[m,c1,c2];rfl
  have q:pick ops (i::is)=o::pick ops is:=by simp only[pick,c]
  rw[q] at h
  have e:fuel+(i::is).length=(fuel+is.length)+1:=by simp only[List.length_cons];omega
  rw[e]
  have next:∀go v,dY P J ops F0 K (pick ops is) go (bg a o.dst v)->dI P J ops Q (Knows F0) (fuel+is.length) (L.setIfInBounds i true) (bg a o.dst v) F:=fun go v d=>
   Ae m b fuel is _ go _ c4 d k
  unfold dY at h
  split at h
  ·rename_i hg
   exact zM i c g hg b (next true undef h)
  ·rename_i hg
   split at h
   ·rename_i t x l
    split at h
    case h_2=>exact h.elim
    rename_i ad r
    split at h
    case h_2=>exact h.elim
    rename_i v d
    refine m4 i v c g hg (fun F R j f=>?_) b (next _ v h)
    unfold cJ
    simp only[l,r,j.e8 d]
    exact f
   ·rename_i x args argTypes l
    split at h
    case h_2=>exact h.elim
    rename_i fn first captured s
    obtain ⟨u,v,w,h⟩:=h
    refine m4 i v c g hg (fun F R j f=>?_) b (next _ v h)
    unfold cJ
    simp only[l,s]
    exact ⟨u,(w F j).mono fun z F' y=>by obtain ⟨rfl,rfl⟩:=y;exact f⟩
   ·split at h
    case h_2=>exact h.elim
    rename_i v d
    exact m4 i v c g hg (fun F R j f=>rD d f) b (next _ v h)
  ·exact h.elim
theorem Af:∀(b:List Nat) (L:Array Bool) (go:Bool) (a:Act) (F:aa),pJ ops b L=true->eD P J ops F0 Q (pick ops b) go a F->dI P J ops Q (Knows F0) b.length L a F
 |[],L,go,a,F,c,h=>by
  simp only[pJ,decide_eq_true_eq] at c
  unfold pick eD at h
  exact zj c h _
 |j::b,L,go,a,F,c,h=>by
  simp only[pJ,Bool.and_eq_true,decide_eq_true_eq] at c
  obtain ⟨⟨c1,c3⟩,c4⟩:=c
  obtain ⟨o,d⟩:=Option.isSome_iff_exists.1 c3
  have e:pick ops (j::b)=o::pick ops b:=by simp only[pick,d]
  rw[e] at h
  unfold eD at h
  split at h
  ·rename_i hg
   refine zN j d c1 hg ?_
   refine lV.rG ?_ h
   rintro v F' ⟨f,g⟩
   exact ⟨f,Af b _ _ _ F' c4 g⟩
  ·exact h.elim
theorem Fe {Q:Ex->Act->aa->Prop}(hJ:Closed P main J)(e:P.follows .mixedOrders=true)(is b:List Nat){id:Nat}{a:Act}{F:aa}(F0:aa)(f:Knows F0 F)(d:Ad ops is b=true)
  (h:dY P J ops F0 (fun c=>eD P J ops F0 (Q .normal) (pick ops b) true c F) (pick ops is) true a):Wp J (.region id ops true) Q a F:=by
 simp only[Ad,Bool.and_eq_true,decide_eq_true_eq] at d
 obtain ⟨⟨⟨g,i⟩,j⟩,l⟩:=d
 refine uI hJ (Knows F0) e ?_
 have:=Ae (P:=P) (J:=J) (Q:=Q .normal) g f b.length is _ true a i h (fun c k=>Af b _ true c F j k)
 rwa [show b.length+is.length=ops.size by omega] at this
end
attribute [go_sem] pick
inductive jV where
 |done
 |rd (i:Nat) (p:jV)
 |one (i:Nat) (p:jV)
 |two (i:Nat) (p:jV) (j:Nat) (q:jV)
inductive kQ where
 |done
 |rd (o:Oper) (p:kQ)
 |one (o:Oper) (p:kQ)
 |two (o:Oper) (p:kQ) (o':Oper) (q:kQ)
 |bad
def jV.opers (ops:Array Oper):jV->kQ
 | .done=>.done
 | .rd i p=>match ops[i]? with
  |some o=>.rd o (p.opers ops)
  |none=>.bad
 | .one i p=>match ops[i]? with
  |some o=>.one o (p.opers ops)
  |none=>.bad
 | .two i p j q=>match ops[i]?,ops[j]? with
  |some o,some o'=>.two o (p.opers ops) o' (q.opers ops)
  |_,_=>.bad
def jV.len:jV->Nat
 | .done=>0
 | .rd _ p=>p.len+1
 | .one _ p=>p.len+1
 | .two _ p _ q=>max p.len q.len+1
def fN (P:Program)(J:Goroutine->aa->Prop)(ops:Array Oper)(F0:aa)(Q:Act->aa->Prop):kQ->Bool->Act->aa->Prop
 | .done,_,a,F=>Q a F
 | .bad,_,_,_=>False
 | .rd o p,_,a,F=>match cz ops o a with
  |some false=>fN P J ops F0 Q p true (bg a o.dst undef) F
  |some true=>match o.op with
   | .load t x=>match ev a x with
    | .pointer (some ad)=>match e8 P F0 t ad with
     |some v=>fN P J ops F0 Q p true (bg a o.dst v) F
     |none=>False
    |_=>False
   | .call {callee:=.value x,args, ..}=>match ev a x with
    | .func (.func fn) first captured=>aJ P fn=true/\∃v,Plain P J F0 fn (first++args.map (ev a)++captured) v/\fN P J ops F0 Q p false (bg a o.dst v) F
    |_=>False
   |_=>match iN P o a with
    |some v=>fN P J ops F0 Q p true (bg a o.dst v) F
    |none=>False
  |none=>False
 | .one o p,_,a,F=>match cz ops o a with
  |some true=>cJ P J o (fun v F'=>Knows F0 F'/\fN P J ops F0 Q p (!Oper.calls o) (bg a o.dst v) F') a F
  |_=>False
 | .two o p o' q,_,a,F=>(match cz ops o a with
  |some true=>cJ P J o (fun v F'=>Knows F0 F'/\fN P J ops F0 Q p (!Oper.calls o) (bg a o.dst v) F') a F
  |_=>False)/\(match cz ops o' a with
  |some true=>cJ P J o' (fun v F'=>Knows F0 F'/\fN P J ops F0 Q q (!Oper.calls o') (bg a o'.dst v) F') a F
  |_=>False)
theorem Ff {P:Program}{J:Goroutine->aa->Prop}{ops:Array Oper}{F0:aa}{Q:Act->aa->Prop}{go:Bool}{a:Act}{F:aa}:fN P J ops F0 Q .done go a F=Q a F:=rfl
theorem Fg {P:Program}{J:Goroutine->aa->Prop}{ops:Array Oper}{F0:aa}{Q:Act->aa->Prop}{o:Oper}{p:kQ}{a:Act}{F:aa}:fN P J ops F0 Q (.rd o p) true a F=match cz ops o a with
  |some false=>fN P J ops F0 Q p true (bg a o.dst undef) F
  |some true=>match o.op with
   | .load t x=>match ev a x with
    | .pointer (some ad)=>match e8 P F0 t ad with
     |some v=>fN P J ops F0 Q p true (bg a o.dst v) F
     |none=>False
    |_=>False
   | .call {callee:=.value x,args, ..}=>match ev a x with
    | .func (.func fn) first captured=>aJ P fn=true/\∃v,Plain P J F0 fn (first++args.map (ev a)++captured) v/\fN P J ops F0 Q p false (bg a o.dst v) F
    |_=>False
   |_=>match iN P o a with
    |some v=>fN P J ops F0 Q p true (bg a o.dst v) F
    |none=>False
  |none=>False:=(Eq.refl _).trans (Eq.refl _)
theorem Fh {P:Program}{J:Goroutine->aa->Prop}{ops:Array Oper}{F0:aa}{Q:Act->aa->Prop}{o:Oper}{p:kQ}{a:Act}{F:aa}:fN P J ops F0 Q (.one o p) true a F=match cz ops o a with
  |some true=>cJ P J o (fun v F'=>Knows F0 F'/\fN P J ops F0 Q p (!Oper.calls o) (bg a o.dst v) F') a F
  |_=>False:=(Eq.refl _).trans (Eq.refl _)
attribute [irreducible] fN
attribute [go_sem] Ff Fg Fh jV.opers
theorem Ah {F:aa}{a:Addr}:∀(cs:List Value) (i:Nat),(∀j v,cs[j]?=some v->F.get (a.add (i+j))=some v)->F.dh a i cs.length=some cs
 |[],i,_=>rfl
 |v::cs,i,h=>by
  have b:=h 0 v rfl
  rw[Nat.add_zero] at b
  have ih:=Ah cs (i+1) (fun j w hw=>by
   have:=h (j+1) w (by simpa using hw)
   rwa [show i+(j+1)=i+1+j by omega] at this)
  simp only[List.length_cons,aa.dh,b,ih]
theorem Ai {F:aa}{a:Addr}:∀(m i k:Nat) (d c:List Value),F.dh a i m=some d->F.dh a (i+m) k=some c->F.dh a i (m+k)=some (d++c)
 |0,i,k,d,c,b,e=>by
  simp only[aa.dh,Option.some.injEq] at b
  subst b
  rw[Nat.zero_add]
  simpa using e
 |m+1,i,k,d,c,b,e=>by
  unfold aa.dh at b
  split at b
  case h_2=>cases b
  rename_i v f
  split at b
  case h_2=>cases b
  rename_i g h
  cases b
  have ih:=Ai m (i+1) k g c h (by rwa [show i+1+m=i+(m+1) by omega])
  rw[show m+1+k=(m+k)+1 by omega]
  simp only[aa.dh,f,ih,List.cons_append]
theorem aC.cells {T:Type}{r:b7 T}{ro:Addr->Option Value}{ad:Option Addr}{c:Nat}{l:List T}(h:aC r ro (.slice ad l.length c) l)(F:aa)(z:∀a v,ro a=some v->F.get a=some v):
  ∃b:List (List Value),b.length=l.length/\(∀x∈b,x.length=r.n/\∀v∈x,bE v=true)/\(∀(i:Nat) (x:T),l[i]?=some x->∃cs,b[i]?=some cs/\r.rel ro x cs)/\fY F r.n (.slice ad l.length c)=some b.flatten:=by
 obtain ⟨G,H,e,_,_,he⟩:=h
 cases e
 cases m:l with
 |nil=>subst m;refine ⟨[],rfl,by simp,by simp,?_⟩;cases ad<;>simp[fY,aa.dh]
 |cons A l0=>
  obtain ⟨p,I,B,-,-⟩:=he 0 A (by rw[m];rfl)
  subst B
  rw[<-m]
  have key:∀k,k<=l.length->∃b:List (List Value),b.length=k/\(∀x∈b,x.length=r.n/\∀v∈x,bE v=true)/\(∀(i:Nat) (x:T),i<k->l[i]?=some x->∃cs,b[i]?=some cs/\r.rel ro x cs)/\F.dh p 0 (k*r.n)=some b.flatten:=by
   intro k
   induction k with
   |zero=>intro _;exact ⟨[],rfl,by simp,by simp,by simp[aa.dh]⟩
   |succ k ih=>
    intro J
    obtain ⟨b,f,o,q,s⟩:=ih (by omega)
    have d:l[k]?=some l[k]:=List.getElem?_eq_getElem (by omega)
    obtain ⟨K,cs,C,t,hm⟩:=he k _ d
    cases C
    have w:=r.len t
    refine ⟨b++[cs],by simp[f],fun y D=>?_,fun i x hi u=>?_,?_⟩
    ·rcases List.mem_append.1 D with h|h
     ·exact o y h
     ·simp only[List.mem_singleton] at h;subst h;exact ⟨w,r.one t⟩
    ·rcases Nat.lt_or_ge i k with h|h
     ·obtain ⟨cs',a1,a2⟩:=q i x h u
      exact ⟨cs',by rw[List.getElem?_append_left (by omega)];exact a1,a2⟩
     ·have:i=k:=by omega
      subst this
      rw[d] at u
      obtain rfl:=Option.some.inj u
      exact ⟨cs,by rw[List.getElem?_append_right (by omega)];simp[f],t⟩
    ·rw[Nat.succ_mul]
     have g:=Ah (F:=F) (a:=p) cs (k*r.n) (fun j v E=>z _ _ (by have:=hm j v E;rwa [kI] at this))
     rw[w] at g
     have:=Ai (k*r.n) 0 r.n b.flatten cs s (by rw[Nat.zero_add];exact g)
     rw[this]
     simp
  obtain ⟨b,f,o,q,s⟩:=key l.length (Nat.le_refl _)
  exact ⟨b,f,o,fun i x d=>q i x (List.getElem?_eq_some_iff.1 d).1 d,s⟩
theorem aO.empty {T:Type}{r:b7 T}{ro:Addr->Option Value}{e:TypeId}{b:Nat}(a:∀off sp,ro ⟨b,off,sp⟩=none):aO r ro e (.slice (some ⟨b,0,none⟩) 0 0) [] [(b,.cells #[] e)]:=
 ⟨[],.inr ⟨b,#[],0,rfl,rfl,by simp,Nat.le_refl _,by simp,by simp,a⟩,rfl,by simp,fun i x h=>by simp at h⟩
theorem Aj {ro:Addr->Option Value}{x:Nat×Obj}{l:List (Nat×Obj)}:Le ⟨ro,l++[x]⟩ ⟨ro,x::l⟩:=by
 have d:∀b,b∈keys (l++[x])↔b∈keys (x::l):=fun b=>by
  simp only[keys,List.map_append,List.map_cons,List.map_nil,List.mem_append,List.mem_cons,List.not_mem_nil,or_false];exact Or.comm
 refine ⟨fun w hw=>⟨hw.ro,fun b o hb=>hw.own b o ?_,?_,fun a v h hm=>hw.apart a v h ((d _).1 hm)⟩,fun b hb=>(d b).1 hb,fun a c=>.inl c⟩
 ·rcases List.mem_append.1 hb with h|h
  ·exact List.mem_cons_of_mem _ h
  ·simp only[List.mem_singleton] at h;rw[h];exact List.mem_cons_self
 ·have:=hw.nodup;simp only[keys,List.map_cons,List.nodup_cons] at this;simp only[keys,List.map_append,List.map_cons,List.map_nil];rw[List.nodup_append];refine ⟨this.2,by simp,fun a c b hb e=>?_⟩;simp only[List.mem_singleton] at hb;subst hb;exact this.1 (e▸c)
theorem pK {P:Program}{T:Type}{r:b7 T}{ro:Addr->Option Value}{rest:List (Nat×Obj)}{ks:List Nat}{R:Value->aa->Prop}{argTypes:Array TypeId}{m o e y:TypeId}{f b c:Nat}{ad:Option Addr}{z:Value}{xs:List T}
  (A:∀off sp,ro ⟨b,off,sp⟩=none) (B:au rest b) (p:keys rest=ks) (hlen:xs.length<=1000000) (C:aC r ro (.slice ad xs.length c) xs)
  (D:argTypes[0]?=some m) (E:argTypes[1]?=some o) (he:c5 P m=some e) (F:c5 P o=some y) (hs:bX P e=some r.n) (G:zeroOf P e=some z) (H:z.cells.size=r.n) (hb:bytesOf P e=some f)
  (I:0<f) (J:f<=10000)
  (q:∀v g,aO r ro e v xs g->Apart ks g->R v ⟨ro,rest++g⟩):lR P argTypes (.slice (some ⟨b,0,none⟩) 0 0) (.slice ad xs.length c) R ⟨ro,(b,.cells #[] e)::rest⟩:=by
 intro ty
 obtain ⟨d,k1,K,L,M⟩:=C.cells ⟨ro,(b,.cells #[] e)::rest⟩ (fun a v h=>by simp[aa.get,h])
 have s:∀x∈d,x.length=r.n:=fun x h=>(K x h).1
 have i:=g9 s
 refine u5 (old:=[]) D E he F hs G hb I J (by simpa using hlen) (by simp[fY,aa.dh]) M (fun N=>?_) (fun N k t l u=>?_)
 ·have O:xs.length=0:=by omega
  have Q:xs=[]:=List.eq_nil_of_length_eq_zero O
  have S:d=[]:=List.eq_nil_of_length_eq_zero (by omega)
  subst Q S
  refine .inl ⟨_,_,rfl,rfl,⟨ro,rest++[(b,.cells #[] e)]⟩,Aj,q _ _ (aO.empty A) fun k l=>?_⟩
  simp only[keys,List.map_cons,List.map_nil,List.mem_singleton] at l
  subst l
  rw[<-p]
  exact kK B
 ·refine ⟨⟨ro,rest++[(t,.cells (([]:List Value).toArray++d.flatten.toArray++Builtin.zeroCells z.cells (k - (0+xs.length))) e)]⟩,Aj.trans (Le.sub (.cons₂ _ (.cons _ (List.Sublist.refl _)))),q _ _ ?_ fun j w=>?_⟩
  ·refine ⟨d,.inr ⟨t,_,k,by rw[k1,Nat.zero_add],rfl,?_,by omega,?_,s,u.ro⟩,k1,hlen,L⟩
   ·simp only[List.nil_append,Array.size_append,List.size_toArray,List.length_nil,Builtin.zeroCells,Array.size_map,Array.size_range,i,H,k1]
    rw[Nat.zero_add,<-Nat.add_mul]
    congr 1;omega
   ·simp only[Array.toList_append,List.nil_append]
    rw[List.take_append_of_le_length (by simp[i])]
    rw[List.take_of_length_le (by simp[i])]
  ·simp only[keys,List.map_cons,List.map_nil,List.mem_singleton] at w
   subst w
   rw[<-p]
   exact kK u.own.2
theorem rR:∀{pre bh:List (Nat×Obj)} {b:Nat} {o:Obj},au pre b->lk (pre++((b,o)::bh)) b=some o
 |[],bh,b,o,_=>by simp[lk]
 |(c,x)::pre,bh,b,o,h=>by
  have a:¬c=b:=fun e=>h.1 e.symm
  simp[lk,a,rR h.2]
theorem Ak:∀{pre bh:List (Nat×Obj)} {b:Nat} {o x:Obj},au pre b->iH (pre++((b,o)::bh)) b x=pre++((b,x)::bh)
 |[],bh,b,o,x,_=>by simp[iH]
 |(c,y)::pre,bh,b,o,x,h=>by
  have a:¬c=b:=fun e=>h.1 e.symm
  simp[iH,a,Ak h.2]
theorem vu {ro:Addr->Option Value}{pre bh:List (Nat×Obj)}{b:Nat}{e:TypeId}(c:au pre b)(o:Nat):∀(a:List Value) (arr:Array Value) (i:Nat),(∀v∈a,bE v=true)->o+i+a.length<=arr.size->
  aa.jo ⟨ro,pre++((b,.cells arr e)::bh)⟩ ⟨b,o,none⟩ i a=some ⟨ro,pre++((b,.cells (cI arr (o+i) a) e)::bh)⟩
 |[],arr,i,_,_=>rfl
 |v::a,arr,i,d,h=>by
  simp only[List.length_cons] at h
  have f:(⟨b,o,none⟩:Addr).add i=⟨b,o+i,none⟩:=by
   unfold Addr.add
   split
   ·rename_i hi;subst hi;rfl
   ·rfl
  unfold aa.jo
  have:aa.lG ⟨ro,pre++((b,.cells arr e)::bh)⟩ ((⟨b,o,none⟩:Addr).add i) v=some ⟨ro,pre++((b,.cells (arr.setIfInBounds (o+i) v) e)::bh)⟩:=by
   have g:o+i<arr.size:=by omega
   simp[aa.lG,f,rR c,d v (by simp),g,frozenAt,aa.put,Ak c]
  rw[this]
  simp only
  rw[vu c o a _ (i+1) (fun x j=>d x (by simp[j])) (by simp;omega)]
  rw[cI]
  congr 1
theorem Al {ro:Addr->Option Value}{pre bh:List (Nat×Obj)}{b:Nat}{e:TypeId}{arr:Array Value}(a:au pre b)(c:∀off sp,ro ⟨b,off,sp⟩=none):∀(n i:Nat),i+n<=arr.size->
  aa.dh ⟨ro,pre++((b,.cells arr e)::bh)⟩ ⟨b,0,none⟩ i n=some ((arr.toList.drop i).take n)
 |0,i,_=>by simp[aa.dh]
 |n+1,i,h=>by
  have f:(⟨b,0,none⟩:Addr).add i=⟨b,i,none⟩:=by
   unfold Addr.add
   split
   ·rename_i hi;subst hi;rfl
   ·simp
  have d:i<arr.size:=by omega
  unfold aa.dh
  have ih:=Al (e:=e) (arr:=arr) (bh:=bh) a c n (i+1) (by omega)
  simp only[aa.get,f,c,if_true,rR a,Option.bind_some,cellOf,Array.getElem?_eq_getElem d,ih]
  have g:i<arr.toList.length:=by simpa using d
  rw[List.drop_eq_getElem_cons g,List.take_succ_cons]
  simp
theorem Gr.Fi {ro:Addr->Option Value}{e:TypeId}{size:Nat}{v:Value}{l:List (List Value)}{aS pre bh:List (Nat×Obj)}(h:Gr ro e size v l aS)(a:∀k∈keys aS,au pre k):
  Go.Sep.fY ⟨ro,pre++(aS++bh)⟩ size v=some l.flatten:=by
 rcases h with ⟨rfl,rfl,rfl⟩|⟨b,arr,cap,rfl,rfl,hs,c,ht,f,d⟩
 ·rfl
 ·simp only[Go.Sep.fY,List.cons_append,List.nil_append]
  have hle:l.length*size<=arr.size:=by rw[hs];exact Nat.mul_le_mul_right _ c
  rw[Al (a b (by simp[keys])) d _ _ (by omega)]
  simp[ht]
theorem Le.ps {ro:Addr->Option Value}{l m l':List (Nat×Obj)}(e:l.Perm m)(hs:m.Sublist l'):Le ⟨ro,l⟩ ⟨ro,l'⟩:=by
 have c:(keys m).Sublist (keys l'):=hs.map _;have d:(keys l).Perm (keys m):=e.map _;exact ⟨fun w hw=>⟨hw.ro,fun b o hb=>hw.own b o (hs.subset (e.subset hb)),d.nodup_iff.2 (c.nodup hw.nodup),fun a v f hm=>hw.apart a v f (c.subset (d.subset hm))⟩,fun b hb=>c.subset (d.subset hb),fun a g=>.inl g⟩
structure aP (ks:List Nat):Prop where
 nd:ks.Nodup
abbrev Nd (l:List (Nat×Obj)):Prop:=(keys l).Nodup
theorem Nd.fresh {pre aS bh:List (Nat×Obj)}(h:Nd (pre++(aS++bh))):∀k∈keys aS,au pre k:=fun k a=>by
 refine lX fun hm=>?_
 simp only[Nd,ck] at h
 exact (List.nodup_append.1 h).2.2 k hm k (List.mem_append_left _ a) rfl
theorem Nd.push {l:List (Nat×Obj)}{b:Nat}{o:Obj}(h:Nd l)(hb:au l b):Nd ((b,o)::l):=by
 simp only[Nd,keys,List.map_cons,List.nodup_cons];exact ⟨kK hb,h⟩
theorem Nd.drop {pre aS bh:List (Nat×Obj)}(h:Nd (pre++(aS++bh))):Nd (pre++bh):=
 ((List.Sublist.append_left (List.sublist_append_right aS bh) pre).map _).nodup h
theorem Nd.ins {pre aS bh:List (Nat×Obj)}{b:Nat}{o:Obj}(h:Nd (pre++(aS++bh)))(hb:au (pre++(aS++bh)) b):Nd (pre++([(b,o)]++bh)):=by
 have a:Nd ((b,o)::(pre++bh)):=h.drop.push (lX fun hm=>kK hb (((List.Sublist.append_left (List.sublist_append_right aS bh) pre).map _).subset hm));have:(pre++([(b,o)]++bh)).Perm ((b,o)::(pre++bh)):=List.perm_middle;exact (this.map _).nodup_iff.2 a
section
variable {P : Program}
theorem Am {ro:Addr->Option Value}{pre aS bh:List (Nat×Obj)}{R:Value->aa->Prop}{argTypes:Array TypeId}{ty B C e Q:TypeId}{size p n c:Nat}{D:Option Addr}{s z:Value}{l xs:List (List Value)}
  (E:argTypes[0]?=some B) (G:argTypes[1]?=some C) (he:c5 P B=some e) (d:c5 P C=some Q) (hs:bX P e=some size) (H:zeroOf P e=some z) (S:z.cells.size=size) (hb:bytesOf P e=some p)
  (I:0<p) (J:p<=10000) (hg:Gr ro e size s l aS) (j:Nd (pre++(aS++bh))) (T:n=xs.length) (K:∀x∈xs,x.length=size/\∀v∈x,bE v=true) (L:fY ⟨ro,pre++(aS++bh)⟩ size (.slice D n c)=some xs.flatten)
  (M:l.length+xs.length<=1000000)
  (q:∀v r,Gr ro e size v (l++xs) r->Nd (pre++(r++bh))->∃F0,Le F0 ⟨ro,pre++(r++bh)⟩/\R v F0):
  aU P (Builtin.append_ argTypes ty #[s,.slice D n c]) (fun v F=>∃F0,Le F0 F/\R v F0) ⟨ro,pre++(aS++bh)⟩:=by
 subst T
 have N:=j.fresh
 have hold:=hg.Fi (bh:=bh) N
 have t:∀x∈xs,x.length=size:=fun x h=>(K x h).1
 have a:=g9 t
 have out:∀(k b:Nat) (old:List Value),old=l.flatten->(∀x∈l,x.length=size)->l.length+xs.length<=k->dO ⟨ro,pre++(aS++bh)⟩ b->
   ∃F0,Le F0 (aa.push ⟨ro,pre++(aS++bh)⟩ b (.cells (old.toArray++xs.flatten.toArray++Builtin.zeroCells z.cells (k - (l.length+xs.length))) e))/\R (.slice (some ⟨b,0,none⟩) (l.length+xs.length) k) F0:=by
  intro k b old U u i f
  subst U
  have w:=g9 u
  have y:=q (.slice (some ⟨b,0,none⟩) (l.length+xs.length) k) [(b,.cells (l.flatten.toArray++xs.flatten.toArray++Builtin.zeroCells z.cells (k - (l.length+xs.length))) e)] (.inr ⟨b,_,k,by simp,rfl,?_,by simpa using i,?_,?_,f.ro⟩) (j.ins f.own)
  ·obtain ⟨F0,hle,y⟩:=y
   refine ⟨F0,hle.trans ?_,y⟩
   exact Le.ps (m:=(b,.cells (l.flatten.toArray++xs.flatten.toArray++Builtin.zeroCells z.cells (k - (l.length+xs.length))) e)::(pre++bh)) List.perm_middle (.cons₂ _ (List.Sublist.append_left (List.sublist_append_right aS bh) pre))
  ·simp only[Array.size_append,List.size_toArray,Builtin.zeroCells,Array.size_map,Array.size_range,w,a,S]
   rw[<-Nat.add_mul,<-Nat.add_mul]
   congr 1;omega
  ·simp only[Array.toList_append,List.length_append,List.flatten_append]
   rw[List.take_append_of_le_length (by simp[w,a,Nat.add_mul])]
   rw[List.take_of_length_le (by simp[w,a,Nat.add_mul])]
  ·intro x d
   rcases List.mem_append.1 d with h|h
   ·exact u x h
   ·exact t x h
 rcases id hg with ⟨rfl,rfl,rfl⟩|⟨b,arr,cap,rfl,rfl,A,u,ht,o,V⟩
 ·refine u5 E G he d hs H hb I J (by simpa using M) hold L (fun g=>.inr ⟨rfl,?_⟩) (fun g k b i f=>?_)
  ·have:xs=[]:=List.eq_nil_of_length_eq_zero (by omega)
   subst this
   exact q _ _ (.inl ⟨rfl,rfl,rfl⟩) j
  ·have:=out k b [] rfl (by simp) (by simpa using i) f
   simpa using this
 ·refine u5 E G he d hs H hb I J M hold L (fun g=>.inl ⟨_,⟨ro,pre++([(b,.cells (cI arr (l.length*size) xs.flatten) e)]++bh)⟩,rfl,?_,?_⟩) (fun g k W i f=>out k W _ rfl o i f)
  ·have X:(⟨b,0,none⟩:Addr).add (l.length*size)=⟨b,l.length*size,none⟩:=by
    unfold Addr.add
    split
    ·rename_i hi;rw[hi]
    ·simp
   rw[X]
   have O:l.length*size+xs.length*size<=arr.size:=by rw[A,<-Nat.add_mul];exact Nat.mul_le_mul_right _ g
   have:=vu (ro:=ro) (e:=e) (bh:=bh) (N b (by simp[keys])) (l.length*size) xs.flatten arr 0 (fun v Y=>by
    obtain ⟨x,Z,ab⟩:=List.mem_flatten.1 Y
    exact (K x Z).2 v ab) (by rw[a];omega)
   simpa using this
  ·refine q _ _ (.inr ⟨b,_,cap,by simp,rfl,by rw[rq];exact A,by simpa using g,?_,?_,V⟩) (by simpa [Nd,keys] using j)
   ·have O:l.length*size+xs.length*size<=arr.size:=by rw[A,<-Nat.add_mul];exact Nat.mul_le_mul_right _ g
    rw[ru _ _ _ (by rw[a];exact O),ht,List.length_append,List.flatten_append,a]
    rw[List.take_append_of_le_length (by simp[g9 o,a,Nat.add_mul])]
    rw[List.take_of_length_le (by simp[g9 o,a,Nat.add_mul])]
   ·intro x d
    rcases List.mem_append.1 d with h|h
    ·exact o x h
    ·exact t x h
theorem An:∀{pre own:List (Nat×Obj)} {b:Nat} {o:Obj},lk pre b=some o->lk (pre++own) b=some o
 |(c,x)::pre,own,b,o,h=>by
  simp only[List.cons_append,lk] at h ⊢
  split
  ·rename_i a;rw[if_pos a] at h;exact h
  ·rename_i a;rw[if_neg a] at h;exact An h
theorem Ao {ro:Addr->Option Value}{own:List (Nat×Obj)}{b:Nat}{cs:Array Value}{e:TypeId}(a:lk own b=some (.cells cs e))(c:∀off sp,ro ⟨b,off,sp⟩=none):∀n i,i+n<=cs.toList.length->aa.dh ⟨ro,own⟩ ⟨b,0,none⟩ i n=some ((cs.toList.drop i).take n)
 |0,i,_=>by simp[aa.dh]
 |n+1,i,hi=>by
  have d:i<cs.toList.length:=by omega
  unfold aa.dh
  have f:(⟨b,0,none⟩:Addr).add i=⟨b,i,none⟩:=by
   unfold Addr.add
   split
   ·rename_i hi;subst hi;rfl
   ·simp
  have g:i<cs.size:=by simpa using d
  simp only[aa.get,f,c,if_true,a,Option.bind_some,cellOf,Array.getElem?_eq_getElem g,Ao a c n (i+1) (by omega)]
  rw[List.drop_eq_getElem_cons d,List.take_succ_cons]
  simp
theorem aO.more {T:Type}{r:b7 T}{ro:Addr->Option Value}{e:TypeId}{l xs:List T}{ls ys:List (List Value)}{v:Value}{a:List (Nat×Obj)}(hg:Gr ro e r.n v (ls++ys) a)(b:ls.length=l.length)(c:ys.length=xs.length)
  (d:∀(i:Nat) (x:T),l[i]?=some x->∃cs:List Value,ls[i]?=some cs/\r.rel ro x cs) (f:∀(i:Nat) (x:T),xs[i]?=some x->∃cs:List Value,ys[i]?=some cs/\r.rel ro x cs) (g:l.length+xs.length<=1000000):aO r ro e v (l++xs) a:=by
 refine ⟨_,hg,by simp[b,c],by simpa using g,fun i y hi=>?_⟩
 rcases Nat.lt_or_ge i l.length with h|h
 ·rw[List.getElem?_append_left h] at hi
  rw[List.getElem?_append_left (by omega)]
  exact d i y hi
 ·rw[List.getElem?_append_right h] at hi
  rw[List.getElem?_append_right (by omega),b]
  exact f _ y hi
theorem Ap {T:Type}{r:b7 T}{ro:Addr->Option Value}{aS:List (Nat×Obj)}{R:Value->aa->Prop}{argTypes:Array TypeId}{g h e p e2:TypeId}{b c:Nat}{s z:Value}{l:List T}{x:T}{cs:Array Value}{own:List (Nat×Obj)}(pre bh:List (Nat×Obj))(q:own=pre++(aS++bh))
  (hg:aO r ro e s l aS) (t:aP (keys own)) (j:l.length+[x].length<=1000000) (d:r.rel ro x cs.toList) (u:lk pre c=some (.cells cs e2)) (w:∀off sp,ro ⟨c,off,sp⟩=none)
  (A:argTypes[0]?=some g) (B:argTypes[1]?=some h) (he:c5 P g=some e) (C:c5 P h=some p) (hs:bX P e=some r.n) (D:zeroOf P e=some z) (E:z.cells.size=r.n) (hb:bytesOf P e=some b)
  (F:0<b) (G:b<=10000)
  (H:∀v a,aO r ro e v (l++[x]) a->∀f,f=pre++(a++bh)->aP (keys f)->∃F0,Le F0 ⟨ro,f⟩/\R v F0):lR P argTypes s (.slice (some ⟨c,0,none⟩) 1 1) R ⟨ro,own⟩:=by
 subst q
 obtain ⟨ls,I,k,hm,J⟩:=hg
 have K:=t.nd
 intro ty
 have hlen:cs.toList.length=r.n:=r.len d
 refine Am (xs:=[cs.toList]) (e:=e) (size:=r.n) (z:=z) (l:=ls) A B he C hs D E hb F G I K rfl (fun y o=>?_) ?_ (by simpa [k] using j) (fun v a L M=>H v a (aO.more L k rfl J (fun i y hi=>?_) j) _ rfl ⟨M⟩)
 ·simp only[List.mem_singleton] at o;subst o;exact ⟨hlen,r.one d⟩
 ·simp only[fY,Nat.one_mul]
  rw[Ao (An u) w _ _ (by omega)]
  rw[List.drop_zero,List.take_of_length_le (by omega)]
  simp
 ·cases i with
  |zero=>simp at hi;subst hi;exact ⟨cs.toList,rfl,d⟩
  |succ m=>simp at hi
theorem Fj {T:Type}{r:b7 T}{ro:Addr->Option Value}{aS:List (Nat×Obj)}{R:Value->aa->Prop}{argTypes:Array TypeId}{g i e m:TypeId}{d c:Nat}{ad:Option Addr}{s z:Value}{l xs:List T}{own:List (Nat×Obj)}(pre bh:List (Nat×Obj))(o:own=pre++(aS++bh))
  (hg:aO r ro e s l aS) (p:aP (keys own)) (j:l.length+xs.length<=1000000) (q:aC r ro (.slice ad xs.length c) xs)
  (t:argTypes[0]?=some g) (u:argTypes[1]?=some i) (he:c5 P g=some e) (w:c5 P i=some m) (hs:bX P e=some r.n) (x:zeroOf P e=some z) (y:z.cells.size=r.n) (hb:bytesOf P e=some d)
  (A:0<d) (B:d<=10000)
  (C:∀v b,aO r ro e v (l++xs) b->∀f,f=pre++(b++bh)->aP (keys f)->∃F0,Le F0 ⟨ro,f⟩/\R v F0):lR P argTypes s (.slice ad xs.length c) R ⟨ro,own⟩:=by
 subst o
 obtain ⟨ls,D,k,hm,E⟩:=hg
 have F:=p.nd
 intro ty
 obtain ⟨G,k1,H,I,J⟩:=q.cells ⟨ro,pre++(aS++bh)⟩ (fun a v h=>by simp[aa.get,h])
 exact Am (xs:=G) (e:=e) (size:=r.n) (z:=z) (l:=ls) t u he w hs x y hb A B D F k1.symm H J (by rw[k,k1];exact j) (fun v b K L=>C v b (aO.more K k k1 E I j) _ rfl ⟨L⟩)
theorem aO.kR {T:Type}{r:b7 T}{ro:Addr->Option Value}{e:TypeId}{v:Value}{l:List T}{aS:List (Nat×Obj)}(h:aO r ro e v l aS){own:List (Nat×Obj)}(a pre bh:List (Nat×Obj))(f:own=pre++(aS++bh))(g:a=pre++bh)(i:aP (keys own))(j:aE ro a):
  ∃aM,Ext ro aM/\aE aM a/\aC r aM v l/\Le ⟨aM,a⟩ ⟨ro,own⟩:=by
 subst f g
 have c:Nd (pre++(aS++bh)):=i.nd
 have m:Apart (keys (pre++bh)) aS:=fun k d hm=>by
  simp only[Nd,ck] at c
  have b:=List.nodup_append.1 c
  simp only[ck,List.mem_append] at hm
  rcases hm with hm|hm
  ·exact b.2.2 k hm k (List.mem_append_left _ d) rfl
  ·exact (List.nodup_append.1 b.2.1).2.2 k d k hm rfl
 obtain ⟨aM,n,b,o,p⟩:=h.zW (pre++bh) m rfl j
 refine ⟨aM,n,b,o,p.trans ?_⟩
 have q:((pre++bh)++aS).Perm (pre++(aS++bh)):=by
  rw[List.append_assoc]
  exact List.Perm.append_left pre List.perm_append_comm
 exact Le.ps q (List.Sublist.refl _)
theorem aO.setAt {T:Type}{r:b7 T}{ro:Addr->Option Value}{e:TypeId}{l:List T}{b n cap:Nat}{arr:Array Value}(h:aO r ro e (.slice (some ⟨b,0,none⟩) n cap) l [(b,.cells arr e)]){i:Nat}{x y:T}(hi:l[i]?=some x){cs:List Value}(m:r.rel ro y cs):
  aO r ro e (.slice (some ⟨b,0,none⟩) n cap) (l.set i y) [(b,.cells (cI arr (i*r.n) cs) e)]:=by
 obtain ⟨ls,hg,o,hm,p⟩:=h
 have D:i<l.length:=(List.getElem?_eq_some_iff.1 hi).1
 have a:=r.len m
 rcases hg with ⟨k,_,_⟩|⟨E,F,q,k,s,hs,hle,ht,c,t⟩
 ·cases k
 ·cases s
  obtain ⟨rfl,rfl⟩:n=ls.length/\cap=q:=by cases k;exact ⟨rfl,rfl⟩
  have u:i*r.n+cs.length<=arr.size:=by
   rw[hs,a,<-Nat.succ_mul]
   exact Nat.mul_le_mul_right _ (by omega)
  refine ⟨ls.set i cs,.inr ⟨b,_,cap,by simp,rfl,by rw[rq];exact hs,by simpa using hle,?_,?_,t⟩,by simp[o],by simpa using hm,fun j z d=>?_⟩
  ·rw[ru _ _ _ u]
   have G:=g9 c
   have f:i<ls.length:=by omega
   have e1:(ls.set i cs).flatten=(ls.take i).flatten++cs++(ls.drop (i+1)).flatten:=by
    rw[List.set_eq_take_append_cons_drop,if_pos f]
    simp
   have e2:ls.flatten=(ls.take i).flatten++(ls.drop i).flatten:=by rw[<-List.flatten_append,List.take_append_drop]
   have t1:((ls.take i).flatten).length=i*r.n:=by rw[g9 (fun x h=>c x (List.mem_of_mem_take h)),List.length_take,Nat.min_eq_left (by omega)]
   have v:(ls.drop i).flatten=ls[i]++(ls.drop (i+1)).flatten:=by rw[List.drop_eq_getElem_cons f,List.flatten_cons]
   have t2:ls[i].length=r.n:=c _ (List.getElem_mem f)
   have a1:arr.toList.take (i*r.n)=(ls.take i).flatten:=by
    have:=congrArg (List.take (i*r.n)) ht
    rw[List.take_take,Nat.min_eq_left (Nat.mul_le_mul_right _ (by omega)),e2,List.take_append_of_le_length (Nat.le_of_eq t1.symm),List.take_of_length_le (Nat.le_of_eq t1)] at this
    exact this
   have a2:(arr.toList.take (ls.length*r.n)).drop (i*r.n+cs.length)=(ls.drop (i+1)).flatten:=by
    have t3:((ls.take i).flatten++ls[i]).length=i*r.n+cs.length:=by rw[List.length_append,t1,t2,a]
    rw[ht,e2,v,<-List.append_assoc,List.drop_append_of_le_length (Nat.le_of_eq t3.symm),List.drop_eq_nil_of_le (Nat.le_of_eq t3),List.nil_append]
   rw[a1,e1]
   simp only[List.length_set]
   have w:ls.length*r.n=(i*r.n+cs.length)+(ls.length*r.n - (i*r.n+cs.length)):=by
    have:i*r.n+cs.length<=ls.length*r.n:=by rw[a,<-Nat.succ_mul];exact Nat.mul_le_mul_right _ f
    omega
   rw[w,List.take_append]
   rw[List.take_of_length_le (by rw[List.length_append,t1];omega)]
   congr 1
   have:i*r.n+cs.length+(ls.length*r.n - (i*r.n+cs.length)) - ((ls.take i).flatten++cs).length=ls.length*r.n - (i*r.n+cs.length):=by simp only[List.length_append,t1];omega
   rw[this,<-a2,List.drop_take]
  ·intro z A
   rcases List.mem_or_eq_of_mem_set A with h|h
   ·exact c z h
   ·rw[h];exact a
  ·rcases Nat.decEq i j with g|g
   ·rw[List.getElem?_set_ne g] at d
    obtain ⟨cs',B,C⟩:=p j z d
    exact ⟨cs',by rw[List.getElem?_set_ne g];exact B,C⟩
   ·subst g
    rw[List.getElem?_set_self (by omega)] at d
    obtain rfl:=Option.some.inj d
    exact ⟨cs,List.getElem?_set_self (by omega),m⟩
end
section
variable {P : Program} {main : Bool} {J : Goroutine → aa → Prop}
theorem az (hJ:Closed P main J){c:Code}{Q:Ex->Act->aa->Prop}{a:Act}{F:aa}(h:aP (keys F.own)->Wp J c Q a F):Wp J c Q a F:=by
 intro b k cs hb d;by_cases hw:∃w,Has F w
 ·obtain ⟨w,hw⟩:=hw;exact h ⟨hw.nodup⟩ b k cs hb d
 ·exact hJ.step fun w e=>absurd ⟨w,e⟩ hw
end
theorem aP.cons {l:List (Nat×Obj)}{b:Nat}(hb:au l b)(h:aP (keys l)):aP (b::keys l):=⟨List.nodup_cons.2 ⟨kK hb,h.nd⟩⟩
theorem aE.nil (ro:Addr->Option Value):aE ro []:=fun b h=>by cases h
theorem aE.cons {ro:Addr->Option Value}{b:Nat}{o:Obj}{l:List (Nat×Obj)}(hb:∀off sp,ro ⟨b,off,sp⟩=none)(h:aE ro l):aE ro ((b,o)::l):=fun c a=>by
 simp only[keys,List.map_cons,List.mem_cons] at a
 rcases a with rfl|a
 ·exact hb
 ·exact h c a
theorem aE.app {ro:Addr->Option Value}{l l':List (Nat×Obj)}(h:aE ro l)(h':aE ro l'):aE ro (l++l'):=fun c a=>by
 rw[ck] at a
 exact (List.mem_append.1 a).elim (h c) (h' c)
theorem aE.hd {ro:Addr->Option Value}{b:Nat}{o:Obj}{l:List (Nat×Obj)}(h:aE ro ((b,o)::l)):∀off sp,ro ⟨b,off,sp⟩=none:=h b (by simp[keys])
theorem aE.tl {ro:Addr->Option Value}{x:Nat×Obj}{l:List (Nat×Obj)}(h:aE ro (x::l)):aE ro l:=fun c a=>h c (by simp only[keys,List.map_cons,List.mem_cons];exact .inr a)
theorem aE.l {ro:Addr->Option Value}{l l':List (Nat×Obj)}(h:aE ro (l++l')):aE ro l:=fun c a=>h c (by rw[ck];exact List.mem_append_left _ a)
theorem aE.r {ro:Addr->Option Value}{l l':List (Nat×Obj)}(h:aE ro (l++l')):aE ro l':=fun c a=>h c (by rw[ck];exact List.mem_append_right _ a)
theorem aO.jr {T:Type}{r:b7 T}{ro:Addr->Option Value}{e:TypeId}{v:Value}{l:List T}{aS:List (Nat×Obj)}(h:aO r ro e v l aS):aE ro aS:=by
 obtain ⟨ls,hg,-⟩:=h;rcases hg with ⟨_,_,rfl⟩|⟨b,arr,cap,_,rfl,_,_,_,_,a⟩
 ·exact aE.nil _
 ·exact aE.cons a (aE.nil _)
theorem Le.back {ro:Addr->Option Value}{l l':List (Nat×Obj)}(A B O S:List (Nat×Obj))(a:l=A++(B++(O++S)))(b:l'=A++(O++(B++S))):Le ⟨ro,l⟩ ⟨ro,l'⟩:=by
 subst a b;refine Le.ps (m:=A++(O++(B++S))) (List.Perm.append_left A ?_) (List.Sublist.refl _);rw[<-List.append_assoc,<-List.append_assoc];exact List.Perm.append_right S List.perm_append_comm
section
variable {P : Program} {main : Bool} {J : Goroutine → aa → Prop}
def rS (J:Goroutine->aa->Prop)(js:Frame)(F:aa)(R:Value->aa->Prop):Prop:=
 ∀(c:Frame) (cs:List Frame),(∀v F',R v F'->J (G (c.finish v) cs) F')->J (G js (c::cs)) F
theorem Aq (hJ:Closed P main J){js:Frame}{ro:Addr->Option Value}{aS:List (Nat×Obj)}{K:Value->aa->Prop}{own:List (Nat×Obj)}(pre bh:List (Nat×Obj))(q:own=pre++(aS++bh))(R:Value->List (Nat×Obj)->Prop)(h:∀(main:Bool) (J:Goroutine->aa->Prop),Closed P main J->rS J js ⟨ro,aS⟩ (fun v G=>∃d,R v d/\Le ⟨ro,d⟩ G))
  (M:∀v d,R v d->∀r,r=pre++(d++bh)->aP (keys r)->∃F0,Le F0 ⟨ro,r⟩/\K v F0):rS J js ⟨ro,own⟩ K:=by
 subst q
 intro c cs N
 by_cases hw:∃w,Has ⟨ro,pre++(aS++bh)⟩ w
 ·obtain ⟨s,k⟩:=hw
  let F:aa:=⟨fun _=>none,pre++bh⟩
  have t:(pre++bh).Sublist (pre++(aS++bh)):=List.Sublist.append_left (List.sublist_append_right aS bh) pre
  have u:aS.Sublist (pre++(aS++bh)):=(List.sublist_append_left aS bh).trans (List.sublist_append_right pre _)
  have B:∀w,Has ⟨ro,pre++(aS++bh)⟩ w->Has F w:=fun w hw=>⟨fun a v h=>(by cases h),fun b o hb=>hw.own b o (t.subset hb),(t.map _).nodup hw.nodup,fun a v h=>(by cases h)⟩
  have C:∀w,Has ⟨ro,pre++(aS++bh)⟩ w->Has ⟨ro,aS⟩ w:=fun w hw=>⟨hw.ro,fun b o hb=>hw.own b o (u.subset hb),(u.map _).nodup hw.nodup,fun a v i hm=>hw.apart a v i ((u.map _).subset hm)⟩
  have hd:∀b,b∈keys aS->b∉keys (pre++bh):=fun b hb hm=>by
   have l:=k.nodup
   simp only[ck] at l
   have D:=List.nodup_append.1 l
   simp only[ck,List.mem_append] at hm
   rcases hm with hm|hm
   ·exact D.2.2 b hm b (List.mem_append_left _ hb) rfl
   ·exact (List.nodup_append.1 D.2.1).2.2 b hb b hm rfl
  have E:Fits F ⟨ro,aS⟩:=⟨⟨s,C s k,B s k⟩,hd,fun a f hm=>(by cases f)⟩
  have O:lW F ⟨ro,aS⟩:=fun a f hm=>by
   obtain ⟨v,Q⟩:=Option.isSome_iff_exists.1 f
   exact k.apart a v Q ((t.map _).subset hm)
  have q:vh J F (G js (c::cs)) ⟨ro,aS⟩:=by
   refine h main _ (zU hJ F) c cs fun v H A m l=>?_
   obtain ⟨d,A,hle⟩:=A
   have I:Le ⟨ro,pre++(d++bh)⟩ (H.star F):=by
    refine ⟨fun w hw=>?_,fun b hb=>?_,fun a f=>?_⟩
    ·have n:=hle.has w (m.right hw)
     have g:=m.left hw
     have S:∀b,b∈keys d->b∉keys (pre++bh):=fun b hb=>m.own b (hle.own b hb)
     have j:(pre++(d++bh)).Perm (d++(pre++bh)):=by
      rw[<-List.append_assoc,<-List.append_assoc]
      exact List.Perm.append_right bh List.perm_append_comm
     refine ⟨n.ro,fun b o hb=>?_,?_,fun a v i hm=>?_⟩
     ·rcases List.mem_append.1 (j.subset hb) with x|x
      ·exact n.own b o x
      ·exact g.own b o x
     ·refine (j.map _).nodup_iff.2 ?_
      rw[List.map_append]
      exact List.nodup_append.2 ⟨n.nodup,g.nodup,fun a f b hb e=>S a f (e▸hb)⟩
     ·have L:=(j.map (·.1)).subset hm
      rw[List.map_append] at L
      rcases List.mem_append.1 L with x|x
      ·exact n.apart a v i x
      ·rcases hle.ro a (by simp only at i;simp[i]) with y|y
       ·exact l a y x
       ·exact m.own _ y x
    ·simp only[aa.star,ck,List.mem_append] at hb ⊢
     rcases hb with x|x|x
     ·exact .inr (show b∈keys (pre++bh) by rw[ck];exact List.mem_append_left _ x)
     ·exact .inl (hle.own b x)
     ·exact .inr (show b∈keys (pre++bh) by rw[ck];exact List.mem_append_right _ x)
    ·rcases hle.ro a f with x|x
     ·exact (gw (.inr x)).imp id (fun z=>by simp only[aa.star,ck,List.mem_append];exact .inr z)
     ·exact .inr (by simp only[aa.star,ck,List.mem_append];exact .inl x)
   have T:∃fr cs',G (c.finish v) cs=G fr cs':=⟨_,_,rfl⟩
   obtain ⟨fr,cs',U⟩:=T
   by_cases p:∃w,Has (H.star F) w
   ·obtain ⟨w1,p⟩:=p
    obtain ⟨F0,V,W⟩:=M v d A _ rfl ⟨(I.has w1 p).nodup⟩
    exact hJ.mono (V.trans I) (N v F0 W)
   ·rw[U]
    exact hJ.step fun w g=>absurd ⟨w,g⟩ p
  refine hJ.mono ⟨fun w hw=>E.both (C w hw) (B w hw),fun b hb=>?_,fun a f=>?_⟩ (q E O)
  ·have j:(aS++(pre++bh)).Perm (pre++(aS++bh)):=by
    rw[<-List.append_assoc,<-List.append_assoc]
    exact List.Perm.append_right bh List.perm_append_comm
   exact (j.map _).subset hb
  ·rcases jM f with x|x
   ·cases x
   ·exact .inl x
 ·exact hJ.step fun w g=>absurd ⟨w,g⟩ hw
theorem Fo (hJ:Closed P main J){f:FuncId}{args:Array Value}{ro:Addr->Option Value}{aS:List (Nat×Obj)}{K:Value->aa->Prop}{own:List (Nat×Obj)}(pre bh:List (Nat×Obj))(c:own=pre++(aS++bh))(R:Value->List (Nat×Obj)->Prop)(h:aD P f args ⟨ro,aS⟩ (fun v G=>∃a,R v a/\Le ⟨ro,a⟩ G))
  (d:∀v a,R v a->∀b,b=pre++(a++bh)->aP (keys b)->∃F0,Le F0 ⟨ro,b⟩/\K v F0):cO P J f args ⟨ro,own⟩ K:=
 Aq hJ (js:=Frame.enter P f args .normal) pre bh c R h d
end
attribute [go_sem] Array.size_setIfInBounds
theorem aC.op {T:Type}{r:b7 T}{ro:Addr->Option Value}{ad:Option Addr}{n cap:Nat}{l:List T}(h:aC r ro (.slice ad n cap) l):
  l.length<=cap/\l.length<=1000000000000000/\∀i x,l[i]?=some x->∃p cs,ad=some p/\r.rel ro x cs/\∀j v,cs[j]?=some v->ro ((p.add (i*r.n)).add j)=some v:=by
 obtain ⟨d,f,e,a,b,c⟩:=h
 cases e
 exact ⟨a,b,c⟩
theorem aP.sub {l l':List (Nat×Obj)}(A O S:List (Nat×Obj))(a:l=A++S)(b:l'=A++(O++S))(h:aP (keys l')):aP (keys l):=by
 subst a b;exact
 ⟨((List.Sublist.append_left (List.sublist_append_right O S) A).map _).nodup h.nd⟩
theorem aP.back {l l':List (Nat×Obj)}(A B O S:List (Nat×Obj))(a:l=A++(B++(O++S)))(b:l'=A++(O++(B++S)))(h:aP (keys l')):aP (keys l):=by
 subst a b;refine ⟨(List.Perm.map _ (List.Perm.append_left A ?_)).nodup_iff.2 h.nd⟩;rw[<-List.append_assoc,<-List.append_assoc];exact List.Perm.append_right S List.perm_append_comm
theorem fO {ro:Addr->Option Value}{b:Nat}{o:Obj}(pre bh:List (Nat×Obj))(f:aP (keys (pre++((b,o)::bh))))(_hr:∀off sp,ro ⟨b,off,sp⟩=none)(g:aE ro (pre++bh)):
  Ext ro (bR ro b o)/\aE (bR ro b o) (pre++bh)/\Le ⟨bR ro b o,pre++bh⟩ ⟨ro,pre++((b,o)::bh)⟩:=by
 have a:(pre++((b,o)::bh)).Perm ((b,o)::(pre++bh)):=List.perm_middle
 have h:Nd ((b,o)::(pre++bh)):=(a.map _).nodup_iff.1 f.nd
 have hb:b∉keys (pre++bh):=(List.nodup_cons.1 h).1
 refine ⟨fZ _ _ _,fun c d off sp=>?_,?_⟩
 ·have aF:¬c=b:=fun e=>hb (e▸d)
  simp[bR,g c d,aF]
 ·have i:Le ⟨bR ro b o,pre++bh⟩ ⟨ro,(b,o)::(pre++bh)⟩:=jR (by simp[lk]) (.cons _ (List.Sublist.refl _)) (lX hb)
  exact i.trans (Le.ps a.symm (List.Sublist.refl _))
section
variable {P : Program} {main : Bool} {J : Goroutine → aa → Prop}
theorem fP (hJ:Closed P main J){c:Code}{Q:Ex->Act->aa->Prop}{a:Act}{F:aa}(h:aP (keys F.own)->aE F.ro F.own->Wp J c Q a F):Wp J c Q a F:=by
 intro b k cs hb d;by_cases hw:∃w,Has F w
 ·obtain ⟨w,hw⟩:=hw;refine h ⟨hw.nodup⟩ (fun b hb off sp=>?_) b k cs hb d;cases e:F.ro ⟨b,off,sp⟩ with
  |none=>rfl
  |some v=>exact absurd hb (hw.apart _ v e)
 ·exact hJ.step fun w f=>absurd ⟨w,f⟩ hw
end
theorem vv:∀(a:List Value) (arr:Array Value) (k:Nat),k+a.length<=arr.size->∀q,(cI arr k a)[q]?=if k<=q/\q<k+a.length then a[q - k]? else arr[q]?
 |[],arr,k,h,q=>by
  have:¬(k<=q/\q<k+([]:List Value).length):=by simp
  rw[if_neg this];rfl
 |v::a,arr,k,h,q=>by
  simp only[List.length_cons] at h
  rw[cI,vv a _ (k+1) (by simp;omega)]
  simp only[List.length_cons]
  by_cases b:k=q
  ·subst b
   rw[if_neg (by omega),if_pos (by omega),Array.getElem?_setIfInBounds_self_of_lt (by omega)]
   simp
  ·by_cases c:k+1<=q/\q<k+1+a.length
   ·rw[if_pos c,if_pos (by omega)]
    rw[show q - k=(q - (k+1))+1 by omega]
    simp
   ·rw[if_neg c,if_neg (by omega),Array.getElem?_setIfInBounds_ne b]
theorem aO.part {T:Type}{r:b7 T}{ro:Addr->Option Value}{e:TypeId}{l:List T}{b n cap:Nat}{arr:Array Value}(h:aO r ro e (.slice (some ⟨b,0,none⟩) n cap) l [(b,.cells arr e)]){i:Nat}{x y:T}(hi:l[i]?=some x)(o:Nat)(a cs cs':List Value)
  (hm:∀j v,cs[j]?=some v->arr[i*r.n+j]?=some v) (hlen:cs.length=r.n) (g:cs'=cs.take o++a++cs.drop (o+a.length)) (z:o+a.length<=cs.length) (k:r.rel ro y cs'):
  aO r ro e (.slice (some ⟨b,0,none⟩) n cap) (l.set i y) [(b,.cells (cI arr (i*r.n+o) a) e)]:=by
 have m:=h.setAt hi k
 have d:=r.len k
 have t:i*r.n+r.n<=arr.size:=by
  rcases Nat.eq_zero_or_pos r.n with u|A
  ·rw[u];omega
  ·have c:r.n - 1<cs.length:=by omega
   have:=hm (r.n - 1) cs[r.n - 1] (List.getElem?_eq_getElem c)
   have:=(Array.getElem?_eq_some_iff.1 this).1
   omega
 have e1:cI arr (i*r.n) cs'=cI arr (i*r.n+o) a:=by
  apply Array.ext_getElem?
  intro q
  rw[vv cs' arr _ (by rw[d];exact t),vv a arr _ (by omega)]
  by_cases p:i*r.n+o<=q/\q<i*r.n+o+a.length
  ·rw[if_pos p,if_pos (by rw[d];omega),g]
   rw[List.append_assoc,List.getElem?_append_right (by simp;omega),List.getElem?_append_left (by simp;omega)]
   congr 1
   simp;omega
  ·rw[if_neg p]
   by_cases f:i*r.n<=q/\q<i*r.n+cs'.length
   ·rw[if_pos f]
    rw[d] at f
    have w:arr[q]?=cs[q - i*r.n]?:=by
     have c:q - i*r.n<cs.length:=by omega
     have:=hm (q - i*r.n) _ (List.getElem?_eq_getElem c)
     rw[show i*r.n+(q - i*r.n)=q by omega] at this
     rw[this,List.getElem?_eq_getElem c]
    rw[w,g]
    rcases Nat.lt_or_ge (q - i*r.n) o with s|s
    ·rw[List.append_assoc,List.getElem?_append_left (by simp;omega),List.getElem?_take_of_lt s]
    ·have B:o+a.length<=q - i*r.n:=by omega
     rw[List.getElem?_append_right (by simp;omega),List.getElem?_drop]
     congr 1
     simp;omega
   ·rw[if_neg f]
 rw[e1] at m
 exact m
theorem aO.elemAt {T:Type}{r:b7 T}{ro:Addr->Option Value}{e:TypeId}{b n cap:Nat}{l:List T}{aS:List (Nat×Obj)}(h:aO r ro e (.slice (some ⟨b,0,none⟩) n cap) l aS){i:Nat}{x:T}(hi:l[i]?=some x):
  ∃arr cs,aS=[(b,.cells arr e)]/\(∀off sp,ro ⟨b,off,sp⟩=none)/\r.rel ro x cs/\∀j v,cs[j]?=some v->arr[i*r.n+j]?=some v:=by
 obtain ⟨g,arr,k,cs,a,c,d,f,hm⟩:=h.elem hi
 cases a
 exact ⟨arr,cs,c,d,f,hm⟩
theorem aO.Ar {T:Type}{r:b7 T}{ro:Addr->Option Value}{e:TypeId}{ad:Option Addr}{n cap:Nat}{l:List T}{aS:List (Nat×Obj)}(h:aO r ro e (.slice ad n cap) l aS){i:Nat}{x:T}(hi:l[i]?=some x):
  ∃b arr cs,ad=some ⟨b,0,none⟩/\aS=[(b,.cells arr e)]/\(∀off sp,ro ⟨b,off,sp⟩=none)/\r.rel ro x cs/\∀j v,cs[j]?=some v->arr[i*r.n+j]?=some v:=by
 obtain ⟨a,arr,m,cs,c,d,f,g,hm⟩:=h.elem hi
 injection c with k o p
 exact ⟨a,arr,cs,k,d,f,g,hm⟩
theorem aO.iQ {T:Type}{r:b7 T}{ro:Addr->Option Value}{e:TypeId}{b n cap:Nat}{l:List T}{arr:Array Value}(h:aO r ro e (.slice (some ⟨b,0,none⟩) n cap) l [(b,.cells arr e)]){i:Nat}{x:T}(hi:l[i]?=some x):
  ∃cs,r.rel ro x cs/\∀j v,cs[j]?=some v->arr[i*r.n+j]?=some v:=by
 obtain ⟨d,cs,a,f,c,hm⟩:=h.elemAt hi
 simp only[List.cons.injEq,Prod.mk.injEq,Obj.cells.injEq,true_and,and_true] at a
 subst a
 exact ⟨cs,c,hm⟩
theorem aO.rT {T:Type}{r:b7 T}{ro:Addr->Option Value}{e:TypeId}{l:List T}{b n cap:Nat}{arr:Array Value}(h:aO r ro e (.slice (some ⟨b,0,none⟩) n cap) l [(b,.cells arr e)]){i:Nat}{y:T}(hi:i<l.length){cs:List Value}(a:r.rel ro y cs):
  aO r ro e (.slice (some ⟨b,0,none⟩) n cap) (l.set i y) [(b,.cells (cI arr (i*r.n) cs) e)]:=h.setAt (List.getElem?_eq_getElem hi) a
theorem aO.ig {T:Type}{r:b7 T}{ro:Addr->Option Value}{e:TypeId}{ad:Option Addr}{n cap:Nat}{l:List T}{aS:List (Nat×Obj)}(h:aO r ro e (.slice ad n cap) l aS)(a:l.isEmpty=false):
  ∃b arr,ad=some ⟨b,0,none⟩/\aS=[(b,.cells arr e)]/\(∀off sp,ro ⟨b,off,sp⟩=none):=by
 cases l with
 |nil=>cases a
 |cons x l=>
  obtain ⟨b,arr,cs,c,d,f,_⟩:=h.Ar (i:=0) rfl
  exact ⟨b,arr,c,d,f⟩
theorem aO.gz {T:Type}{r:b7 T}{ro:Addr->Option Value}{e:TypeId}{b n cap:Nat}{l:List T}{aS:List (Nat×Obj)}(h:aO r ro e (.slice (some ⟨b,0,none⟩) n cap) l aS):∃arr,aS=[(b,.cells arr e)]:=by
 obtain ⟨ls,hg,-⟩:=h;rcases hg with ⟨a,_,_⟩|⟨d,arr,f,a,c,_⟩
 ·cases a
 ·cases a;exact ⟨arr,c⟩
theorem aO.count {T:Type}{r:b7 T}{ro:Addr->Option Value}{e:TypeId}{ad:Option Addr}{n cap:Nat}{l:List T}{aS:List (Nat×Obj)}(h:aO r ro e (.slice ad n cap) l aS):l.length=n:=by
 obtain ⟨b,c,a,_⟩:=h.len;cases a;rfl
def pM (ops:Array Oper)(bW:List Nat)(i:Nat):Bool:=bW.all fun j=>match ops[j]? with
 |some o=>o.after.any fun e=>Region.binds .any e&&e.on==i
 |none=>true
section
variable {P : Program} {main : Bool} {J : Goroutine → aa → Prop} {ops : Array Oper} {Q : Act → aa → Prop} {S : aa → Prop} {bW : List Nat}
def dU (P:Program)(J:Goroutine->aa->Prop)(ops:Array Oper)(Q:Act->aa->Prop)(S:aa->Prop)(bW:List Nat):Nat->Array Bool->Act->aa->Prop
 |0,listed,a,F=>Region.ready .any ops listed=[]/\Q a F
 |fuel+1,listed,a,F=>(Region.ready .any ops listed=[]->Q a F)/\
  ∀i∈Region.ready .any ops listed,dH P J ops i (fun b F'=>(¬i∈bW->S F->S F')/\dU P J ops Q S bW fuel (listed.setIfInBounds i true) b F') a F
theorem Fp:∀(fuel t:Nat) (listed:Array Bool) (a:Act) (F:aa),dU P J ops Q S bW fuel listed a F->
  fJ P J ops Q (Region.linearise.go .any ops fuel t listed []) a F:=by
 intro fuel
 induction fuel with
 |zero=>intro t listed a F h;simpa [Region.linearise.go,fJ] using h.2
 |succ fuel ih=>
  intro t listed a F h
  obtain ⟨b,c⟩:=h
  simp only[Region.linearise.go]
  change fJ P J ops Q (match (Region.ready .any ops listed)[t % (Region.ready .any ops listed).length]? with
   |some i=>Region.linearise.go .any ops fuel (t/(Region.ready .any ops listed).length) (listed.setIfInBounds i true) [i]
   |none=>[].reverse) a F
  cases hi:(Region.ready .any ops listed)[t % (Region.ready .any ops listed).length]? with
  |none=>
   have d:Region.ready .any ops listed=[]:=by
    cases e:Region.ready .any ops listed with
    |nil=>rfl
    |cons x xs=>
     rw[e] at hi
     have f:t % (x::xs).length<(x::xs).length:=Nat.mod_lt _ (by simp)
     simp at hi
     simp at f
     omega
   simpa [fJ] using b d
  |some i=>
   simp only[]
   rw[linearise_go_acc,List.reverse_singleton,List.singleton_append]
   exact oU (fun a F h=>ih _ _ a F h.2) (c i (List.mem_of_getElem? hi))
theorem Fq {i:Nat}{l:Oper}{v:Value}(hi:ops[i]?=some l)(m:pM ops bW i=true)(u:∀(j:Nat) (o:Oper) cs b,ops[j]?=some o->o.op≠ .select cs b):
  ∀(fuel:Nat) (listed:Array Bool) (a:Act) (F:aa),
   (∀j f,ops[j]?=some f->j≠i->listed.getD j true=false->(∀e∈f.after,Region.binds .any e=true->e.on≠i)->l.apart ops f=true)->
   i∈Region.ready .any ops listed->fz P J ops S l v a->S F->
   dU P J ops Q S bW fuel (listed.setIfInBounds i true) (a.put l.dst v) F->dU P J ops Q S bW (fuel+1) listed a F:=by
 intro fuel
 induction fuel with
 |zero=>
  intro listed a F _ g n p H
  refine ⟨fun h=>(by rw[h] at g;cases g),fun j q=>?_⟩
  by_cases d:j=i
  ·subst d;exact n.mV hi p ⟨fun _ h=>h,H⟩
  ·have:=ready_mono q d
   rw[H.1] at this
   cases this
 |succ fuel ih=>
  intro listed a F w g n p H
  refine ⟨fun h=>(by rw[h] at g;cases g),fun j q=>?_⟩
  by_cases d:j=i
  ·subst d;exact n.mV hi p ⟨fun _ h=>h,H⟩
  ·have c:=H.2 j (ready_mono q d)
   obtain ⟨y,f,r,D⟩:=mem_ready.1 q
   have z:∀e∈f.after,Region.binds .any e=true->e.on≠i:=fun e he hb heq=>by
    have c:=D e he hb
    have A:=(mem_ready.1 g).1
    rw[heq] at c
    rcases Nat.lt_or_ge i listed.size with h'|h'
    ·simp[h'] at A c;rw[A] at c;cases c
    ·simp[Array.getElem?_eq_none h'] at c
   have E:¬j∈bW:=fun e=>by
    have m:=List.all_eq_true.1 m j e
    simp only[r,Array.any_eq_true,Bool.and_eq_true,beq_iff_eq] at m
    obtain ⟨x,G,c,t⟩:=m
    exact z _ (Array.getElem_mem G) c t
   have t:=uD r (w j f r d y z) (fun cs b=>u i l cs b hi) (fun cs b=>u j f cs b r) n c
   have I:∀k ok,ops[k]?=some ok->k≠i->(listed.setIfInBounds j true).getD k true=false->
     (∀e∈ok.after,Region.binds .any e=true->e.on≠i)->l.apart ops ok=true:=fun k ok K L B M=>by
    refine w k ok K L ?_ M
    by_cases C:j=k
    ·subst C;exact y
    ·rw[getD_set_ne true C] at B;exact B
   refine oU (fun N F' s=>⟨s.2.1,ih (listed.setIfInBounds j true) N F' I (ready_mono g (Ne.symm d)) s.1 (s.2.1 E p) ?_⟩) t
   rw[Array.setIfInBounds_comm _ _ d]
   exact s.2.2
theorem Fs {i:Nat}{l:Oper}{v:Value}(hi:ops[i]?=some l)(r:∀(j:Nat) (o:Oper) cs b,ops[j]?=some o->o.op≠ .select cs b):
  ∀(fuel:Nat) (listed:Array Bool) (a:Act) (F:aa),
   (∀j d,ops[j]?=some d->j≠i->listed.getD j true=false->(∀e∈d.after,Region.binds .any e=true->e.on≠i)->l.apart ops d=true)->
   i∈Region.ready .any ops listed->fz P J ops (fun _=>True) l v a->
   dU P J ops Q S bW fuel (listed.setIfInBounds i true) (a.put l.dst v) F->dU P J ops Q S bW (fuel+1) listed a F:=by
 intro fuel
 induction fuel with
 |zero=>
  intro listed a F _ f m H
  refine ⟨fun h=>(by rw[h] at f;cases f),fun j n=>?_⟩
  by_cases c:j=i
  ·subst c;exact m.mV hi trivial ⟨fun _ h=>h,H⟩
  ·have:=ready_mono n c
   rw[H.1] at this
   cases this
 |succ fuel ih=>
  intro listed a F s f m H
  refine ⟨fun h=>(by rw[h] at f;cases f),fun j n=>?_⟩
  by_cases c:j=i
  ·subst c;exact m.mV hi trivial ⟨fun _ h=>h,H⟩
  ·have g:=H.2 j (ready_mono n c)
   obtain ⟨t,d,p,y⟩:=mem_ready.1 n
   have z:∀e∈d.after,Region.binds .any e=true->e.on≠i:=fun e he hb heq=>by
    have g:=y e he hb
    have u:=(mem_ready.1 f).1
    rw[heq] at g
    rcases Nat.lt_or_ge i listed.size with h'|h'
    ·simp[h'] at u g;rw[u] at g;cases g
    ·simp[Array.getElem?_eq_none h'] at g
   have A:=uD p (s j d p c t z) (fun cs b=>r i l cs b hi) (fun cs b=>r j d cs b p) m g
   have B:∀k ok,ops[k]?=some ok->k≠i->(listed.setIfInBounds j true).getD k true=false->
     (∀e∈ok.after,Region.binds .any e=true->e.on≠i)->l.apart ops ok=true:=fun k ok C D w E=>by
    refine s k ok C D ?_ E
    by_cases x:j=k
    ·subst x;exact t
    ·rw[getD_set_ne true x] at w;exact w
   refine oU (fun G F' q=>⟨q.2.1,ih (listed.setIfInBounds j true) G F' B (ready_mono f (Ne.symm c)) q.1 ?_⟩) A
   rw[Array.setIfInBounds_comm _ _ c]
   exact q.2.2
theorem As (i:Nat){c:Oper}(v:Value){fuel:Nat}{listed:Array Bool}{a:Act}{F:aa}(hi:ops[i]?=some c)
  (b:(Region.noSelect ops&&Region.free .any ops listed i&&(Region.ready .any ops listed).contains i)=true)
  (d:pM ops bW i=true) (e:fz P J ops S c v a) (f:S F)
  (h:dU P J ops Q S bW fuel (listed.setIfInBounds i true) (a.put c.dst v) F):dU P J ops Q S bW (fuel+1) listed a F:=by
 simp only[Bool.and_eq_true] at b
 exact Fq hi d (Region.noSelect_spec b.1.1) fuel listed a F (Region.free_spec hi b.1.2) (by simpa using b.2) e f h
theorem vw {rs:List Nat}{fuel:Nat}{listed:Array Bool}{a:Act}{F:aa}(b:Region.ready .any ops listed=rs)(aF:rs≠[])
  (h:∀i∈rs,dH P J ops i (fun c F'=>(¬i∈bW->S F->S F')/\dU P J ops Q S bW fuel (listed.setIfInBounds i true) c F') a F):dU P J ops Q S bW (fuel+1) listed a F:=
 ⟨fun d=>absurd (b▸d) aF,b▸h⟩
theorem Au (i:Nat){fuel:Nat}{listed:Array Bool}{a:Act}{F:aa}(b:Region.ready .any ops listed=[i])
  (h:dH P J ops i (fun c F'=>(¬i∈bW->S F->S F')/\dU P J ops Q S bW fuel (listed.setIfInBounds i true) c F') a F):dU P J ops Q S bW (fuel+1) listed a F:=
 vw b (by simp) (by simpa using h)
theorem Av {listed:Array Bool}{a:Act}{F:aa}(b:Region.ready .any ops listed=[])(h:Q a F):∀fuel,dU P J ops Q S bW fuel listed a F
 |0=>⟨b,h⟩
 |_+1=>⟨fun _=>h,by rw[b];simp⟩
end
theorem vz {P:Program}{J:Goroutine->aa->Prop}{ops:Array Oper}{Q:Act->aa->Prop}{S:aa->Prop}{bW:List Nat}(i:Nat){b:Oper}(v:Value){fuel:Nat}{listed:Array Bool}{a:Act}{F:aa}(hi:ops[i]?=some b)
  (d:(Region.noSelect ops&&Region.free .any ops listed i&&(Region.ready .any ops listed).contains i)=true)
  (e:pM ops bW i=true) (hg:cz ops b a=some true) (f:∀F R,S F->R v F->cJ P J b R a F) (c:S F)
  (h:dU P J ops Q S bW fuel (listed.setIfInBounds i true) (bg a b.dst v) F):dU P J ops Q S bW (fuel+1) listed a F:=
 As i v hi d e (.inl ⟨cg hg,fun F R c g=>kH (f F R c g)⟩) c h
theorem Ft {P:Program}{J:Goroutine->aa->Prop}{ops:Array Oper}{Q:Act->aa->Prop}{S:aa->Prop}{bW:List Nat}(i:Nat){b:Oper}{fuel:Nat}{listed:Array Bool}{a:Act}{F:aa}(hi:ops[i]?=some b)
  (c:(Region.noSelect ops&&Region.free .any ops listed i&&(Region.ready .any ops listed).contains i)=true)
  (d:pM ops bW i=true) (hg:cz ops b a=some false) (e:S F)
  (h:dU P J ops Q S bW fuel (listed.setIfInBounds i true) (bg a b.dst undef) F):dU P J ops Q S bW (fuel+1) listed a F:=
 As i undef hi c d (.inr ⟨cg hg,rfl⟩) e h
theorem Aw {P:Program}{J:Goroutine->aa->Prop}{ops:Array Oper}{Q:Act->aa->Prop}{S:aa->Prop}{bW:List Nat}(i:Nat){c:Oper}(v:Value){fuel:Nat}{listed:Array Bool}{a:Act}{F:aa}(hi:ops[i]?=some c)
  (b:(Region.noSelect ops&&Region.free .any ops listed i&&(Region.ready .any ops listed).contains i)=true)
  (d:fz P J ops (fun _=>True) c v a)
  (h:dU P J ops Q S bW fuel (listed.setIfInBounds i true) (bg a c.dst v) F):dU P J ops Q S bW (fuel+1) listed a F:=by
 simp only[Bool.and_eq_true] at b
 exact Fs hi (Region.noSelect_spec b.1.1) fuel listed a F (Region.free_spec hi b.1.2) (by simpa using b.2) d h
inductive cj where
 |done
 |rd (i:Nat) (p:cj)
 |one (i:Nat) (p:cj)
 |two (i:Nat) (p:cj) (j:Nat) (q:cj)
 |three (i:Nat) (p:cj) (j:Nat) (q:cj) (k:Nat) (r:cj)
 |last (i:Nat) (p:cj)
 |pure (i:Nat) (p:cj)
inductive fF where
 |done
 |rd (o:Oper) (p:fF)
 |one (o:Oper) (p:fF)
 |two (o:Oper) (p:fF) (o':Oper) (q:fF)
 |three (o:Oper) (p:fF) (o':Oper) (q:fF) (jW:Oper) (r:fF)
 |last (o:Oper) (p:fF)
 |pure (o:Oper) (p:fF)
 |bad
def cj.opers (ops:Array Oper):cj->fF
 | .done=>.done
 | .rd i p=>match ops[i]? with
  |some o=>.rd o (p.opers ops)
  |none=>.bad
 | .one i p=>match ops[i]? with
  |some o=>.one o (p.opers ops)
  |none=>.bad
 | .two i p j q=>match ops[i]?,ops[j]? with
  |some o,some o'=>.two o (p.opers ops) o' (q.opers ops)
  |_,_=>.bad
 | .three i p j q k r=>match ops[i]?,ops[j]?,ops[k]? with
  |some o,some o',some jW=>.three o (p.opers ops) o' (q.opers ops) jW (r.opers ops)
  |_,_,_=>.bad
 | .last i p=>match ops[i]? with
  |some o=>.last o (p.opers ops)
  |none=>.bad
 | .pure i p=>match ops[i]? with
  |some o=>.pure o (p.opers ops)
  |none=>.bad
def cj.tl:cj->Bool
 | .done=>true
 | .last _ p=>p.tl
 | .pure _ p=>p.tl
 |_=>false
def cj.ok (ops:Array Oper)(bW:List Nat):cj->Array Bool->Bool
 | .done,L=>decide (Region.ready .any ops L=[])
 | .rd i p,L=>Region.free .any ops L i&&(Region.ready .any ops L).contains i&&(ops[i]?).isSome&&pM ops bW i&&p.ok ops bW (L.setIfInBounds i true)
 | .one i p,L=>decide (Region.ready .any ops L=[i])&&(ops[i]?).isSome&&p.ok ops bW (L.setIfInBounds i true)
 | .two i p j q,L=>decide (Region.ready .any ops L=[i,j])&&(ops[i]?).isSome&&(ops[j]?).isSome&&p.ok ops bW (L.setIfInBounds i true)&&q.ok ops bW (L.setIfInBounds j true)
 | .three i p j q k r,L=>decide (Region.ready .any ops L=[i,j,k])&&(ops[i]?).isSome&&(ops[j]?).isSome&&(ops[k]?).isSome&&p.ok ops bW (L.setIfInBounds i true)&&q.ok ops bW (L.setIfInBounds j true)&&r.ok ops bW (L.setIfInBounds k true)
 | .pure i p,L=>Region.free .any ops L i&&(Region.ready .any ops L).contains i&&(ops[i]?).isSome&&p.ok ops bW (L.setIfInBounds i true)
 | .last i p,L=>bW.contains i&&decide (Region.ready .any ops L=[i])&&p.tl&&(ops[i]?).isSome&&p.ok ops bW (L.setIfInBounds i true)
def cj.len:cj->Nat
 | .done=>0
 | .rd _ p=>p.len+1
 | .one _ p=>p.len+1
 | .two _ p _ q=>max p.len q.len+1
 | .three _ p _ q _ r=>max p.len (max q.len r.len)+1
 | .last _ p=>p.len+1
 | .pure _ p=>p.len+1
def cu (P:Program)(J:Goroutine->aa->Prop)(ops:Array Oper)(F0:aa)(Q:Act->aa->Prop):fF->Bool->Act->aa->Prop
 | .done,_,a,F=>Q a F
 | .bad,_,_,_=>False
 | .rd o p,_,a,F=>match cz ops o a with
  |some false=>cu P J ops F0 Q p true (bg a o.dst undef) F
  |some true=>match o.op with
   | .load t x=>match ev a x with
    | .pointer (some ad)=>match e8 P F0 t ad with
     |some v=>cu P J ops F0 Q p true (bg a o.dst v) F
     |none=>False
    |_=>False
   | .call {callee:=.value x,args, ..}=>match ev a x with
    | .func (.func fn) first captured=>aJ P fn=true/\∃v,Plain P J F0 fn (first++args.map (ev a)++captured) v/\cu P J ops F0 Q p false (bg a o.dst v) F
    |_=>False
   |_=>match iN P o a with
    |some v=>cu P J ops F0 Q p true (bg a o.dst v) F
    |none=>False
  |none=>False
 | .one o p,_,a,F=>match cz ops o a with
  |some true=>cJ P J o (fun v F'=>Knows F0 F'/\cu P J ops F0 Q p (!Oper.calls o) (bg a o.dst v) F') a F
  |_=>False
 | .two o p o' q,_,a,F=>(match cz ops o a with
  |some true=>cJ P J o (fun v F'=>Knows F0 F'/\cu P J ops F0 Q p (!Oper.calls o) (bg a o.dst v) F') a F
  |_=>False)/\(match cz ops o' a with
  |some true=>cJ P J o' (fun v F'=>Knows F0 F'/\cu P J ops F0 Q q (!Oper.calls o') (bg a o'.dst v) F') a F
  |_=>False)
 | .three o p o' q jW r,_,a,F=>(match cz ops o a with
  |some true=>cJ P J o (fun v F'=>Knows F0 F'/\cu P J ops F0 Q p (!Oper.calls o) (bg a o.dst v) F') a F
  |_=>False)/\(match cz ops o' a with
  |some true=>cJ P J o' (fun v F'=>Knows F0 F'/\cu P J ops F0 Q q (!Oper.calls o') (bg a o'.dst v) F') a F
  |_=>False)/\(match cz ops jW a with
  |some true=>cJ P J jW (fun v F'=>Knows F0 F'/\cu P J ops F0 Q r (!Oper.calls jW) (bg a jW.dst v) F') a F
  |_=>False)
 | .pure o p,_,a,F=>match cz ops o a with
  |some false=>cu P J ops F0 Q p true (bg a o.dst undef) F
  |some true=>match iN P o a with
   |some v=>cu P J ops F0 Q p true (bg a o.dst v) F
   |none=>False
  |none=>False
 | .last o p,_,a,F=>match cz ops o a with
  |some true=>cJ P J o (fun v F'=>cu P J ops F0 Q p (!Oper.calls o) (bg a o.dst v) F') a F
  |_=>False
section
variable {P : Program} {main : Bool} {J : Goroutine → aa → Prop} {ops : Array Oper} {Q : Act → aa → Prop} {F0 : aa} {bW : List Nat}
theorem m8 {p:cj}{i:Nat}{o:Oper}{fuel:Nat}{L:Array Bool}{a:Act}{F:aa}(c:ops[i]?=some o)
  (ih:∀go a F,Knows F0 F->cu P J ops F0 Q (p.opers ops) go a F->dU P J ops Q (Knows F0) bW fuel (L.setIfInBounds i true) a F)
  (h:match cz ops o a with
   |some true=>cJ P J o (fun v F'=>Knows F0 F'/\cu P J ops F0 Q (p.opers ops) (!Oper.calls o) (bg a o.dst v) F') a F
   |_=>False):dH P J ops i (fun d F'=>(¬i∈bW->Knows F0 F->Knows F0 F')/\dU P J ops Q (Knows F0) bW fuel (L.setIfInBounds i true) d F') a F:=by
 split at h
 ·rename_i hg
  unfold dH
  simp only[c]
  rw[if_pos (cg hg)]
  refine kH (lV.rG ?_ h)
  rintro v F' ⟨b,e⟩
  exact ⟨fun _ _=>b,ih _ _ F' b e⟩
 ·exact h.elim
theorem Ax {p:cj}{i:Nat}{fuel:Nat}{L:Array Bool}{go:Bool}{a:Act}{F:aa}(e:Region.noSelect ops=true)(c:(cj.pure i p).ok ops bW L=true)
  (ih:∀go v a,p.ok ops bW (L.setIfInBounds i true)=true->cu P J ops F0 Q (p.opers ops) go (bg a ((ops[i]?).bind (·.dst)) v) F->dU P J ops Q (Knows F0) bW fuel (L.setIfInBounds i true) (bg a ((ops[i]?).bind (·.dst)) v) F)
  (h:cu P J ops F0 Q ((cj.pure i p).opers ops) go a F):dU P J ops Q (Knows F0) bW (fuel+1) L a F:=by
 simp only[cj.ok,Bool.and_eq_true] at c
 obtain ⟨⟨⟨c1,c2⟩,c3⟩,c4⟩:=c
 obtain ⟨o,b⟩:=Option.isSome_iff_exists.1 c3
 have d:(Region.noSelect ops&&Region.free .any ops L i&&(Region.ready .any ops L).contains i)=true:=by rw[e,c1,c2];rfl
 have f:cj.opers ops (.pure i p)= .pure o (p.opers ops):=by simp only[cj.opers,b]
 rw[f] at h
 have hd:(ops[i]?).bind (·.dst)=o.dst:=by rw[b];rfl
 rw[hd] at ih
 unfold cu at h
 split at h
 ·rename_i hg
  exact Aw i undef b d (.inr ⟨cg hg,rfl⟩) (ih _ _ _ c4 h)
 ·rename_i hg
  split at h
  ·rename_i v g
   exact Aw i v b d (.inl ⟨cg hg,fun F R _ j=>kH (rD g j)⟩) (ih _ _ _ c4 h)
  ·exact h.elim
 ·exact h.elim
theorem vA (d:Region.noSelect ops=true):∀(p:cj) (fuel:Nat) (L:Array Bool) (go:Bool) (a:Act) (F:aa),p.tl=true->p.len<=fuel->p.ok ops bW L=true->cu P J ops F0 Q (p.opers ops) go a F->dU P J ops Q (Knows F0) bW fuel L a F
 | .done,fuel,L,go,a,F,_,c,b,h=>by
  simp only[cj.ok,decide_eq_true_eq] at b
  unfold cj.opers cu at h
  exact Av b h _
 | .last i p,fuel,L,go,a,F,ht,c,b,h=>by
  simp only[cj.ok,Bool.and_eq_true,decide_eq_true_eq] at b
  obtain ⟨⟨⟨⟨c1,c2⟩,c3⟩,c4⟩,g⟩:=b
  obtain ⟨o,e⟩:=Option.isSome_iff_exists.1 c4
  have j:cj.opers ops (.last i p)= .last o (p.opers ops):=by simp only[cj.opers,e]
  rw[j] at h
  simp only[cj.len] at c
  obtain ⟨fuel,rfl⟩:∃f,fuel=f+1:=⟨fuel - 1,by omega⟩
  unfold cu at h
  refine Au i c2 ?_
  split at h
  ·rename_i hg
   unfold dH
   simp only[e]
   rw[if_pos (cg hg)]
   refine kH (lV.rG ?_ h)
   exact fun v F' k=>⟨fun aF _=>absurd (by simpa using c1) aF,vA d p fuel _ _ _ F' c3 (by omega) g k⟩
  ·exact h.elim
 | .pure i p,fuel,L,go,a,F,ht,c,b,h=>by
  simp only[cj.len] at c
  obtain ⟨fuel,rfl⟩:∃f,fuel=f+1:=⟨fuel - 1,by omega⟩
  exact Ax d b (fun go v a c4 l=>vA d p fuel _ go _ F ht (by omega) c4 l) h
 | .rd _ _,_,_,_,_,_,ht,_,_,_=>by cases ht
 | .one _ _,_,_,_,_,_,ht,_,_,_=>by cases ht
 | .two ..,_,_,_,_,_,ht,_,_,_=>by cases ht
 | .three ..,_,_,_,_,_,ht,_,_,_=>by cases ht
theorem jX (g:Region.noSelect ops=true):∀(p:cj) (fuel:Nat) (L:Array Bool) (go:Bool) (a:Act) (F:aa),Knows F0 F->p.len<=fuel->p.ok ops bW L=true->cu P J ops F0 Q (p.opers ops) go a F->dU P J ops Q (Knows F0) bW fuel L a F
 | .done,fuel,L,go,a,F,b,e,c,h=>by
  simp only[cj.ok,decide_eq_true_eq] at c
  unfold cj.opers cu at h
  exact Av c h _
 | .rd i p,fuel,L,go,a,F,b,e,c,h=>by
  simp only[cj.ok,Bool.and_eq_true] at c
  obtain ⟨⟨⟨⟨c1,c2⟩,c3⟩,l⟩,c4⟩:=c
  obtain ⟨o,d⟩:=Option.isSome_iff_exists.1 c3
  have y:(Region.noSelect ops&&Region.free .any ops L i&&(Region.ready .any ops L).contains i)=true:=by rw[g,c1,c2];rfl
  have m:cj.opers ops (.rd i p)= .rd o (p.opers ops):=by simp only[cj.opers,d]
  rw[m] at h
  simp only[cj.len] at e
  obtain ⟨fuel,rfl⟩:∃f,fuel=f+1:=⟨fuel - 1,by omega⟩
  have next:∀go v,cu P J ops F0 Q (p.opers ops) go (bg a o.dst v) F->dU P J ops Q (Knows F0) bW fuel (L.setIfInBounds i true) (bg a o.dst v) F:=fun go v n=>
   jX g p fuel _ go _ F b (by omega) c4 n
  unfold cu at h
  split at h
  ·rename_i hg
   exact Ft i d y l hg b (next true undef h)
  ·rename_i hg
   split at h
   ·rename_i t x A
    split at h
    case h_2=>exact h.elim
    rename_i ad C
    split at h
    case h_2=>exact h.elim
    rename_i v n
    refine vz i v d y l hg (fun F R z u=>?_) b (next _ v h)
    unfold cJ
    simp only[A,C,z.e8 n]
    exact u
   ·rename_i x args argTypes A
    split at h
    case h_2=>exact h.elim
    rename_i fn first captured s
    obtain ⟨D,v,E,h⟩:=h
    refine vz i v d y l hg (fun F R z u=>?_) b (next _ v h)
    unfold cJ
    simp only[A,s]
    exact ⟨D,(E F z).mono fun K F' G=>by obtain ⟨rfl,rfl⟩:=G;exact u⟩
   ·split at h
    case h_2=>exact h.elim
    rename_i v n
    exact vz i v d y l hg (fun F R z u=>rD n u) b (next _ v h)
  ·exact h.elim
 | .one i p,fuel,L,go,a,F,b,e,c,h=>by
  simp only[cj.ok,Bool.and_eq_true,decide_eq_true_eq] at c
  obtain ⟨⟨c1,c3⟩,c4⟩:=c
  obtain ⟨o,d⟩:=Option.isSome_iff_exists.1 c3
  have m:cj.opers ops (.one i p)= .one o (p.opers ops):=by simp only[cj.opers,d]
  rw[m] at h
  simp only[cj.len] at e
  obtain ⟨fuel,rfl⟩:∃f,fuel=f+1:=⟨fuel - 1,by omega⟩
  unfold cu at h
  exact Au i c1 (m8 d (fun go a F b h=>jX g p fuel _ go a F b (by omega) c4 h) h)
 | .two i p j q,fuel,L,go,a,F,b,e,c,h=>by
  simp only[cj.ok,Bool.and_eq_true,decide_eq_true_eq] at c
  obtain ⟨⟨⟨⟨c1,c2⟩,c3⟩,c4⟩,l⟩:=c
  obtain ⟨o,d⟩:=Option.isSome_iff_exists.1 c2
  obtain ⟨o',w⟩:=Option.isSome_iff_exists.1 c3
  have m:cj.opers ops (.two i p j q)= .two o (p.opers ops) o' (q.opers ops):=by simp only[cj.opers,d,w]
  rw[m] at h
  simp only[cj.len] at e
  obtain ⟨fuel,rfl⟩:∃f,fuel=f+1:=⟨fuel - 1,by omega⟩
  unfold cu at h
  refine vw c1 (by simp) fun x s=>?_
  simp only[List.mem_cons,List.not_mem_nil,or_false] at s
  rcases s with rfl|rfl
  ·exact m8 d (fun go a F b h=>jX g p fuel _ go a F b (by omega) c4 h) h.1
  ·exact m8 w (fun go a F b h=>jX g q fuel _ go a F b (by omega) l h) h.2
 | .three i p j q k r,fuel,L,go,a,F,b,e,c,h=>by
  simp only[cj.ok,Bool.and_eq_true,decide_eq_true_eq] at c
  obtain ⟨⟨⟨⟨⟨⟨c1,c2⟩,c3⟩,c4⟩,l⟩,H⟩,I⟩:=c
  obtain ⟨o,d⟩:=Option.isSome_iff_exists.1 c2
  obtain ⟨o',w⟩:=Option.isSome_iff_exists.1 c3
  obtain ⟨jW,B⟩:=Option.isSome_iff_exists.1 c4
  have m:cj.opers ops (.three i p j q k r)= .three o (p.opers ops) o' (q.opers ops) jW (r.opers ops):=by simp only[cj.opers,d,w,B]
  rw[m] at h
  simp only[cj.len] at e
  obtain ⟨fuel,rfl⟩:∃f,fuel=f+1:=⟨fuel - 1,by omega⟩
  unfold cu at h
  refine vw c1 (by simp) fun x s=>?_
  simp only[List.mem_cons,List.not_mem_nil,or_false] at s
  rcases s with rfl|rfl|rfl
  ·exact m8 d (fun go a F b h=>jX g p fuel _ go a F b (by omega) l h) h.1
  ·exact m8 w (fun go a F b h=>jX g q fuel _ go a F b (by omega) H h) h.2.1
  ·exact m8 B (fun go a F b h=>jX g r fuel _ go a F b (by omega) I h) h.2.2
 | .last i p,fuel,L,go,a,F,b,e,c,h=>vA g (.last i p) fuel L go a F (by simp only[cj.ok,Bool.and_eq_true] at c;exact c.1.1.2) e c h
 | .pure i p,fuel,L,go,a,F,b,e,c,h=>by
  simp only[cj.len] at e
  obtain ⟨fuel,rfl⟩:∃f,fuel=f+1:=⟨fuel - 1,by omega⟩
  exact Ax g c (fun go v a c4 n=>jX g p fuel _ go _ F b (by omega) c4 n) h
theorem eE {Q:Ex->Act->aa->Prop}(hJ:Closed P main J)(d:P.follows .mixedOrders=true)(bW:List Nat)(p:cj){id:Nat}{a:Act}{F:aa}(F0:aa)(e:Knows F0 F)
  (c:(Region.noSelect ops&&decide (p.len<=ops.size)&&p.ok ops bW (Array.replicate ops.size false))=true)
  (h:cu P J ops F0 (Q .normal) (p.opers ops) true a F):Wp J (.region id ops true) Q a F:=by
 simp only[Bool.and_eq_true,decide_eq_true_eq] at c
 obtain ⟨⟨f,g⟩,i⟩:=c
 intro b k cs hb j
 refine hJ.step fun w hw=>?_
 refine ⟨_,_,_,F,zd,.drawn _ _ _,hw.drawn _,by simp,?_⟩
 refine qZ (K:=Q .normal) hJ (uH hb) (fun l F' h'=>j .normal l F' h') _ _ _ ?_
 simp only[Region.schedule,d,Bool.true_or,if_true]
 exact Fp ops.size _ _ a F (jX (bW:=bW) f p ops.size _ true a F e g i h)
end
theorem Fu {P:Program}{J:Goroutine->aa->Prop}{ops:Array Oper}{F0:aa}{Q:Act->aa->Prop}{go:Bool}{a:Act}{F:aa}:cu P J ops F0 Q .done go a F=Q a F:=rfl
theorem Fv {P:Program}{J:Goroutine->aa->Prop}{ops:Array Oper}{F0:aa}{Q:Act->aa->Prop}{o:Oper}{p:fF}{a:Act}{F:aa}:cu P J ops F0 Q (.rd o p) true a F=match cz ops o a with
  |some false=>cu P J ops F0 Q p true (bg a o.dst undef) F
  |some true=>match o.op with
   | .load t x=>match ev a x with
    | .pointer (some ad)=>match e8 P F0 t ad with
     |some v=>cu P J ops F0 Q p true (bg a o.dst v) F
     |none=>False
    |_=>False
   | .call {callee:=.value x,args, ..}=>match ev a x with
    | .func (.func fn) first captured=>aJ P fn=true/\∃v,Plain P J F0 fn (first++args.map (ev a)++captured) v/\cu P J ops F0 Q p false (bg a o.dst v) F
    |_=>False
   |_=>match iN P o a with
    |some v=>cu P J ops F0 Q p true (bg a o.dst v) F
    |none=>False
  |none=>False:=(Eq.refl _).trans (Eq.refl _)
theorem Ay {P:Program}{J:Goroutine->aa->Prop}{ops:Array Oper}{F0:aa}{Q:Act->aa->Prop}{o:Oper}{p:fF}{a:Act}{F:aa}:cu P J ops F0 Q (.one o p) true a F=match cz ops o a with
  |some true=>cJ P J o (fun v F'=>Knows F0 F'/\cu P J ops F0 Q p (!Oper.calls o) (bg a o.dst v) F') a F
  |_=>False:=(Eq.refl _).trans (Eq.refl _)
theorem jY {P:Program}{J:Goroutine->aa->Prop}{ops:Array Oper}{F0:aa}{Q:Act->aa->Prop}{o o':Oper}{p q:fF}{go:Bool}{a:Act}{F:aa}(b:cu P J ops F0 Q (.one o p) true a F)(c:cu P J ops F0 Q (.one o' q) true a F):cu P J ops F0 Q (.two o p o' q) go a F:=by
 rw[Ay] at b c;unfold cu;exact ⟨b,c⟩
theorem Fw {P:Program}{J:Goroutine->aa->Prop}{ops:Array Oper}{F0:aa}{Q:Act->aa->Prop}{o:Oper}{p:fF}{a:Act}{F:aa}:cu P J ops F0 Q (.last o p) true a F=match cz ops o a with
  |some true=>cJ P J o (fun v F'=>cu P J ops F0 Q p (!Oper.calls o) (bg a o.dst v) F') a F
  |_=>False:=(Eq.refl _).trans (Eq.refl _)
theorem Fx {P:Program}{J:Goroutine->aa->Prop}{ops:Array Oper}{F0:aa}{Q:Act->aa->Prop}{o:Oper}{p:fF}{a:Act}{F:aa}:cu P J ops F0 Q (.pure o p) true a F=match cz ops o a with
  |some false=>cu P J ops F0 Q p true (bg a o.dst undef) F
  |some true=>match iN P o a with
   |some v=>cu P J ops F0 Q p true (bg a o.dst v) F
   |none=>False
  |none=>False:=(Eq.refl _).trans (Eq.refl _)
theorem bT {P:Program}{J:Goroutine->aa->Prop}{ops:Array Oper}{F0:aa}{Q:Act->aa->Prop}:∀{p:fF} {go:Bool} {a:Act} {F:aa},cu P J ops F0 Q p true a F->cu P J ops F0 Q p go a F
 | .done,_,_,_,h=>h
 | .bad,_,_,_,h=>h
 | .rd ..,_,_,_,h=>h
 | .one ..,_,_,_,h=>h
 | .two ..,_,_,_,h=>h
 | .three ..,_,_,_,h=>h
 | .last ..,_,_,_,h=>h
 | .pure ..,_,_,_,h=>h
attribute [irreducible] cu
attribute [go_sem] Fu Fv Ay Fw Fx cj.opers
theorem eR {ro aM:Addr->Option Value}{l:List (Nat×Obj)}(a:Ext ro aM)(b:aE aM l)(own:List (Nat×Obj)):Knows ⟨ro,l⟩ ⟨aM,own⟩=iM l own:=
 propext ⟨fun h=>h.2.2,Ev a b⟩
section
variable {P : Program} {main : Bool} {J : Goroutine → aa → Prop} {a : Act} {F : aa}
def lZ (l:Nat)(R:Value->aa->Prop)(st:LoopState)(jump:Option Code)(F:aa):Prop:=
 ∃lo,F.eW l=some (.loop lo)/\R (.bool jump.isNone) (F.put l (.loop {lo with state:=st,pending:=jump}))
def rU (l:Nat)(R:Value->aa->Prop):Ex->Act->aa->Prop
 | .normal,_,F=>lZ l R .ready none F
 | .exit id,_,F=>lZ l R .done (some (.exit id)) F
 | .ret,_,F=>lZ l R .done (some .ret) F
def pN (J:Goroutine->aa->Prop)(l:Nat)(body:Code)(R:Value->aa->Prop):Ex->Act->aa->Prop
 | .normal,a,F=>∃lo,F.eW l=some (.loop lo)/\lo.state= .ready/\Wp J body (rU l R) a (F.put l (.loop {lo with state:=.busy}))
 |_,_,_=>False
theorem vB {l:Nat}{R:Value->aa->Prop}{st:LoopState}{jump:Option Code}(c:st=if jump.isNone then .ready else .done)(h:lZ l R st jump F):aU P (Instr.endRound l jump) R F:=by
 obtain ⟨lo,a,b⟩:=h;simp only[Instr.endRound,Instr.getLoop,bq,mW];refine ⟨_,a,?_⟩;simp only[bF,bq,lJ,a,Option.isSome_some,Obj.isChan,true_and];rw[c] at b;exact b
theorem vC (hJ:Closed P main J){l:Nat}{b:Frame}{a:Act}{todo:List Item}{jump:Option Code}{c:Frame}{cs:List Frame}(f:b.kind= .normal)
  (hs:∀w,stepG P main (G (on b a todo) (c::cs)) w=GStep.after (seen P b.fn ((Instr.endRound l jump).runT P w #[]).2) (match ((Instr.endRound l jump).runT P w #[]).1 with
    | .ok v w=>doReturn P main (on b a todo) (c::cs) none v w
    | .halt _ w=>.ended (.stuck "range over a function: no such loop" ((on b a todo).pos P)) w))
  (h:aU P (Instr.endRound l jump) (fun v F'=>J (G (c.finish v) cs) F') F):J (G (on b a todo) (c::cs)) F:=by
 refine hJ.step fun w hw=>?_
 obtain ⟨v,w',F',es,H⟩:=kF _ F w #[] h hw
 have d:=H.run
 rw[Array.empty_append] at d
 refine ⟨G (c.finish v) cs,w',seen P b.fn es,F',?_,H.upd,H.has,fun e he=>H.g7 e (mem_seen he),H.post⟩
 rw[hs w,d]
 have g:(on b a todo).kind= .normal:=f
 simp only[doReturn,g,GStep.after,G]
 simp
theorem jk.of_wp (hJ:Closed P main J){l:Nat}{f:FuncId}{tmps:Array Value}{assign body:Code}{R:Value->aa->Prop}(hd:fA assign=true)(q:fA body=true)
  (h:Wp J assign (pN J l body R) {tmps:=tmps,defers:=[]} F):jk J l f tmps assign body F R:=by
 intro c cs j
 let b:Frame:={(default:Frame) with fn:=f,kind:=.normal,roundOf:=some l}
 have he:Frame.round l f tmps assign body .normal=on b {tmps:=tmps,defers:=[]} (.code assign::[.beginRound,.code body]):=rfl
 rw[he]
 refine h b [.beginRound,.code body] (c::cs) ⟨by simp[b],.inr hd⟩ fun e m F' d=>?_
 cases e with
 |exit i=>exact d.elim
 |ret=>exact d.elim
 |normal=>
  obtain ⟨lo,a,g,r⟩:=d
  show J (G (on b m [.beginRound,.code body]) (c::cs)) F'
  have s:aU P (do Instr.beginRound l;pure Next.skip:Sem Next) (fun n k=>n= .skip/\k=F'.put l (.loop {lo with state:=.busy})) F':=by
   simp only[Instr.beginRound,Instr.getLoop,bq,mW]
   refine ⟨_,a,?_⟩
   simp only[bF,bq,lJ,a,Option.isSome_some,Obj.isChan,true_and,g]
   all_goals first|trivial|exact ⟨rfl,rfl⟩
  refine hJ.step fun w hw=>?_
  obtain ⟨n,w',k,es,H⟩:=kF _ F' w #[] s hw
  have o:=H.run
  rw[Array.empty_append] at o
  obtain ⟨rfl,rfl⟩:=H.post
  refine ⟨G (on b m [.code body]) (c::cs),w',seen P b.fn es,_,?_,H.upd,H.has,fun e he=>H.g7 e (mem_seen he),?_⟩
  ·have t:b.roundOf=some l:=rfl
   simp only[G,stepG,stepG.exec,on,t,Option.elim,stepG.apply,if_true]
   have u:(b.kind==CallKind.early)=false:=rfl
   simp only[o,u,Bool.false_eq_true,if_false,GStep.after]
   simp[Frame.finish,undef]
  ·refine r b [] (c::cs) ⟨by simp[b],.inr q⟩ fun e a2 k d=>?_
   cases e with
   |normal=>
    refine vC hJ (l:=l) (jump:=none) rfl (fun w=>?_) (vB rfl (R:=fun v F'=>J (G (c.finish v) cs) F') ?_)
    ·simp only[G,stepG,stepG.exec,on]
     rfl
    ·obtain ⟨lo,a,g⟩:=d
     exact ⟨lo,a,j _ _ g⟩
   |exit i=>
    intro p x
    refine vC hJ (l:=l) (jump:=some (.exit i)) rfl (fun w=>?_) (vB rfl (R:=fun v F'=>J (G (c.finish v) cs) F') ?_)
    ·have y:exitTo i p=none:=x
     simp only[G,stepG,stepG.exec,on,y,Option.elim]
     rfl
    ·obtain ⟨lo,a,g⟩:=d
     exact ⟨lo,a,j _ _ g⟩
   |ret=>
    intro p
    refine vC hJ (l:=l) (jump:=some .ret) rfl (fun w=>?_) (vB rfl (R:=fun v F'=>J (G (c.finish v) cs) F') ?_)
    ·simp only[G,stepG,stepG.exec,on]
     rfl
    ·obtain ⟨lo,a,g⟩:=d
     exact ⟨lo,a,j _ _ g⟩
def rV (Q:Ex->Act->aa->Prop)(a:Act)(F:aa):Option Code->Prop
 |none=>Q .normal a F
 |some (.exit id)=>Q (.exit id) a F
 |some .ret=>Q .ret a F
 |_=>False
def m9 (b:FuncId)(a:Act)(params:Array Tmp)(assign body:Code)(d:Nat):Loop:={state:=.ready,pending:=none,fn:=b,tmps:=a.tmps,params:=params,assign:=assign,body:=body,defers:=d}
theorem Fy (hJ:Closed P main J){x:Operand}{params:Array Tmp}{assign body:Code}{Q:Ex->Act->aa->Prop}{fn:FuncId}{first captured:Array Value}
  (E:ev a x= .func (.func fn) first captured) (I:aJ P fn=true)
  (L:∀M d l,dO F d->dO (F.push d (.deferred (some []))) l->
   cO P J fn (first++#[.func (.yield l) #[] #[]]++captured) ((F.push d (.deferred (some []))).push l (.loop (m9 M a params assign body d)))
    (fun _ F'=>∃lo,F'.eW l=some (.loop lo)/\lo.state≠ .busy/\rV Q {a with defers:=⟨.collected d,#[]⟩::a.defers} (F'.put l (.loop {lo with state:=.exhausted})) lo.pending)):
  Wp J (.rangeFunc x params assign body) Q a F:=by
 intro b k cs hb p
 have t:b.roundOf=none:=hb.round.elim id fun h=>by simp[fA] at h
 obtain ⟨u,N,O,R,S,q,a4⟩:=b
 simp only at t
 subst t
 let b:Frame:=⟨u,N,O,R,S,q,none⟩
 have T:a.eval x= .func (.func fn) first captured:=E
 have i:=I
 unfold aJ at i
 split at i
 case h_2=>cases i
 rename_i a5 U
 simp only[Bool.not_eq_true',Bool.or_eq_false_iff] at i
 let K:Nat×List Deferred->aa->Prop:=fun r F'=>∃d l,r=(l,[⟨.collected d,#[]⟩])/\dO F d/\dO (F.push d (.deferred (some []))) l/\F'=(F.push d (.deferred (some []))).push l (.loop (m9 b.fn a params assign body d))
 have V:aU P (Instr.enterLoop b.fn a.tmps params assign body none) K F:=by
  simp only[Instr.enterLoop,bq,oW,bF]
  exact ⟨rfl,fun d hd=>⟨rfl,fun l s=>⟨d,l,rfl,hd,s,rfl⟩⟩⟩
 refine hJ.step fun w hw=>?_
 obtain ⟨r,w1,a6,z,H1⟩:=kF _ F w #[] V hw
 have A:=H1.run
 rw[Array.empty_append] at A
 obtain ⟨d,l,rfl,hd,s,rfl⟩:=H1.post
 let fr':Frame:={on b a (.inRangeFunc l::k) with defers:=[⟨.collected d,#[]⟩]++a.defers}
 have W:fr'=on b {a with defers:=⟨.collected d,#[]⟩::a.defers} (.inRangeFunc l::k):=rfl
 have X:fr'.eval x= .func (.func fn) first captured:=by rw[W,uz];exact T
 have Y:aU P (do let m<-resolve fr'.eval {callee:=.value x,args:=#[.const (.func (.yield l) #[] #[])],argTypes:=#[]} 0;invoke m.target m.args:Sem Next)
   (fun n o=>n= .enter fn (first++#[.func (.yield l) #[] #[]]++captured)/\o=(F.push d (.deferred (some []))).push l (.loop (m9 b.fn a params assign body d))) ((F.push d (.deferred (some []))).push l (.loop (m9 b.fn a params assign body d))):=by
  have Z:fr'.eval (.const (.func (.yield l) #[] #[]))= .func (.yield l) #[] #[]:=rfl
  simp only[resolve,X,Deferred.ofValue,bq,bF,invoke,callFunc,jN,U,i.1,i.2,Bool.false_eq_true,if_false,List.map_toArray,List.map_cons,List.map_nil,Z]
  simp
 obtain ⟨n,w2,o,ab,g⟩:=kF _ _ w1 #[] Y H1.has
 have B:=g.run
 rw[Array.empty_append] at B
 obtain ⟨rfl,rfl⟩:=g.post
 refine ⟨G (Frame.enter P fn (first++#[.func (.yield l) #[] #[]]++captured) .normal) (fr'::cs),w2,seen P b.fn z++seen P b.fn ab,_,?_,H1.upd.trans g.upd,g.has,fun e he=>?_,?_⟩
 ·have ad:(q==CallKind.early)=false:=by have:=hb.kind;cases q<;>simp_all
  have hs:∀e:Array Event,stepG P main (G (on b a (.code (.rangeFunc x params assign body)::k)) cs) w=GStep.after (seen P u z) (stepG.apply P true fr' cs none (do let m<-resolve fr'.eval {callee:=.value x,args:=#[.const (.func (.yield l) #[] #[])],argTypes:=#[]} 0;invoke m.target m.args) w1):=fun _=>by
   simp only[G,stepG,stepG.exec,on,b]
   rw[A]
   rfl
  show stepG P main (G (on b a (.code (.rangeFunc x params assign body)::k)) cs) w=_
  rw[hs #[]]
  unfold stepG.apply
  simp only[if_true,B]
  have ae:(fr'.kind==CallKind.early)=false:=ad
  simp only[ae,Bool.false_eq_true,if_false,GStep.after]
  rfl
 ·rcases Array.mem_append.1 he with h|h
  ·refine (H1.g7 e (mem_seen h)).mono (fun _ x=>x) fun b hb=>hb.imp id fun y=>⟨y.1,Nat.lt_of_lt_of_le y.2 g.upd.size⟩
  ·refine (g.g7 e (mem_seen h)).mono (fun a al=>al) fun b hb=>?_
   rcases hb with hb|hb
   ·rcases H1.upd.own b hb with x|x
    ·exact .inl x
    ·exact .inr ⟨x,Nat.lt_of_lt_of_le (H1.has.lt hb) g.upd.size⟩
   ·exact .inr ⟨Nat.le_trans H1.upd.size hb.1,hb.2⟩
 ·refine L b.fn d l hd s fr' cs fun v F' ao=>?_
  obtain ⟨lo,C,ar,f⟩:=ao
  have a0:fr'.finish v=on b {a with defers:=⟨.collected d,#[]⟩::a.defers} (.endRangeFunc l::k):=rfl
  rw[a0]
  have a2:aU P (Instr.endLoop l) (fun j o=>j=lo.pending/\o=F'.put l (.loop {lo with state:=.exhausted})) F':=by
   simp only[Instr.endLoop,Instr.getLoop,bq,mW]
   refine ⟨_,C,?_⟩
   have a3:¬(lo.state== .busy)=true:=by simpa using ar
   simp only[bF,bq,lJ,C,Option.isSome_some,Obj.isChan,true_and,dg,a3]
   all_goals first|trivial|exact ⟨rfl,rfl⟩
  refine hJ.step fun w hw=>?_
  obtain ⟨j,w',a7,es,H⟩:=kF _ F' w #[] a2 hw
  have D:=H.run
  rw[Array.empty_append] at D
  obtain ⟨rfl,rfl⟩:=H.post
  refine ⟨G (on b {a with defers:=⟨.collected d,#[]⟩::a.defers} ((lo.pending.map Item.code).toList++k)) cs,w',seen P b.fn es,_,?_,H.upd,H.has,fun e he=>H.g7 e (mem_seen he),?_⟩
  ·simp only[G,stepG,stepG.exec,on,D,GStep.after]
   simp
  ·revert f
   cases lo.pending with
   |none=>exact fun f=>p .normal _ _ f
   |some c=>
    intro f
    cases c<;>simp only[rV] at f<;>first
     |exact f.elim
     |exact p (.exit _) _ _ f k rfl
     |exact p .ret _ _ f k
end
def eX {H σ:Type}(step:σ->H->Option (Bool×σ)):List (Option H)->σ->Option (Bool×σ)
 |[],s=>some (true,s)
 |none::_,_=>none
 |some x::l,s=>match step s x with
  |some (true,s')=>eX step l s'
  |some (false,s')=>some (false,s')
  |none=>none
theorem Az {H σ:Type}(step:σ->H->Option (Bool×σ)):∀(l l':List (Option H)) (s:σ),eX step (l++l') s=match eX step l s with
  |some (true,s')=>eX step l' s'
  |some (false,s')=>some (false,s')
  |none=>none
 |[],l',s=>rfl
 |none::l,l',s=>rfl
 |some x::l,l',s=>by
  simp only[List.cons_append,eX]
  split<;>first|rfl|exact Az step l l' _
def gb {H σ ρ:Type}(f:H->σ->Option (Fl σ ρ)):List (Option H)->σ->Option (Fl σ ρ)
 |[],s=>some (.nx s)
 |none::_,_=>none
 |some x::l,s=>ag (f x s) fun o=>match o with
  | .nx s'=>gb f l s'
  | .bk s'=>some (.nx s')
  | .br k s'=>some (.br k s')
  | .rt _=>none
def vD {H σ:Type}(P:Program)(y:Value)(enc:H->Value)(step:σ->H->Option (Bool×σ))(ro:Addr->Option Value)(I:σ->List (Nat×Obj)->Prop):Prop:=
 ∀s x b s',step s x=some (b,s')->∀(main:Bool) (J:Goroutine->aa->Prop),Closed P main J->∀own,I s own->
  gy P J y #[enc x] ⟨ro,own⟩ (fun v F'=>∃a,Le ⟨ro,a⟩ F'/\v= .bool b/\I s' a)
def l5 {H:Type}(P:Program)(f:FuncId)(first cap:Array Value)(enc:H->Value)(L:List (Option H))(ro:Addr->Option Value):Prop:=
 aJ P f=true/\∀(aM:Addr->Option Value),Ext ro aM->∀(σ:Type) (step:σ->H->Option (Bool×σ)) (I:σ->List (Nat×Obj)->Prop) (a:Fn) (c d:Array Value),vD P (.func a c d) enc step aM I->
  ∀s b s',eX step L s=some (b,s')->∀(main:Bool) (J:Goroutine->aa->Prop),Closed P main J->∀own,I s own->
   cO P J f (first++#[.func a c d]++cap) ⟨aM,own⟩ (fun _ F'=>∃e,Le ⟨aM,e⟩ F'/\I s' e)
theorem l5.mono {H:Type}{P:Program}{f:FuncId}{first cap:Array Value}{enc:H->Value}{L:List (Option H)}{ro a:Addr->Option Value}(h:l5 P f first cap enc L ro)(b:Ext ro a):l5 P f first cap enc L a:=
 ⟨h.1,fun aM c=>h.2 aM (b.trans c)⟩
def rW:Nat:=1000000000
def l6 (k:Nat):Code:=if k=rW then .ret else .exit k
def vE (Q:Ex->Act->aa->Prop)(k:Nat):Act->aa->Prop:=if k=rW then Q .ret else Q (.exit k)
def AA {σ ρ:Type}(c:Nat)(ro:Addr->Option Value)(l d:Nat)(S:σ->List (Nat×Obj)->Prop)(lo:Loop)(b:Fl σ ρ)(v:Value)(F:aa):Prop:=
 ∃a,Le ⟨ro,(l,.loop {lo with state:=(match b with| .nx _=>.ready|_=>.done),pending:=(match b with| .nx _=>none| .bk _=>some (l6 c)| .br k _=>some (l6 k)| .rt _=>none)})::(d,.deferred (some []))::a⟩ F/\
  match b with
  | .nx s'=>v= .bool true/\S s' a
  | .bk s'=>v= .bool false/\S s' a
  | .br _ s'=>v= .bool false/\S s' a
  | .rt _=>False
section
variable {P : Program} {main : Bool} {J : Goroutine → aa → Prop} {a : Act}
theorem AB {H σ ρ:Type}{f:H->σ->Option (Fl σ ρ)}(a:Nat):∀(L:List (Option H)) (s:σ) (o:Fl σ ρ),gb f L s=some o->
  ∃b s' pend,eX (σ:=σ×Option Nat) (fun st x=>match st with
   |(s,none)=>match f x s with
    |some (.nx s')=>some (true,(s',none))
    |some (.bk s')=>some (false,(s',some a))
    |some (.br k s')=>some (false,(s',some k))
    |_=>none
   |_=>none) L (s,none)=some (b,(s',pend))/\((o= .nx s'/\(pend=none\/pend=some a))\/∃k,o= .br k s'/\pend=some k)
 |[],s,o,h=>by
  cases h
  exact ⟨true,s,none,rfl,.inl ⟨rfl,.inl rfl⟩⟩
 |none::L,s,o,h=>by cases h
 |some x::L,s,o,h=>by
  unfold gb at h
  obtain ⟨e,d,c⟩:=fL h
  cases e with
  |nx s'=>
   obtain ⟨b,s2,pend,g,i⟩:=AB a L s' o c
   refine ⟨b,s2,pend,?_,i⟩
   unfold eX
   simp only[d]
   exact g
  |bk s'=>
   cases c
   refine ⟨false,s',some a,?_,.inl ⟨rfl,.inr rfl⟩⟩
   unfold eX
   simp only[d]
  |br k s'=>
   cases c
   refine ⟨false,s',some k,?_,.inr ⟨k,rfl,rfl⟩⟩
   unfold eX
   simp only[d]
  |rt r=>cases c
theorem AD {ro:Addr->Option Value}{l:Nat}{o:Obj}{own:List (Nat×Obj)}(a:Obj.oS o=false)(b:o.isChan=false):aa.eW ⟨ro,(l,o)::own⟩ l=some o:=by
 simp[aa.eW,lk,a,b]
def pO (a:Act)(d:Nat):Act:={a with defers:=⟨.collected d,#[]⟩::a.defers}
theorem Fz (a:Act)(d i:Nat):slot (pO a d) i=slot a i:=rfl
theorem FA (a:Act)(d:Nat):sz (pO a d)=sz a:=rfl
theorem FB (a:Act)(d:Nat):(pO a d).defers=⟨.collected d,#[]⟩::a.defers:=rfl
def l7 (a:Act)(p:Tmp)(v:Value):Act:={tmps:=a.tmps.setIfInBounds p v,defers:=[]}
theorem nc (a:Act)(p:Tmp)(v:Value)(i:Nat):slot (l7 a p v) i=slot (bg a (some p) v) i:=rfl
theorem vF (a:Act)(p:Tmp)(v:Value):sz (l7 a p v)=sz a:=by simp[sz,l7]
theorem vG {H σ ρ:Type}(hJ:Closed P main J){x:Operand}{p:Tmp}{assign body:Code}{Q:Ex->Act->aa->Prop}{fn:FuncId}{first captured:Array Value}{ro:Addr->Option Value}{own:List (Nat×Obj)}{g:Nat}
  (enc:H->Value) {L:List (Option H)} (U:ev a x= .func (.func fn) first captured) (K:l5 P fn first captured enc L ro)
  (V:fA assign=true) (W:fA body=true)
  (S:σ->List (Nat×Obj)->Prop) {f:H->σ->Option (Fl σ ρ)} {z:σ} {o:Fl σ ρ} (X:gb f L z=some o) (Y:S z own)
  (Z:∀(d l:Nat) (lo:Loop),lo.state= .ready->∀(s:σ) (y:H) (q:Fl σ ρ),f y s=some q->∀(main:Bool) (J:Goroutine->aa->Prop),Closed P main J->∀own,S s own->
   Wp J assign (pN J l body (AA g ro l d S lo q)) (l7 a p (enc y)) ⟨ro,(l,.loop lo)::(d,.deferred (some []))::own⟩)
  (ab:¬g=rW)
  (ad:∀d l lo j s',S s' j->aP (keys ((l,.loop lo)::(d,.deferred (some []))::j))->aE ro ((l,.loop lo)::(d,.deferred (some []))::j)->(o= .nx s'->Q .normal (pO a d) ⟨ro,(l,.loop lo)::(d,.deferred (some []))::j⟩)/\
   (∀k,o= .br k s'->vE Q k (pO a d) ⟨ro,(l,.loop lo)::(d,.deferred (some []))::j⟩))
  (ae:∀k s',o= .br k s'->¬k=g):Wp J (.block g (.rangeFunc x #[p] assign body)) Q a ⟨ro,own⟩:=by
 refine aN hJ (Wp.mono (Q:=fun e A F'=>match e with| .exit i=>if i=g then Q .normal A F' else Q (.exit i) A F'|e=>Q e A F') ?_ fun e a F h=>by cases e<;>exact h)
 obtain ⟨b,s',pend,al,ao⟩:=AB g L z o X
 refine Fy hJ U K.1 fun B d l hd bc=>?_
 let lo:Loop:=m9 B a #[p] assign body d
 let n:Option Nat->Loop:=fun pend=>{lo with state:=(match pend with|none=>.ready|some _=>.done),pending:=pend.map l6}
 let I:σ×Option Nat->List (Nat×Obj)->Prop:=fun st ar=>∃aS,ar=(l,.loop (n st.2))::(d,.deferred (some []))::aS/\S st.1 aS
 have a0:vD P (.func (.yield l) #[] #[]) enc (fun (st:σ×Option Nat) x=>match st with
   |(s,none)=>match f x s with
    |some (.nx s')=>some (true,(s',none))
    |some (.bk s')=>some (false,(s',some g))
    |some (.br k s')=>some (false,(s',some k))
    |_=>none
   |_=>none) ro I:=by
  rintro ⟨s,pend⟩ y bd ⟨s1,bj⟩ m a2 M N a3 ⟨aS,rfl,a4⟩
  cases pend with
  |some k=>cases m
  |none=>
   simp only at m
   refine ⟨rfl,rfl,lo,AD rfl rfl,rfl,?_⟩
   cases C:f y s with
   |none=>rw[C] at m;cases m
   |some q=>
    have D:=jk.of_wp N (R:=AA g ro l d S lo q) (f:=B) V W (Z d l lo rfl s y q C a2 M N aS a4)
    rw[C] at m
    have a5:(lo.params.zip #[enc y]).foldl (fun tmps (t,a)=>tmps.setIfInBounds t a) lo.tmps=a.tmps.setIfInBounds p (enc y):=by simp[lo,m9]
    show jk M l B ((lo.params.zip #[enc y]).foldl (fun tmps (t,a)=>tmps.setIfInBounds t a) lo.tmps) assign body _ _
    rw[a5]
    refine D.mono fun v F' E=>?_
    obtain ⟨j,hle,hm⟩:=E
    cases q with
    |nx s2=>
     simp only[Option.some.injEq,Prod.mk.injEq] at m
     obtain ⟨rfl,rfl,rfl⟩:=m
     exact ⟨_,hle,hm.1,j,rfl,hm.2⟩
    |bk s2=>
     simp only[Option.some.injEq,Prod.mk.injEq] at m
     obtain ⟨rfl,rfl,rfl⟩:=m
     exact ⟨_,hle,hm.1,j,rfl,hm.2⟩
    |br k s2=>
     simp only[Option.some.injEq,Prod.mk.injEq] at m
     obtain ⟨rfl,rfl,rfl⟩:=m
     exact ⟨_,hle,hm.1,j,rfl,hm.2⟩
    |rt r=>exact hm.elim
 have a6:=K.2 ro (Ext.refl ro) _ _ I _ _ _ a0 (z,none) b (s',pend) al main J hJ ((l,.loop lo)::(d,.deferred (some []))::own) ⟨own,rfl,Y⟩
 intro c cs a7
 refine a6 c cs fun v F' E=>?_
 obtain ⟨a3,hle,j,rfl,a8⟩:=E
 by_cases hw:∃w,Has F' w
 case neg=>exact hJ.step fun w a9=>absurd ⟨w,a9⟩ hw
 obtain ⟨w,hw⟩:=hw
 have O:=hle.has w hw
 refine hJ.mono hle (a7 v _ ⟨n pend,AD rfl rfl,?_,?_⟩)
 ·cases pend<;>simp[n]
 ·obtain ⟨T,ba⟩:=ad d l {n pend with state:=.exhausted} j s' a8 ⟨O.nodup⟩ (fun b hb off sp=>by
   cases D:ro ⟨b,off,sp⟩ with
   |none=>rfl
   |some v=>exact absurd hb (O.apart _ v D))
  have bb:aa.put ⟨ro,(l,.loop (n pend))::(d,.deferred (some []))::j⟩ l (.loop {n pend with state:=.exhausted})=⟨ro,(l,.loop {n pend with state:=.exhausted})::(d,.deferred (some []))::j⟩:=by simp[aa.put,iH]
  rw[bb]
  rcases ao with ⟨rfl,rfl|rfl⟩|⟨k,rfl,rfl⟩
  ·exact T rfl
  ·show rV _ _ _ (some (l6 g))
   have:l6 g= .exit g:=if_neg ab
   rw[this]
   show (if g=g then Q .normal _ _ else Q (.exit g) _ _)
   rw[if_pos rfl]
   exact T rfl
  ·have u:=ba k rfl
   show rV _ _ _ (some (l6 k))
   unfold vE at u
   unfold l6
   split
   ·rename_i G
    rw[if_pos G] at u
    exact u
   ·rename_i G
    rw[if_neg G] at u
    show (if k=g then Q .normal _ _ else Q (.exit k) _ _)
    rw[if_neg (ae k s' rfl)]
    exact u
theorem FC {R:List Deferred->aa->Prop}{r:Nat}{F:aa}:aU P (Instr.takeDeferred r) R F=match F.eW r with
  |some (.deferred (some a))=>R a (F.put r (.deferred none))
  |_=>False:=by
 unfold Instr.takeDeferred
 rw[bq,mW]
 refine propext ⟨fun ⟨o,d,b⟩=>?_,fun h=>?_⟩
 ·rw[d]
  cases o<;>first|exact (show False from b).elim|skip
  rename_i a
  cases a with
  |none=>exact (show False from b).elim
  |some a=>
   simp only[bq,lJ,bF] at b
   exact b.2.2
 ·split at h
  ·rename_i a c
   refine ⟨_,c,?_⟩
   simp only[bq,lJ,bF]
   exact ⟨rfl,by rw[c];rfl,h⟩
  ·exact h.elim
theorem FD (hJ:Closed P main J){y:Value}{args:Array Value}{ro:Addr->Option Value}{own:List (Nat×Obj)}{R:Value->List (Nat×Obj)->Prop}(pre:List (Nat×Obj))
  (h:∀(main:Bool) (J:Goroutine->aa->Prop),Closed P main J->gy P J y args ⟨ro,own⟩ (fun v F'=>∃a,Le ⟨ro,a⟩ F'/\R v a)) (p:aP (keys (pre++own))) {K:Value->aa->Prop}
  (s:∀v a,R v a->aP (keys (pre++a))->K v ⟨ro,pre++a⟩):gy P J y args ⟨ro,pre++own⟩ K:=by
 have key:∀js:Frame,(∀(main:Bool) (J:Goroutine->aa->Prop),Closed P main J->rS J js ⟨ro,own⟩ (fun v F'=>∃a,Le ⟨ro,a⟩ F'/\R v a))->rS J js ⟨ro,pre++own⟩ K:=fun js d=>
  Aq hJ pre [] (by simp) R (fun m e f c cs t=>d m e f c cs fun v F' u=>t v F' (by obtain ⟨o,b,g⟩:=u;exact ⟨o,g,b⟩)) fun v w x a k i=>by
   rw[List.append_nil] at k
   subst k
   exact ⟨_,Le.refl _,s v w x i⟩
 have d:=h main J hJ
 unfold gy at d ⊢
 split at d
 ·rename_i fn first captured
  refine ⟨d.1,key _ fun m e f=>?_⟩
  have:=h m e f
  unfold gy at this
  exact this.2
 ·rename_i l first captured
  obtain ⟨e1,e2,r,b,g,_⟩:=d
  refine ⟨e1,e2,r,?_,g,key _ fun m e f=>?_⟩
  ·have hm:l∈keys own:=by
    unfold aa.eW at b
    split at b
    ·rename_i o z;exact eO (gI z)
    ·cases b
   have i:l∉keys pre:=fun A=>by
    have:=p.nd
    rw[ck] at this
    exact (List.nodup_append.1 this).2.2 l A l hm rfl
   have B:∀(pre:List (Nat×Obj)),l∉keys pre->lk (pre++own) l=lk own l:=fun pre=>by
    induction pre with
    |nil=>intro _;rfl
    |cons q pre ih=>
     intro j
     simp only[keys,List.map_cons,List.mem_cons,not_or] at j
     simp only[List.cons_append,lk,if_neg (Ne.symm j.1)]
     exact ih j.2
   unfold aa.eW at b ⊢
   simp only at b ⊢
   rw[B pre i]
   exact b
  ·have:=h m e f
   unfold gy at this
   obtain ⟨_,_,D,n,E,C⟩:=this
   rw[b] at n
   cases n
   exact C
 ·exact d.elim
theorem cO.less (hJ:Closed P main J){f:FuncId}{args:Array Value}{F:aa}{R:Value->aa->Prop}(h:cO P J f args F (fun v F'=>∃F0,Le F0 F'/\R v F0)):cO P J f args F R:=
 fun c cs a=>h c cs fun v F' ⟨F0,hle,b⟩=>hJ.mono hle (a v F0 b)
def AE (P:Program)(rs:List ResultVar)(R:Value->aa->Prop):Ex->Act->aa->Prop
 | .exit _,_,_=>False
 |_,a,F=>g8 P a.defers (fun F=>match lT P F a rs with|some v=>R v F|none=>False) F
theorem AF {K b:aa->Prop}(h:∀F,K F->b F):∀(a:List Deferred) (F:aa),g8 P a K F->g8 P a b F
 |[],F,x=>h F x
 |d::a,F,⟨r,e,f⟩=>⟨r,e,gL (fun calls F' c=>⟨c.1,AF h a F' c.2⟩) _ _ f⟩
theorem aD.vH {f:FuncId}{fn:Func}{c:Code}{n:Nat}{rs:List ResultVar}{args:Array Value}{F:aa}{R:Value->aa->Prop}(g:P.funcs[f]?=some fn)(hb:fn.body=some c)(j:fn.ntmps=n)(k:fn.results=rs.toArray)(l:args.size<=n)
  (h:∀main J,Closed P main J->∀A:Act,sz A=n->A.defers=[]->(∀i,slot A i=args.getD i undef)->Wp J c (AE P rs R) A F):aD P f args F R:=
 aD.start g hb j l fun main J hJ A m o p=>(h main J hJ A m o p).mono fun e a F b=>by
  have key:g8 P a.defers (fun F=>match lT P F a rs with|some v=>R v F|none=>False) F->g8 P a.defers (fun F=>aU P (results fn a.tmps) R F) F:=AF (fun F d=>by
   split at d
   ·rename_i v q;exact rC k q d
   ·exact d.elim) _ _
  cases e with
  |exit i=>exact b
  |normal=>exact key b
  |ret=>exact key b
theorem cO.go (hJ:Closed P main J){f:FuncId}{fn:Func}{c:Code}{n:Nat}{rs:List ResultVar}{args:Array Value}{F:aa}{R:Value->aa->Prop}(j:P.funcs[f]?=some fn)(hb:fn.body=some c)(d:fn.ntmps=n)(k:fn.results=rs.toArray)(m:args.size<=n)
  (h:∀A:Act,sz A=n->A.defers=[]->(∀i,slot A i=args.getD i undef)->Wp J c (iL P rs R) A F):cO P J f args F R:=by
 refine cO.of_wp hJ j hb ?_
 refine (h _ (by simp[sz,d];omega) rfl fun i=>?_).mono fun e a F g=>?_
 ·simp only[slot,d,Array.getD_eq_getD_getElem?]
  rcases Nat.lt_or_ge i args.size with hi|hi
  ·rw[Array.getElem?_append_left hi]
  ·rw[Array.getElem?_append_right hi,Array.getElem?_replicate,Array.getElem?_eq_none hi]
   split<;>rfl
 ·cases e with
  |exit i=>exact g
  |_=>
   obtain ⟨hd,b⟩:=g
   split at b
   ·rename_i v l
    show g8 P a.defers _ F
    rw[hd]
    exact rC k l b
   ·exact b.elim
theorem FE {d:Nat}{X:Nat->Prop}:(∃r,Target.collected d=Target.collected r/\X r)=X d:=propext ⟨fun ⟨r,a,b⟩=>by cases a;exact b,fun h=>⟨d,rfl,h⟩⟩
attribute [go_sem] FE Fz FA FB AE FC aa.eW Obj.oS Obj.isChan
end
section
variable {P : Program}
theorem AG {argTypes:Array TypeId}{t e ty:TypeId}{R:Value->aa->Prop}{F:aa}{ad:Option Addr}{n c:Nat}(ht:argTypes[0]?=some t)(hu:P.underlying t=some (.slice e))(h:R (.int .i64 c) F):eP P (Builtin.cap_ argTypes ty #[.slice ad n c]) R F:=by
 unfold eP;simp only[Builtin.cap_,ht,List.getElem?_toArray,List.getElem?_cons_zero,bq,dn,hu,bF];exact h
theorem FF (z:Value)(n:Nat):(Builtin.zeroCells #[z] n).toList=List.replicate n z:=by
 simp only[Builtin.zeroCells,List.size_toArray,List.length_cons,List.length_nil,Nat.zero_add,Nat.mul_one,Nat.mod_one];rw[Array.toList_map,Array.toList_range];apply List.ext_getElem
 ·simp
 ·intro i a b;simp
theorem FG {ro:Addr->Option Value}{pre bh:List (Nat×Obj)}{argTypes:Array TypeId}{t e ty:TypeId}{R:Value->aa->Prop}{b off n c:Nat}{arr:Array Value}{z zc:Value}(ht:argTypes[0]?=some t)(hu:P.underlying t=some (.slice e))(a:zeroOf P e=some z)(d:z.cells=#[zc])(f:bE zc=true)
  (l:0<n) (g:au pre b) (i:off+n<=arr.size)
  (h:R (.tuple #[]) ⟨ro,pre++((b,.cells (cI arr off (List.replicate n zc)) e)::bh)⟩):
  eP P (Builtin.clear_ argTypes ty #[.slice (some ⟨b,off,none⟩) n c]) R ⟨ro,pre++((b,.cells arr e)::bh)⟩:=by
 unfold eP
 have m:n≠0:=by omega
 obtain ⟨k,rfl⟩:∃k,n=k+1:=⟨n - 1,by omega⟩
 simp only[Builtin.clear_,ht,List.getElem?_toArray,List.getElem?_cons_zero,bq,dn,hu,lK,a,d]
 refine q6 _ _ 0 _ ⟨ro,pre++((b,.cells (cI arr off (List.replicate (k+1) zc)) e)::bh)⟩ ?_ ?_
 ·rw[FF]
  have:=vu (ro:=ro) (bh:=bh) (e:=e) g off (List.replicate (k+1) zc) arr 0 (fun v j=>by rw[List.eq_of_mem_replicate j];exact f) (by simpa using i)
  simpa using this
 ·simp only[bF]
  exact h
end
theorem aO.AH {T:Type}{r:b7 T}{ro:Addr->Option Value}{e:TypeId}{v:Value}{l:List T}{aS:List (Nat×Obj)}(h:aO r ro e v l aS){own:List (Nat×Obj)}(pre bh:List (Nat×Obj))(f:own=pre++(aS++bh))(g:aP (keys own)):aC r (aa.cr ⟨ro,own⟩).ro v l:=by
 subst f;obtain ⟨ls,hg,c,hm,k⟩:=h;rcases hg with ⟨rfl,rfl,rfl⟩|⟨b,arr,cap,rfl,rfl,hs,hle,ht,d,m⟩
 ·have:l=[]:=List.eq_nil_of_length_eq_zero (by simpa using c.symm);subst this;exact aC.nil r _
 ·have o:au pre b:=Nd.fresh g.nd b (by simp[keys]);refine ⟨some ⟨b,0,none⟩,cap,by rw[c],by omega,by omega,fun i x hi=>?_⟩;obtain ⟨cs,p,q⟩:=k i x hi;refine ⟨_,cs,rfl,r.mono aT q,fun j v s=>?_⟩;have a:=pE ls i cs d p j v s;rw[kI,kJ,Nat.zero_add];have t:i*r.n+j<ls.length*r.n:=by
   have:=(List.getElem?_eq_some_iff.1 a).1;rw[g9 d] at this;exact this
  rw[<-ht,List.getElem?_take_of_lt t] at a;show aa.get ⟨ro,pre++([(b,Obj.cells arr e)]++bh)⟩ ⟨b,i*r.n+j,none⟩=some v;simp only[aa.get,m,if_true,List.cons_append,List.nil_append,rR o,Option.bind_some,cellOf];simpa using a
theorem aC.two {T:Type}{r:b7 T}{ro:Addr->Option Value}{own:List (Nat×Obj)}{b:Nat}{x y:T}{v u:Value}{e:TypeId}(c:∀off sp,ro ⟨b,off,sp⟩=none)(f:lk own b=some (.cells #[v,u] e))(d:r.n=1)(h:r.rel ro x [v])(k:r.rel ro y [u]):
  aC r (bR ro b (.cells #[v,u] e)) (.slice (some ⟨b,0,none⟩) 2 2) [x,y]:=by
 refine ⟨some ⟨b,0,none⟩,2,rfl,Nat.le_refl _,by simp,fun i z hi=>?_⟩
 have:(i=0/\z=x)\/(i=1/\z=y):=by
  cases i with
  |zero=>simp at hi;exact .inl ⟨rfl,hi.symm⟩
  |succ i=>cases i with
   |zero=>simp at hi;exact .inr ⟨rfl,hi.symm⟩
   |succ i=>simp at hi
 rcases this with ⟨rfl,rfl⟩|⟨rfl,rfl⟩
 ·refine ⟨_,_,rfl,r.mono (fZ _ _ _) h,fun j w a=>?_⟩
  cases j with
  |zero=>
   rw[Nat.zero_mul,add_zero',kJ,Nat.zero_add,iO c]
   simpa [cellOf] using a
  |succ j=>simp at a
 ·refine ⟨_,_,rfl,r.mono (fZ _ _ _) k,fun j w a=>?_⟩
  cases j with
  |zero=>
   rw[d,kI,kJ,iO c]
   simpa [cellOf] using a
  |succ j=>simp at a
theorem aO.clear {ro:Addr->Option Value}{e:TypeId}{b n cap k:Nat}{x:List Int}{arr:Array Value}(h:aO rI ro e (.slice (some ⟨b,0,none⟩) n cap) x [(b,.cells arr e)])(t:k<=x.length):
  aO rI ro e (.slice (some ⟨b,0,none⟩) k cap) (x.take k) [(b,.cells (cI arr k (List.replicate (n - k) (.int .i64 0))) e)]:=by
 obtain ⟨ls,hg,u,hm,l⟩:=h
 rcases hg with ⟨a,_,_⟩|⟨w,y,m,a,o,hs,hle,ht,f,p⟩
 ·cases a
 ·cases o
  obtain ⟨rfl,rfl⟩:n=ls.length/\cap=m:=by cases a;exact ⟨rfl,rfl⟩
  have d:rI.n=1:=rfl
  rw[d] at hs ht f
  simp only[Nat.mul_one] at hs ht
  have c:(ls.take k).length=k:=by rw[List.length_take];omega
  refine ⟨ls.take k,.inr ⟨b,_,cap,by rw[c],rfl,by rw[rq];rw[d,Nat.mul_one];exact hs,by rw[c];omega,?_,?_,p⟩,by rw[c,List.length_take];omega,by rw[List.length_take];omega,?_⟩
  ·rw[ru _ _ _ (by simp;omega),c,d,Nat.mul_one,List.append_assoc,List.take_append_of_le_length (by rw[List.length_take,Array.length_toList];omega),List.take_take,Nat.min_self]
   have e1:arr.toList.take k=(arr.toList.take ls.length).take k:=by rw[List.take_take,Nat.min_eq_left (by omega)]
   rw[e1,ht]
   have e2:ls.flatten=(ls.take k).flatten++(ls.drop k).flatten:=by rw[<-List.flatten_append,List.take_append_drop]
   have j:(ls.take k).flatten.length=k:=by rw[g9 (size:=1) (fun z g=>f z (List.mem_of_mem_take g)),c,Nat.mul_one]
   rw[e2,List.take_append_of_le_length (Nat.le_of_eq j.symm),List.take_of_length_le (Nat.le_of_eq j)]
  ·intro z g
   rw[d];exact f z (List.mem_of_mem_take g)
  ·intro i v a
   obtain ⟨hi,q⟩:i<k/\x[i]?=some v:=by
    rw[List.getElem?_take] at a
    split at a
    ·exact ⟨‹_›,a⟩
    ·cases a
   obtain ⟨cs,r,s⟩:=l i v q
   exact ⟨cs,by rw[List.getElem?_take,if_pos hi];exact r,s⟩
section
variable {P : Program}
theorem FH {t:TypeId}{R:Value->aa->Prop}{F:aa}(h:∀b,dO F b->R (.map (some b)) (F.push b (.map #[] 0))):eP P (Instr.makeMap t none) R F:=by
 unfold eP;simp only[Instr.makeMap,bq,oW,bF];exact ⟨rfl,h⟩
theorem FI {argTypes:Array TypeId}{t a b ty:TypeId}{r:Nat}{es:Array MapEntry}{clock:Nat}{R:Value->aa->Prop}{F:aa}(ht:argTypes[0]?=some t)(hu:P.underlying t=some (.map a b))(c:F.eW r=some (.map es clock))(h:R (.int .i64 (es.size:Int)) F):
  eP P (Builtin.len_ argTypes ty #[.map (some r)]) R F:=by
 unfold eP
 simp only[Builtin.len_,ht,List.getElem?_toArray,List.getElem?_cons_zero,bq,dn,hu,mW]
 exact ⟨_,c,h⟩
theorem AI {d:TypeId}{key:Value}{F:aa}{Q:Option (Nat×Value)->aa->Prop}:∀(l:List MapEntry) (i:Nat),
  (∀e∈l,∃b,(∀(Q:Bool->aa->Prop),Q b F->aU P (Op.equal d key e.key) Q F)/\(b=true↔e.key=key))->
  (∀j e,l[j]?=some e->e.key=key->Q (some (i+j,e.val)) F)->((∀e∈l,¬e.key=key)->Q none F)->aU P (Instr.findAsking d key l i) Q F
 |[],i,_,_,a=>a (by simp)
 |e::l,i,f,g,a=>by
  obtain ⟨b,hb,h⟩:=f e (by simp)
  simp only[Instr.findAsking,bq]
  refine hb _ ?_
  cases b with
  |true=>exact g 0 e rfl (h.1 rfl)
  |false=>
   have aF:¬e.key=key:=fun x=>by have:=h.2 x;cases this
   refine AI l (i+1) (fun x c=>f x (by simp[c])) (fun j x c he=>?_) (fun k=>a (by simpa [aF] using k))
   have:=g (j+1) x (by simpa using c) he
   rwa [show i+1+j=i+(j+1) by omega]
theorem modify_keys {es:Array MapEntry}{i:Nat}{key val:Value}{e:MapEntry}(hi:es[i]?=some e)(he:e.key=key):(es.modify i fun e=>{e with key:=key,val:=val}).toList.map (·.key)=es.toList.map (·.key):=by
 apply List.ext_getElem?;intro j;simp only[List.getElem?_map,Array.toList_modify,List.getElem?_modify];by_cases a:i=j
 ·subst a;have:es.toList[i]?=some e:=by simpa using hi
  simp[this,he]
 ·simp[a]
theorem FJ {t c q f n:TypeId}{r:Nat}{es:Array MapEntry}{clock:Nat}{key val:Value}{R:Value->aa->Prop}{F:aa}(hu:P.underlying t=some (.map c q))(g:F.eW r=some (.map es clock))
  (s:∀Q:Unit->aa->Prop,Q () F->aU P (Instr.checkKey false 10000 c key) Q F) (u:P.underlying c=some (.array n f))
  (v:∀e∈es.toList,∃b,(∀(Q:Bool->aa->Prop),Q b F->aU P (Op.equal c key e.key) Q F)/\(b=true↔e.key=key))
  (h:∀d w,((key∈es.toList.map (·.key)/\d.toList.map (·.key)=es.toList.map (·.key))\/(key∉es.toList.map (·.key)/\d.toList.map (·.key)=es.toList.map (·.key)++[key]))->R undef (F.put r (.map d w))):
  eP P (Instr.mapUpdate t (.map (some r)) key val>>= fun _=>pure undef) R F:=by
 unfold eP
 simp only[Instr.mapUpdate,bq,dn,hu,mW]
 refine ⟨_,g,?_⟩
 simp only[bq]
 refine s _ ?_
 have k:(F.eW r).isSome=true:=by rw[g];rfl
 have step:aU P (Instr.findAsking c key es.toList) (fun a G=>aU P (match a with
   |some (i,_)=>do
    let key<-Instr.keyThatStays (((es[i]?).map (·.key)).getD key) key
    setObj r (.map (es.modify i fun e=>{e with key,val}) clock)
   |none=>setObj r (.map (es.push {key,val,born:=clock}) (clock+1))) (fun _ G=>aU P (pure undef) R G) G) F:=by
  refine AI _ 0 v (fun j e m he=>?_) (fun x=>?_)
  ·simp only[Nat.zero_add,bq]
   have o:es[j]?=some e:=by simpa using m
   rw[o]
   simp only[Option.map_some,Option.getD_some,he]
   have fin:aU P (setObj r (.map (es.modify j fun e=>{e with key:=key,val:=val}) clock)) (fun _ G=>aU P (pure undef) R G) F:=by
    simp only[lJ,bF]
    refine ⟨rfl,k,h _ _ (.inl ⟨?_,modify_keys o he⟩)⟩
    rw[<-he]
    exact List.mem_map_of_mem (List.mem_of_getElem? m)
   unfold Instr.keyThatStays
   rw[dg]
   split
   ·exact fin
   ·simp only[bq,uM]
    split
    ·simp only[bF,ite_self];exact fin
    ·intro t;simp only[bF,ite_self];exact fin
  ·simp only[lJ,bF]
   refine ⟨rfl,k,h _ _ (.inr ⟨?_,by simp⟩)⟩
   intro hm
   obtain ⟨e,he,y⟩:=List.mem_map.1 hm
   exact x e he y
 unfold Instr.findKey
 simp only[bq,dn,u]
 cases p:es.toList with
 |nil=>
  rw[p] at step
  exact step
 |cons e l=>
  have:Instr.findNow (.array n f) key (e::l) 0=none:=rfl
  rw[this]
  rw[p] at step
  exact step
end
theorem bS {α β:Type}{x:Option α}{f:α->Option β}{r:β}{G:Prop}(k:∀a,x=some a->f a=some r->G)(h:ag x f=some r):G:=by
 obtain ⟨a,b,c⟩:=fL h;exact k a b c
def bx:Code->Code
 | .seq _ b=>b
 |c=>c
theorem sI {α:Type}{x r:α}(h:some x=some r):x=r:=Option.some.inj h
theorem aA {ro:Addr->Option Value}{own:List (Nat×Obj)}{G:Nat->Prop}(h:∀b,(∀off sp,ro ⟨b,off,sp⟩=none)->au own b->G b):∀b,dO ⟨ro,own⟩ b->G b:=fun b f=>h b (eC f) (fC f)
theorem bp:(∀(ro:Addr->Option Value) (b:Nat) (o:Obj) (l:List (Nat×Obj)),aE ro ((b,o)::l)=((∀off sp,ro ⟨b,off,sp⟩=none)/\aE ro l))/\(∀l:List (Nat×Obj),[]++l=l)/\(∀l:List (Nat×Obj),l++[]=l)/\
  (∀(x:Nat×Obj) (l m:List (Nat×Obj)),x::l++m=x::(l++m))/\∀l m n:List (Nat×Obj),l++m++n=l++(m++n):=
 ⟨fun _ _ _ _=>propext ⟨fun h=>⟨h.hd,h.tl⟩,fun h=>aE.cons h.1 h.2⟩,fun _=>rfl,List.append_nil,fun _ _ _=>rfl,List.append_assoc⟩
theorem aC.el {T:Type}{r:b7 T}{ro:Addr->Option Value}{ad:Option Addr}{n cap:Nat}{l:List T}(h:aC r ro (.slice ad n cap) l):
  ∀i x,l[i]?=some x->∃p cs,ad=some p/\r.rel ro x cs/\∀j v,cs[j]?=some v->ro ((p.add (i*r.n)).add j)=some v:=by
 obtain ⟨a,b,e,_,_,h⟩:=h
 cases e
 exact h
theorem aP.tl {b:Nat}{ks:List Nat}(h:aP (b::ks)):aP ks:=⟨(List.nodup_cons.1 h.nd).2⟩
theorem aP.cut {l:List (Nat×Obj)}(h:aP (keys l))(i n:Nat):aP (keys (l.take i++l.drop (i+n))):=
 ⟨(((List.Sublist.append_left (show (l.drop (i+n)).Sublist (l.drop i) by rw[<-List.drop_drop];exact List.drop_sublist _ _) (l.take i)).trans (by rw[List.take_append_drop];exact List.Sublist.refl _)).map _).nodup h.nd⟩
theorem aO.eY {T:Type}{r:b7 T}{ro:Addr->Option Value}{e:TypeId}{v:Value}{l:List T}{aS:List (Nat×Obj)}(h:aO r ro e v l aS){own:List (Nat×Obj)}(pre bh:List (Nat×Obj))(a:aP (keys own))(b:aE ro (pre++bh))
  (c:own=pre++(aS++bh):=by first|rfl|simp only[aV]|(simp only[aV];rfl)):
  ∃aM,Ext ro aM/\aE aM (pre++bh)/\aC r aM v l/\Le ⟨aM,pre++bh⟩ ⟨ro,own⟩:=h.kR _ pre bh c rfl a b
theorem aC.oc {T:Type}{r:b7 T}{ro:Addr->Option Value}{s:Value}{l:List T}(h:aC r ro s l):bE s=true:=by
 obtain ⟨_,_,e,_⟩:=h;rw[e];rfl
theorem FK {p:Nat->Prop}{a:Nat}{l:List Nat}:(∀i,i∈a::l->p i)=(p a/\∀i,i∈l->p i):=propext List.forall_mem_cons
theorem FL {p:Nat->Prop}:(∀i,i∈([]:List Nat)->p i)=True:=propext ⟨fun _=>trivial,fun _ _ h=>(by cases h)⟩
section
variable {P : Program} {main : Bool} {J : Goroutine → aa → Prop} {Q : Ex → Act → aa → Prop} {a : Act} {F : aa}
theorem b8 (hJ:Closed P main J){f:FuncId}{args:Array Value}{ro:Addr->Option Value}{own:List (Nat×Obj)}{K:Value->aa->Prop}(R:Value->(Addr->Option Value)->Prop)(h:eI P f args ro R)
  (a:∀v aM,Ext ro aM->aE aM own->R v aM->K v ⟨aM,own⟩):cO P J f args ⟨ro,own⟩ K:=vi hJ R h a
theorem ng {Φ:Goroutine->aa->Prop}{f:FuncId}{args:Array Value}{ro:Addr->Option Value}{own:List (Nat×Obj)}{K:Value->aa->Prop}(R:Value->(Addr->Option Value)->Prop)(h:pH P f args ro R)
  (a:∀v aM,Ext ro aM->aE aM own->R v aM->K v ⟨aM,own⟩):cO P (dZ P Φ) f args ⟨ro,own⟩ K:=EN R h a
theorem cS {α:Type}{b:Bool}{e1 e2:Option α}{r:α}{G:Prop}(c:b=true->e1=some r->G)(d:b=false->e2=some r->G)(h:cond b e1 e2=some r):G:=by
 rcases iP h with ⟨a,b⟩|⟨a,b⟩
 ·exact c a b
 ·exact d a b
theorem jC {α:Type}(hJ:Closed P main J){c:Operand}{x y:Code}{b:Bool}{e1 e2:Option α}{r:α}(d:ev a c= .bool b)(f:b=true->e1=some r->Wp J x Q a F)(g:b=false->e2=some r->Wp J y Q a F)(h:cond b e1 e2=some r):Wp J (.cond c x y) Q a F:=by
 refine EB hJ b d (fun e=>f e ?_) fun e=>g e ?_
 ·rw[e] at h;exact h
 ·rw[e] at h;exact h
structure vI (Q:Ex->Act->aa->Prop)(K:Act->aa->Prop):Prop where
 go:∀{a F},Q .normal a F->K a F
theorem cQ (hJ:Closed P main J)(b:P.follows .mixedOrders=true)(m n:Nat){id:Nat}{ops:Array Oper}(c:Knows ⟨F.ro,F.own.take n⟩ F)(d:m5 ops m=true)
  (h:dY P J ops ⟨F.ro,F.own.take n⟩ (fun e=>eD P J ops ⟨F.ro,F.own.take n⟩ (Q .normal) (ops.toList.drop m) true e F) (ops.toList.take m) true a):Wp J (.region id ops true) Q a F:=fc hJ b m _ c d h
theorem pP (hJ:Closed P main J)(b:P.follows .mixedOrders=true)(m n:Nat){id:Nat}{ops:Array Oper}(c:Knows ⟨F.ro,F.own.take n⟩ F)(d:m5 ops m=true)
  (h:∀K,vI Q K->dY P J ops ⟨F.ro,F.own.take n⟩ (fun e=>eD P J ops ⟨F.ro,F.own.take n⟩ K (ops.toList.drop m) true e F) (ops.toList.take m) true a):Wp J (.region id ops true) Q a F:=fc hJ b m _ c d (h _ ⟨fun h=>h⟩)
theorem eu (hJ:Closed P main J){id:Nat}{ops:Array Oper}(h:∀K,vI Q K->e9 P J ops K ops.toList true a F):Wp J (.region id ops false) Q a F:=aj hJ (h _ ⟨fun h=>h⟩)
theorem jZ (hJ:Closed P main J)(b:P.follows .mixedOrders=true)(bW:List Nat)(p:cj){id:Nat}{ops:Array Oper}(F0:aa)(c:Knows F0 F)
  (d:(Region.noSelect ops&&decide (p.len<=ops.size)&&p.ok ops bW (Array.replicate ops.size false))=true)
  (h:∀K,vI Q K->cu P J ops F0 K (p.opers ops) true a F):Wp J (.region id ops true) Q a F:=eE hJ b bW p F0 c d (h _ ⟨fun h=>h⟩)
theorem ff {c:Code}(L:List Nat){a:Act}(h:∀A,sz A=sz a->A.defers=a.defers->(∀i∈L,slot A i=slot a i)->Wp J c Q A F):Wp J c Q a F:=h a rfl rfl fun _ _=>rfl
theorem cE.pick {ws:List Nat}{A a:Act}(h:cE ws A a)(L:List Nat)(b:(L.all fun i=>!jQ ws i)=true):sz A=sz a/\A.defers=a.defers/\∀i∈L,slot A i=slot a i:=
 ⟨h.size,h.defers,fun i hi=>h.fe i fun x=>by
  have c:=List.all_eq_true.1 b i hi
  have d:jQ ws i=true:=by
   unfold In at x
   exact x
  simp[d] at c⟩
theorem ee {T:Type}{r:b7 T}{ro:Addr->Option Value}{aS:List (Nat×Obj)}{R:Value->aa->Prop}{argTypes:Array TypeId}{d f e h e2:TypeId}{a b:Nat}{s z:Value}{l:List T}{x:T}{cs:Array Value}{own:List (Nat×Obj)}(pre bh:List (Nat×Obj))
  (hg:aO r ro e s l aS) (i:aP (keys own)) (j:l.length+[x].length<=1000000) (k:r.rel ro x cs.toList) (m:lk pre b=some (.cells cs e2)) (o:∀off sp,ro ⟨b,off,sp⟩=none)
  (p:argTypes[0]?=some d) (q:argTypes[1]?=some f) (he:c5 P d=some e) (t:c5 P f=some h) (hs:bX P e=some r.n) (u:zeroOf P e=some z) (w:z.cells.size=r.n) (hb:bytesOf P e=some a)
  (y:0<a) (A:a<=10000)
  (B:∀v g,aO r ro e v (l++[x]) g->∀c,c=pre++(g++bh)->aP (keys c)->∃F0,Le F0 ⟨ro,c⟩/\R v F0)
  (C:own=pre++(aS++bh):=by first|rfl|simp only[aV]|(simp only[aV];rfl)):lR P argTypes s (.slice (some ⟨b,0,none⟩) 1 1) R ⟨ro,own⟩:=
 Ap pre bh C hg i j k m o p q he t hs u w hb y A B
theorem pQ {T:Type}{r:b7 T}{ro:Addr->Option Value}{aS:List (Nat×Obj)}{R:Value->aa->Prop}{argTypes:Array TypeId}{d f e h:TypeId}{a c:Nat}{ad:Option Addr}{s z:Value}{l xs:List T}{own:List (Nat×Obj)}(pre bh:List (Nat×Obj))
  (hg:aO r ro e s l aS) (i:aP (keys own)) (j:l.length+xs.length<=1000000) (k:aC r ro (.slice ad xs.length c) xs)
  (m:argTypes[0]?=some d) (o:argTypes[1]?=some f) (he:c5 P d=some e) (p:c5 P f=some h) (hs:bX P e=some r.n) (q:zeroOf P e=some z) (t:z.cells.size=r.n) (hb:bytesOf P e=some a)
  (u:0<a) (w:a<=10000)
  (x:∀v g,aO r ro e v (l++xs) g->∀b,b=pre++(g++bh)->aP (keys b)->∃F0,Le F0 ⟨ro,b⟩/\R v F0)
  (y:own=pre++(aS++bh):=by first|rfl|simp only[aV]|(simp only[aV];rfl)):lR P argTypes s (.slice ad xs.length c) R ⟨ro,own⟩:=
 Fj pre bh y hg i j k m o he p hs q t hb u w x
theorem dJ (hJ:Closed P main J){f:FuncId}{args:Array Value}{ro:Addr->Option Value}{aS:List (Nat×Obj)}{K:Value->aa->Prop}{own:List (Nat×Obj)}(pre bh:List (Nat×Obj))(R:Value->List (Nat×Obj)->Prop)(h:aD P f args ⟨ro,aS⟩ (fun v G=>∃a,R v a/\Le ⟨ro,a⟩ G))
  (c:∀v a,R v a->∀b,b=pre++(a++bh)->aP (keys b)->∃F0,Le F0 ⟨ro,b⟩/\K v F0)
  (d:own=pre++(aS++bh):=by first|rfl|simp only[aV]|(simp only[aV];rfl)):cO P J f args ⟨ro,own⟩ K:=Fo hJ pre bh d R h c
end
end Go.Sep
end
section
namespace Go.Proofs.YtpgcmoanfifglaaGreatDoor
open Go Go.Sep Go.Proofs
set_option maxRecDepth 100000
attribute [go_sem] aC.nil
theorem rX:rI.n=1:=rfl
theorem vJ:rB.n=1:=rfl
theorem FM {T:Type}(r:b7 T):(rL r).n=1:=rfl
attribute [go_sem] rX vJ FM
structure an where
 num:Int
 den:Int
 deriving DecidableEq
def an.v (x:an):Value:=.agg #[.int .i64 x.num,.int .i64 x.den]
def an.cells (x:an):List Value:=[.int .i64 x.num,.int .i64 x.den]
def kS:b7 an:=hO 2 an.cells (fun _=>rfl) (fun _ v a=>by simp only[an.cells,List.mem_cons,List.not_mem_nil,or_false] at a;rcases a with rfl|rfl<;>rfl)
theorem FN:kS.n=2:=rfl
attribute [go_sem] an.v an.cells FN
structure bY where
 aH:Int
 high:Int
 deriving DecidableEq
def bY.cells (x:bY):List Value:=[.int .i64 x.aH,.int .i64 x.high]
def eZ:b7 bY:=hO 2 bY.cells (fun _=>rfl) (fun _ v a=>by simp only[bY.cells,List.mem_cons,List.not_mem_nil,or_false] at a;rcases a with rfl|rfl<;>rfl)
theorem FO:eZ.n=2:=rfl
attribute [go_sem] bY.cells FO
structure bN where
 place:Int
 di:Int
 deriving DecidableEq
def bN.cells (x:bN):List Value:=[.int .i64 x.place,.int .i64 x.di]
def ez:b7 bN:=hO 2 bN.cells (fun _=>rfl) (fun _ v a=>by simp only[bN.cells,List.mem_cons,List.not_mem_nil,or_false] at a;rcases a with rfl|rfl<;>rfl)
theorem FP:ez.n=2:=rfl
attribute [go_sem] bN.cells FP
structure c6 where
 low:Int
 high:Int
 deriving DecidableEq
def c6.v (x:c6):Value:=.agg #[.int .i64 x.low,.int .i64 x.high]
def c6.cells (x:c6):List Value:=[.int .i64 x.low,.int .i64 x.high]
def FQ:b7 c6:=hO 2 c6.cells (fun _=>rfl) (fun _ v a=>by simp only[c6.cells,List.mem_cons,List.not_mem_nil,or_false] at a;rcases a with rfl|rfl<;>rfl)
theorem FR:FQ.n=2:=rfl
attribute [go_sem] c6.v c6.cells FR
structure b6 where
 back:Int
 high:c6
 deriving DecidableEq
def b6.cells (x:b6):List Value:=[.int .i64 x.back,.int .i64 x.high.low,.int .i64 x.high.high]
def eT:b7 b6:=hO 3 b6.cells (fun _=>rfl) (fun _ v a=>by simp only[b6.cells,List.mem_cons,List.not_mem_nil,or_false] at a;rcases a with rfl|rfl|rfl<;>rfl)
theorem FT:eT.n=3:=rfl
attribute [go_sem] b6.cells FT
structure bU where
 aW:Int
 bt:Bool
 deriving DecidableEq
def bU.v (x:bU):Value:=.agg #[.int .i64 x.aW,.bool x.bt]
def bU.cells (x:bU):List Value:=[.int .i64 x.aW,.bool x.bt]
def c9:b7 bU:=hO 2 bU.cells (fun _=>rfl) (fun _ v a=>by simp only[bU.cells,List.mem_cons,List.not_mem_nil,or_false] at a;rcases a with rfl|rfl<;>rfl)
theorem FU:c9.n=2:=rfl
attribute [go_sem] bU.v bU.cells FU
structure ak where
 bG:Int
 bO:Int
 aY:an
 av:(List bY)
 props:(List bN)
 aG:(List b6)
 told:(List bU)
 deriving DecidableEq
def ak.rel (ro:Addr->Option Value)(x:ak)(cs:List Value):Prop:=∃a b c d,cs=[.int .i64 x.bG,.int .i64 x.bO,.int .i64 x.aY.num,.int .i64 x.aY.den,a,b,c,d]/\aC eZ ro a x.av/\aC ez ro b x.props/\aC eT ro c x.aG/\aC c9 ro d x.told
theorem ak.pR {ro:Addr->Option Value}{x:ak}{cs:List Value}(h:ak.rel ro x cs):∀v∈cs,bE v=true:=by
 obtain ⟨b,c,d,e,rfl,⟨_,_,rfl,_⟩,⟨_,_,rfl,_⟩,⟨_,_,rfl,_⟩,⟨_,_,rfl,_⟩⟩:=h;intro v a;simp only[List.mem_cons,List.not_mem_nil,or_false] at a;rcases a with rfl|rfl|rfl|rfl|rfl|rfl|rfl|rfl<;>rfl
def FV:b7 ak:=⟨8,ak.rel,fun a ⟨b,c,d,f,e,g,h,i,j⟩=>⟨b,c,d,f,e,g.mono a,h.mono a,i.mono a,j.mono a⟩,fun ⟨b,c,d,f,e,_⟩=>by rw[e];rfl,ak.pR⟩
theorem FW:FV.n=8:=rfl
attribute [go_sem] FW
structure aQ where
 back:Int
 high:Int
 deriving DecidableEq
def aQ.v (x:aQ):Value:=.agg #[.int .i64 x.back,.int .i64 x.high]
def aQ.cells (x:aQ):List Value:=[.int .i64 x.back,.int .i64 x.high]
def iR:b7 aQ:=hO 2 aQ.cells (fun _=>rfl) (fun _ v a=>by simp only[aQ.cells,List.mem_cons,List.not_mem_nil,or_false] at a;rcases a with rfl|rfl<;>rfl)
theorem FX:iR.n=2:=rfl
attribute [go_sem] aQ.v aQ.cells FX
structure aX where
 e0:Int
 e1:Int
 e2:Int
 deriving DecidableEq
def aX.v (x:aX):Value:=.agg #[.int .i64 x.e0,.int .i64 x.e1,.int .i64 x.e2]
def aX.cells (x:aX):List Value:=[.int .i64 x.e0,.int .i64 x.e1,.int .i64 x.e2]
def gP:b7 aX:=hO 3 aX.cells (fun _=>rfl) (fun _ v a=>by simp only[aX.cells,List.mem_cons,List.not_mem_nil,or_false] at a;rcases a with rfl|rfl|rfl<;>rfl)
theorem FY:gP.n=3:=rfl
attribute [go_sem] aX.v aX.cells FY
def aX.get (x:aX)(i:Int):Option Int:=if i=0 then some x.e0 else if i=1 then some x.e1 else if i=2 then some x.e2 else none
theorem aX.get_some {x:aX}{i:Int}{y:Int}(h:aX.get x i=some y):0<=i/\i<((3:Nat):Int)/\([.int .i64 x.e0,.int .i64 x.e1,.int .i64 x.e2]:List Value)[i.toNat]?=some (.int .i64 y):=by
 unfold aX.get at h;by_cases a:i=0
 ·subst a;simp at h;subst h;exact ⟨by omega,by omega,rfl⟩
 by_cases b:i=1
 ·subst b;simp at h;subst h;exact ⟨by omega,by omega,rfl⟩
 by_cases c:i=2
 ·subst c;simp at h;subst h;exact ⟨by omega,by omega,rfl⟩
 simp[a,b,c] at h
theorem aX.FZ {ro:Addr->Option Value}{b:Nat}{x:aX}{i:Int}{y:Int}(h:aX.get x i=some y)(g0:ro ⟨b,0,none⟩=some (.int .i64 x.e0))(e:ro ⟨b,1,none⟩=some (.int .i64 x.e1))(f:ro ⟨b,2,none⟩=some (.int .i64 x.e2)):ro ⟨b,i.toNat,none⟩=some (.int .i64 y):=by
 unfold aX.get at h;by_cases a:i=0
 ·subst a;simp at h;subst h;exact g0
 by_cases c:i=1
 ·subst c;simp at h;subst h;exact e
 by_cases d:i=2
 ·subst d;simp at h;subst h;exact f
 simp[a,c,d] at h
structure cR where
 book:ak
 all:(List aX)
 deriving DecidableEq
def cR.rel (ro:Addr->Option Value)(x:cR)(cs:List Value):Prop:=∃a b c d e,cs=[.int .i64 x.book.bG,.int .i64 x.book.bO,.int .i64 x.book.aY.num,.int .i64 x.book.aY.den,a,b,c,d,e]/\aC eZ ro a x.book.av/\aC ez ro b x.book.props/\aC eT ro c x.book.aG/\aC c9 ro d x.book.told/\aC gP ro e x.all
theorem cR.pR {ro:Addr->Option Value}{x:cR}{cs:List Value}(h:cR.rel ro x cs):∀v∈cs,bE v=true:=by
 obtain ⟨b,c,d,e,f,rfl,⟨_,_,rfl,_⟩,⟨_,_,rfl,_⟩,⟨_,_,rfl,_⟩,⟨_,_,rfl,_⟩,⟨_,_,rfl,_⟩⟩:=h;intro v a;simp only[List.mem_cons,List.not_mem_nil,or_false] at a;rcases a with rfl|rfl|rfl|rfl|rfl|rfl|rfl|rfl|rfl<;>rfl
def F1:b7 cR:=⟨9,cR.rel,fun a ⟨b,c,d,f,g,e,h,i,j,k,l⟩=>⟨b,c,d,f,g,e,h.mono a,i.mono a,j.mono a,k.mono a,l.mono a⟩,fun ⟨b,c,d,f,g,e,_⟩=>by rw[e];rfl,cR.pR⟩
theorem F2:F1.n=9:=rfl
attribute [go_sem] F2
structure gQ where
 aH:Int
 high:an
 deriving DecidableEq
def gQ.cells (x:gQ):List Value:=[.int .i64 x.aH,.int .i64 x.high.num,.int .i64 x.high.den]
def F3:b7 gQ:=hO 3 gQ.cells (fun _=>rfl) (fun _ v a=>by simp only[gQ.cells,List.mem_cons,List.not_mem_nil,or_false] at a;rcases a with rfl|rfl|rfl<;>rfl)
theorem F4:F3.n=3:=rfl
attribute [go_sem] gQ.cells F4
structure bC where
 spot:gQ
 at_:Int
 high:an
 deriving DecidableEq
def bC.v (x:bC):Value:=.agg #[.int .i64 x.spot.aH,.int .i64 x.spot.high.num,.int .i64 x.spot.high.den,.int .i64 x.at_,.int .i64 x.high.num,.int .i64 x.high.den]
def bC.cells (x:bC):List Value:=[.int .i64 x.spot.aH,.int .i64 x.spot.high.num,.int .i64 x.spot.high.den,.int .i64 x.at_,.int .i64 x.high.num,.int .i64 x.high.den]
def j0:b7 bC:=hO 6 bC.cells (fun _=>rfl) (fun _ v a=>by simp only[bC.cells,List.mem_cons,List.not_mem_nil,or_false] at a;rcases a with rfl|rfl|rfl|rfl|rfl|rfl<;>rfl)
theorem F5:j0.n=6:=rfl
attribute [go_sem] bC.v bC.cells F5
def cZ.rel (ro:Addr->Option Value)(g:(ak->Option Int))(cs:List Value):Prop:=∃(b:FuncId) (c d:Array Value),cs=[.func (.func b) c d]/\aJ Tryz.prog b=true/\∀(aM:Addr->Option Value),Ext ro aM->∀(a:ak) (e:Value) (f:Value) (h:Value) (i:Value) (z:Int),aC eZ aM e a.av->aC ez aM f a.props->aC eT aM h a.aG->aC c9 aM i a.told->g a=some z->aD Tryz.prog b (c++#[.agg #[.int .i64 a.bG,.int .i64 a.bO,.int .i64 a.aY.num,.int .i64 a.aY.den,e,f,h,i]]++d) ⟨aM,[]⟩ (fun v _=>v= .int .i64 z)
theorem cZ.F6 {ro aM:Addr->Option Value}{g:(ak->Option Int)}{cs:List Value}(b:Ext ro aM)(h:cZ.rel ro g cs):cZ.rel aM g cs:=by
 obtain ⟨f,a,c,e,d,i⟩:=h;exact ⟨f,a,c,e,d,fun j k=>i j (b.trans k)⟩
theorem cZ.F7 {ro:Addr->Option Value}{g:(ak->Option Int)}{cs:List Value}(h:cZ.rel ro g cs):cs.length=1:=by
 obtain ⟨f,a,c,e,_⟩:=h;rw[e];rfl
theorem cZ.pR {ro:Addr->Option Value}{g:(ak->Option Int)}{cs:List Value}(h:cZ.rel ro g cs):∀v∈cs,bE v=true:=by
 obtain ⟨f,a,c,e,_⟩:=h;intro v b;rw[e] at b;simp at b;subst b;rfl
def cZ:b7 (ak->Option Int):=⟨1,cZ.rel,cZ.F6,cZ.F7,cZ.pR⟩
theorem F8:cZ.n=1:=rfl
attribute [go_sem] F8
abbrev sl {T:Type}(d:Option Addr)(l:List T)(c:Nat):Value:=.slice d l.length c
abbrev bk (x:ak)(a b c d:Value):Obj:=.cells #[.int .i64 x.bG,.int .i64 x.bO,.int .i64 x.aY.num,.int .i64 x.aY.den,a,b,c,d] 29
abbrev bl (x:ak)(a b c d:Value):Obj:=.cells #[.int .i64 x.bG,.int .i64 x.bO,.int .i64 x.aY.num,.int .i64 x.aY.den,a,b,c,d] 115
abbrev bz (t:Nat):Obj:=.cells #[.int .i64 0,.int .i64 0,.int .i64 0,.int .i64 0,.slice none 0 0,.slice none 0 0,.slice none 0 0,.slice none 0 0] t
abbrev kn (x:cR)(a b c d e:Value):Obj:=.cells #[.int .i64 x.book.bG,.int .i64 x.book.bO,.int .i64 x.book.aY.num,.int .i64 x.book.aY.den,a,b,c,d,e] 124
abbrev rt (a b:Int):Obj:=.cells #[.int .i64 a,.int .i64 b] 23
abbrev ic (a:Int):Obj:=.cells #[.int .i64 a] 3
abbrev bv (x:ak)(a b c d:Value):Value:=.agg #[.int .i64 x.bG,.int .i64 x.bO,.int .i64 x.aY.num,.int .i64 x.aY.den,a,b,c,d]
attribute [go_sem] sl bk bl bz kn rt ic bv FK FL List.cons_append List.nil_append List.append_nil List.append_assoc
structure bK (ro:Addr->Option Value)(u:ak)(a b c d:Value):Prop where
 e:aC eZ ro a u.av
 p:aC ez ro b u.props
 y:aC eT ro c u.aG
 t:aC c9 ro d u.told
theorem bK.oc {ro:Addr->Option Value}{u:ak}{a b c d:Value}(h:bK ro u a b c d):bE a=true/\bE b=true/\bE c=true/\bE d=true:=⟨h.e.oc,h.p.oc,h.y.oc,h.t.oc⟩
theorem bK.mono {ro aM:Addr->Option Value}{u:ak}{a b c d:Value}(h:bK ro u a b c d)(f:Ext ro aM):bK aM u a b c d:=⟨h.e.mono f,h.p.mono f,h.y.mono f,h.t.mono f⟩
end Go.Proofs.YtpgcmoanfifglaaGreatDoor
end

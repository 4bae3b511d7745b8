/- A part of the proof of a row and its tied card: QK2. -/
import Derived.Test.YtpgcmoanfifglaaGreatDoorQK1
import Derived.WalkKit
import Derived.IntWalk
import Derived.NoCompilerSame
import Derived.Test.YtpgcmoanfifglaaGreatDoorProg
import Derived.KernelRfl
set_option linter.all false
section
namespace Go.Sep
open Go Go.Conc
section
variable {α β : Type} {P : Program} {Q : α → aa → Prop} {F : aa}
@[go_sem] theorem bF (a:α):aU P (Pure.pure a) Q F=Q a F:=rfl
@[go_sem] theorem Lx (a:α):aU P (Sem.pure a) Q F=Q a F:=rfl
@[go_sem] theorem bq {R:β->aa->Prop}(x:Sem α)(f:α->Sem β):aU P (x>>= f) R F=aU P x (fun a G=>aU P (f a) R G) F:=propext (yI x F)
@[go_sem] theorem Ly {R:β->aa->Prop}(x:Sem α)(f:α->β):aU P (Functor.map f x) R F=aU P x (fun a G=>R (f a) G) F:=propext (yI x F)
@[go_sem] theorem dm (c:Prop)[Decidable c](x y:Sem α):aU P (if c then x else y) Q F=if c then aU P x Q F else aU P y Q F:=by split<;>rfl
@[go_sem] theorem za {Q:Value->aa->Prop}(a:Addr):aU P (load a) Q F=∃v,F.get a=some v/\Q v F:=by simp[load,aU]
@[go_sem] theorem Dz {Q:Unit->aa->Prop}(a:Addr)(v:Value):aU P (store a v) Q F=∃F',F.lI a v=some F'/\Q () F':=by simp[store,aU]
@[go_sem] theorem oQ {Q:Nat->aa->Prop}(o:Obj):aU P (newObj o) Q F=(o.isChan=false/\∀b,dQ F b->Q b (F.push b o)):=rfl
@[go_sem] theorem jR {Q:Program->aa->Prop}:aU P program Q F=Q P F:=rfl
@[go_sem] theorem uj {Q:Nat->aa->Prop}(q:Question):aU P (choose q) Q F=if q.forced then Q 0 F else ∀t,Q (q.cut t) F:=rfl
@[go_sem] theorem m5 {Q:Obj->aa->Prop}(r:Nat):aU P (getObj r) Q F=∃o,F.eW r=some o/\Q o F:=rfl
@[go_sem] theorem lM {Q:Unit->aa->Prop}(r:Nat)(o:Obj):aU P (Go.setObj r o) Q F=(o.isChan=false/\(F.eW r).isSome=true/\Q () (F.put r o)):=rfl
@[go_sem] theorem Lz (s:String):aU P (stuck s:Sem α) Q F=False:=rfl
@[go_sem] theorem LA {Q:Unit->aa->Prop}(m:Mark):aU P (mark m) Q F=(oL m=true/\Q () F):=rfl
@[go_sem] theorem dy {Q:TypeDesc->aa->Prop}(t:TypeId):aU P (underlying t) Q F=match P.underlying t with|some d=>Q d F|none=>False:=by
 simp only[underlying,bq,jR];cases P.underlying t<;>rfl
@[go_sem] theorem oR {Q:TypeInfo->aa->Prop}(t:TypeId):aU P (typeInfo t) Q F=match P.info? t with|some d=>Q d F|none=>False:=by
 simp only[typeInfo,bq,jR];cases P.info? t<;>rfl
def bY (P:Program)(t:TypeId):Option Nat:=(P.info? t).map (·.size)
def zeroOf (P:Program)(t:TypeId):Option Value:=(P.info? t).bind (·.zero)
def bytesOf (P:Program)(t:TypeId):Option Nat:=(P.info? t).map (·.bytes)
@[go_sem] theorem eG {Q:Nat->aa->Prop}(t:TypeId):aU P (sizeOf t) Q F=match bY P t with|some n=>Q n F|none=>False:=by
 simp only[sizeOf,bq,oR,bY];cases P.info? t<;>rfl
@[go_sem] theorem lN {Q:Value->aa->Prop}(t:TypeId):aU P (zeroValue t) Q F=match zeroOf P t with|some n=>Q n F|none=>False:=by
 simp only[zeroValue,bq,oR,zeroOf];cases P.info? t with
 |none=>rfl
 |some i=>simp only[Option.bind_some];cases i.zero<;>rfl
def cx (P:Program)(t:TypeId):Option Bool:=(P.underlying t).map fun| .struct _=>true| .array _ _=>true|_=>false
@[go_sem] theorem lO {Q:Bool->aa->Prop}(t:TypeId):aU P (isAgg t) Q F=match cx P t with|some n=>Q n F|none=>False:=by
 simp only[isAgg,bq,dy,cx];cases P.underlying t with
 |none=>rfl
 |some d=>cases d<;>rfl
def aa.lP (F:aa)(a:Addr):Nat->List Value->Prop
 |_,[]=>True
 |i,v::b=>F.get (a.add i)=some v/\F.lP a (i+1) b
theorem uk {Q:Array Value->aa->Prop}(a:Addr):∀(b:List Value) (i:Nat) (acc:Array Value),F.lP a i b->Q (acc++b.toArray) F->aU P (loadCellsFrom a i b.length acc) Q F
 |[],i,acc,_,h=>by simpa [loadCellsFrom,bF] using h
 |v::b,i,acc,hg,h=>by
  simp only[List.length_cons,loadCellsFrom,bq,za]
  refine ⟨v,hg.1,uk a b (i+1) (acc.push v) hg.2 ?_⟩
  simpa using h
theorem DC {Q:Value->aa->Prop}{t:TypeId}{a:Addr}(b:List Value)(ht:cx P t=some true)(hs:bY P t=some b.length)(hg:F.lP a 0 b)(h:Q (.agg b.toArray) F):aU P (loadVar t a) Q F:=by
 simp only[loadVar,bq,lO,ht,dm,if_true,eG,hs,loadCells];exact uk a b 0 #[] hg (by simpa [bF] using h)
theorem DD {Q:Value->aa->Prop}{t:TypeId}{a:Addr}(v:Value)(ht:cx P t=some false)(hg:F.get a=some v)(h:Q v F):aU P (loadVar t a) Q F:=by
 simp only[loadVar,bq,lO,ht,dm,za];exact ⟨v,hg,h⟩
def aa.jw (F:aa)(a:Addr):Nat->List Value->Option aa
 |_,[]=>some F
 |i,v::b=>match F.lI (a.add i) v with
  |some F'=>F'.jw a (i+1) b
  |none=>none
theorem qI {Q:Unit->aa->Prop}(a:Addr):∀(b:List Value) (i:Nat) (F F':aa),F.jw a i b=some F'->Q () F'->aU P (storeCells a b i) Q F
 |[],i,F,F',hg,h=>by simp only[aa.jw,Option.some.injEq] at hg;subst hg;simpa [storeCells,bF] using h
 |v::b,i,F,F',hg,h=>by
  simp only[storeCells,bq,Dz]
  unfold aa.jw at hg
  split at hg
  ·rename_i c d
   exact ⟨c,d,qI a b (i+1) c F' hg h⟩
  ·cases hg
theorem DF {Q:Unit->aa->Prop}{t:TypeId}{a:Addr}{v:Value}(F':aa)(hs:bY P t=some v.cells.size)(hg:F.jw a 0 v.cells.toList=some F')(h:Q () F'):aU P (storeVar t a v) Q F:=by
 simp only[storeVar,bq,eG,hs,ne_eq,not_true_eq_false,if_false];exact qI a _ 0 F F' hg h
@[go_sem] theorem zb {Q:Addr->aa->Prop}(t:TypeId)(v:Value):aU P (newVar t v) Q F=∀b,dQ F b->Q ⟨b,0,none⟩ (F.push b (.cells v.cells t)):=by
 simp only[newVar,newRow,bq,oQ,bF];simp[Obj.isChan]
@[go_sem] theorem qJ {Q:Addr->aa->Prop}(t:TypeId)(v:Array Value):aU P (newRow t v) Q F=∀b,dQ F b->Q ⟨b,0,none⟩ (F.push b (.cells v t)):=by
 simp only[newRow,bq,oQ,bF];simp[Obj.isChan]
@[go_sem] theorem qK {Q:Addr->aa->Prop}(a:Addr):aU P (Instr.sureAddr (.pointer (some a))) Q F=Q a F:=rfl
@[go_sem] theorem kM {Q:IntKind×Int->aa->Prop}(k:IntKind)(n:Int):aU P (asIntOf (.int k n)) Q F=Q (k,n) F:=rfl
@[go_sem] theorem zd {Q:Int->aa->Prop}(k:IntKind)(n:Int):aU P (asInt (.int k n)) Q F=Q n F:=rfl
@[go_sem] theorem DG {Q:Bool->aa->Prop}(b:Bool):aU P (asBool (.bool b)) Q F=Q b F:=rfl
@[go_sem] theorem DH {Q:Array Value->aa->Prop}(b:Array Value):aU P (asAgg (.agg b)) Q F=Q b F:=rfl
end
def slot (a:Act)(i:Nat):Value:=a.tmps.getD i undef
def sz (a:Act):Nat:=a.tmps.size
def bf (a:Act)(d:Option Tmp)(v:Value):Act:=a.put d v
def ev (a:Act)(x:Operand):Value:=a.eval x
@[go_sem] theorem LB (a:Act)(t:Nat):ev a (.tmp t)=slot a t:=rfl
@[go_sem] theorem LC (a:Act)(v:Value):ev a (.const v)=v:=rfl
@[go_sem] theorem LD (a:Act)(g:Nat):ev a (.global g)= .pointer (some ⟨g,0,none⟩):=rfl
@[go_sem] theorem LF (a:Act)(f:Nat):ev a (.func f)= .func (.func f) #[] #[]:=rfl
@[go_sem] theorem LG (a:Act)(v:Value):bf a none v=a:=rfl
@[go_sem] theorem ze (a:Act)(d:Option Tmp)(v:Value):sz (bf a d v)=sz a:=by cases d<;>simp[sz,bf,Act.put]
theorem DI (a:Act)(d:Nat)(v:Value)(h:d<sz a):slot (bf a (some d) v) d=v:=by
 simp only[sz] at h;simp[slot,bf,Act.put,h]
theorem um (a:Act)(d i:Nat)(v:Value)(h:¬d=i):slot (bf a (some d) v) i=slot a i:=by
 simp[slot,bf,Act.put,Array.getElem?_setIfInBounds_ne h]
@[go_sem] theorem LH (a:Act)(d i:Nat)(v:Value)(h:d<sz a):slot (bf a (some d) v) i=if d=i then v else slot a i:=by
 split
 ·rename_i e;subst e;exact DI a d v h
 ·rename_i e;exact um a d i v e
@[go_sem] theorem zf (a:Act)(d:Option Tmp)(v:Value):(bf a d v).defers=a.defers:=by cases d<;>rfl
theorem aC.start {P:Program}{f:FuncId}{fn:Func}{c:Code}{n:Nat}{args:Array Value}{F:aa}{R:Value->aa->Prop}(hf:P.funcs[f]?=some fn)(hb:fn.body=some c)(a:fn.ntmps=n)(b:args.size<=n)
  (h:∀main J,Closed P main J->∀A:Act,sz A=n->A.defers=[]->(∀i,slot A i=args.getD i undef)->Wp J c (qF P fn R) A F):aC P f args F R:=
 aC.of_wp hf hb fun main J hJ=>h main J hJ _ (by simp[sz,a];omega) rfl fun i=>by
  simp only[slot,a,Array.getD_eq_getD_getElem?]
  rcases Nat.lt_or_ge i args.size with hi|hi
  ·rw[Array.getElem?_append_left hi]
  ·rw[Array.getElem?_append_right hi,Array.getElem?_replicate,Array.getElem?_eq_none hi]
   split<;>rfl
def c7 (P:Program)(t:TypeId):Option TypeId:=match P.underlying t with|some (.slice e)=>some e|_=>none
def m6 (P:Program)(t:TypeId):Option (Nat×TypeId):=match P.underlying t with|some (.array n e)=>some (n,e)|_=>none
def cN (P:Program)(t:TypeId)(n:Nat):Option Nat:=
 match P.underlying t with
 |some (.struct a)=>match a[n]? with
  |some f=>match bY P f.type with
   |some (_+1)=>some f.offset
   |_=>none
  |none=>none
 |_=>none
def uo (P:Program)(t:TypeId)(n:Nat):Option (Nat×Nat×Bool):=
 match P.underlying t with
 |some (.struct a)=>match a[n]? with
  |some f=>match bY P f.type,cx P f.type with
   |some s,some g=>some (f.offset,s,g)
   |_,_=>none
  |none=>none
 |_=>none
def placesOf (P:Program)(t:TypeId):Option (List (Nat×Nat)):=
 match P.underlying t with
 |some (.struct a)=>a.toList.mapM fun f=>(bY P f.type).map fun s=>(f.offset,s)
 |_=>none
def aJ (P:Program)(f:FuncId):Bool:=match P.funcs[f]? with|some fn=>!(fn.body.isNone||fn.name== "runtime.NumGoroutine")|none=>false
def aa.dr (F:aa)(a:Addr):Nat->Nat->Option (List Value)
 |_,0=>some []
 |i,n+1=>match F.get (a.add i) with
  |some v=>match F.dr a (i+1) n with
   |some b=>some (v::b)
   |none=>none
  |none=>none
theorem uq (F:aa)(a:Addr):∀(n i:Nat) (b:List Value),F.dr a i n=some b->F.lP a i b/\b.length=n
 |0,i,b,h=>by simp only[aa.dr,Option.some.injEq] at h;subst h;exact ⟨trivial,rfl⟩
 |n+1,i,b,h=>by
  unfold aa.dr at h
  split at h
  ·rename_i v c
   split at h
   ·rename_i ws d
    cases h
    obtain ⟨e,f⟩:=uq F a n (i+1) ws d
    exact ⟨⟨c,e⟩,by simp[f]⟩
   ·cases h
  ·cases h
def e5 (P:Program)(F:aa)(t:TypeId)(ad:Addr):Option Value:=
 match cx P t with
 |some false=>F.get ad
 |some true=>match bY P t with
  |some n=>match F.dr ad 0 n with
   |some a=>some (.agg a.toArray)
   |none=>none
  |none=>none
 |none=>none
def qL (P:Program)(F:aa)(t:TypeId)(ad:Addr)(v:Value):Option aa:=
 match bY P t with
 |some n=>if n=v.cells.size then F.jw ad 0 v.cells.toList else none
 |none=>none
theorem zg {P:Program}{F:aa}{t:TypeId}{ad:Addr}{v:Value}{Q:Value->aa->Prop}(h:e5 P F t ad=some v)(a:Q v F):aU P (loadVar t ad) Q F:=by
 unfold e5 at h;split at h
 ·rename_i hg;exact DD v hg h a
 ·rename_i hg;split at h
  ·rename_i n c;split at h
   ·rename_i b d;cases h;obtain ⟨e,f⟩:=uq F ad n 0 b d;exact DC b hg (by rw[c,f]) e a
   ·cases h
  ·cases h
 ·cases h
theorem DJ {P:Program}{F F':aa}{t:TypeId}{ad:Addr}{v:Value}{Q:Unit->aa->Prop}(h:qL P F t ad v=some F')(a:Q () F'):aU P (storeVar t ad v) Q F:=by
 unfold qL at h;split at h
 ·rename_i n b;split at h
  ·rename_i e;exact DF F' (by rw[b,e]) h a
  ·cases h
 ·cases h
def m7 (op:BinOp):Value->Value->Option Value
 | .int k a,.int c b=>if k=c then match op with
   | .add=>some (.int k (k.wrap (a+b)))
   | .sub=>some (.int k (k.wrap (a - b)))
   | .mul=>some (.int k (k.wrap (a*b)))
   | .quo=>if b=0 then none else some (.int k (k.wrap (a.tdiv b)))
   | .rem=>if b=0 then none else some (.int k (a.tmod b))
   | .eql=>some (.bool (a==b))
   | .neq=>some (.bool (a != b))
   | .lss=>some (.bool (decide (a<b)))
   | .leq=>some (.bool (decide (a<=b)))
   | .gtr=>some (.bool (decide (a>b)))
   | .geq=>some (.bool (decide (a≥b)))
   | .shl=>if b<0 then none else some (.int k (k.wrap (a*2 ^ min b.toNat k.bits)))
   | .shr=>if b<0 then none else some (.int k (a.fdiv (2 ^ min b.toNat k.bits)))
   | .and=>some (.int k (k.wrap (BitVec.ofInt k.bits a&&& BitVec.ofInt k.bits b).toNat))
   | .or=>some (.int k (k.wrap (BitVec.ofInt k.bits a|||BitVec.ofInt k.bits b).toNat))
   | .andNot=>some (.int k (k.wrap (BitVec.ofInt k.bits a&&& ~~~(BitVec.ofInt k.bits b)).toNat))
   | .xor=>some (.int k (k.wrap (BitVec.ofInt k.bits a ^^^ BitVec.ofInt k.bits b).toNat))
  else none
 |_,_=>none
theorem iQ {P:Program}{s:Sem Value}{Q:Next->aa->Prop}{F:aa}:aU P (do pure (Next.value (<-s)):Sem Next) Q F=aU P s (fun v G=>Q (.value v) G) F:=by
 simp only[bq,bF]
theorem uu {P:Program}(op:BinOp)(t:TypeId)(x y:Operand)(k c:IntKind)(a b:Int){Q:Unit->aa->Prop}{F:aa}(h:Q () F):aU P (eqGuard op t x y (.int k a) (.int c b)) Q F:=by
 unfold eqGuard;cases op<;>simp<;>exact h
theorem DK {P:Program}{op:BinOp}{t:TypeId}{x y:Operand}{u v w:Value}{Q:Value->aa->Prop}{F:aa}(h:m7 op u v=some w)(c:Q w F):aU P (do eqGuard op t x y u v;binOp op t u v) Q F:=by
 unfold m7 at h;split at h
 case h_2=>cases h
 rename_i k a e b;split at h
 case isFalse=>cases h
 rename_i d;subst d;rw[bq];refine uu op t x y k k a b ?_;cases op<;>simp only[binOp,ne_eq,not_true_eq_false,if_false,Op.intArith,Op.intDiv,Op.intCmp,Op.intBits,Op.shift,dm] at h ⊢<;>first
  |(cases h;done)
  |(cases h;exact c)
  |(split at h
    ·cases h
    ·rename_i hb;rw[if_neg hb];cases h;exact c)
def lQ (op:UnOp):Value->Option Value
 | .int k a=>match op with
  | .neg=>some (.int k (k.wrap (0 - a)))
  |_=>none
 | .bool b=>match op with
  | .not=>some (.bool (!b))
  |_=>none
 |_=>none
theorem DL {P:Program}{op:UnOp}{u w:Value}{Q:Value->aa->Prop}{F:aa}(h:lQ op u=some w)(a:Q w F):aU P (Op.unary op u) Q F:=by
 cases u<;>cases op<;>simp only[lQ] at h<;>first|(cases h;done)|(cases h;exact a)
def qM:Value->Value->Option Value
 | .int k x,.int _ y=>some (.int k (if y>x then y else x))
 |_,_=>none
def qN:Value->Value->Option Value
 | .int k x,.int _ y=>some (.int k (if y<x then y else x))
 |_,_=>none
def oS (P:Program)(t:TypeId):Value->Value->Option Value
 | .slice (some ad) len _,.int _ i=>match c7 P t with
  |some e=>match bY P e with
   |some n=>if 0<=i/\i<(len:Int) then some (.pointer (some (ad.add (i.toNat*n)))) else none
   |none=>none
  |none=>none
 | .pointer (some ad),.int _ i=>match m6 P t with
  |some (len,e)=>match bY P e with
   |some n=>if 0<=i/\i<(len:Int) then some (.pointer (some (ad.add (i.toNat*n)))) else none
   |none=>none
  |none=>none
 |_,_=>none
theorem DN {P:Program}{t:TypeId}{u v w:Value}{Q:Value->aa->Prop}{F:aa}(h:oS P t u v=some w)(c:Q w F):aU P (Instr.indexAt t u v) Q F:=by
 unfold oS at h;split at h
 ·rename_i ad len cap k i;split at h
  case h_2=>cases h
  rename_i e he;split at h
  case h_2=>cases h
  rename_i n a;split at h
  case isFalse=>cases h
  rename_i hi;cases h;have hu:P.underlying t=some (.slice e):=by
   unfold c7 at he;split at he
   ·rename_i d b;cases he;exact b
   ·cases he
  simp only[Instr.indexAt,bq,kM,dy,hu,bF,dm,if_pos hi,eG,a];exact c
 ·rename_i ad k i;split at h
  case h_2=>cases h
  rename_i len e he;split at h
  case h_2=>cases h
  rename_i n a;split at h
  case isFalse=>cases h
  rename_i hi;cases h;have hu:P.underlying t=some (.array len e):=by
   unfold m6 at he;split at he
   ·rename_i f d b;cases he;exact b
   ·cases he
  simp only[Instr.indexAt,bq,kM,dy,hu,bF,qK,dm,if_pos hi,eG,a];exact c
 ·cases h
def m8 (P:Program)(t:TypeId)(x:Value)(lo hi:Option Value):Option Value:=
 match x,c7 P t with
 | .slice ad len cap,some e=>match bY P e with
  |some n=>
   match (match lo with|none=>some 0|some (.int _ i)=>if 0<=i then some i.toNat else none|_=>none),(match hi with|none=>some len|some (.int _ i)=>if 0<=i then some i.toNat else none|_=>none) with
   |some l,some h=>if l<=h/\h<=cap then some (.slice (if cap=l then ad else ad.map (·.add (l*n))) (h - l) (cap - l)) else none
   |_,_=>none
  |none=>none
 |_,_=>none
theorem DO {P:Program}{t:TypeId}{x w:Value}{lo hi:Option Value}{Q:Value->aa->Prop}{F:aa}(hlen:∀ad len cap,x= .slice ad len cap->len<=cap)(h:m8 P t x lo hi=some w)(b:Q w F):aU P (Instr.sliceAt t x lo hi none) Q F:=by
 unfold m8 at h;split at h
 case h_2=>cases h
 rename_i ad len cap e he;have p:=hlen ad len cap rfl;have hu:P.underlying t=some (.slice e):=by
  unfold c7 at he;split at he
  ·rename_i q f;cases he;exact f
  ·cases he
 split at h
 case h_2=>cases h
 rename_i n c;split at h
 case h_2=>cases h
 rename_i l r hl a;split at h
 case isFalse=>cases h
 rename_i hb;cases h;simp only[Instr.sliceAt,bq,dy,hu,Instr.slice,Instr.sliceBounds,bF];cases hi with
 |none=>
  simp only[Option.some.injEq] at a;subst a;simp only[bF];cases lo with
  |none=>
   simp only[Option.some.injEq] at hl;subst hl;simp only[bF,eG,c];exact b
  |some v=>
   cases v<;>simp only[reduceCtorEq] at hl;rename_i k i;split at hl
   case isFalse=>cases hl
   rename_i d;cases hl;have:0<=i/\i<=(len:Int):=⟨d,by omega⟩
   simp only[Instr.sliceBound,bq,kM,dm,if_pos this,bF,eG,c];exact b
 |some v=>
  cases v<;>simp only[reduceCtorEq] at a;rename_i k i;split at a
  case isFalse=>cases a
  rename_i d;cases a;have g:0<=i/\i<=(cap:Int):=⟨d,by omega⟩
  simp only[Instr.sliceBound,bq,kM,dm,if_pos g,bF];cases lo with
  |none=>
   simp only[Option.some.injEq] at hl;subst hl;simp only[bF,eG,c];exact b
  |some v=>
   cases v<;>simp only[reduceCtorEq] at hl;rename_i s j;split at hl
   case isFalse=>cases hl
   rename_i m;cases hl;have o:0<=j/\j<=((i.toNat:Nat):Int):=⟨m,by omega⟩
   simp only[bq,kM,dm,if_pos o,bF,eG,c];exact b
def gu:List Value->List Value->Option Bool
 |[],[]=>some true
 | .int k a::xs,.int c b::ys=>if k=c then match gu xs ys with
   |some r=>some (a==b&&r)
   |none=>none
  else none
 | .bool a::xs,.bool b::ys=>match gu xs ys with
   |some r=>some (a==b&&r)
   |none=>none
 |_,_=>none
theorem qO:∀{xs ys:List Value} {us a:List Value} {r:Bool},xs.length=ys.length->gu (xs++us) (ys++a)=some r->∃r1 r2,gu xs ys=some r1/\gu us a=some r2/\r=(r1&&r2)
 |[],[],us,a,r,_,h=>⟨true,r,rfl,h,by simp⟩
 |[],y::ys,_,_,_,hl,_=>by simp at hl
 |x::xs,[],_,_,_,hl,_=>by simp at hl
 |x::xs,y::ys,us,a,r,hl,h=>by
  have e:xs.length=ys.length:=by simpa using hl
  cases x<;>cases y<;>simp only[List.cons_append,gu,reduceCtorEq] at h ⊢
  ·split at h
   ·rename_i f b
    obtain ⟨r1,r2,c,d,rfl⟩:=qO e b
    cases h
    exact ⟨_,r2,by rw[c],d,by rw[Bool.and_assoc]⟩
   ·cases h
  ·split at h
   ·rename_i g
    split at h
    ·rename_i f b
     obtain ⟨r1,r2,c,d,rfl⟩:=qO e b
     cases h
     exact ⟨_,r2,by rw[if_pos g,c],d,by rw[Bool.and_assoc]⟩
    ·cases h
   ·cases h
def Kd:List Bool->List Value->Prop
 |[],[]=>True
 |true::ks,.int _ _::xs=>Kd ks xs
 |false::ks,.bool _::xs=>Kd ks xs
 |_,_=>False
theorem Kd.length:∀{ks:List Bool} {xs:List Value},Kd ks xs->xs.length=ks.length
 |[],[],_=>rfl
 |[],x::xs,h=>by simp[Kd] at h
 |k::ks,[],h=>by cases k<;>simp[Kd] at h
 |k::ks,x::xs,h=>by
  have:Kd ks xs:=by cases k<;>cases x<;>simp only[Kd] at h<;>exact h
  simp[Kd.length this]
theorem Kd.split:∀{ks:List Bool} {ls:List Bool} {xs:List Value},Kd (ks++ls) xs->Kd ks (xs.take ks.length)/\Kd ls (xs.drop ks.length)
 |[],_,_,h=>⟨by simp[Kd],by simpa using h⟩
 |k::ks,ls,[],h=>by cases k<;>simp[Kd] at h
 |k::ks,ls,x::xs,h=>by
  cases k<;>cases x<;>simp only[List.cons_append,Kd] at h
  all_goals
   obtain ⟨a,b⟩:=Kd.split h
   exact ⟨by simpa [Kd] using a,by simpa using b⟩
def oT (P:Program)(g:TypeId->Option (List Bool)):List Field->Nat->Option (List Bool)
 |[],_=>some []
 |f::a,off=>if f.name≠ "_"/\f.offset=off then match g f.type with
   |some ks=>if bY P f.type=some ks.length then match oT P g a (off+ks.length) with
     |some ls=>some (ks++ls)
     |none=>none
    else none
   |none=>none
  else none
def jS (P:Program):Nat->TypeId->Option (List Bool)
 |0,_=>none
 |d+1,t=>match P.underlying t with
  |some .bool=>if cx P t=some false then some [false] else none
  |some (.int _)=>if cx P t=some false then some [true] else none
  |some (.struct a)=>if cx P t=some true/\P.stoodInHeld t=false then oT P (jS P d) a.toList 0 else none
  |some (.array n e)=>if cx P t=some true then match jS P d e with
    |some ks=>if bY P e=some ks.length then some (List.replicate n ks).flatten else none
    |none=>none
   else none
  |_=>none
def Sc (v:Value):Prop:=(∃k a,v= .int k a)\/∃b,v= .bool b
theorem Kd.sc:∀{ks:List Bool} {xs:List Value},Kd ks xs->∀x∈xs,Sc x
 |[],[],_=>by simp
 |[],x::xs,h=>by simp[Kd] at h
 |k::ks,[],h=>by simp
 |k::ks,x::xs,h=>by
  have:Sc x/\Kd ks xs:=by cases k<;>cases x<;>simp only[Kd] at h<;>first|exact ⟨.inl ⟨_,_,rfl⟩,h⟩|exact ⟨.inr ⟨_,rfl⟩,h⟩
  simpa using ⟨this.1,Kd.sc this.2⟩
theorem Sc.cells {v:Value}(h:Sc v):v.cells=#[v]:=by
 rcases h with ⟨k,a,rfl⟩|⟨b,rfl⟩<;>rfl
def Shape (P:Program)(t:TypeId)(v:Value):Prop:=(cx P t=some true->∃xs,v= .agg xs)/\(cx P t=some false->Sc v)
section
variable {P : Program}
theorem qP {t:TypeId}{xs:Array Value}{off m:Nat}{g:Bool}{Q:Value->aa->Prop}{F:aa}(hg:cx P t=some g)(hs:bY P t=some m)(hm:g=false->m=1)(d:off+m<=xs.size)
  (c:∀x∈xs.toList,Sc x) (h:∀v,v.cells.toList=(xs.toList.drop off).take m->Shape P t v->Q v F):aU P (part t xs off) Q F:=by
 simp only[part,bq,lO,hg,dm]
 cases g with
 |true=>
  simp only[if_true,bq,eG,hs,bF]
  refine h _ ?_ ⟨fun _=>⟨_,rfl⟩,fun a=>by rw[hg] at a;cases a⟩
  simp only[Value.cells,Array.toList_extract,List.extract_eq_take_drop]
  congr 1;omega
 |false=>
  have:=hm rfl
  subst this
  have b:off<xs.size:=by omega
  simp only[Bool.false_eq_true,if_false,Array.getElem?_eq_getElem b,bF]
  have hx:=c xs[off] (by simp)
  refine h _ ?_ ⟨fun a=>(by rw[hg] at a;cases a),fun _=>hx⟩
  rw[hx.cells]
  have:off<xs.toList.length:=by simpa using b
  rw[List.drop_eq_getElem_cons this]
  simp
def uv (P:Program)(d:Nat)(t:TypeId)(ks:List Bool):Prop:=
 ∀(u v:Value) (r:Bool) (Q:Bool->aa->Prop) (F:aa),Shape P t u->Shape P t v->Kd ks u.cells.toList->Kd ks v.cells.toList->gu u.cells.toList v.cells.toList=some r->Q r F->aU P (Op.equalIn d t u v) Q F
theorem zh {d t:Nat}{ks:List Bool}(h:jS P d t=some ks):∃g,cx P t=some g/\(g=false->ks.length=1):=by
 cases d with
 |zero=>cases h
 |succ d=>
  unfold jS at h;split at h
  ·split at h
   ·rename_i hg;cases h;exact ⟨_,hg,fun _=>rfl⟩
   ·cases h
  ·split at h
   ·rename_i hg;cases h;exact ⟨_,hg,fun _=>rfl⟩
   ·cases h
  ·split at h
   ·rename_i hg;exact ⟨true,hg.1,fun x=>by cases x⟩
   ·cases h
  ·split at h
   ·rename_i hg;exact ⟨true,hg,fun x=>by cases x⟩
   ·cases h
  ·cases h
theorem zi {d:Nat}(ih:∀t ks,jS P d t=some ks->uv P d t ks){xs ys:Array Value}{Q:Bool->aa->Prop}{F:aa}(l:∀x∈xs.toList,Sc x)(m:∀x∈ys.toList,Sc x):
  ∀(b:List Field) (off:Nat) (ks:List Bool) (r:Bool),oT P (jS P d) b off=some ks->Kd ks (xs.toList.drop off)->Kd ks (ys.toList.drop off)->gu (xs.toList.drop off) (ys.toList.drop off)=some r->off<=xs.size->off<=ys.size->Q r F->
  aU P (do
   let x<-forIn b ((none,()):Option Bool×Unit) fun f _=>do
    if f.name≠ "_" then
     if (!(<-Op.equalIn d f.type (<-part f.type xs f.offset) (<-part f.type ys f.offset)))=true then pure (ForInStep.done (some false,())) else pure (ForInStep.yield (none,()))
    else pure (ForInStep.yield (none,()))
   match x.fst with
    |some a=>pure a
    |none=>pure true:Sem Bool) Q F
 |[],off,ks,r,hf,hx,c,he,_,_,e=>by
  simp only[oT,Option.some.injEq] at hf
  subst hf
  have h:=hx.length
  have i:=c.length
  rw[List.eq_nil_of_length_eq_zero h,List.eq_nil_of_length_eq_zero i] at he
  cases he
  simp only[List.forIn_nil,bq,bF]
  exact e
 |f::b,off,ks,r,hf,hx,c,he,D,E,e=>by
  unfold oT at hf
  split at hf
  case isFalse=>cases hf
  rename_i j
  obtain ⟨j,rfl⟩:=j
  split at hf
  case h_2=>cases hf
  rename_i k n
  split at hf
  case isFalse=>cases hf
  rename_i hs
  split at hf
  case h_2=>cases hf
  rename_i ls w
  cases hf
  obtain ⟨g,hg,o⟩:=zh n
  have y:=hx.length
  have z:=c.length
  simp only[List.length_drop,Array.length_toList,List.length_append] at y z
  obtain ⟨A,p⟩:=hx.split
  obtain ⟨B,q⟩:=c.split
  rw[List.drop_drop] at p q
  have e1:xs.toList.drop f.offset=(xs.toList.drop f.offset).take k.length++xs.toList.drop (f.offset+k.length):=by
   rw[<-List.drop_drop,List.take_append_drop]
  have e2:ys.toList.drop f.offset=(ys.toList.drop f.offset).take k.length++ys.toList.drop (f.offset+k.length):=by
   rw[<-List.drop_drop,List.take_append_drop]
  rw[e1,e2] at he
  obtain ⟨r1,r2,h,i,rfl⟩:=qO (by simp;omega) he
  simp only[List.forIn_cons,bq,if_pos j]
  refine qP hg hs o (by omega) l fun u hu C=>?_
  refine qP hg hs o (by omega) m fun v s sv=>?_
  refine ih _ _ n u v r1 _ F C sv (by rw[hu];exact A) (by rw[s];exact B) (by rw[hu,s];exact h) ?_
  cases r1 with
  |false=>simpa [bF,dm] using e
  |true=>
   have:=zi ih l m b (f.offset+k.length) ls r2 w p q i (by omega) (by omega) (Q:=Q) (F:=F) (by simpa using e)
   simpa [bF,dm,bq] using this
theorem zj {d e k:Nat}{ks:List Bool}{g:Bool}(s:uv P d e ks)(f:ks.length=k)(hg:cx P e=some g)(h:g=false->ks.length=1)(hs:bY P e=some ks.length){xs ys:Array Value}{Q:Bool->aa->Prop}{F:aa}(t:∀x∈xs.toList,Sc x)(w:∀x∈ys.toList,Sc x):
  ∀(n i:Nat) (r:Bool),Kd (List.replicate n ks).flatten (xs.toList.drop (i*k))->Kd (List.replicate n ks).flatten (ys.toList.drop (i*k))->gu (xs.toList.drop (i*k)) (ys.toList.drop (i*k))=some r->i*k<=xs.size->i*k<=ys.size->Q r F->
  aU P (do
   let x<-forIn (List.range' i n) ((none,()):Option Bool×Unit) fun i _=>do
    if (!(<-Op.equalIn d e (<-part e xs (i*k)) (<-part e ys (i*k))))=true then pure (ForInStep.done (some false,())) else pure (ForInStep.yield (none,()))
   match x.fst with
    |some a=>pure a
    |none=>pure true:Sem Bool) Q F
 |0,i,r,hx,b,he,_,_,c=>by
  have j:=hx.length
  have l:=b.length
  rw[List.eq_nil_of_length_eq_zero j,List.eq_nil_of_length_eq_zero l] at he
  cases he
  simp only[List.range'_zero,List.forIn_nil,bq,bF]
  exact c
 |n+1,i,r,hx,b,he,D,E,c=>by
  have m:(i+1)*k=i*k+k:=by simp only[Nat.add_mul,Nat.one_mul]
  have A:=hx.length
  have B:=b.length
  simp only[List.replicate_succ,List.flatten_cons,List.length_drop,Array.length_toList,List.length_append] at A B
  simp only[List.replicate_succ,List.flatten_cons] at hx b
  obtain ⟨y,o⟩:=hx.split
  obtain ⟨z,p⟩:=b.split
  rw[f] at y o z p
  rw[List.drop_drop,<-m] at o p
  have e1:xs.toList.drop (i*k)=(xs.toList.drop (i*k)).take k++xs.toList.drop ((i+1)*k):=by
   rw[m,<-List.drop_drop,List.take_append_drop]
  have e2:ys.toList.drop (i*k)=(ys.toList.drop (i*k)).take k++ys.toList.drop ((i+1)*k):=by
   rw[m,<-List.drop_drop,List.take_append_drop]
  rw[e1,e2] at he
  obtain ⟨r1,r2,j,l,rfl⟩:=qO (by simp;omega) he
  simp only[List.range'_succ,List.forIn_cons,bq]
  refine qP hg hs h (by omega) t fun u hu C=>?_
  refine qP hg hs h (by omega) w fun v q sv=>?_
  rw[f] at hu q
  refine s u v r1 _ F C sv (by rw[hu];exact y) (by rw[q];exact z) (by rw[hu,q];exact j) ?_
  cases r1 with
  |false=>simpa [bF,dm] using c
  |true=>
   have:=zj s f hg h hs t w n (i+1) r2 o p l (by omega) (by omega) (Q:=Q) (F:=F) (by simpa using c)
   simpa [bF,dm,bq] using this
theorem uw:∀(d t:Nat) (ks:List Bool),jS P d t=some ks->uv P d t ks
 |0,_,_,h=>by cases h
 |d+1,t,ks,h=>by
  intro u v r Q F i sv hu c he j
  unfold jS at h
  split at h
  ·rename_i f
   split at h
   case isFalse=>cases h
   rename_i hg
   cases h
   have a1:=i.2 hg
   have a2:=sv.2 hg
   rw[a1.cells] at he hu
   rw[a2.cells] at he c
   simp only[Op.equalIn,bq,dy,f]
   rcases a1 with ⟨k,a,rfl⟩|⟨a,rfl⟩<;>rcases a2 with ⟨m,b,rfl⟩|⟨b,rfl⟩<;>simp[Kd] at hu c
   simp[gu] at he
   subst he
   simpa [bF] using j
  ·rename_i f
   split at h
   case isFalse=>cases h
   rename_i hg
   cases h
   have a1:=i.2 hg
   have a2:=sv.2 hg
   rw[a1.cells] at he hu
   rw[a2.cells] at he c
   simp only[Op.equalIn,bq,dy,f]
   rcases a1 with ⟨k,a,rfl⟩|⟨a,rfl⟩<;>rcases a2 with ⟨m,b,rfl⟩|⟨b,rfl⟩<;>simp[Kd] at hu c
   simp[gu] at he
   obtain ⟨l,rfl⟩:=he
   simpa [bF,dm,l] using j
  ·rename_i o f
   split at h
   case isFalse=>cases h
   rename_i hg
   obtain ⟨hg,p⟩:=hg
   obtain ⟨xs,rfl⟩:=i.1 hg
   obtain ⟨ys,rfl⟩:=sv.1 hg
   simp only[Op.equalIn,bq,dy,f,jR,p,Bool.false_eq_true,if_false,dm,bF]
   have:=zi (P:=P) (d:=d) (fun t ks q=>uw d t ks q) (xs:=xs) (ys:=ys) (Q:=Q) (F:=F) hu.sc c.sc o.toList 0 ks r h (by simpa [Value.cells] using hu) (by simpa [Value.cells] using c) (by simpa [Value.cells] using he) (by omega) (by omega) j
   rw[<-Array.forIn_toList]
   simp[bq] at this ⊢
   exact gL (fun a G h=>by rcases a with ⟨_|_,_⟩<;>exact h) _ _ this
  ·rename_i n e f
   split at h
   case isFalse=>cases h
   rename_i hg
   split at h
   case h_2=>cases h
   rename_i k l
   split at h
   case isFalse=>cases h
   rename_i hs
   cases h
   obtain ⟨xs,rfl⟩:=i.1 hg
   obtain ⟨ys,rfl⟩:=sv.1 hg
   obtain ⟨g,s,w⟩:=zh l
   simp only[Op.equalIn,bq,dy,f,eG,hs]
   have:=zj (P:=P) (d:=d) (uw d e k l) rfl s w hs (xs:=xs) (ys:=ys) (Q:=Q) (F:=F) hu.sc c.sc n 0 r (by simpa [Value.cells] using hu) (by simpa [Value.cells] using c) (by simpa [Value.cells] using he) (by simp) (by simp) j
   simp only[Std.Legacy.Range.forIn_eq_forIn_range',Std.Legacy.Range.size,Nat.sub_zero,Nat.add_one_sub_one,Nat.div_one]
   simp[bq] at this ⊢
   exact gL (fun a G h=>by rcases a with ⟨_|_,_⟩<;>exact h) _ _ this
  ·cases h
def iR:List Bool->List Value->Bool
 |[],[]=>true
 |true::ks,.int _ _::xs=>iR ks xs
 |false::ks,.bool _::xs=>iR ks xs
 |_,_=>false
theorem uy:∀{ks:List Bool} {xs:List Value},iR ks xs=true->Kd ks xs
 |[],[],_=>trivial
 |[],x::xs,h=>by simp[iR] at h
 |k::ks,[],h=>by cases k<;>simp[iR] at h
 |k::ks,x::xs,h=>by
  cases k<;>cases x<;>first
   |(simp only[iR,reduceCtorEq,Bool.false_eq_true] at h;done)
   |exact uy (ks:=ks) (xs:=xs) (by simpa only[iR] using h)
def m9 (P:Program)(t:TypeId):Option (List Bool):=if P.eqGuardType P.depth t=false/\cx P t=some true then jS P Op.maxDepth t else none
def lR (P:Program)(t:TypeId):Value->Value->Option Bool
 | .agg xs,.agg ys=>match m9 P t with
  |some ks=>if iR ks xs.toList&&iR ks ys.toList then gu xs.toList ys.toList else none
  |none=>none
 |_,_=>none
theorem uz {t:TypeId}{u v:Value}{r:Bool}{Q:Bool->aa->Prop}{F:aa}(h:lR P t u v=some r)(c:Q r F):aU P (Op.equal t u v) Q F/\P.eqGuardType P.depth t=false/\(∃xs,u= .agg xs)/\∃ys,v= .agg ys:=by
 unfold lR at h;split at h
 case h_2=>cases h
 rename_i xs ys;split at h
 case h_2=>cases h
 rename_i ks a;split at h
 case isFalse=>cases h
 rename_i b;simp only[Bool.and_eq_true] at b;unfold m9 at a;split at a
 case isFalse=>cases a
 rename_i hg;refine ⟨?_,hg.1,⟨_,rfl⟩,_,rfl⟩;exact uw _ _ _ a _ _ r Q F ⟨fun _=>⟨_,rfl⟩,fun x=>by rw[hg.2] at x;cases x⟩ ⟨fun _=>⟨_,rfl⟩,fun x=>by rw[hg.2] at x;cases x⟩ (uy b.1) (uy b.2) h c
def uA (P:Program)(t:TypeId):Bool:=match P.underlying t with|some .bool=>true|_=>false
def jT (P:Program)(t:TypeId):Bool:=match P.underlying t with|some (.slice _)=>true|_=>false
def oU (P:Program)(t:TypeId):Value->Value->Option Bool
 | .bool a,.bool b=>if uA P t=true then some (a==b) else none
 | .slice none _ _,.slice b _ _=>if jT P t=true then some b.isNone else none
 | .slice (some _) _ _,.slice none _ _=>if jT P t=true then some false else none
 |_,_=>none
theorem zk {t:TypeId}{u v:Value}{r:Bool}{Q:Bool->aa->Prop}{F:aa}(h:oU P t u v=some r)(e:Q r F):aU P (Op.equal t u v) Q F/\((∃a b,u= .bool a/\v= .bool b)\/∃a n c b m d,u= .slice a n c/\v= .slice b m d):=by
 obtain ⟨d,hd⟩:∃d,Op.maxDepth=d+1:=⟨_,rfl⟩
 unfold oU at h;split at h
 ·split at h
  ·rename_i hb;cases h;unfold uA at hb;split at hb
   ·rename_i hu;refine ⟨?_,.inl ⟨_,_,rfl,rfl⟩⟩;unfold Op.equal;rw[hd];simp only[Op.equalIn,bq,dy,hu,bF];exact e
   ·cases hb
  ·cases h
 ·split at h
  ·rename_i hb;cases h;unfold jT at hb;split at hb
   ·rename_i hu;refine ⟨?_,.inr ⟨_,_,_,_,_,_,rfl,rfl⟩⟩;unfold Op.equal;rw[hd];simp only[Op.equalIn,bq,dy,hu,bF];exact e
   ·cases hb
  ·cases h
 ·split at h
  ·rename_i hb;cases h;unfold jT at hb;split at hb
   ·rename_i hu;refine ⟨?_,.inr ⟨_,_,_,_,_,_,rfl,rfl⟩⟩;unfold Op.equal;rw[hd];simp only[Op.equalIn,bq,dy,hu,bF];exact e
   ·cases hb
  ·cases h
 ·cases h
def oV (P:Program)(op:BinOp)(t:TypeId)(u v:Value):Option Value:=
 match m7 op u v with
 |some w=>some w
 |none=>match op with
  | .eql=>match lR P t u v with
   |some r=>some (.bool r)
   |none=>match oU P t u v with
    |some r=>some (.bool r)
    |none=>none
  | .neq=>match lR P t u v with
   |some r=>some (.bool (!r))
   |none=>match oU P t u v with
    |some r=>some (.bool (!r))
    |none=>none
  | .shr=>match u,v with
   | .int k a,.int _ b=>if b<0 then none else some (.int k (a.fdiv (2 ^ min b.toNat k.bits)))
   |_,_=>none
  | .shl=>match u,v with
   | .int k a,.int _ b=>if b<0 then none else some (.int k (k.wrap (a*2 ^ min b.toNat k.bits)))
   |_,_=>none
  |_=>none
theorem DQ {op:BinOp}{t:TypeId}{x y:Operand}{u v w:Value}{Q:Value->aa->Prop}{F:aa}(h:oV P op t u v=some w)(e:Q w F):aU P (do eqGuard op t x y u v;binOp op t u v) Q F:=by
 unfold oV at h;split at h
 ·rename_i w' hw;cases h;exact DK hw e
 ·split at h
  ·split at h
   ·rename_i r f;cases h;obtain ⟨g,i,⟨xs,rfl⟩,ys,rfl⟩:=uz (Q:=fun r G=>Q (.bool r) G) f e;simp only[bq,eqGuard,binOp,jR,i,dm,bF];simpa using g
   ·split at h
    ·rename_i r f;cases h;obtain ⟨g,i⟩:=zk (Q:=fun r G=>Q (.bool r) G) f e;rcases i with ⟨a,b,rfl,rfl⟩|⟨a,n,c,b,m,d,rfl,rfl⟩<;>
     ·simp only[bq,eqGuard,binOp,jR,dm,bF];simpa using g
    ·cases h
  ·split at h
   ·rename_i r f;cases h;obtain ⟨g,i,⟨xs,rfl⟩,ys,rfl⟩:=uz (Q:=fun r G=>Q (.bool (!r)) G) f e;simp only[bq,eqGuard,binOp,jR,i,dm,bF];simpa using g
   ·split at h
    ·rename_i r f;cases h;obtain ⟨g,i⟩:=zk (Q:=fun r G=>Q (.bool (!r)) G) f e;rcases i with ⟨a,b,rfl,rfl⟩|⟨a,n,c,b,m,d,rfl,rfl⟩<;>
     ·simp only[bq,eqGuard,binOp,jR,dm,bF];simpa using g
    ·cases h
  ·split at h
   ·split at h
    ·cases h
    ·rename_i hb;cases h;rw[bq];refine uu .shr t x y _ _ _ _ ?_;simp only[binOp,Op.shift,dm];rw[if_neg hb];exact e
   ·cases h
  ·split at h
   ·split at h
    ·cases h
    ·rename_i hb;cases h;rw[bq];refine uu .shl t x y _ _ _ _ ?_;simp only[binOp,Op.shift,dm];rw[if_neg hb];exact e
   ·cases h
  ·cases h
end
theorem uB {P:Program}{t e:TypeId}(h:c7 P t=some e):P.underlying t=some (.slice e):=by
 unfold c7 at h;split at h
 ·rename_i a he;cases h;exact he
 ·cases h
theorem zl (n:Nat):∀(r c:Nat),Builtin.growBy n r c<=2 ^ r*(c+768)
 |0,c=>by simp[Builtin.growBy]
 |r+1,c=>by
  unfold Builtin.growBy
  split
  ·have:1<=2 ^ (r+1):=Nat.one_le_two_pow
   have:=Nat.mul_le_mul_right (c+768) this
   omega
  ·have h:=zl n r (c+(c+768)/4)
   refine Nat.le_trans h ?_
   rw[Nat.pow_succ,Nat.mul_assoc]
   refine Nat.mul_le_mul_left _ ?_
   omega
theorem nextslicecap_le {n c:Nat}(h:c<n)(b:n<=1000000):Builtin.nextslicecap n c<=20000000:=by
 unfold Builtin.nextslicecap;split
 ·omega
 ·split
  ·omega
  ·have a:=zl n 4 c;have e:(2:Nat) ^ 4=16:=by decide
   rw[e] at a;refine Nat.le_trans a ?_;omega
section
variable {P : Program}
theorem DR {Q:Array Value->aa->Prop}{F:aa}(a:Addr){n:Nat}{b:List Value}(h:F.dr a 0 n=some b)(c:Q b.toArray F):aU P (loadCells a n) Q F:=by
 obtain ⟨d,e⟩:=uq F a n 0 b h;subst e;exact uk a b 0 #[] d (by simpa using c)
def fX (F:aa)(size:Nat):Value->Option (List Value)
 | .slice (some a) n _=>F.dr a 0 (n*size)
 | .slice none 0 _=>some []
 |_=>none
theorem uC {Q:Array Value->aa->Prop}{F:aa}{size n:Nat}{ad:Option Addr}{c:Nat}{b:List Value}(h:fX F size (.slice ad n c)=some b)(d:Q b.toArray F):aU P (Builtin.firstCells size n (.slice ad n c)) Q F:=by
 cases ad with
 |none=>
  cases n with
  |zero=>simp only[fX,Option.some.injEq] at h;subst h;exact d
  |succ n=>simp[fX] at h
 |some a=>exact DR a h d
theorem uD {Q:Unit->aa->Prop}{F:aa}(n:Nat)(h:Q () F):aU P (askRoom n) Q F:=by
 unfold askRoom;rw[dm];split
 ·exact ⟨rfl,h⟩
 ·exact h
theorem uE {F:aa}{Q:Value->aa->Prop}{argTypes:Array TypeId}{ty i j e p:TypeId}{size d len cap n c:Nat}{base l:Option Addr}{z:Value}{old new:List Value}
  (q:argTypes[0]?=some i) (r:argTypes[1]?=some j) (he:c7 P i=some e) (hx:c7 P j=some p) (hs:bY P e=some size) (s:zeroOf P e=some z) (hb:bytesOf P e=some d)
  (B:0<d) (u:d<=10000) (v:len+n<=1000000) (hold:fX F size (.slice base len cap)=some old) (m:fX F size (.slice l n c)=some new)
  (f:len+n<=cap->(∃a F',base=some a/\F.jw (a.add (len*size)) 0 new=some F'/\Q (.slice base (len+n) cap) F')\/(base=none/\Q (.slice base (len+n) cap) F))
  (w:cap<len+n->∀k b,len+n<=k->dQ F b->Q (.slice (some ⟨b,0,none⟩) (len+n) k) (F.push b (.cells (old.toArray++new.toArray++Builtin.zeroCells z.cells (k - (len+n))) e))):
  aU P (Builtin.append_ argTypes ty #[.slice base len cap,.slice l n c]) Q F:=by
 have hu:=uB he
 have x:=uB hx
 unfold bytesOf at hb
 obtain ⟨info,hi,rfl⟩:=Option.map_eq_some_iff.1 hb
 simp only[Builtin.append_,q,r,List.getElem?_toArray,List.getElem?_cons_zero,List.getElem?_cons_succ,bq,dy,hu,x,eG,hs,bF,Builtin.lenOf,Bool.false_eq_true,if_false,dm,Bool.not_false,if_true,oR,hi]
 split
 ·rename_i hle
  have f:=f hle
  refine uC m ?_
  rcases f with ⟨a,F',rfl,y,g⟩|⟨rfl,g⟩
  ·simp only[bq]
   refine qI _ _ 0 F F' (by simpa using y) ?_
   exact g
  ·exact g
 ·rename_i C
  have A:=nextslicecap_le (n:=len+n) (c:=cap) (by omega) v
  have e1:¬(((len+n:Nat):Int)>IntKind.i64.max/\(false=true\/info.bytes=0)):=by
   rintro ⟨_,h|h⟩
   ·cases h
   ·omega
  have e2:¬(Builtin.nextslicecap (len+n) cap*info.bytes>2 ^ 48):=by
   have:Builtin.nextslicecap (len+n) cap*info.bytes<=20000000*10000:=Nat.mul_le_mul A u
   omega
  rw[if_neg (by simpa using e1),if_neg e2]
  rw[uj]
  rw[if_neg (by simp[Question.forced])]
  intro t
  have o:len+n<=(Question.appendCap (len+n) cap e).cut t:=Nat.le_add_right _ _
  generalize (Question.appendCap (len+n) cap e).cut t=k at o ⊢
  refine uD _ ?_
  refine uC hold ?_
  refine uC m ?_
  simp only[bq,lN,s,qJ,bF]
  exact fun b hb=>w (by omega) k b o hb
end
theorem uF:∀{pre:List (Nat×Obj)} {b:Nat} {o:Obj},au pre b->lk (pre++[(b,o)]) b=some o
 |[],b,o,_=>by simp[lk]
 |(c,x)::pre,b,o,h=>by
  have a:¬c=b:=fun e=>h.1 e.symm
  simp[lk,a,uF h.2]
def cH (arr:Array Value)(k:Nat):List Value->Array Value
 |[]=>arr
 |v::a=>cH (arr.setIfInBounds k v) (k+1) a
theorem qQ:∀(a:List Value) (arr:Array Value) (k:Nat),(cH arr k a).size=arr.size
 |[],_,_=>rfl
 |v::a,arr,k=>by rw[cH,qQ a];simp
theorem qR:∀(a:List Value) (arr:Array Value) (k:Nat),k+a.length<=arr.size->(cH arr k a).toList=arr.toList.take k++a++arr.toList.drop (k+a.length)
 |[],arr,k,_=>by simp[cH]
 |v::a,arr,k,h=>by
  simp only[List.length_cons] at h
  rw[cH,qR a _ _ (by simp;omega)]
  have b:k<arr.toList.length:=by simp;omega
  rw[Array.toList_setIfInBounds]
  have e1:(arr.toList.set k v).take (k+1)=arr.toList.take k++[v]:=by
   rw[List.take_succ_eq_append_getElem (by simpa using b),List.take_set_of_le (Nat.le_refl _)]
   simp
  have e2:(arr.toList.set k v).drop (k+1+a.length)=arr.toList.drop (k+(v::a).length):=by
   rw[List.drop_set_of_lt (by omega)]
   congr 1
   simp;omega
  rw[e1,e2]
  simp
def Gr (ro:Addr->Option Value)(e:TypeId)(size:Nat)(v:Value)(l:List (List Value))(aR:List (Nat×Obj)):Prop:=
 (v= .slice none 0 0/\l=[]/\aR=[])\/
 ∃b arr cap,v= .slice (some ⟨b,0,none⟩) l.length cap/\aR=[(b,.cells arr e)]/\arr.size=cap*size/\l.length<=cap/\arr.toList.take (l.length*size)=l.flatten/\(∀x∈l,x.length=size)/\∀off sp,ro ⟨b,off,sp⟩=none
theorem g8 {size:Nat}:∀{l:List (List Value)},(∀x∈l,x.length=size)->l.flatten.length=l.length*size
 |[],_=>by simp
 |x::l,h=>by
  have ih:l.flatten.length=l.length*size:=g8 (fun y a=>h y (List.mem_cons_of_mem _ a))
  simp only[List.flatten_cons,List.length_append,List.length_cons,h x (by simp),ih,Nat.add_mul,Nat.one_mul]
  omega
theorem zm {ro:Addr->Option Value}{pre:List (Nat×Obj)}{b:Nat}{e:TypeId}{arr:Array Value}(hf:au pre b)(a:∀off sp,ro ⟨b,off,sp⟩=none):∀(n i:Nat),i+n<=arr.size->
  aa.dr ⟨ro,pre++[(b,.cells arr e)]⟩ ⟨b,0,none⟩ i n=some ((arr.toList.drop i).take n)
 |0,i,_=>by simp[aa.dr]
 |n+1,i,h=>by
  have d:(⟨b,0,none⟩:Addr).add i=⟨b,i,none⟩:=by
   unfold Addr.add
   split
   ·rename_i hi;subst hi;rfl
   ·simp
  have c:i<arr.size:=by omega
  unfold aa.dr
  have ih:=zm (e:=e) (arr:=arr) hf a n (i+1) (by omega)
  simp only[aa.get,d,a,if_true,uF hf,Option.bind_some,cellOf,Array.getElem?_eq_getElem c,ih]
  have f:i<arr.toList.length:=by simpa using c
  rw[List.drop_eq_getElem_cons f,List.take_succ_cons]
  simp
theorem Gr.fX {ro:Addr->Option Value}{e:TypeId}{size:Nat}{v:Value}{l:List (List Value)}{aR pre:List (Nat×Obj)}(h:Gr ro e size v l aR)(hf:∀k∈keys aR,au pre k):
  Go.Sep.fX ⟨ro,pre++aR⟩ size v=some l.flatten:=by
 rcases h with ⟨rfl,rfl,rfl⟩|⟨b,arr,cap,rfl,rfl,hs,hl,ht,hx,a⟩
 ·rfl
 ·simp only[Go.Sep.fX]
  have hle:l.length*size<=arr.size:=by rw[hs];exact Nat.mul_le_mul_right _ hl
  rw[zm (hf b (by simp[keys])) a _ _ (by omega)]
  simp[ht]
def oW (P:Program)(t:TypeId)(parts:List (Nat×Value)):Option Value:=
 match zeroOf P t,placesOf P t with
 |some z,some pl=>match Instr.fill (fun i=>pl[i]?) z.cells parts with
  |some cs=>some (.agg cs)
  |none=>none
 |_,_=>none
theorem zn {P:Program}{Q:Array (Nat×Nat)->aa->Prop}{F:aa}:∀(a:List Field) (pl:List (Nat×Nat)) (acc:Array (Nat×Nat)),(a.mapM fun f=>(bY P f.type).map fun s=>(f.offset,s))=some pl->
  Q (acc++pl.toArray) F->aU P (a.foldlM (fun (b:Array (Nat×Nat)) f=>do let s<-sizeOf f.type;pure (b.push (f.offset,s))) acc) Q F
 |[],pl,acc,h,c=>by
  simp at h;subst h
  simpa [bF] using c
 |f::a,pl,acc,h,c=>by
  simp only[List.mapM_cons] at h
  cases hs:bY P f.type with
  |none=>simp[hs] at h
  |some s=>
   cases d:(a.mapM fun f=>(bY P f.type).map fun s=>(f.offset,s)) with
   |none=>simp[hs,d] at h
   |some e=>
    simp[hs,d] at h
    subst h
    simp only[List.foldlM_cons,bq,eG,hs,bF]
    exact zn a e _ d (by simpa using c)
theorem DS {P:Program}{Q:Array (Nat×Nat)->aa->Prop}{F:aa}(a:Array Field)(pl:List (Nat×Nat))(h:(a.toList.mapM fun f=>(bY P f.type).map fun s=>(f.offset,s))=some pl)
  (b:Q pl.toArray F):aU P (a.mapM fun f=>do let s<-sizeOf f.type;pure (f.offset,s)) Q F:=by
 rw[Array.mapM_eq_foldlM,<-Array.foldlM_toList]
 have:=zn (Q:=Q) (F:=F) a.toList pl #[] h (by simpa using b)
 simpa using this
theorem DT {P:Program}{t:TypeId}{parts:Array (Nat×Value)}{w:Value}{Q:Value->aa->Prop}{F:aa}(h:oW P t parts.toList=some w)(b:Q w F):aU P (Instr.build t parts) Q F:=by
 unfold oW at h;split at h
 case h_2=>cases h
 rename_i z pl c a;split at h
 case h_2=>cases h
 rename_i cs d;cases h;unfold placesOf at a;split at a
 case h_2=>cases a
 rename_i e f;simp only[Instr.build,bq,lN,c,dy,f];refine DS e pl a ?_;simp only[List.getElem?_toArray,d,bF];exact b
def qS (P:Program)(t:TypeId)(len:Nat)(parts:List (Nat×Value)):Option (TypeId×Array Value):=
 match c7 P t with
 |some e=>match bY P e,zeroOf P e with
  |some size,some z=>if len*size<=2 ^ 24/\0<len*size then
    match Instr.fill (fun i=>some (i*size,size)) ((Array.range (len*size)).map (z.cells[· % z.cells.size]!)) parts with
    |some cs=>some (e,cs)
    |none=>none
   else if len*size=0/\parts.isEmpty=true then some (e,#[]) else none
  |_,_=>none
 |none=>none
theorem DU {P:Program}{t:TypeId}{len:Nat}{parts:Array (Nat×Value)}{e:TypeId}{cs:Array Value}{Q:Value->aa->Prop}{F:aa}(h:qS P t len parts.toList=some (e,cs))
  (d:∀b,dQ F b->Q (.slice (some ⟨b,0,none⟩) len len) (F.push b (.cells cs e))):aU P (Instr.buildSlice t len parts) Q F:=by
 unfold qS at h
 split at h
 case h_2=>cases h
 rename_i f he
 split at h
 case h_2=>cases h
 rename_i size z hs g
 split at h
 case isFalse=>
  split at h
  case isFalse=>cases h
  rename_i hb
  cases h
  have hu:P.underlying t=some (.slice e):=by
   unfold c7 at he
   split at he
   ·rename_i f a;cases he;exact a
   ·cases he
  have c:¬(len*size>2 ^ 24):=by rw[hb.1];decide
  have i:parts.toList=[]:=List.isEmpty_iff.1 hb.2
  simp only[Instr.buildSlice,bq,dy,hu,eG,hs,dm,if_neg c,if_pos hb.1,bF,i]
  rw[hb.1]
  have e0:Array.range 0=#[]:=rfl
  simp only[e0,Array.map_empty,Instr.fill,bq,qJ,bF]
  exact d
 rename_i hb
 split at h
 case h_2=>cases h
 rename_i cs' j
 cases h
 have hu:P.underlying t=some (.slice e):=by
  unfold c7 at he
  split at he
  ·rename_i f a;cases he;exact a
  ·cases he
 have c:¬(len*size>2 ^ 24):=by omega
 have k:¬(len*size=0):=by omega
 simp only[Instr.buildSlice,bq,dy,hu,eG,hs,dm,if_neg c,if_neg k,lN,g,bF,j,qJ]
 exact d
def oX (P:Program)(t:TypeId)(n:Nat):Value->Option Value
 | .agg cs=>match uo P t n with
  |some (off,s,true)=>some (.agg (cs.extract off (off+s)))
  |some (off,_,false)=>cs[off]?
  |none=>none
 |_=>none
theorem DV {P:Program}{t:TypeId}{n:Nat}{u w:Value}{Q:Value->aa->Prop}{F:aa}(h:oX P t n u=some w)(a:Q w F):aU P (Instr.field t u n) Q F:=by
 cases u<;>simp only[oX,reduceCtorEq] at h;rename_i cs;unfold uo at h;cases hu:P.underlying t with
 |none=>simp[hu] at h
 |some d=>
  cases d<;>simp only[hu,reduceCtorEq] at h;rename_i b;cases hf:b[n]? with
  |none=>simp[hf] at h
  |some f=>
   simp only[hf] at h;cases hs:bY P f.type with
   |none=>simp[hs] at h
   |some s=>
    cases hg:cx P f.type with
    |none=>simp[hs,hg] at h
    |some g=>
     simp only[hs,hg] at h;simp only[Instr.field,bq,dy,hu,hf,DH,part,lO,hg,dm];cases g with
     |true=>simp only[Option.some.injEq] at h;subst h;simpa [eG,hs,bF] using a
     |false=>
      simp only at h;simp only[Bool.false_eq_true,if_false,h];exact a
def qT (n:Nat):Value->Option Value
 | .tuple a=>a[n]?
 |_=>none
def lS (P:Program)(src dst:TypeId):Value->Option Value
 | .int _ n=>match P.underlying src,P.underlying dst with
  |some (.int _),some (.int k)=>some (.int k (k.wrap n))
  |_,_=>none
 |_=>none
theorem DW {P:Program}{src dst:TypeId}{u w:Value}{Q:Value->aa->Prop}{F:aa}(h:lS P src dst u=some w)(a:Q w F):aU P (convert src dst u) Q F:=by
 cases u<;>simp only[lS,reduceCtorEq] at h;rename_i k n;split at h
 ·rename_i k1 d b c;cases h;simp only[convert,bq,dy,b,c,Conv.intToInt,bF];exact a
 ·cases h
def qU (P:Program)(t:TypeId):Value->Option Value
 | .slice _ n _=>match c7 P t with
  |some _=>some (.int .i64 n)
  |none=>none
 |_=>none
def oY (P:Program)(t:TypeId):Value->Value->Option Value
 | .agg cs,.int _ i=>match m6 P t with
  |some (len,e)=>match bY P e,cx P e with
   |some s,some true=>if 0<=i/\i<(len:Int) then some (.agg (cs.extract (i.toNat*s) (i.toNat*s+s))) else none
   |some s,some false=>if 0<=i/\i<(len:Int) then cs[i.toNat*s]? else none
   |_,_=>none
  |none=>none
 | .string s,.int _ i=>match P.underlying t with
  |some .string=>if 0<=i then (s[i.toNat]?).map fun b=>.int .u8 b.toNat else none
  |_=>none
 |_,_=>none
theorem DX {P:Program}{t:TypeId}{u v w:Value}{Q:Value->aa->Prop}{F:aa}(h:oY P t u v=some w)(a:Q w F):aU P (Instr.index t u v) Q F:=by
 unfold oY at h;split at h
 case h_3=>cases h
 case h_2=>
  rename_i s k i;split at h
  case h_2=>cases h
  rename_i hu;split at h
  case isFalse=>cases h
  rename_i hi;obtain ⟨b,hb,rfl⟩:=Option.map_eq_some_iff.1 h;simp only[Instr.index,bq,kM,dy,hu,if_pos hi,hb,bF];exact a
 rename_i cs k i;split at h
 case h_2=>cases h
 rename_i len e he;have hu:P.underlying t=some (.array len e):=by
  unfold m6 at he;split at he
  ·rename_i d f c;cases he;exact c
  ·cases he
 split at h
 ·rename_i s hs hg;split at h
  case isFalse=>cases h
  rename_i hi;cases h;simp only[Instr.index,bq,kM,dy,hu,dm,if_pos hi,eG,hs,part,lO,hg,if_true,bF];exact a
 ·rename_i s hs hg;split at h
  case isFalse=>cases h
  rename_i hi;simp only[Instr.index,bq,kM,dy,hu,dm,if_pos hi,eG,hs,part,lO,hg,Bool.false_eq_true,if_false,h,bF];exact a
 ·cases h
def lT (P:Program)(argTypes:Array TypeId)(s x:Value)(R:Value->aa->Prop)(F:aa):Prop:=
 ∀ty,aU P (Builtin.append_ argTypes ty #[s,x]) (fun v F=>∃F0,Le F0 F/\R v F0) F
def Oper.nc (o:Oper):Bool:=match o.op with| .call {callee:=.builtin .append, ..}=>true|_=>false
def gv (P:Program)(J:Goroutine->aa->Prop)(y:Value)(args:Array Value)(F:aa)(R:Value->aa->Prop):Prop:=
 match y with
 | .func (.func fn) first captured=>aJ P fn=true/\cR P J fn (first++args++captured) F R
 | .func (.yield l) first captured=>first=#[]/\captured=#[]/\∃r,F.eW l=some (.loop r)/\args.size=r.params.size/\js J l r.fn ((r.params.zip args).foldl (fun tmps (t,a)=>tmps.setIfInBounds t a) r.tmps) r.assign r.body F R
 |_=>False
theorem gv.mono {P:Program}{J:Goroutine->aa->Prop}{y:Value}{args:Array Value}{F:aa}{R a:Value->aa->Prop}(h:gv P J y args F R)(b:∀v F',R v F'->a v F'):gv P J y args F a:=by
 unfold gv at h ⊢;split at h
 ·exact ⟨h.1,h.2.mono b⟩
 ·obtain ⟨e1,e2,r,c,d,e⟩:=h;exact ⟨e1,e2,r,c,d,e.mono b⟩
 ·exact h.elim
theorem DY {P:Program}{J:Goroutine->aa->Prop}{fn:FuncId}{first captured args:Array Value}{F:aa}{R:Value->aa->Prop}:gv P J (.func (.func fn) first captured) args F R=(aJ P fn=true/\cR P J fn (first++args++captured) F R):=rfl
def eO (P:Program)(m:Sem Value)(R:Value->aa->Prop)(F:aa):Prop:=aU P m R F
def cI (P:Program)(J:Goroutine->aa->Prop)(o:Oper)(R:Value->aa->Prop)(a:Act)(F:aa):Prop:=
 match o.op with
 | .move x| .assign x=>R (ev a x) F
 | .nilCheck x=>match ev a x with
  | .pointer (some _)=>R (ev a x) F
  |_=>False
 | .pick c x y=>match ev a c with
  | .bool b=>R (if b then ev a x else ev a y) F
  |_=>False
 | .alloc t=>match zeroOf P t with
  |some z=>∀b,dQ F b->R (.pointer (some ⟨b,0,none⟩)) (F.push b (.cells z.cells t))
  |none=>False
 | .box t x=>∀b,dQ F b->R (.pointer (some ⟨b,0,none⟩)) (F.push b (.cells (ev a x).cells t))
 | .build t parts=>match oW P t (parts.map fun (i,x)=>(i,ev a x)).toList with
  |some v=>R v F
  |none=>False
 | .buildSlice t len parts=>match qS P t len (parts.map fun (i,x)=>(i,ev a x)).toList with
  |some (e,cs)=>∀b,dQ F b->R (.slice (some ⟨b,0,none⟩) len len) (F.push b (.cells cs e))
  |none=>False
 | .load t x=>match ev a x with
  | .pointer (some ad)=>match e5 P F t ad with
   |some v=>R v F
   |none=>False
  |_=>False
 | .store t x y=>match ev a x with
  | .pointer (some ad)=>match qL P F t ad (ev a y) with
   |some F'=>R undef F'
   |none=>False
  |_=>False
 | .binOp op t x y _=>match oV P op t (ev a x) (ev a y) with
  |some v=>R v F
  |none=>False
 | .unOp op _ x=>match lQ op (ev a x) with
  |some v=>R v F
  |none=>False
 | .convert src dst x=>match lS P src dst (ev a x) with
  |some v=>R v F
  |none=>False
 | .makeFunc fn first captured=>R (.func fn (first.map (ev a)) (captured.map (ev a))) F
 | .slice t x lo hi none=>(match ev a x with| .slice _ len cap=>len<=cap|_=>False)/\match m8 P t (ev a x) (lo.map (ev a)) (hi.map (ev a)) with
  |some v=>R v F
  |none=>False
 | .fieldAddr s x n=>match ev a x with
  | .pointer (some ad)=>match cN P s n with
   |some k=>R (.pointer (some (ad.add k))) F
   |none=>False
  |_=>False
 | .field s x n=>match oX P s n (ev a x) with
  |some v=>R v F
  |none=>False
 | .indexAddr t x i=>match oS P t (ev a x) (ev a i) with
  |some v=>R v F
  |none=>False
 | .index t x i=>match oY P t (ev a x) (ev a i) with
  |some v=>R v F
  |none=>False
 | .extract x n=>match qT n (ev a x) with
  |some v=>R v F
  |none=>False
 | .call {callee:=.value x,args, ..}=>gv P J (ev a x) (args.map (ev a)) F R
 | .call {callee:=.builtin .len,args,argTypes}=>match argTypes[0]?,args[0]? with
  |some t,some x=>match qU P t (ev a x) with
   |some v=>R v F
   |none=>eO P (Builtin.len_ argTypes o.type (args.map (ev a))) R F
  |_,_=>False
 | .makeMap t r=>eO P (Instr.makeMap t (r.map (ev a))) R F
 | .makeSlice t l c=>eO P (Instr.makeSlice t (ev a l) (ev a c)) R F
 | .mapUpdate t m k x=>eO P (Instr.mapUpdate t (ev a m) (ev a k) (ev a x)>>= fun _=>pure undef) R F
 | .call {callee:=.builtin .clear,args,argTypes}=>eO P (Builtin.clear_ argTypes o.type (args.map (ev a))) R F
 | .call {callee:=.builtin .cap,args,argTypes}=>eO P (Builtin.cap_ argTypes o.type (args.map (ev a))) R F
 | .call {callee:=.builtin .copy,args,argTypes}=>eO P (Builtin.copy_ argTypes o.type (args.map (ev a))) R F
 | .call {callee:=.builtin .append,args,argTypes}=>match args.toList with
  |[x,y]=>lT P argTypes (ev a x) (ev a y) R F
  |_=>False
 | .call {callee:=.builtin .max,args, ..}=>match args.toList with
  |[x,y]=>match qM (ev a x) (ev a y) with
   |some v=>R v F
   |none=>False
  |_=>False
 | .call {callee:=.builtin .min,args, ..}=>match args.toList with
  |[x,y]=>match qN (ev a x) (ev a y) with
   |some v=>R v F
   |none=>False
  |_=>False
 |_=>False
theorem ey (a:Act):a.eval=ev a:=rfl
theorem zo {P:Program}{J:Goroutine->aa->Prop}{o:Oper}{R:Value->aa->Prop}{D:Deferred->aa->Prop}{a:Act}{F:aa}(A:Oper.nc o=false)(h:cI P J o R a F):aU P (execOp a.eval o) (fy P J R D) F:=by
 obtain ⟨dst,op,type,pos,after,guard⟩:=o;unfold execOp;simp only[ey];unfold cI at h;simp only at h;cases op<;>simp only at h ⊢
 case move x=>exact h
 case assign x=>exact h
 case nilCheck x=>
  split at h
  ·rename_i ad hx;simp only[hx,bF,fy];rw[hx] at h;exact h
  ·exact h.elim
 case pick c x y=>
  split at h
  ·rename_i b hb;simp only[bq,hb,DG,bF,fy];exact h
  ·exact h.elim
 case alloc t=>
  split at h
  ·rename_i z B;simp only[Instr.alloc,bq,lN,B,zb,bF,fy];exact h
  ·exact h.elim
 case box t x=>
  simp only[Instr.box,bq,zb,bF,fy];exact h
 case build t parts=>
  split at h
  ·rename_i v d;simp only[bq,bF];exact DT d h
  ·exact h.elim
 case buildSlice t len parts=>
  split at h
  ·rename_i e cs d;simp only[bq,bF];exact DU d h
  ·exact h.elim
 case load t x=>
  split at h
  case h_2=>exact h.elim
  rename_i ad p;split at h
  case h_2=>exact h.elim
  rename_i v d;simp only[Instr.loadAt,bq,p,qK,bF];exact zg d h
 case store t x y=>
  split at h
  case h_2=>exact h.elim
  rename_i ad p;split at h
  case h_2=>exact h.elim
  rename_i F' C;simp only[Instr.storeAt,bq,p,qK,bF];exact DJ C h
 case binOp op t x y V=>
  split at h
  case h_2=>exact h.elim
  rename_i v d;rw[iQ];exact DQ d h
 case unOp op t x=>
  split at h
  case h_2=>exact h.elim
  rename_i v d;rw[iQ];exact DL d h
 case convert src dst x=>
  split at h
  case h_2=>exact h.elim
  rename_i v d;rw[iQ];exact DW d h
 case makeFunc fn first captured=>
  simp only[Instr.makeFunc,bq,bF,fy];exact h
 case slice t x lo hi E=>
  cases E with
  |some m=>exact h.elim
  |none=>
   simp only at h;obtain ⟨q,h⟩:=h;split at h
   case h_2=>exact h.elim
   rename_i v d;rw[iQ];exact DO (fun ad len cap e=>by rw[e] at q;exact q) d h
 case fieldAddr s x n=>
  split at h
  case h_2=>exact h.elim
  rename_i ad p;split at h
  case h_2=>exact h.elim
  rename_i k g;unfold cN at g;split at g
  case h_2=>cases g
  rename_i W G;split at g
  case h_2=>cases g
  rename_i f hf;split at g
  case h_2=>cases g
  rename_i m hm;cases g;rw[iQ];simp only[Instr.fieldAt,bq,dy,G,hf,p,qK,fieldPlace,eG,hm];simpa [bF,fy] using h
 case field s x n=>
  split at h
  case h_2=>exact h.elim
  rename_i v d;rw[iQ];exact DV d h
 case indexAddr t x i=>
  split at h
  case h_2=>exact h.elim
  rename_i v d;rw[iQ];exact DN d h
 case index t x i=>
  split at h
  case h_2=>exact h.elim
  rename_i v d;rw[iQ];exact DX d h
 case extract x n=>
  split at h
  case h_2=>exact h.elim
  rename_i v d;rw[iQ];unfold qT at d;split at d
  ·rename_i X H;simp only[H,Instr.extract,d];exact h
  ·cases d
 case makeMap t r=>
  rw[iQ];exact h
 case makeSlice t l c=>
  rw[iQ];exact h
 case mapUpdate t m k x=>
  unfold eO at h;rw[bq] at h;rw[bq];exact h
 case call c=>
  obtain ⟨callee,args,argTypes⟩:=c;cases callee with
  |value x=>
   simp only at h;unfold gv at h;split at h
   case h_3=>exact h.elim
   ·rename_i fn first captured hx
    obtain ⟨j,I⟩:=h;unfold aJ at j;split at j
    case h_2=>cases j
    rename_i f hf;simp only[Bool.not_eq_true',Bool.or_eq_false_iff] at j;simp only[resolve,hx,Deferred.ofValue,bq,bF,invoke,callFunc,jR,hf,j.1,j.2,Bool.false_eq_true,if_false,fy];exact I
   ·rename_i l first captured hx
    obtain ⟨rfl,rfl,r,q,K,L⟩:=h;simp only[resolve,hx,Deferred.ofValue,bq,bF,invoke,Instr.yield,Instr.getLoop,Array.append_empty,Array.empty_append,Array.map_map];refine ⟨_,q,?_⟩;have M:∀{α:Type} (x:α) (Q:α->aa->Prop) (F:aa),aU P (Sem.pure x) Q F=Q x F:=fun _ _ _=>rfl;simp only[bq,M,bF,dm,ne_eq,K,not_true_eq_false,if_false,fy];exact L
  |invoke r m=>exact h.elim
  |builtin b=>
   cases b<;>simp only at h
   case append=>simp[Oper.nc] at A
   case clear=>
    simp only[resolve,bq,bF,invoke,builtin];exact h
   case cap=>
    simp only[resolve,bq,bF,invoke,builtin];exact h
   case copy=>
    simp only[resolve,bq,bF,invoke,builtin];exact h
   case len=>
    split at h
    case h_2=>exact h.elim
    rename_i t x ht hx;split at h
    case h_2=>
     simp only[resolve,bq,bF,invoke,builtin];exact h
    rename_i v d;unfold qU at d;split at d
    case h_2=>cases d
    rename_i ad n cap N;split at d
    case h_2=>cases d
    rename_i e O;have he:=uB O;cases d;have S:(args.map (ev a))[0]?=some (.slice ad n cap):=by simp[hx,N]
    simp only[resolve,bq,bF,invoke,builtin,Builtin.len_,ht,S,dy,he];exact h
   case max=>
    split at h
    case h_2=>exact h.elim
    rename_i x y u;split at h
    case h_2=>exact h.elim
    rename_i v d;unfold qM at d;split at d
    case h_2=>cases d
    rename_i k T U y' hx w;cases d;simp only[resolve,bq,bF,invoke,builtin,Builtin.max_,Array.toList_map,u,List.map_cons,List.map_nil,List.foldlM_cons,List.foldlM_nil,hx,w,Builtin.max2,fy];exact h
   case min=>
    split at h
    case h_2=>exact h.elim
    rename_i x y u;split at h
    case h_2=>exact h.elim
    rename_i v d;unfold qN at d;split at d
    case h_2=>cases d
    rename_i k T U y' hx w;cases d;simp only[resolve,bq,bF,invoke,builtin,Builtin.min_,Array.toList_map,u,List.map_cons,List.map_nil,List.foldlM_cons,List.foldlM_nil,hx,w,Builtin.min2,fy];exact h
theorem kN {P:Program}{J:Goroutine->aa->Prop}{o:Oper}{R:Value->aa->Prop}{D:Deferred->aa->Prop}{a:Act}{F:aa}(h:cI P J o R a F):aU P (execOp a.eval o) (jP P J R D) F:=
by
 cases b:Oper.nc o with
 |false=>exact gL Dp _ _ (zo b h)
 |true=>
  obtain ⟨dst,op,type,pos,after,guard⟩:=o
  unfold Oper.nc at b
  split at b
  ·rename_i callee args argTypes c
   simp only at c
   subst c
   unfold cI at h
   simp only at h
   split at h
   case h_2=>exact h.elim
   rename_i x y d
   have e:args=#[x,y]:=by rw[<-Array.toList_inj];simpa using d
   subst e
   unfold execOp
   simp only[ey,resolve,bq,bF,invoke,builtin]
   have:=h type
   simpa [jP,fy,bq,bF] using this
  ·cases b
def cz (ops:Array Oper)(o:Oper)(a:Act):Option Bool:=
 match o.guard with
 |none=>some true
 |some (j,want)=>match (ops[j]?).bind (·.dst) with
  |some d=>match slot a d with
   | .bool b=>some (b==want)
   | .tuple _=>some false
   |_=>none
  |none=>none
theorem cg {ops:Array Oper}{o:Oper}{a:Act}{t:Bool}(h:cz ops o a=some t):Region.wanted o (yielded ops a.tmps)=t:=by
 unfold cz at h;unfold Region.wanted;split at h
 ·rename_i hg;rw[hg];cases h;rfl
 ·rename_i j want hg;rw[hg];split at h
  ·rename_i d hd;split at h
   ·rename_i b hb;cases h;have ht:a.tmps[d]?=some (.bool b):=by
     unfold slot at hb;rw[Array.getD_eq_getD_getElem?] at hb;cases hx:a.tmps[d]? with
     |none=>rw[hx] at hb;simp[undef] at hb
     |some v=>rw[hx] at hb;simpa using hb
    simp only[yielded,hd,Option.bind_some,ht];cases b<;>cases want<;>rfl
   ·rename_i b hb;cases h;simp only[yielded,hd,Option.bind_some];unfold slot at hb;rw[Array.getD_eq_getD_getElem?] at hb;cases hx:a.tmps[d]? with
    |none=>rfl
    |some v=>
     rw[hx] at hb;simp at hb;subst hb;rfl
   ·cases h
  ·cases h
def Oper.calls (o:Oper):Bool:=match o.op with| .call {callee:=.value _, ..}=>true| .call {callee:=.builtin .append, ..}=>true| .call {callee:=.builtin .clear, ..}=>true| .call {callee:=.builtin .cap, ..}=>true| .call {callee:=.builtin .copy, ..}=>true| .makeMap ..=>true| .makeSlice ..=>true| .mapUpdate ..=>true|_=>false
def e6 (P:Program)(J:Goroutine->aa->Prop)(ops:Array Oper)(K:Act->aa->Prop):List Oper->Bool->Act->aa->Prop
 |[],_,a,F=>K a F
 |o::rest,_,a,F=>match cz ops o a with
  |some true=>cI P J o (fun v F'=>e6 P J ops K rest (!Oper.calls o) (bf a o.dst v) F') a F
  |some false=>e6 P J ops K rest true (bf a o.dst undef) F
  |none=>False
theorem zp {P:Program}{J:Goroutine->aa->Prop}{ops:Array Oper}{K:Act->aa->Prop}{go:Bool}{a:Act}{F:aa}:e6 P J ops K [] go a F=K a F:=rfl
theorem zq {P:Program}{J:Goroutine->aa->Prop}{ops:Array Oper}{K:Act->aa->Prop}{o:Oper}{rest:List Oper}{a:Act}{F:aa}:e6 P J ops K (o::rest) true a F=match cz ops o a with
  |some true=>cI P J o (fun v F'=>e6 P J ops K rest (!Oper.calls o) (bf a o.dst v) F') a F
  |some false=>e6 P J ops K rest true (bf a o.dst undef) F
  |none=>False:=(Eq.refl _).trans (Eq.refl _)
theorem aK {P:Program}{J:Goroutine->aa->Prop}{ops:Array Oper}{K:Act->aa->Prop}:∀{l:List Oper} {go:Bool} {a:Act} {F:aa},e6 P J ops K l true a F->e6 P J ops K l go a F
 |[],_,_,_,h=>h
 |_::_,_,_,_,h=>h
theorem uG {P:Program}{J:Goroutine->aa->Prop}{ops:Array Oper}{K:Act->aa->Prop}:∀(l:List Oper) (k:Nat) (go:Bool) (a:Act) (F:aa),ops.toList.drop k=l->e6 P J ops K l go a F->
  fK P J ops K (List.range' k l.length) a F
 |[],k,_,a,F,_,h=>h
 |o::rest,k,_,a,F,hl,h=>by
  have c:ops[k]?=some o:=by
   have:=congrArg List.head? hl
   simpa [List.head?_drop] using this
  have b:ops.toList.drop (k+1)=rest:=by
   have:=congrArg List.tail hl
   simpa [List.tail_drop] using this
  simp only[List.length_cons,List.range'_succ]
  show dJ P J ops k (fK P J ops K (List.range' (k+1) rest.length)) a F
  unfold dJ
  simp only[c]
  unfold e6 at h
  split at h
  ·rename_i hg
   rw[if_pos (cg hg)]
   exact gL (oN (fun v F' d=>uG rest (k+1) _ _ F' b d) (fun _ _ x=>x)) _ _ (kN h)
  ·rename_i hg
   rw[if_neg (by rw[cg hg];simp)]
   exact uG rest (k+1) _ _ F b h
  ·exact h.elim
theorem aj {P:Program}{main:Bool}{J:Goroutine->aa->Prop}{Q:Ex->Act->aa->Prop}{a:Act}{F:aa}(hJ:Closed P main J){id:Nat}{ops:Array Oper}(h:e6 P J ops (Q .normal) ops.toList true a F):Wp J (.region id ops false) Q a F:=by
 refine Dw hJ ?_;have:=uG ops.toList 0 true a F (by simp) h;simpa [List.range_eq_range'] using this
theorem ah {P:Program}{main:Bool}{J:Goroutine->aa->Prop}{Q:Ex->Act->aa->Prop}{a:Act}{F:aa}(hJ:Closed P main J){id:Nat}{ops:Array Oper}{y:Code}(h:e6 P J ops (tV J y Q .normal) ops.toList true a F):Wp J (.seq (.region id ops false) y) Q a F:=af hJ (aj hJ h)
attribute [irreducible] e6
theorem ng {P:Program}{J:Goroutine->aa->Prop}{ops:Array Oper}{Q:Act->aa->Prop}{S:aa->Prop}(i:Nat){b:Oper}(v:Value){fuel:Nat}{listed:Array Bool}{a:Act}{F:aa}(hi:ops[i]?=some b)
  (hf:(Region.noSelect ops&&Region.free .any ops listed i&&(Region.ready .any ops listed).contains i)=true)
  (hg:cz ops b a=some true) (d:∀F R,S F->R v F->cI P J b R a F) (c:S F)
  (h:dK P J ops Q S fuel (listed.setIfInBounds i true) (bf a b.dst v) F):dK P J ops Q S (fuel+1) listed a F:=
 yX i v hi hf (.inl ⟨cg hg,fun F R c e=>kN (d F R c e)⟩) c h
theorem zu {P:Program}{J:Goroutine->aa->Prop}{ops:Array Oper}{Q:Act->aa->Prop}{S:aa->Prop}(i:Nat){b:Oper}{fuel:Nat}{listed:Array Bool}{a:Act}{F:aa}(hi:ops[i]?=some b)
  (hf:(Region.noSelect ops&&Region.free .any ops listed i&&(Region.ready .any ops listed).contains i)=true)
  (hg:cz ops b a=some false) (c:S F)
  (h:dK P J ops Q S fuel (listed.setIfInBounds i true) (bf a b.dst undef) F):dK P J ops Q S (fuel+1) listed a F:=
 yX i undef hi hf (.inr ⟨cg hg,rfl⟩) c h
theorem zv {P:Program}{J:Goroutine->aa->Prop}{ops:Array Oper}{Q:Act->aa->Prop}{S:aa->Prop}(i:Nat){b:Oper}{fuel:Nat}{listed:Array Bool}{a:Act}{F:aa}(hi:ops[i]?=some b)
  (c:Region.ready .any ops listed=[i]) (hg:cz ops b a=some true)
  (h:cI P J b (fun v F'=>S F'/\dK P J ops Q S fuel (listed.setIfInBounds i true) (bf a b.dst v) F') a F):dK P J ops Q S (fuel+1) listed a F:=by
 refine Dt i c ?_
 unfold dJ
 simp only[hi]
 rw[if_pos (cg hg)]
 exact kN h
attribute [go_sem] List.isEmpty_nil List.isEmpty_cons undef zp zq Oper.calls Bool.not_true Bool.not_false cz cI aa.push aa.get aa.put lk iO cellOf e5 qL aa.dr aa.jw aa.lI bG frozenAt oV lR oU Option.isNone_none Option.isNone_some gu iR m7 lQ qM qN oS oY m8 oX qT lS qU oW qS
theorem add_zero' (a:Addr):a.add 0=a:=rfl
theorem kO (a:Addr)(m n:Nat):(a.add m).add n=a.add (m+n):=by
 unfold Addr.add;by_cases hm:m=0
 ·subst hm;simp
 ·by_cases b:n=0
  ·subst b;simp[hm]
  ·have:¬m+n=0:=by omega
   simp[hm,b,this,Nat.add_assoc]
theorem kP (b o n:Nat):(⟨b,o,none⟩:Addr).add n=⟨b,o+n,none⟩:=by
 unfold Addr.add;by_cases a:n=0
 ·subst a;simp
 ·simp[a]
attribute [go_sem] add_zero' kO kP Nat.add_assoc Int.reduceLE Int.reduceLT Int.reduceToNat Int.toNat_zero Int.le_refl
attribute [go_sem] Value.cells Instr.fill qF g7 tY tV DY
attribute [go_sem] and_true true_and Array.getD_eq_getD_getElem? List.getElem?_toArray List.getElem?_cons_zero List.getElem?_cons_succ List.getElem?_nil Option.getD_some Option.getD_none Option.bind_some Option.bind_none Option.map_some Option.map_none
attribute [go_sem] Nat.reduceLT Nat.reduceEqDiff Nat.reduceAdd Nat.reduceMul Nat.reduceSub if_true if_false reduceIte reduceCtorEq List.setIfInBounds_toArray List.set_cons_zero List.set_cons_succ
attribute [go_sem] List.map_toArray List.map_cons List.map_nil List.append_toArray List.cons_append List.nil_append List.append_nil Array.append_empty Array.empty_append List.toList_toArray List.length_cons List.length_nil List.size_toArray ne_eq not_true_eq_false not_false_eq_true forall_const
theorem eE {ro:Addr->Option Value}{own:List (Nat×Obj)}{b:Nat}(h:dQ ⟨ro,own⟩ b):∀off sp,ro ⟨b,off,sp⟩=none:=h.ro
theorem fC {ro:Addr->Option Value}{own:List (Nat×Obj)}{b:Nat}(h:dQ ⟨ro,own⟩ b):au own b:=h.own
def oZ (P:Program)(F:aa)(a:Act):ResultVar->Option Value
 | .tmp t=>some (slot a t)
 | .cell ad t=>match slot a ad with
  | .pointer (some p)=>e5 P F t p
  |_=>none
def lU (P:Program)(F:aa)(a:Act):List ResultVar->Option (List Value)
 |[]=>some []
 |r::rs=>match oZ P F a r with
  |some v=>match lU P F a rs with
   |some b=>some (v::b)
   |none=>none
  |none=>none
def lV (P:Program)(F:aa)(a:Act)(rs:List ResultVar):Option Value:=
 match lU P F a rs with
 |some [v]=>some v
 |some b=>some (.tuple b.toArray)
 |none=>none
attribute [go_sem] oZ lU lV
theorem uH {P:Program}{F:aa}{a:Act}{Q:Array Value->aa->Prop}:∀(rs:List ResultVar) (d:List Value) (acc:Array Value),lU P F a rs=some d->Q (acc++d.toArray) F->
  aU P (rs.foldlM (fun (b:Array Value) r=>do let x<-(match r with| .tmp t=>pure (a.tmps.getD t undef)| .cell ad t=>do loadVar t (<-asAddr (a.tmps.getD ad undef)):Sem Value);pure (b.push x)) acc) Q F
 |[],d,acc,h,e=>by
  simp only[lU,Option.some.injEq] at h;subst h
  simpa [bF] using e
 |r::rs,d,acc,h,e=>by
  unfold lU at h
  split at h
  case h_2=>cases h
  rename_i v c
  split at h
  case h_2=>cases h
  rename_i ws i
  cases h
  have f:=uH rs ws (acc.push v) i (Q:=Q) (by simpa using e)
  simp only[List.foldlM_cons,bq]
  cases r with
  |tmp t=>
   simp only[oZ,Option.some.injEq,slot] at c
   subst c
   simpa only[bF] using f
  |cell ad t=>
   simp only[oZ] at c
   split at c
   ·rename_i p g
    unfold slot at g
    simp only[bq,g,asAddr,bF]
    exact zg c f
   ·cases c
theorem qV {P:Program}{fn:Func}{rs:List ResultVar}{F:aa}{a:Act}{v:Value}{R:Value->aa->Prop}(c:fn.results=rs.toArray)(h:lV P F a rs=some v)(b:R v F):aU P (results fn a.tmps) R F:=by
 unfold results;rw[c,bq,Array.mapM_eq_foldlM,<-Array.foldlM_toList];unfold lV at h;split at h
 case h_3=>cases h
 ·rename_i x hx;cases h;exact uH rs [v] #[] hx (by simpa [bF] using b)
 ·rename_i d e hx;cases h;refine uH rs d #[] hx ?_;simp only[Array.empty_append,bF];split
  ·rename_i hs;simp at hs;obtain ⟨v,rfl⟩:=List.length_eq_one_iff.1 hs;exact absurd rfl (e v)
  ·exact b
def g9 (P:Program)(rs:List ResultVar)(R:Value->aa->Prop):Ex->Act->aa->Prop
 | .exit _,_,_=>False
 |_,a,F=>a.defers=[]/\match lV P F a rs with|some v=>R v F|none=>False
attribute [go_sem] g9
theorem aC.go {P:Program}{f:FuncId}{fn:Func}{c:Code}{n:Nat}{rs:List ResultVar}{args:Array Value}{F:aa}{R:Value->aa->Prop}(hf:P.funcs[f]?=some fn)(hb:fn.body=some c)(g:fn.ntmps=n)(j:fn.results=rs.toArray)(k:args.size<=n)
  (h:∀main J,Closed P main J->∀A:Act,sz A=n->A.defers=[]->(∀i,slot A i=args.getD i undef)->Wp J c (g9 P rs R) A F):aC P f args F R:=
 aC.start hf hb g k fun main J hJ A l m o=>(h main J hJ A l m o).mono fun e a F d=>by
  cases e with
  |exit i=>exact d
  |_=>
   obtain ⟨hd,b⟩:=d
   split at b
   ·rename_i v p
    show g7 P a.defers _ F
    rw[hd]
    exact qV j p b
   ·exact b.elim
def cT (n m:Nat):Array Bool:=(Array.range n).map fun i=>decide (i<m)
def o3 (ops:Array Oper)(m:Nat):Bool:=
 Region.noSelect ops&&decide (m<=ops.size)&&((List.range m).all fun i=>Region.free .any ops (cT ops.size i) i&&(Region.ready .any ops (cT ops.size i)).contains i)&&
 ((List.range (ops.size - m)).all fun j=>decide (Region.ready .any ops (cT ops.size (m+j))=[m+j]))&&decide (Region.ready .any ops (cT ops.size ops.size)=[])
def DZ (D:List Nat)(L:List (List Nat))(x y:Nat):Bool:=RegionTabs.apart ⟨#[],D.toArray,L.toArray⟩ x y
def uI (A:List (List Nat))(D:List Nat)(L:List (List Nat))(n m:Nat):Bool:=
 decide (m<=n)&&((List.range m).all fun k=>(A.getD k []).all (fun x=>decide (x<k))&&(List.range n).all fun j=>decide (j<=k)||(A.getD j []).contains k||DZ D L k j)&&
 ((List.range (n - m)).all fun t=>(A.getD (m+t) []).all (fun x=>decide (x<m+t))&&(List.range (n - (m+t+1))).all fun u=>!(A.getD (m+t+1+u) []).all (fun x=>decide (x<m+t)))
section
variable {ops : Array Oper}
theorem zw {n k i:Nat}(h:i<n):(cT n k).getD i true=decide (i<k):=by
 simp[cT,Array.getD_eq_getD_getElem?,h]
theorem D1 {n k i:Nat}(a:k<=n):(cT n k).getD i false=decide (i<k):=by
 rcases Nat.lt_or_ge i n with h|h
 ·simp[cT,Array.getD_eq_getD_getElem?,h]
 ·have:¬i<k:=by omega
  simp[cT,Array.getD_eq_getD_getElem?,Array.getElem?_eq_none,h,this]
theorem uJ {A:List (List Nat)}{k:Nat}(hA:Region.tabAfter .any ops=A)(a:k<=ops.size):
  Region.ready .any ops (cT ops.size k)=(List.range ops.size).filter fun i=>!decide (i<k)&&(A.getD i []).all fun x=>decide (x<k):=by
 have hlen:A.length=ops.size:=by rw[<-hA];simp[Region.tabAfter]
 rw[<-RegionTabs.ready_eq]
 unfold RegionTabs.ready RegionTabs.of
 simp only[hA,List.size_toArray,hlen]
 apply List.filter_congr
 intro i hi
 have b:i<ops.size:=List.mem_range.1 hi
 rw[zw b]
 congr 1
 rw[List.getElem?_toArray,List.getD_eq_getElem?_getD,List.getElem?_eq_getElem (by omega)]
 simp only[Option.map_some,Option.getD_some]
 congr 1
 funext x
 exact D1 a
theorem filter_one {k:Nat}{p:Nat->Bool}(b:p k=true):∀(n:Nat),k<n->(∀i,i<n->i≠k->p i=false)->(List.range n).filter p=[k]
 |0,c,_=>by omega
 |n+1,c,a=>by
  rw[List.range_succ,List.filter_append]
  by_cases e:k=n
  ·subst e
   have:(List.range k).filter p=[]:=by
    rw[List.filter_eq_nil_iff]
    intro i hi
    have d:=List.mem_range.1 hi
    rw[a i (by omega) (by omega)];simp
   rw[this];simp[b]
  ·rw[filter_one b n (by omega) fun i hi=>a i (by omega)]
   simp[a n (by omega) (fun x=>e x.symm)]
theorem D2 {m n:Nat}(A:List (List Nat))(D:List Nat)(L:List (List Nat))(hs:Region.noSelect ops=true)(d:ops.size=n)(hA:Region.tabAfter .any ops=A)(f:Region.tabDst ops=D)(g:Region.tabLooks ops=L)(h:uI A D L n m=true):o3 ops m=true:=by
 subst d;have hlen:A.length=ops.size:=by rw[<-hA];simp[Region.tabAfter]
 simp only[uI,Bool.and_eq_true,decide_eq_true_eq,List.all_eq_true,List.mem_range] at h;obtain ⟨⟨hm,b⟩,c⟩:=h;simp only[o3,Bool.and_eq_true,decide_eq_true_eq,List.all_eq_true,List.mem_range];refine ⟨⟨⟨⟨hs,hm⟩,fun i hi=>⟨?_,?_⟩⟩,fun j a=>?_⟩,?_⟩
 ·rw[<-RegionTabs.free_eq];unfold RegionTabs.free;have e1:(RegionTabs.of .any ops).after=A.toArray:=by simp[RegionTabs.of,hA]
  rw[e1,List.size_toArray,hlen];simp only[Bool.and_eq_true,decide_eq_true_eq,List.all_eq_true,List.mem_range];refine ⟨by omega,fun j a=>?_⟩;have:=(b i hi).2 j a;simp only[Bool.or_eq_true,decide_eq_true_eq] at this;simp only[Bool.or_eq_true];rcases this with (hle|k)|l
  ·rcases Nat.lt_or_eq_of_le hle with x|x
   ·left;left;right;rw[zw (by omega)];simpa using x
   ·left;left;left;simpa using x
  ·left;right;simpa [Array.getD_eq_getD_getElem?,List.getD_eq_getElem?_getD] using k
  ·right;have e:RegionTabs.of .any ops=⟨A.toArray,D.toArray,L.toArray⟩:=by simp[RegionTabs.of,hA,f,g]
   rw[e];exact l
 ·rw[uJ hA (by omega)];rw[List.contains_iff_mem,List.mem_filter];refine ⟨List.mem_range.2 (by omega),?_⟩;have:=(b i hi).1;simpa [List.all_eq_true] using this
 ·have o:m+j<ops.size:=by omega
  rw[uJ hA (by omega)];refine filter_one ?_ _ o fun i hi aG=>?_
  ·have:=(c j a).1;simpa [List.all_eq_true] using this
  ·rcases Nat.lt_or_ge i (m+j) with x|x
   ·simp[x]
   ·have:=(c j a).2 (i - (m+j+1)) (by omega);rw[show m+j+1+(i - (m+j+1))=i by omega] at this;simp only[Bool.not_eq_true'] at this;simp only[this,Bool.and_false]
 ·rw[uJ hA (Nat.le_refl _)];rw[List.filter_eq_nil_iff];intro i hi;have:=List.mem_range.1 hi;simp[this]
def uK (n:Nat)(k:Nat->Bool):Bool:=Nat.casesOn n (k 0) fun m=>k (m+1)
def o5:List Nat->(List Nat->Bool)->Bool
 |[],k=>k []
 |x::xs,k=>uK x fun y=>o5 xs fun ys=>k (y::ys)
def o6:List (List Nat)->(List (List Nat)->Bool)->Bool
 |[],k=>k []
 |x::xs,k=>o5 x fun y=>o6 xs fun ys=>k (y::ys)
theorem zx (n:Nat)(k:Nat->Bool):uK n k=k n:=by cases n<;>rfl
theorem uL:∀(l:List Nat) (k:List Nat->Bool),o5 l k=k l
 |[],_=>rfl
 |x::xs,k=>by rw[o5,zx,uL xs]
theorem zy:∀(l:List (List Nat)) (k:List (List Nat)->Bool),o6 l k=k l
 |[],_=>rfl
 |x::xs,k=>by rw[o6,uL,zy xs]
def nh (ops:Array Oper)(m:Nat):Bool:=Region.noSelect ops&&o6 (Region.tabAfter .any ops) fun A=>o5 (Region.tabDst ops) fun D=>o6 (Region.tabLooks ops) fun L=>uK ops.size fun n=>uI A D L n m
theorem zz {m:Nat}(h:nh ops m=true):o3 ops m=true:=by
 simp only[nh,Bool.and_eq_true,zy,uL,zx] at h;exact D2 _ _ _ h.1 rfl rfl rfl rfl h.2
end
def iS:List (Nat×Obj)->List (Nat×Obj)->Prop
 |[],_=>True
 |(b,o)::l,own=>lk own b=some o/\iS l own
def Knows (F0 F:aa):Prop:=(∀a v,F0.ro a=some v->F.ro a=some v)/\(∀a,a.block∈keys F0.own->F0.ro a=none->F.ro a=none)/\iS F0.own F.own
theorem iS.lk:∀{l own:List (Nat×Obj)} {b:Nat} {o:Obj},iS l own->lk l b=some o->Go.Sep.lk own b=some o
 |[],_,_,_,_,h=>by cases h
 |(c,x)::l,own,b,o,a,h=>by
  unfold Go.Sep.lk at h
  split at h
  ·rename_i e;cases h;exact e▸a.1
  ·exact iS.lk a.2 h
theorem Knows.get {F0 F:aa}(h:Knows F0 F){a:Addr}{v:Value}(hg:F0.get a=some v):F.get a=some v:=by
 unfold aa.get at hg ⊢;cases b:F0.ro a with
 |some x=>rw[b] at hg;rw[h.1 a x b];exact hg
 |none=>
  rw[b] at hg;simp only at hg;split at hg
  ·rename_i hs;obtain ⟨o,c,d⟩:=Option.bind_eq_some_iff.1 hg;rw[h.2.1 a (eN (gI c)) b];simp only;rw[if_pos hs,h.2.2.lk c];exact d
  ·cases hg
theorem D3 {ro:Addr->Option Value}{l own:List (Nat×Obj)}:Knows ⟨ro,l⟩ ⟨ro,own⟩=iS l own:=
 propext ⟨fun h=>h.2.2,fun h=>⟨fun _ _ x=>x,fun _ _ x=>x,h⟩⟩
theorem D4 {ro aN:Addr->Option Value}{l own:List (Nat×Obj)}(hx:∀a v,ro a=some v->aN a=some v)(c:∀b∈keys l,∀off sp,aN ⟨b,off,sp⟩=none)(h:iS l own):Knows ⟨ro,l⟩ ⟨aN,own⟩:=
 ⟨hx,fun a d _=>c a.block d a.off a.spot,h⟩
theorem Knows.lP {F0 F:aa}(h:Knows F0 F){a:Addr}:∀{n i:Nat} {b:List Value},F0.dr a i n=some b->F.dr a i n=some b
 |0,_,_,hg=>hg
 |n+1,i,b,hg=>by
  unfold aa.dr at hg ⊢
  split at hg
  case h_2=>cases hg
  rename_i v c
  split at hg
  case h_2=>cases hg
  rename_i ws d
  rw[h.get c,h.lP d]
  exact hg
theorem Knows.e5 {P:Program}{F0 F:aa}(h:Knows F0 F){t:TypeId}{ad:Addr}{v:Value}(hg:e5 P F0 t ad=some v):Go.Sep.e5 P F t ad=some v:=by
 unfold Go.Sep.e5 at hg ⊢;split at hg
 ·exact h.get hg
 ·split at hg
  case h_2=>cases hg
  rename_i n b;split at hg
  case h_2=>cases hg
  rename_i c a;rw[h.lP a];exact hg
 ·cases hg
def iT (P:Program)(o:Oper)(a:Act):Option Value:=
 match o.op with
 | .move x| .assign x=>some (ev a x)
 | .nilCheck x=>match ev a x with
  | .pointer (some ad)=>some (.pointer (some ad))
  |_=>none
 | .pick c x y=>match ev a c with
  | .bool b=>some (if b then ev a x else ev a y)
  |_=>none
 | .build t parts=>oW P t (parts.map fun (i,x)=>(i,ev a x)).toList
 | .binOp op t x y _=>oV P op t (ev a x) (ev a y)
 | .unOp op _ x=>lQ op (ev a x)
 | .convert src dst x=>lS P src dst (ev a x)
 | .makeFunc fn first captured=>some (.func fn (first.map (ev a)) (captured.map (ev a)))
 | .slice t x lo hi none=>match ev a x with
  | .slice ad len cap=>if len<=cap then m8 P t (.slice ad len cap) (lo.map (ev a)) (hi.map (ev a)) else none
  |_=>none
 | .fieldAddr s x n=>match ev a x with
  | .pointer (some ad)=>match cN P s n with
   |some k=>some (.pointer (some (ad.add k)))
   |none=>none
  |_=>none
 | .field s x n=>oX P s n (ev a x)
 | .indexAddr t x i=>oS P t (ev a x) (ev a i)
 | .index t x i=>oY P t (ev a x) (ev a i)
 | .extract x n=>qT n (ev a x)
 | .call {callee:=.builtin .len,args,argTypes}=>match argTypes[0]?,args[0]? with
  |some t,some x=>qU P t (ev a x)
  |_,_=>none
 | .call {callee:=.builtin .max,args, ..}=>match args.toList with
  |[x,y]=>qM (ev a x) (ev a y)
  |_=>none
 | .call {callee:=.builtin .min,args, ..}=>match args.toList with
  |[x,y]=>qN (ev a x) (ev a y)
  |_=>none
 |_=>none
theorem qW {P:Program}{J:Goroutine->aa->Prop}{o:Oper}{a:Act}{v:Value}{R:Value->aa->Prop}{F:aa}(h:iT P o a=some v)(d:R v F):cI P J o R a F:=by
 obtain ⟨dst,op,type,pos,after,guard⟩:=o;unfold iT at h;unfold cI;cases op<;>simp only[reduceCtorEq] at h ⊢
 case move x=>cases h;exact d
 case assign x=>cases h;exact d
 case nilCheck x=>
  split at h
  ·rename_i ad hx;cases h;rw[hx];exact d
  ·cases h
 case pick c x y=>
  split at h
  ·rename_i b hb;cases h;try rw[hb]
   exact d
  ·cases h
 case build t parts=>rw[h];exact d
 case binOp=>rw[h];exact d
 case unOp=>rw[h];exact d
 case convert=>rw[h];exact d
 case makeFunc=>cases h;exact d
 case slice t x lo hi f=>
  cases f with
  |some m=>cases h
  |none=>
   simp only at h ⊢;split at h
   case h_2=>cases h
   rename_i ad len cap hx;split at h
   case isFalse=>cases h
   rename_i g;rw[hx];exact ⟨g,by rw[h];exact d⟩
 case fieldAddr s x n=>
  split at h
  case h_2=>cases h
  rename_i ad hx;split at h
  case h_2=>cases h
  rename_i k i;cases h;try rw[hx]
  try simp only[i]
  exact d
 case field=>rw[h];exact d
 case indexAddr=>rw[h];exact d
 case index=>rw[h];exact d
 case extract=>rw[h];exact d
 case call c=>
  obtain ⟨callee,args,argTypes⟩:=c;cases callee with
  |value x=>cases h
  |invoke r m=>cases h
  |builtin b=>
   cases b<;>simp only[reduceCtorEq] at h ⊢
   case len=>
    split at h
    case h_2=>cases h
    rename_i t x ht hx;simp only[ht,hx,h];exact d
   case max=>
    split at h
    case h_2=>cases h
    rename_i x y e;simp only[e,h];exact d
   case min=>
    split at h
    case h_2=>cases h
    rename_i x y e;simp only[e,h];exact d
def Plain (P:Program)(J:Goroutine->aa->Prop)(F0:aa)(f:FuncId)(args:Array Value)(v:Value):Prop:=
 ∀F,Knows F0 F->cR P J f args F (fun a F'=>a=v/\F'=F)
def dZ (P:Program)(J:Goroutine->aa->Prop)(ops:Array Oper)(F0:aa)(K:Act->Prop):List Oper->Bool->Act->Prop
 |[],_,a=>K a
 |o::rest,_,a=>match cz ops o a with
  |some false=>dZ P J ops F0 K rest true (bf a o.dst undef)
  |some true=>match o.op with
   | .load t x=>match ev a x with
    | .pointer (some ad)=>match e5 P F0 t ad with
     |some v=>dZ P J ops F0 K rest true (bf a o.dst v)
     |none=>False
    |_=>False
   | .call {callee:=.value x,args, ..}=>match ev a x with
    | .func (.func fn) first captured=>aJ P fn=true/\∃v,Plain P J F0 fn (first++args.map (ev a)++captured) v/\dZ P J ops F0 K rest false (bf a o.dst v)
    |_=>False
   |_=>match iT P o a with
    |some v=>dZ P J ops F0 K rest true (bf a o.dst v)
    |none=>False
  |none=>False
theorem D5 {P:Program}{J:Goroutine->aa->Prop}{ops:Array Oper}{F0:aa}{K:Act->Prop}{go:Bool}{a:Act}:dZ P J ops F0 K [] go a=K a:=rfl
theorem D6 {P:Program}{J:Goroutine->aa->Prop}{ops:Array Oper}{F0:aa}{K:Act->Prop}{o:Oper}{rest:List Oper}{a:Act}:dZ P J ops F0 K (o::rest) true a=match cz ops o a with
  |some false=>dZ P J ops F0 K rest true (bf a o.dst undef)
  |some true=>match o.op with
   | .load t x=>match ev a x with
    | .pointer (some ad)=>match e5 P F0 t ad with
     |some v=>dZ P J ops F0 K rest true (bf a o.dst v)
     |none=>False
    |_=>False
   | .call {callee:=.value x,args, ..}=>match ev a x with
    | .func (.func fn) first captured=>aJ P fn=true/\∃v,Plain P J F0 fn (first++args.map (ev a)++captured) v/\dZ P J ops F0 K rest false (bf a o.dst v)
    |_=>False
   |_=>match iT P o a with
    |some v=>dZ P J ops F0 K rest true (bf a o.dst v)
    |none=>False
  |none=>False:=(Eq.refl _).trans (Eq.refl _)
theorem bP {P:Program}{J:Goroutine->aa->Prop}{ops:Array Oper}{F0:aa}{K:Act->Prop}:∀{l:List Oper} {go:Bool} {a:Act},dZ P J ops F0 K l true a->dZ P J ops F0 K l go a
 |[],_,_,h=>h
 |_::_,_,_,h=>h
theorem qX {n m:Nat}(h:m<n):(cT n m).setIfInBounds m true=cT n (m+1):=by
 apply Array.ext
 ·simp[cT]
 ·intro i a b;simp[cT] at a b;rw[Array.getElem_setIfInBounds (by simp[cT];omega)];by_cases e:m=i
  ·subst e;simp[cT]
  ·simp only[if_neg e,cT,Array.getElem_map,Array.getElem_range];rw[decide_eq_decide];omega
theorem zA (n:Nat):cT n 0=Array.replicate n false:=by
 apply Array.ext
 ·simp[cT]
 ·intro i a b;simp[cT]
section
variable {P : Program} {main : Bool} {J : Goroutine → aa → Prop} {ops : Array Oper} {Q : Act → aa → Prop} {F0 : aa}
theorem qY {K:Act->Prop}(m:Nat)(hm:m<=ops.size)(q:Region.noSelect ops=true)(r:∀i,i<m->(Region.free .any ops (cT ops.size i) i&&(Region.ready .any ops (cT ops.size i)).contains i)=true)
  {F:aa} (b:Knows F0 F) (s:∀a,K a->dK P J ops Q (Knows F0) (ops.size - m) (cT ops.size m) a F):
  ∀(l:List Oper) (k:Nat) (go:Bool) (a:Act),(ops.toList.take m).drop k=l->k<=m->dZ P J ops F0 K l go a->dK P J ops Q (Knows F0) (ops.size - k) (cT ops.size k) a F
 |[],k,_,a,hl,z,h=>by
  have:k=m:=by
   have:=congrArg List.length hl
   simp at this
   omega
  subst this
  exact s a h
 |o::rest,k,_,a,hl,z,h=>by
  have f:k<m:=by
   rcases Nat.lt_or_ge k m with x|x
   ·exact x
   ·rw[List.drop_eq_nil_of_le (by simp;omega)] at hl;cases hl
  have g:ops[k]?=some o:=by
   have:=congrArg List.head? hl
   rw[List.head?_drop,List.getElem?_take_of_lt f] at this
   simpa using this
  have w:(ops.toList.take m).drop (k+1)=rest:=by
   have:=congrArg List.tail hl
   simpa [List.tail_drop] using this
  have A:=r k f
  have e:ops.size - k=(ops.size - (k+1))+1:=by omega
  have y:=qX (n:=ops.size) (m:=k) (by omega)
  have j:(Region.noSelect ops&&Region.free .any ops (cT ops.size k) k&&(Region.ready .any ops (cT ops.size k)).contains k)=true:=by
   rw[q,Bool.true_and];exact A
  rw[e]
  unfold dZ at h
  split at h
  ·rename_i hg
   exact zu k g j hg b (by rw[y];exact qY m hm q r b s rest (k+1) _ _ w f h)
  ·rename_i hg
   have next:∀go v,dZ P J ops F0 K rest go (bf a o.dst v)->dK P J ops Q (Knows F0) (ops.size - (k+1)) ((cT ops.size k).setIfInBounds k true) (bf a o.dst v) F:=fun go v c=>by
    rw[y];exact qY m hm q r b s rest (k+1) _ _ w f c
   split at h
   ·rename_i t x u
    split at h
    case h_2=>exact h.elim
    rename_i ad B
    split at h
    case h_2=>exact h.elim
    rename_i v c
    refine ng k v g j hg (fun F R p d=>?_) b (next _ v h)
    unfold cI
    simp only[u,B,p.e5 c]
    exact d
   ·rename_i x args argTypes u
    split at h
    case h_2=>exact h.elim
    rename_i fn first captured hx
    obtain ⟨C,v,D,h⟩:=h
    refine ng k v g j hg (fun F R p d=>?_) b (next _ v h)
    unfold cI
    simp only[u,hx]
    exact ⟨C,(D F p).mono fun G F' E=>by obtain ⟨rfl,rfl⟩:=E;exact d⟩
   ·split at h
    case h_2=>exact h.elim
    rename_i v c
    exact ng k v g j hg (fun F R p d=>qW c d) b (next _ v h)
  ·exact h.elim
def eF (P:Program)(J:Goroutine->aa->Prop)(ops:Array Oper)(F0:aa)(Q:Act->aa->Prop):List Oper->Bool->Act->aa->Prop
 |[],_,a,F=>Q a F
 |o::rest,_,a,F=>match cz ops o a with
  |some true=>cI P J o (fun v F'=>Knows F0 F'/\eF P J ops F0 Q rest (!Oper.calls o) (bf a o.dst v) F') a F
  |_=>False
theorem D7 {P:Program}{J:Goroutine->aa->Prop}{ops:Array Oper}{F0:aa}{Q:Act->aa->Prop}{go:Bool}{a:Act}{F:aa}:eF P J ops F0 Q [] go a F=Q a F:=rfl
theorem D8 {P:Program}{J:Goroutine->aa->Prop}{ops:Array Oper}{F0:aa}{Q:Act->aa->Prop}{o:Oper}{rest:List Oper}{a:Act}{F:aa}:eF P J ops F0 Q (o::rest) true a F=match cz ops o a with
  |some true=>cI P J o (fun v F'=>Knows F0 F'/\eF P J ops F0 Q rest (!Oper.calls o) (bf a o.dst v) F') a F
  |_=>False:=(Eq.refl _).trans (Eq.refl _)
theorem lW {P:Program}{J:Goroutine->aa->Prop}{ops:Array Oper}{F0:aa}{Q:Act->aa->Prop}:∀{l:List Oper} {go:Bool} {a:Act} {F:aa},eF P J ops F0 Q l true a F->eF P J ops F0 Q l go a F
 |[],_,_,_,h=>h
 |_::_,_,_,_,h=>h
theorem lX (m:Nat)(g:∀j,j<ops.size - m->Region.ready .any ops (cT ops.size (m+j))=[m+j])(i:Region.ready .any ops (cT ops.size ops.size)=[]):
  ∀(l:List Oper) (k:Nat) (go:Bool) (a:Act) (F:aa),m<=k->k<=ops.size->ops.toList.drop k=l->eF P J ops F0 Q l go a F->dK P J ops Q (Knows F0) (ops.size - k) (cT ops.size k) a F
 |[],k,_,a,F,q,s,hl,h=>by
  have:k=ops.size:=by
   have:=congrArg List.length hl
   simp at this
   omega
  subst this
  exact yY i h _
 |o::rest,k,_,a,F,q,s,hl,h=>by
  have u:k<ops.size:=by
   rcases Nat.lt_or_ge k ops.size with x|x
   ·exact x
   ·rw[List.drop_eq_nil_of_le (by simpa using x)] at hl;cases hl
  have w:ops[k]?=some o:=by
   have:=congrArg List.head? hl
   simpa [List.head?_drop] using this
  have y:ops.toList.drop (k+1)=rest:=by
   have:=congrArg List.tail hl
   simpa [List.tail_drop] using this
  have e:ops.size - k=(ops.size - (k+1))+1:=by omega
  have n:=g (k - m) (by omega)
  rw[show m+(k - m)=k by omega] at n
  rw[e]
  unfold eF at h
  split at h
  ·rename_i hg
   refine zv k w n hg ?_
   refine qZ ?_ h
   rintro v F' ⟨z,f⟩
   refine ⟨z,?_⟩
   rw[qX u]
   exact lX m g i rest (k+1) _ _ F' (by omega) (by omega) y f
  ·exact h.elim
where
 qZ {o:Oper} {a:Act} {F:aa} {R p:Value->aa->Prop} (d:∀v F,R v F->p v F) (h:cI P J o R a F):cI P J o p a F:=by
  obtain ⟨dst,op,type,pos,after,guard⟩:=o
  unfold cI at h ⊢
  cases op<;>simp only at h ⊢<;>first
   |exact h.elim
   |exact d _ _ h
   |exact fun b hb=>d _ _ (h b hb)
   |exact gL (fun v F h=>d v F h) _ _ h
   |(split at h<;>first
     |exact h.elim
     |exact d _ _ h
     |exact fun b hb=>d _ _ (h b hb)
     |(split at h<;>first|exact h.elim|exact d _ _ h|exact fun b hb=>d _ _ (h b hb)))
   |skip
  case slice t x lo hi A=>
   cases A with
   |some m=>exact h.elim
   |none=>
    refine ⟨h.1,?_⟩
    have f:=h.2
    revert f
    cases m8 P t (ev a x) (lo.map (ev a)) (hi.map (ev a)) with
    |some v=>exact fun x=>d _ _ x
    |none=>exact fun x=>x
  case call c=>
   obtain ⟨callee,args,argTypes⟩:=c
   cases callee with
   |value x=>
    exact gv.mono h d
   |invoke r m=>exact h.elim
   |builtin b=>
    cases b<;>simp only at h ⊢<;>first
     |exact h.elim
     |(split at h<;>first|exact h.elim|exact fun ty=>gL (fun v F ⟨F0,hle,h⟩=>⟨F0,hle,d _ _ h⟩) _ _ (h ty))
     |exact gL (fun v F h=>d v F h) _ _ h
     |(split at h<;>first|exact h.elim|(split at h<;>first|exact h.elim|exact d _ _ h|exact gL (fun v F h=>d v F h) _ _ h))
theorem e7 {Q:Ex->Act->aa->Prop}(hJ:Closed P main J)(e:P.follows .mixedOrders=true)(m:Nat){id:Nat}{a:Act}{F:aa}(F0:aa)(f:Knows F0 F)(g:nh ops m=true)
  (h:dZ P J ops F0 (fun b=>eF P J ops F0 (Q .normal) (ops.toList.drop m) true b F) (ops.toList.take m) true a):Wp J (.region id ops true) Q a F:=by
 have c:=zz g
 simp only[o3,Bool.and_eq_true,decide_eq_true_eq,List.all_eq_true,List.mem_range] at c
 obtain ⟨⟨⟨⟨j,d⟩,k⟩,l⟩,n⟩:=c
 refine ua hJ (Knows F0) e ?_
 rw[<-zA]
 have:=qY (P:=P) (J:=J) (Q:=Q .normal) m d j (fun i hi=>by have:=k i hi;simpa using this) f (fun b o=>lX m l n _ m _ b F (Nat.le_refl _) d rfl o) _ 0 true a (by simp) (Nat.zero_le _) h
 simpa using this
theorem bx (hJ:Closed P main J){F0:aa}{f:FuncId}{args:Array Value}{v:Value}(h:∀F,Knows F0 F->aC P f args F.cq (fun a _=>a=v)):Plain P J F0 f args v:=
 fun F b=>uh (h F b) main J hJ
end
attribute [irreducible] dZ eF
attribute [go_sem] iS D3 iT D5 D6 D7 D8 qE List.take_succ_cons List.take_zero List.drop_succ_cons List.drop_zero Array.zipIdx_toArray List.zipIdx_cons List.zipIdx_nil List.foldl_toArray List.foldl_toArray' decide_eq_true_eq Bool.and_false Bool.false_and Bool.and_self Bool.true_and Bool.and_true List.foldl_cons List.foldl_nil decide_false decide_true Bool.or_false Bool.false_or Bool.or_self Bool.or_true Bool.true_or gt_iff_lt Nat.reduceGT Nat.lt_irrefl Bool.false_eq_true Nat.zero_add Nat.add_zero Nat.not_lt_zero
section
variable {P : Program} {main : Bool} {J : Goroutine → aa → Prop} {Q : Ex → Act → aa → Prop} {a : Act} {F : aa}
theorem bn (hJ:Closed P main J){f:FuncId}{args:Array Value}{F:aa}{K:Value->aa->Prop}(v:Value)(h:aC P f args F.cq (fun a _=>a=v))(b:K v F):cR P J f args F K:=
 (uh h main J hJ).mono fun a F' c=>by obtain ⟨rfl,rfl⟩:=c;exact b
theorem bJ (hJ:Closed P main J){c:Operand}{x y:Code}(b:ev a c= .bool true)(h:Wp J x Q a F):Wp J (.cond c x y) Q a F:=tX hJ true b h
theorem bI (hJ:Closed P main J){c:Operand}{x y:Code}(b:ev a c= .bool false)(h:Wp J y Q a F):Wp J (.cond c x y) Q a F:=tX hJ false b h
theorem D9 (hJ:Closed P main J){c:Operand}{x y:Code}(b:Bool)(d:ev a c= .bool b)(e:b=true->Wp J x Q a F)(f:b=false->Wp J y Q a F):Wp J (.cond c x y) Q a F:=by
 refine tX hJ b d ?_;cases b
 ·exact f rfl
 ·exact e rfl
theorem cB (hJ:Closed P main J){c:Code}{F':aa}(hle:Le F F')(h:Wp J c Q a F):Wp J c Q a F':=h.le (hJ:=hJ) hle
theorem Le.sub {ro:Addr->Option Value}{l l':List (Nat×Obj)}(h:l.Sublist l'):Le ⟨ro,l⟩ ⟨ro,l'⟩:=by
 have c:(keys l).Sublist (keys l'):=h.map _;exact ⟨fun w hw=>⟨hw.ro,fun b o hb=>hw.own b o (h.subset hb),c.nodup hw.nodup,fun a v d hm=>hw.apart a v d (c.subset hm)⟩,fun b hb=>c.subset hb,fun a e=>.inl e⟩
theorem uM (hJ:Closed P main J){c:Code}(I:Nat->Act->aa->Prop)(n:Nat)(b:I n a F)(hs:∀n a F,I n a F->Wp J c (qE (fun m a F=>∃F0,Le F0 F/\I m a F0) n Q) a F):Wp J (.loop c) Q a F:=
 y3 hJ (fun m a F=>∃F0,Le F0 F/\I m a F0) n ⟨F,Le.refl F,b⟩ fun n a F ⟨F0,hle,d⟩=>cB hJ hle (hs n a F0 d)
end
def jU:List Nat->Nat->Bool
 |[],_=>false
 |w::ws,i=>i==w||jU ws i
abbrev In (ws:List Nat)(i:Nat):Prop:=jU ws i=true
structure cC (ws:List Nat)(a a0:Act):Prop where
 size:sz a=sz a0
 defers:a.defers=a0.defers
 c8:∀i,¬In ws i->slot a i=slot a0 i
theorem cC.refl (ws:List Nat)(a:Act):cC ws a a:=⟨rfl,rfl,fun _ _=>rfl⟩
theorem cC.trans {ws:List Nat}{a b c:Act}(h:cC ws a b)(k:cC ws b c):cC ws a c:=⟨h.size.trans k.size,h.defers.trans k.defers,fun i hi=>(h.c8 i hi).trans (k.c8 i hi)⟩
theorem cC.sub {ws c:List Nat}{a b:Act}(hs:∀i,In ws i->In c i)(h:cC ws a b):cC c a b:=⟨h.size,h.defers,fun i hi=>h.c8 i fun x=>hi (hs i x)⟩
theorem Ea {ws:List Nat}{a:Act}:cC ws a a=True:=eq_true (cC.refl ws a)
theorem Eb {ws:List Nat}{a a0:Act}{d:Nat}{v:Value}(h:jU ws d=true):cC ws (bf a (some d) v) a0=cC ws a a0:=by
 apply propext;constructor
 ·intro k;refine ⟨by rw[<-k.size,ze],by rw[<-k.defers,zf],fun i hi=>?_⟩;rw[<-k.c8 i hi,um _ _ _ _ (fun e=>hi (by subst e;exact h))]
 ·intro k;refine ⟨by rw[<-k.size,ze],by rw[<-k.defers,zf],fun i hi=>?_⟩;rw[<-k.c8 i hi,um _ _ _ _ (fun e=>hi (by subst e;exact h))]
def fD (ws a:List Nat):Bool:=ws.all fun w=>jU a w
theorem zB:∀{ws:List Nat} {i:Nat},jU ws i=true->i∈ws
 |[],_,h=>by cases h
 |w::ws,i,h=>by
  simp only[jU,Bool.or_eq_true,beq_iff_eq] at h
  rcases h with h|h
  ·rw[h];exact List.mem_cons_self
  ·exact List.mem_cons_of_mem _ (zB h)
theorem cC.fD {ws c:List Nat}{a b:Act}(h:cC ws a b)(hs:Sep.fD ws c=true):cC c a b:=h.sub fun i hi=>by
 have:=zB hi
 exact List.all_eq_true.1 hs i this
attribute [go_sem] jU Ea Eb or_true true_or or_false false_or Nat.reduceBEq
section
variable {P : Program} {main : Bool} {J : Goroutine → aa → Prop} {Q : Ex → Act → aa → Prop} {a : Act} {F : aa}
theorem bR (hJ:Closed P main J){c:Code}(ws:List Nat)(I:Nat->Act->aa->Prop)(n:Nat)(h:I n a F)
  (hs:∀n b F',cC ws b a->I n b F'->Wp J c (qE (fun m a2 d=>cC ws a2 b/\∃F0,Le F0 d/\I m a2 F0) n Q) b F'):Wp J (.loop c) Q a F:=
 y3 hJ (fun m a2 d=>cC ws a2 a/\∃F0,Le F0 d/\I m a2 F0) n ⟨.refl ws a,F,Le.refl F,h⟩ fun n b F' ⟨g,F0,hle,j⟩=>
  cB hJ hle ((hs n b F0 g j).mono fun e a2 d f=>by
   cases e with
   |normal=>obtain ⟨m,hm,k,l⟩:=f;exact ⟨m,hm,k.trans g,l⟩
   |exit i=>exact f
   |ret=>exact f)
end
def Ext (ro aN:Addr->Option Value):Prop:=∀a v,ro a=some v->aN a=some v
theorem Ext.refl (ro:Addr->Option Value):Ext ro ro:=fun _ _ h=>h
theorem Ext.trans {r s t:Addr->Option Value}(h:Ext r s)(k:Ext s t):Ext r t:=fun a v x=>k a v (h a v x)
def bT (ro:Addr->Option Value)(b:Nat)(o:Obj):Addr->Option Value:=fun a=>match ro a with
 |some v=>some v
 |none=>if a.block=b/\a.spot=none then cellOf o a.off else none
theorem fY (ro:Addr->Option Value)(b:Nat)(o:Obj):Ext ro (bT ro b o):=fun a v h=>by simp[bT,h]
theorem iU {ro:Addr->Option Value}{b off:Nat}{o:Obj}(h:∀off sp,ro ⟨b,off,sp⟩=none):bT ro b o ⟨b,off,none⟩=cellOf o off:=by simp[bT,h]
theorem jV {ro:Addr->Option Value}{own e:List (Nat×Obj)}{b:Nat}{o:Obj}(hl:lk own b=some o)(hs:e.Sublist own)(hb:au e b):Le ⟨bT ro b o,e⟩ ⟨ro,own⟩:=by
 have f:(keys e).Sublist (keys own):=hs.map _;have hm:=gI hl;have g:b∉keys e:=by
  clear hl hs f hm
  induction e with
  |nil=>simp[keys]
  |cons x l ih=>
   simp only[keys,List.map_cons,List.mem_cons,not_or];exact ⟨hb.1,ih hb.2⟩
 refine ⟨fun w hw=>⟨fun a v h=>?_,fun c x d=>hw.own c x (hs.subset d),f.nodup hw.nodup,fun a v h d=>?_⟩,fun c d=>f.subset d,fun a i=>?_⟩
 ·replace h:bT ro b o a=some v:=h;unfold bT at h;split at h
  ·rename_i x hx;cases h;exact hw.ro _ _ hx
  ·split at h
   ·rename_i d;have:=hw.own b o hm;rw[<-d.1] at this;cases o<;>simp only[cellOf,reduceCtorEq] at h;simp[World.cell?,this,d.2,h]
   ·cases h
 ·replace h:bT ro b o a=some v:=h;unfold bT at h;split at h
  ·rename_i x hx;exact hw.apart a x hx (f.subset d)
  ·split at h
   ·rename_i j;rw[j.1] at d;exact g d
   ·cases h
 ·obtain ⟨v,h⟩:=Option.isSome_iff_exists.1 i;replace h:bT ro b o a=some v:=h;unfold bT at h;split at h
  ·rename_i x hx;exact .inl (by simp[hx])
  ·split at h
   ·rename_i d;exact .inr (by rw[d.1];exact eN hm)
   ·cases h
def eH (P:Program)(f:FuncId)(args:Array Value)(ro:Addr->Option Value)(R:Value->(Addr->Option Value)->Prop):Prop:=
 aC P f args ⟨ro,[]⟩ (fun v G=>∃aN,Ext ro aN/\Le ⟨aN,[]⟩ G/\R v aN)
def lY (F G:aa):Prop:=∀a,(G.ro a).isSome=true->a.block∉keys F.own
def uN (J:Goroutine->aa->Prop)(F:aa)(g:Goroutine)(G:aa):Prop:=Fits F G->lY F G->J g (G.star F)
theorem zC {P:Program}{main:Bool}{J:Goroutine->aa->Prop}(hJ:Closed P main J)(F:aa):Closed P main (uN J F) where
 mono {g G H} hle h hf f:=by
  have k:=hf.le hle
  have t:lY F G:=fun a c=>(hle.ro a c).elim (f a) (hf.own _)
  refine hJ.mono ⟨fun w hw=>k.both (hle.has w (hf.right hw)) (hf.left hw),fun b hb=>?_,fun a c=>?_⟩ (h k t)
  ·simp only[aa.star,ck,List.mem_append] at hb ⊢
   exact hb.imp (hle.own b) id
  ·rcases jQ c with x|x
   ·exact (gr (.inl x)).imp id (fun y=>by simp only[aa.star,ck,List.mem_append];exact .inr y)
   ·rcases hle.ro a x with y|y
    ·exact (gr (.inr y)).imp id (fun z=>by simp only[aa.star,ck,List.mem_append];exact .inr z)
    ·exact .inr (by simp only[aa.star,ck,List.mem_append];exact .inl y)
 step {fr cs G} h hf f:=by
  refine hJ.step fun w hw=>?_
  have u:=hf.right hw
  have d:=hf.left hw
  obtain ⟨g',w',es,i,hgo,hu,l,A,B⟩:=h w u
  have n:Has F w':=by
   refine ⟨fun a v j=>?_,fun b o hb=>?_,d.nodup,d.apart⟩
   ·have p:=d.ro a v j
    have C:=d.gK (a:=a) (by simp[j])
    unfold World.cell? at p ⊢
    rw[hu.frame _ C (hf.ro a (by simp[j]))]
    exact p
   ·rw[hu.frame b (d.lt (eN hb)) (fun hm=>hf.own b hm (eN hb))]
    exact d.own b o hb
  have q:Fits F i:=by
   refine ⟨⟨w',l,n⟩,fun b hb hm=>?_,fun a c hm=>?_⟩
   ·rcases hu.own b hb with x|x
    ·exact hf.own b x hm
    ·have:=d.lt hm;omega
   ·rcases hu.own _ hm with x|x
    ·exact hf.ro a c x
    ·have:=d.gK c;omega
  have D:lY F i:=fun a c hm=>by
   rcases hu.ro a c with x|x|x
   ·exact f a x hm
   ·exact hf.own _ x hm
   ·have:=d.lt hm;omega
  refine ⟨g',w',es,i.star F,hgo,⟨hu.os,hu.tape,hu.output,hu.size,fun b hb f=>hu.frame b hb fun hm=>f ?_,fun a c=>?_,fun b hb=>?_⟩,q.both l n,fun e he=>?_,B q D⟩
  ·simp only[aa.star,ck,List.mem_append];exact .inl hm
  ·rcases jQ c with x|x
   ·exact (gr (.inl x)).imp id (fun y=>.inl (by simp only[aa.star,ck,List.mem_append];exact .inr y))
   ·rcases hu.ro a x with y|y|y
    ·exact (gr (.inr y)).imp id (fun z=>.inl (by simp only[aa.star,ck,List.mem_append];exact .inr z))
    ·exact .inr (.inl (by simp only[aa.star,ck,List.mem_append];exact .inl y))
    ·exact .inr (.inr y)
  ·simp only[aa.star,ck,List.mem_append] at hb ⊢
   rcases hb with hb|hb
   ·exact (hu.own b hb).imp .inl id
   ·exact .inl (.inr hb)
  ·have s:∀b,gJ G w.heap.size w'.heap.size b->gJ (G.star F) w.heap.size w'.heap.size b:=fun b hb=>hb.imp (fun x=>by simp only[aa.star,ck,List.mem_append];exact .inl x) id
   rcases A e he with ⟨a,wr,rfl,hx|⟨E,hx⟩⟩|⟨r,wr,rfl,hx⟩|⟨m,rfl,hm⟩
   ·exact .inl ⟨a,wr,rfl,.inl (s _ hx)⟩
   ·rcases gr (F:=F) (.inr hx) with y|y
    ·exact .inl ⟨a,wr,rfl,.inr ⟨E,y⟩⟩
    ·exact .inl ⟨a,wr,rfl,.inl (.inl (by simp only[aa.star,ck,List.mem_append];exact .inr y))⟩
   ·exact .inr (.inl ⟨r,wr,rfl,s _ hx⟩)
   ·exact .inr (.inr ⟨m,rfl,hm⟩)
section
variable {P : Program} {main : Bool} {J : Goroutine → aa → Prop}
theorem uO (hJ:Closed P main J){f:FuncId}{args:Array Value}{ro:Addr->Option Value}{own:List (Nat×Obj)}{K:Value->aa->Prop}(R:Value->(Addr->Option Value)->Prop)(h:eH P f args ro R)
  (q:∀v aN,Ext ro aN->(∀b∈keys own,∀off sp,aN ⟨b,off,sp⟩=none)->R v aN->K v ⟨aN,own⟩):cR P J f args ⟨ro,own⟩ K:=by
 intro c cs r
 by_cases hw:∃w,Has ⟨ro,own⟩ w
 ·obtain ⟨i,j⟩:=hw
  let F:aa:=⟨fun _=>none,own⟩
  have l:∀w,Has ⟨ro,own⟩ w->Has F w:=fun w hw=>⟨fun a v h=>(by cases h),hw.own,hw.nodup,fun a v h=>(by cases h)⟩
  have m:∀w,Has ⟨ro,own⟩ w->Has ⟨ro,[]⟩ w:=fun w hw=>⟨hw.ro,fun b o hb=>(by cases hb),List.nodup_nil,fun a v e hm=>(by cases hm)⟩
  have n:Fits F ⟨ro,[]⟩:=⟨⟨i,m i j,l i j⟩,fun b hb=>(by cases hb),fun a d hm=>(by cases hm)⟩
  have s:lY F ⟨ro,[]⟩:=fun a d hm=>by
   obtain ⟨v,t⟩:=Option.isSome_iff_exists.1 d
   exact j.apart a v t hm
  have u:uN J F (G (Frame.enter P f args .normal) (c::cs)) ⟨ro,[]⟩:=by
   refine h main _ (zC hJ F) c cs fun v G k hf y=>?_
   obtain ⟨aN,A,hle,k⟩:=k
   have p:∀a,(aN a).isSome=true->a.block∉keys own:=fun a d=>(hle.ro a d).elim (y a) (hf.own _)
   refine hJ.mono (F:=⟨aN,own⟩) ⟨fun w hw=>?_,fun b hb=>?_,fun a d=>?_⟩ (r v ⟨aN,own⟩ (q v aN A (fun b hb off sp=>?_) k))
   ·have B:=hle.has w (hf.right hw)
    have g:=hf.left hw
    exact ⟨B.ro,g.own,g.nodup,fun a v e=>p a (by simp only at e;simp[e])⟩
   ·simp only[aa.star,ck,List.mem_append];exact .inr hb
   ·rcases hle.ro a d with x|x
    ·exact (gr (.inr x)).imp id (fun z=>by simp only[aa.star,ck,List.mem_append];exact .inr z)
    ·exact .inr (by simp only[aa.star,ck,List.mem_append];exact .inl x)
   ·cases e:aN ⟨b,off,sp⟩ with
    |none=>rfl
    |some v=>exact absurd hb (p ⟨b,off,sp⟩ (by simp[e]))
  refine hJ.mono ⟨fun w hw=>n.both (m w hw) (l w hw),fun b hb=>?_,fun a d=>?_⟩ (u n s)
  ·simpa [aa.star,F] using hb
  ·rcases jQ d with x|x
   ·cases x
   ·exact .inl x
 ·exact hJ.step fun w g=>absurd ⟨w,g⟩ hw
end
attribute [go_sem] beq_self_eq_true beq_iff_eq beq_true beq_false Int.toNat_natCast Int.natCast_nonneg Int.ofNat_lt Nat.zero_mul Nat.mul_one List.length_map Bool.not_eq_true Bool.not_not decide_not
inductive Fl (σ ρ:Type) where
 |nx (s:σ)
 |bk (s:σ)
 |br (k:Nat) (s:σ)
 |rt (r:ρ)
def ag {α β:Type}(x:Option α)(f:α->Option β):Option β:=match x with
 |some a=>f a
 |none=>none
theorem fL {α β:Type}{x:Option α}{f:α->Option β}{r:β}(h:ag x f=some r):∃a,x=some a/\f a=some r:=by
 cases x with
 |none=>cases h
 |some a=>exact ⟨a,rfl,h⟩
theorem iV {α:Type}{b:Bool}{x y:Option α}{r:α}(h:cond b x y=some r):(b=true/\x=some r)\/(b=false/\y=some r):=by
 cases b
 ·exact .inr ⟨rfl,h⟩
 ·exact .inl ⟨rfl,h⟩
def aA {σ ρ τ:Type}(o:Fl σ ρ)(f:σ->Option τ)(g:Nat->σ->Option τ)(h:ρ->Option τ):Option τ:=match o with
 | .nx s=>f s
 | .bk s=>f s
 | .br k s=>g k s
 | .rt r=>h r
def aS {σ ρ:Type}(f:σ->Option (Fl σ ρ)):Nat->σ->Option (Fl σ ρ)
 |0,_=>none
 |n+1,s=>ag (f s) fun o=>match o with
  | .nx s'=>aS f n s'
  | .bk s'=>some (.nx s')
  | .br k s'=>some (.br k s')
  | .rt r=>some (.rt r)
def bE {α σ ρ:Type}(f:Nat->α->σ->Option (Fl σ ρ)):Nat->List α->σ->Option (Fl σ ρ)
 |_,[],s=>some (.nx s)
 |i,x::l,s=>ag (f i x s) fun o=>match o with
  | .nx s'=>bE f (i+1) l s'
  | .bk s'=>some (.nx s')
  | .br k s'=>some (.br k s')
  | .rt r=>some (.rt r)
def fu:Nat:=1000000000000000000
def bh {α:Type}(l:List α)(i:Int):Option α:=if 0<=i then l[i.toNat]? else none
theorem cK {α:Type}{l:List α}{i:Int}{x:α}(h:bh l i=some x):0<=i/\i<l.length/\l[i.toNat]?=some x:=by
 unfold bh at h;split at h
 ·rename_i a;obtain ⟨hi,_⟩:=List.getElem?_eq_some_iff.1 h;exact ⟨a,by omega,h⟩
 ·cases h
def cZ {α:Type}(l xs:List α):Option (List α):=if l.length+xs.length<=1000000 then some (l++xs) else none
theorem dw {α:Type}{l xs r:List α}(h:cZ l xs=some r):l.length+xs.length<=1000000/\r=l++xs:=by
 unfold cZ at h;split at h
 ·rename_i a;cases h;exact ⟨a,rfl⟩
 ·cases h
def hH {α:Type}(l:List α)(lo hi:Int):Option (List α):=if 0<=lo/\lo<=hi/\hi<=l.length then some ((l.take hi.toNat).drop lo.toNat) else none
theorem o7 {α:Type}{l r:List α}{lo hi:Int}(h:hH l lo hi=some r):0<=lo/\lo<=hi/\hi<=l.length/\r=(l.take hi.toNat).drop lo.toNat:=by
 unfold hH at h;split at h
 ·rename_i a;cases h;exact ⟨a.1,a.2.1,a.2.2,rfl⟩
 ·cases h
def fE (a b:Int):Option Int:=if b=0 then none else some (IntKind.i64.wrap (a.tdiv b))
theorem jW {a b r:Int}(h:fE a b=some r):¬b=0/\IntKind.i64.wrap (a.tdiv b)=r:=by
 unfold fE at h;split at h
 ·cases h
 ·rename_i c;cases h;exact ⟨c,rfl⟩
def lZ (a b:Int):Option Int:=if b=0 then none else some (a.tmod b)
theorem uP {a b r:Int}(h:lZ a b=some r):¬b=0/\a.tmod b=r:=by
 unfold lZ at h;split at h
 ·cases h
 ·rename_i c;cases h;exact ⟨c,rfl⟩
def uQ (a b:Int):Option Int:=if b<0 then none else some (IntKind.i64.wrap (a*2 ^ min b.toNat 64))
theorem Ec {a b r:Int}(h:uQ a b=some r):¬b<0/\IntKind.i64.wrap (a*2 ^ min b.toNat 64)=r:=by
 unfold uQ at h;split at h
 ·cases h
 ·rename_i c;cases h;exact ⟨c,rfl⟩
def uR (a b:Int):Option Int:=if b<0 then none else some (a.fdiv (2 ^ min b.toNat 64))
theorem Ed {a b r:Int}(h:uR a b=some r):¬b<0/\a.fdiv (2 ^ min b.toNat 64)=r:=by
 unfold uR at h;split at h
 ·cases h
 ·rename_i c;cases h;exact ⟨c,rfl⟩
def zD (a b:Int):Int:=IntKind.i64.wrap (BitVec.ofInt 64 a&&& BitVec.ofInt 64 b).toNat
theorem Ee (a b:Int):IntKind.i64.wrap (BitVec.ofInt IntKind.i64.bits a&&& BitVec.ofInt IntKind.i64.bits b).toNat=zD a b:=rfl
attribute [go_sem ↓] Ee
def Ef (a b:Int):Int:=IntKind.u8.wrap (BitVec.ofInt 8 a&&& BitVec.ofInt 8 b).toNat
theorem Eg (a b:Int):IntKind.u8.wrap (BitVec.ofInt IntKind.u8.bits a&&& BitVec.ofInt IntKind.u8.bits b).toNat=Ef a b:=rfl
attribute [go_sem ↓] Eg
def o8 (a b:Int):Option Int:=if b<0 then none else some (IntKind.u64.wrap (a*2 ^ min b.toNat IntKind.u64.bits))
theorem uS {a b r:Int}(h:o8 a b=some r):¬b<0/\IntKind.u64.wrap (a*2 ^ min b.toNat IntKind.u64.bits)=r:=by
 unfold o8 at h;split at h
 ·cases h
 ·rename_i c;cases h;exact ⟨c,rfl⟩
def uT (a b:Int):Option Int:=if b<0 then none else some (a.fdiv (2 ^ min b.toNat IntKind.u64.bits))
theorem Eh {a b r:Int}(h:uT a b=some r):¬b<0/\a.fdiv (2 ^ min b.toNat IntKind.u64.bits)=r:=by
 unfold uT at h;split at h
 ·cases h
 ·rename_i c;cases h;exact ⟨c,rfl⟩
def hO (a b:Int):Int:=IntKind.u64.wrap (BitVec.ofInt 64 a&&& BitVec.ofInt 64 b).toNat
theorem Ei (a b:Int):IntKind.u64.wrap (BitVec.ofInt IntKind.u64.bits a&&& BitVec.ofInt IntKind.u64.bits b).toNat=hO a b:=rfl
def gN (a b:Int):Int:=IntKind.u64.wrap (BitVec.ofInt 64 a ^^^ BitVec.ofInt 64 b).toNat
theorem Ej (a b:Int):IntKind.u64.wrap (BitVec.ofInt IntKind.u64.bits a ^^^ BitVec.ofInt IntKind.u64.bits b).toNat=gN a b:=rfl
attribute [go_sem ↓] Ei Ej
theorem cp {n:Nat}(h:n<1000000000000000):IntKind.i64.wrap ((n:Int)+1)=((n+1:Nat):Int):=by
 simp only[IntKind.wrap,IntKind.bits,IntKind.signed];simp;omega
theorem dg {α:Type}{l:List α}{i:Nat}{x:α}(h:l[i]?=some x):l.drop i=x::l.drop (i+1):=by
 obtain ⟨hi,rfl⟩:=List.getElem?_eq_some_iff.1 h;exact List.drop_eq_getElem_cons hi
theorem cast_zero:((0:Nat):Int)=0:=rfl
attribute [go_sem] cast_zero
theorem Ek (l:List Value)(i j:Nat):(l.toArray).extract i j=((l.drop i).take (j - i)).toArray:=by
 apply Array.ext';simp[List.extract_eq_drop_take]
attribute [go_sem] Ek
structure b7 (T:Type) where
 n:Nat
 rel:(Addr->Option Value)->T->List Value->Prop
 mono:∀{ro aN:Addr->Option Value} {x:T} {cs:List Value},Ext ro aN->rel ro x cs->rel aN x cs
 len:∀{ro:Addr->Option Value} {x:T} {cs:List Value},rel ro x cs->cs.length=n
 one:∀{ro:Addr->Option Value} {x:T} {cs:List Value},rel ro x cs->∀v∈cs,bG v=true
def hU {T:Type}(n:Nat)(c:T->List Value)(h:∀x,(c x).length=n)(a:∀x,∀v∈c x,bG v=true):b7 T:=
 ⟨n,fun _ x cs=>cs=c x,fun _ h=>h,fun e=>by rw[e];exact h _,fun e=>by rw[e];exact a _⟩
def rI:b7 Int:=hU 1 (fun n=>[.int .i64 n]) (fun _=>rfl) (fun _ v a=>by simp at a;subst a;rfl)
def rB:b7 Bool:=hU 1 (fun n=>[.bool n]) (fun _=>rfl) (fun _ v a=>by simp at a;subst a;rfl)
def aB {T:Type}(r:b7 T)(ro:Addr->Option Value)(s:Value)(l:List T):Prop:=
 ∃ad cap,s= .slice ad l.length cap/\l.length<=cap/\l.length<=1000000000000000/\∀i x,l[i]?=some x->∃p cs,ad=some p/\r.rel ro x cs/\∀j v,cs[j]?=some v->ro ((p.add (i*r.n)).add j)=some v
theorem aB.mono {T:Type}{r:b7 T}{ro aN:Addr->Option Value}{s:Value}{l:List T}(h:aB r ro s l)(hx:Ext ro aN):aB r aN s l:=by
 obtain ⟨ad,cap,a,b,c,d⟩:=h;refine ⟨ad,cap,a,b,c,fun i x hi=>?_⟩;obtain ⟨p,cs,e,f,hm⟩:=d i x hi;exact ⟨p,cs,e,r.mono hx f,fun j v g=>hx _ _ (hm j v g)⟩
theorem aB.nil {T:Type}(r:b7 T)(ro:Addr->Option Value):aB r ro (.slice none 0 0) []:=⟨none,0,rfl,Nat.le_refl _,by simp,fun i x h=>by simp at h⟩
def rL {T:Type}(r:b7 T):b7 (List T):=
 ⟨1,fun ro l cs=>∃s,cs=[s]/\aB r ro s l,fun hx ⟨s,a,b⟩=>⟨s,a,b.mono hx⟩,fun ⟨s,a,_⟩=>by rw[a];rfl,fun ⟨s,a,ad,cap,b,_⟩ v c=>by rw[a] at c;simp at c;subst c;rw[b];rfl⟩
theorem aB.part {T:Type}{r:b7 T}{ro:Addr->Option Value}{ad:Option Addr}{cap:Nat}{l:List T}(h:aB r ro (.slice ad l.length cap) l)(lo hi:Nat)(g:lo<=hi)(k:hi<=l.length):
  aB r ro (.slice (if cap=lo then ad else ad.map (·.add (lo*r.n))) (hi - lo) (cap - lo)) ((l.take hi).drop lo):=by
 obtain ⟨m,o,e,q,s,b⟩:=h
 cases e
 have hlen:((l.take hi).drop lo).length=hi - lo:=by simp;omega
 refine ⟨_,cap - lo,by rw[hlen],by rw[hlen];omega,by rw[hlen];omega,fun i x a=>?_⟩
 rw[List.getElem?_drop,List.getElem?_take] at a
 split at a
 case isFalse=>cases a
 obtain ⟨p,cs,c,d,hm⟩:=b _ x a
 have hl:lo+i<l.length:=(List.getElem?_eq_some_iff.1 a).1
 refine ⟨p.add (lo*r.n),cs,?_,d,fun j v f=>?_⟩
 ·have aG:¬cap=lo:=by omega
  rw[if_neg aG,c];rfl
 ·have:=hm j v f
  rw[kO] at this
  rw[kO,kO]
  rw[show lo*r.n+(i*r.n+j)=(lo+i)*r.n+j by rw[Nat.add_mul];omega]
  exact this
def Apart (ks:List Nat)(aR:List (Nat×Obj)):Prop:=∀k∈keys aR,k∉ks
theorem Apart.nil (ks:List Nat):Apart ks []:=fun k h=>(by cases h)
theorem kQ:∀{l:List (Nat×Obj)} {b:Nat},au l b->b∉keys l
 |[],_,_=>by simp[keys]
 |(c,o)::l,b,h=>by simp only[keys,List.map_cons,List.mem_cons,not_or];exact ⟨h.1,kQ h.2⟩
theorem l5:∀{l:List (Nat×Obj)} {b:Nat},b∉keys l->au l b
 |[],_,_=>trivial
 |(c,o)::l,b,h=>by simp only[keys,List.map_cons,List.mem_cons,not_or] at h;exact ⟨h.1,l5 h.2⟩
theorem Apart.push {ks:List Nat}{aR:List (Nat×Obj)}{b:Nat}(h:Apart ks aR)(hb:au aR b):Apart (b::ks) aR:=fun k a=>by
 simp only[List.mem_cons,not_or]
 exact ⟨fun e=>kQ hb (e▸a),h k a⟩
theorem Apart.drop {ks:List Nat}{aR:List (Nat×Obj)}{b:Nat}(h:Apart (b::ks) aR):Apart ks aR:=fun k a=>(by have:=h k a;simp only[List.mem_cons,not_or] at this;exact this.2)
def aO {T:Type}(r:b7 T)(ro:Addr->Option Value)(e:TypeId)(v:Value)(l:List T)(aR:List (Nat×Obj)):Prop:=
 ∃ls:List (List Value),Gr ro e r.n v ls aR/\ls.length=l.length/\l.length<=1000000/\∀(i:Nat) (x:T),l[i]?=some x->∃cs:List Value,ls[i]?=some cs/\r.rel ro x cs
theorem aO.nil {T:Type}(r:b7 T)(ro:Addr->Option Value)(e:TypeId):aO r ro e (.slice none 0 0) [] []:=⟨[],.inl ⟨rfl,rfl,rfl⟩,rfl,by simp,fun i x h=>by simp at h⟩
theorem aO.len {T:Type}{r:b7 T}{ro:Addr->Option Value}{e:TypeId}{v:Value}{l:List T}{aR:List (Nat×Obj)}(h:aO r ro e v l aR):∃ad cap,v= .slice ad l.length cap/\l.length<=cap:=by
 obtain ⟨ls,hg,hl,-⟩:=h;rcases hg with ⟨rfl,rfl,rfl⟩|⟨b,arr,cap,rfl,rfl,hs,hle,-⟩
 ·exact ⟨none,0,by rw[<-hl];rfl,by rw[<-hl];exact Nat.le_refl _⟩
 ·exact ⟨_,cap,by rw[hl],by omega⟩
def aE (ro:Addr->Option Value)(own:List (Nat×Obj)):Prop:=∀b∈keys own,∀off sp,ro ⟨b,off,sp⟩=none
theorem aO.mono {T:Type}{r:b7 T}{ro aN:Addr->Option Value}{e:TypeId}{v:Value}{l:List T}{aR:List (Nat×Obj)}(h:aO r ro e v l aR)(hx:Ext ro aN)(d:aE aN aR):aO r aN e v l aR:=by
 obtain ⟨ls,hg,hl,hm,f⟩:=h;refine ⟨ls,?_,hl,hm,fun i x hi=>?_⟩
 ·rcases hg with h|⟨b,arr,cap,c,a,g,j,k,m,n⟩
  ·exact .inl h
  ·exact .inr ⟨b,arr,cap,c,a,g,j,k,m,d b (by rw[a];simp[keys])⟩
 ·obtain ⟨cs,c,a⟩:=f i x hi;exact ⟨cs,c,r.mono hx a⟩
theorem Apart.fresh {pre aR:List (Nat×Obj)}{ks:List Nat}(h:Apart ks aR)(a:keys pre=ks):∀k∈keys aR,au pre k:=fun k b=>l5 (by rw[a];exact h k b)
theorem o9 {n:Nat}:∀(ls:List (List Value)) (i:Nat) (cs:List Value),(∀x∈ls,x.length=n)->ls[i]?=some cs->∀j v,cs[j]?=some v->ls.flatten[i*n+j]?=some v
 |[],i,cs,_,h,_,_,_=>by simp at h
 |y::ls,0,cs,b,h,j,v,a=>by
  simp at h;subst h
  have:j<y.length:=(List.getElem?_eq_some_iff.1 a).1
  simp only[Nat.zero_mul,Nat.zero_add,List.flatten_cons]
  rw[List.getElem?_append_left this]
  exact a
 |y::ls,i+1,cs,b,h,j,v,a=>by
  simp at h
  have ih:=o9 ls i cs (fun x hx=>b x (by simp[hx])) h j v a
  have c:=b y (by simp)
  simp only[List.flatten_cons]
  rw[List.getElem?_append_right (by rw[c,Nat.add_mul];omega)]
  rw[show (i+1)*n+j - y.length=i*n+j by rw[c,Nat.add_mul];omega]
  exact ih
theorem aO.zE {T:Type}{r:b7 T}{ro:Addr->Option Value}{e:TypeId}{v:Value}{l:List T}{aR:List (Nat×Obj)}{ks:List Nat}(h:aO r ro e v l aR)(pre:List (Nat×Obj))(f:Apart ks aR)(g:keys pre=ks)(a:aE ro pre):
  ∃aN,Ext ro aN/\aE aN pre/\aB r aN v l/\Le ⟨aN,pre⟩ ⟨ro,pre++aR⟩:=by
 obtain ⟨ls,hg,hl,hm,k⟩:=h
 rcases hg with ⟨rfl,rfl,rfl⟩|⟨b,arr,cap,rfl,rfl,hs,hle,ht,hx,m⟩
 ·have:l=[]:=List.eq_nil_of_length_eq_zero (by simpa using hl.symm)
  subst this
  exact ⟨ro,Ext.refl ro,a,aB.nil r ro,by rw[List.append_nil];exact Le.refl _⟩
 ·have hb:b∉keys pre:=by rw[g];exact f b (by simp[keys])
  refine ⟨bT ro b (.cells arr e),fY _ _ _,fun c d off sp=>?_,⟨some ⟨b,0,none⟩,cap,by rw[hl],by omega,by omega,fun i x hi=>?_⟩,jV ?_ (List.sublist_append_left _ _) (l5 hb)⟩
  ·have aG:¬c=b:=fun e=>hb (e▸d)
   simp[bT,a c d,aG]
  ·obtain ⟨cs,o,p⟩:=k i x hi
   refine ⟨_,cs,rfl,r.mono (fY _ _ _) p,fun j v q=>?_⟩
   have hf:=o9 ls i cs hx o j v q
   rw[kO,kP,Nat.zero_add,iU m]
   have s:i*r.n+j<ls.length*r.n:=by
    have:=(List.getElem?_eq_some_iff.1 hf).1
    rw[g8 hx] at this
    exact this
   rw[<-ht,List.getElem?_take_of_lt s] at hf
   simpa [cellOf] using hf
  ·have:∀(pre:List (Nat×Obj)),b∉keys pre->lk (pre++[(b,Obj.cells arr e)]) b=some (.cells arr e):=fun pre h=>uF (l5 h)
   exact this pre hb
theorem aO.elem {T:Type}{r:b7 T}{ro:Addr->Option Value}{e:TypeId}{v:Value}{l:List T}{aR:List (Nat×Obj)}(h:aO r ro e v l aR){i:Nat}{x:T}(hi:l[i]?=some x):
  ∃b arr cap cs,v= .slice (some ⟨b,0,none⟩) l.length cap/\aR=[(b,.cells arr e)]/\(∀off sp,ro ⟨b,off,sp⟩=none)/\r.rel ro x cs/\∀j v,cs[j]?=some v->arr[i*r.n+j]?=some v:=by
 obtain ⟨ls,hg,hl,hm,c⟩:=h
 obtain ⟨cs,a,d⟩:=c i x hi
 rcases hg with ⟨rfl,rfl,rfl⟩|⟨b,arr,cap,rfl,rfl,hs,hle,ht,hx,f⟩
 ·simp at a
 ·refine ⟨b,arr,cap,cs,by rw[hl],rfl,f,d,fun j v g=>?_⟩
  have hf:=o9 ls i cs hx a j v g
  have k:i*r.n+j<ls.length*r.n:=by
   have:=(List.getElem?_eq_some_iff.1 hf).1
   rw[g8 hx] at this
   exact this
  rw[<-ht,List.getElem?_take_of_lt k] at hf
  simpa using hf
theorem aW {ro:Addr->Option Value}{own:List (Nat×Obj)}:Ext ro (aa.cq ⟨ro,own⟩).ro:=fun a v h=>by simp[aa.cq,aa.get,h]
theorem b9 {ro:Addr->Option Value}{own:List (Nat×Obj)}{F:aa}(h:Knows ⟨ro,own⟩ F):Ext ro F.cq.ro:=fun a v b=>by
 have:F.ro a=some v:=h.1 a v b
 simp[aa.cq,aa.get,this]
theorem aB.pe {T:Type}{r:b7 T}{ro:Addr->Option Value}{ad:Option Addr}{cap:Nat}{l x:List T}(h:aB r ro (.slice ad l.length cap) l)(lo hi:Nat)(b:lo<=hi)(c:hi<=l.length)(hx:x=(l.take hi).drop lo):
  ∃a,(if cap=lo then ad else ad.map (·.add (lo*r.n)))=a/\hi - lo=x.length/\aB r ro (.slice a x.length (cap - lo)) x:=by
 subst hx
 have hlen:((l.take hi).drop lo).length=hi - lo:=by simp;omega
 refine ⟨_,rfl,hlen.symm,?_⟩
 rw[hlen]
 exact h.part lo hi b c
theorem aB.one {T:Type}{r:b7 T}{ro:Addr->Option Value}{own:List (Nat×Obj)}{b:Nat}{x:T}{cs:Array Value}{e:TypeId}(a:∀off sp,ro ⟨b,off,sp⟩=none)(hl:lk own b=some (.cells cs e))(h:r.rel ro x cs.toList):
  aB r (bT ro b (.cells cs e)) (.slice (some ⟨b,0,none⟩) 1 1) [x]:=by
 refine ⟨some ⟨b,0,none⟩,1,rfl,Nat.le_refl _,by simp,fun i y hi=>?_⟩
 have:i=0/\y=x:=by
  cases i with
  |zero=>simp at hi;exact ⟨rfl,hi.symm⟩
  |succ i=>simp at hi
 obtain ⟨rfl,rfl⟩:=this
 refine ⟨_,_,rfl,r.mono (fY _ _ _) h,fun j v c=>?_⟩
 rw[Nat.zero_mul,add_zero',kP,Nat.zero_add,iU a]
 simpa [cellOf] using c
theorem aB.flat {T:Type}{r:b7 T}{ro:Addr->Option Value}{b:Nat}{cs:Array Value}{e:TypeId}(c:T->List Value)(l:List T)(a:∀x,r.rel ro x (c x))(d:∀off sp,ro ⟨b,off,sp⟩=none)(hf:cs.toList=(l.map c).flatten)(hlen:l.length<=1000000000000000):
  aB r (bT ro b (.cells cs e)) (.slice (some ⟨b,0,none⟩) l.length l.length) l:=by
 refine ⟨some ⟨b,0,none⟩,l.length,rfl,Nat.le_refl _,hlen,fun i x hi=>⟨_,c x,rfl,r.mono (fY _ _ _) (a x),fun j v f=>?_⟩⟩
 have g:(l.map c)[i]?=some (c x):=by rw[List.getElem?_map,hi];rfl
 have h:∀y∈l.map c,y.length=r.n:=fun y k=>by
  obtain ⟨z,_,rfl⟩:=List.mem_map.1 k
  exact r.len (a z)
 have:=o9 (l.map c) i (c x) h g j v f
 rw[kP,kP,Nat.zero_add,iU d]
 rw[<-hf] at this
 simpa [cellOf] using this
theorem jX {ro:Addr->Option Value}{own:List (Nat×Obj)}{b:Nat}{o:Obj}(hl:lk own b=some o):Ext (bT ro b o) (aa.cq ⟨ro,own⟩).ro:=fun a v h=>by
 unfold bT at h
 simp only[aa.cq,aa.get]
 split at h
 ·rename_i x hx;rw[hx];exact h
 ·rename_i hx
  split at h
  ·rename_i c
   rw[hx]
   simp only
   rw[if_pos c.2,c.1,hl]
   exact h
  ·cases h
section
variable {P : Program} {main : Bool} {J : Goroutine → aa → Prop}
theorem gO (hJ:Closed P main J){f:FuncId}{args:Array Value}{F F':aa}{K:Value->aa->Prop}(hle:Le F F')(h:cR P J f args F K):cR P J f args F' K:=fun c cs k=>hJ.mono hle (h c cs k)
end
theorem aO.bd {T:Type}{r:b7 T}{ro:Addr->Option Value}{e:TypeId}{v:Value}{l:List T}{aR:List (Nat×Obj)}(h:aO r ro e v l aR):l.length<=1000000:=by
 obtain ⟨ls,_,_,hm,_⟩:=h;exact hm
theorem aC.zE {P:Program}{f:FuncId}{args:Array Value}{ro:Addr->Option Value}{R:Value->Prop}(h:aC P f args ⟨ro,[]⟩ (fun v _=>R v)):aC P f args ⟨ro,[]⟩ (fun v G=>R v/\G=⟨ro,[]⟩):=by
 intro main J hJ c cs b
 exact uh (F:=⟨ro,[]⟩) (R:=R) (by
  have e:aa.cq ⟨ro,[]⟩=⟨ro,[]⟩:=by
   simp only[aa.cq,aa.mk.injEq,and_true];funext a;simp only[aa.get];cases ro a with
   |none=>simp[lk]
   |some v=>rfl
  rw[e];exact h) main J hJ c cs b
end Go.Sep
end
section
namespace Go.Sep
open Go Go.Conc Go.ConcM
open Go.ConcN (sumTo upd sumTo_upd upd_ne upd_same)
def dR (P:Program)(Φ:Goroutine->aa->Prop)(g:Goroutine)(F:aa):Prop:=
 ∀(bB:Loc->Prop) (gs:Array Goroutine) (w:World) (sl:Option (Nat×Nat)) (t:Trace) (q:Nat->Nat),ju P bB g F gs w t q->
  ∃(N:Nat) (bW:Array Goroutine) (w':World) (c:Option (Nat×Nat)) (a:Trace) (d:Nat->Nat) (g':Goroutine) (F':aa) (b:Loc->Prop),
   runNT P N (crowd gs w sl) t=(.next (crowd bW w' c),a)/\ju P b g' F' bW w' a d/\e4 F F' w w'/\(∀l,b l->bB l\/¬l.low w.heap.size)/\Φ g' F'
theorem dR.done {P:Program}{Φ:Goroutine->aa->Prop}{g:Goroutine}{F:aa}(h:Φ g F):dR P Φ g F:=
 fun bB gs w sl t q hA=>⟨0,gs,w,sl,t,q,g,F,bB,rfl,hA,.refl _ _,fun _ h=>.inl h,h⟩
theorem pg (P:Program)(Φ:Goroutine->aa->Prop):Closed P true (dR P Φ) where
 mono hle h bB gs w sl t q hA:=by
  obtain ⟨N,bW,w',u,v,z,g',F',A,f,B,hu,C,D⟩:=h bB gs w sl t q ⟨hA.g0,hA.lv,hA.fB,hle.has w hA.has,fun l hs hf=>hA.apart l hs (hle.gq hf),hA.low⟩
  exact ⟨N,bW,w',u,v,z,g',F',A,f,B,hu.le hle,C,D⟩
 step {fr cs F} h bB gs w sl t q hA:=by
  obtain ⟨N,g,d,k,ao,m,t1,E,f,ar,o,p,H,I⟩:=qG (P:=P) (a:=G fr cs) rfl _ gs w sl t q (Nat.le_refl _) hA.g0 hA.lv hA.fB
  obtain ⟨g',w',es,F',hgo,hu,J,K,hJ⟩:=h (w.at k) (hA.has.at k)
  have b:dP F F' w w':=⟨hu.os,hu.tape,hu.output,hu.size,hu.frame,hu.ro,hu.own⟩
  have L:=runT_crowd_go (P:=P) (sl:=m) (i:=0) o (show stepG P (0==0) (G fr cs) (w.at k)=_ from hgo)
  have M:0<g.size:=(Array.getElem?_eq_some_iff.1 o).1
  have r:=ju.next (P:=P) hA.apart hA.low b
  obtain ⟨O,Q,w2,R,t2,S,T,U,V,W,X,Y,Z,ab⟩:=hJ bB ((g.map (woken P (G fr cs) g' w')).setIfInBounds 0 g') w' m (t1++MemOp.ofEvents 0 (G fr cs).frame.fn (G fr cs).frame.place es) E
   {g0:=by simp[M]
    lv:=⟨fun j x c hx=>by
     have aG:0≠j:=by omega
     rw[Array.getElem?_setIfInBounds_ne aG,Array.getElem?_map] at hx
     obtain ⟨y,ad,rfl⟩:=Option.map_eq_some_iff.1 hx
     have s:=p.old j y c ad
     rw[woken_quitsD s,Deaf_other t1 (by omega) _ (fun op n=>by obtain ⟨e,_,rfl⟩:=Go.Conc.mem_ofEvents n;rfl)]
     exact s,fun j c=>by
     rw[Deaf_other t1 (g':=0) (by simp at c;omega) _ (fun op n=>by obtain ⟨e,_,rfl⟩:=Go.Conc.mem_ofEvents n;rfl)]
     exact p.above j (by simpa using c)⟩
    fB:=(H.mono b.size).own fun e he=>y4 hA.has b.size hA.apart hA.low (K e he)
    has:=J
    apart:=r.1
    low:=r.2}
  refine ⟨N+1+O,Q,w2,R,t2,S,T,U,V,?_,X,(e4.oP b).trans Y,fun l hl=>(Z l hl).imp id fun ae al=>ae (Loc.low_mono b.size al),ab⟩
  have:runNT P (N+1) (crowd gs w sl) t=(.next (crowd ((g.map (woken P (G fr cs) g' w')).setIfInBounds 0 g') w' m),t1++MemOp.ofEvents 0 (G fr cs).frame.fn (G fr cs).frame.place es):=by
   rw[runNT_add,f]
   simp only[runNT,I,L]
  rw[jv this]
  exact W
def fF (P:Program)(f:FuncId)(args:Array Value)(F:aa)(R:Value->aa->Prop):Prop:=∀Φ,cR P (dR P Φ) f args F R
theorem zF {P:Program}{f:FuncId}{args:Array Value}{ro:Addr->Option Value}{own:List (Nat×Obj)}{R:Value->aa->Prop}(h:fF P f args ⟨ro,[]⟩ R):
  fF P f args ⟨ro,own⟩ (fun v F'=>∃G,R v G/\F'=G.star ⟨ro,own⟩/\Fits ⟨ro,own⟩ G/\lY ⟨ro,own⟩ G):=by
 intro Φ c cs D bB gs w sl t q hA
 let Fr:aa:=⟨ro,own⟩
 have E:ju P bB (G (Frame.enter P f args .normal) (c::cs)) ⟨ro,[]⟩ gs w t q:=
  ⟨hA.g0,hA.lv,hA.fB,⟨hA.has.ro,fun b o hb=>(by cases hb),List.nodup_nil,fun a v g hm=>(by cases hm)⟩,fun l hs hf=>hA.apart l hs (by
   cases l with
   |cell a=>exact hf.elim (fun x=>by cases x) .inr
   |obj r=>cases hf
   |_=>exact hf),hA.low⟩
 obtain ⟨N,bW,w',F,m,n,g',F',p,g,d,hu,j,v,rfl,k⟩:=h (fun g' F'=>∃v,g'=G (c.finish v) cs/\R v F') c cs (fun v F' k=>dR.done ⟨v,rfl,k⟩) bB gs w sl t q E
 have s:Has Fr w':=⟨fun a v g=>by
  have u:=hA.has.ro a v g
  have H:=hA.has.gK (a:=a) (by rw[g];rfl)
  unfold World.cell? at u ⊢
  rw[hu.frame _ H (fun hm=>by cases hm)]
  exact u,fun b o hb=>by
  rw[hu.frame b (hA.has.lt (eN hb)) (fun hm=>by cases hm)]
  exact hA.has.own b o hb,hA.has.nodup,hA.has.apart⟩
 have A:Fits Fr F':=⟨⟨w',d.has,s⟩,fun b hb hm=>by
  rcases hu.own b hb with x|x
  ·cases x
  ·have:=hA.has.lt (b:=b) hm;omega,fun a i hm=>by
  rcases hu.own _ hm with x|x
  ·cases x
  ·have:=hA.has.gK (a:=a) i;omega⟩
 have I:lY Fr F':=fun a i hm=>by
  rcases hu.ro a i with x|x|x
  ·obtain ⟨y,J⟩:=Option.isSome_iff_exists.1 x
   exact hA.has.apart a y J hm
  ·cases x
  ·have:=hA.has.lt (b:=a.block) hm;omega
 have K:ju P p (G (c.finish v) cs) (F'.star Fr) bW w' m n:=by
  refine ⟨d.g0,d.lv,d.fB,A.both d.has s,fun l hs hf=>?_,d.low⟩
  have B:∀b,b∈keys own->(l= .obj b\/∃a,l= .cell a/\a.block=b)->False:=fun b hb hl=>by
   rcases j l hs with x|x
   ·refine hA.apart l x ?_
    rcases hl with rfl|⟨a,rfl,e⟩
    ·exact hb
    ·exact .inl (e▸hb)
   ·refine x ?_
    have:=hA.has.lt (b:=b) hb
    rcases hl with rfl|⟨a,rfl,e⟩
    ·exact this
    ·show a.block<_;rw[e];exact this
  cases l with
  |cell a=>
   rcases hf with x|x
   ·simp only[aa.star,ck,List.mem_append] at x
    rcases x with x|x
    ·exact d.apart _ hs (.inl x)
    ·exact B _ x (.inr ⟨a,rfl,rfl⟩)
   ·rcases jQ x with y|y
    ·rcases j _ hs with z|z
     ·exact hA.apart _ z (.inr y)
     ·exact z (hA.has.gK (a:=a) y)
    ·exact d.apart _ hs (.inr y)
  |obj r=>
   simp only[aa.gq,aa.star,ck,List.mem_append] at hf
   rcases hf with x|x
   ·exact d.apart _ hs x
   ·exact B _ x (.inl rfl)
  |_=>exact hf
 obtain ⟨L,M,w2,O,t2,Q,S,T,U,V,W,X,Y,Z⟩:=D v (F'.star Fr) ⟨F',k,rfl,A,I⟩ p bW w' F m n K
 have ab:e4 ⟨ro,own⟩ (F'.star Fr) w w':=⟨hu.os,hu.tape,hu.output,hu.size,fun b hb C=>hu.frame b hb (fun x=>by cases x),fun a i=>by
  rcases jQ i with y|y
  ·exact .inl y
  ·rcases hu.ro a y with z|z|z
   ·exact .inl z
   ·cases z
   ·exact .inr (.inr z),fun b hb=>by
  simp only[aa.star,ck,List.mem_append] at hb
  rcases hb with x|x
  ·rcases hu.own b x with y|y
   ·cases y
   ·exact .inr y
  ·exact .inl x⟩
 exact ⟨N+L,M,w2,O,t2,Q,S,T,U,by rw[jv g];exact V,W,ab.trans X,fun l hl=>(Y l hl).elim (j l) fun C=>.inr fun ad=>C (Loc.low_mono hu.size ad),Z⟩
theorem fF.go {P:Program}{f:FuncId}{fn:Func}{c:Code}{n:Nat}{rs:List ResultVar}{args:Array Value}{F:aa}{R:Value->aa->Prop}(hf:P.funcs[f]?=some fn)(hb:fn.body=some c)(d:fn.ntmps=n)(j:fn.results=rs.toArray)(l:args.size<=n)
  (h:∀Φ,Closed P true (dR P Φ)->∀A:Act,sz A=n->A.defers=[]->(∀i,slot A i=args.getD i undef)->Wp (dR P Φ) c (g9 P rs R) A F):fF P f args F R:=fun Φ=>by
 refine cR.of_wp (pg P Φ) hf hb ?_
 refine (h Φ (pg P Φ) _ (by simp[sz,d];omega) rfl fun i=>?_).mono fun e a F g=>?_
 ·simp only[slot,d,Array.getD_eq_getD_getElem?]
  rcases Nat.lt_or_ge i args.size with hi|hi
  ·rw[Array.getElem?_append_left hi]
  ·rw[Array.getElem?_append_right hi,Array.getElem?_replicate,Array.getElem?_eq_none hi]
   split<;>rfl
 ·cases e with
  |exit i=>exact g
  |_=>
   obtain ⟨hd,b⟩:=g
   split at b
   ·rename_i v k
    show g7 P a.defers _ F
    rw[hd]
    exact qV j k b
   ·exact b.elim
def pn (P:Program)(f:FuncId)(args:Array Value)(ro:Addr->Option Value)(R:Value->(Addr->Option Value)->Prop):Prop:=
 fF P f args ⟨ro,[]⟩ (fun v G=>∃aN,Ext ro aN/\Le ⟨aN,[]⟩ G/\R v aN)
theorem El {P:Program}{Φ:Goroutine->aa->Prop}{f:FuncId}{args:Array Value}{ro:Addr->Option Value}{own:List (Nat×Obj)}{K:Value->aa->Prop}(R:Value->(Addr->Option Value)->Prop)
  (h:pn P f args ro R) (j:∀v aN,Ext ro aN->(∀b∈keys own,∀off sp,aN ⟨b,off,sp⟩=none)->R v aN->K v ⟨aN,own⟩):cR P (dR P Φ) f args ⟨ro,own⟩ K:=by
 intro c cs k
 refine zF (own:=own) h Φ c cs fun v F' l=>?_
 obtain ⟨G,⟨aN,m,hle,n⟩,rfl,hf,o⟩:=l
 have g:∀a,(aN a).isSome=true->a.block∉keys own:=fun a e=>(hle.ro a e).elim (o a) (hf.own _)
 refine (pg P Φ).mono (F:=⟨aN,own⟩) ⟨fun w hw=>?_,fun b hb=>?_,fun a e=>?_⟩ (k v ⟨aN,own⟩ (j v aN m (fun b hb off sp=>?_) n))
 ·have p:=hle.has w (hf.right hw)
  have i:=hf.left hw
  exact ⟨p.ro,i.own,i.nodup,fun a v d=>g a (by simp only at d;simp[d])⟩
 ·simp only[aa.star,ck,List.mem_append];exact .inr hb
 ·rcases hle.ro a e with x|x
  ·exact (gr (.inr x)).imp id (fun z=>by simp only[aa.star,ck,List.mem_append];exact .inr z)
  ·exact .inr (by simp only[aa.star,ck,List.mem_append];exact .inl x)
 ·cases d:aN ⟨b,off,sp⟩ with
  |none=>rfl
  |some v=>exact absurd hb (g ⟨b,off,sp⟩ (by simp[d]))
theorem q2 {P:Program}{Φ:Goroutine->aa->Prop}{f:FuncId}{args:Array Value}{ro:Addr->Option Value}{own:List (Nat×Obj)}{K:Value->aa->Prop}(v:Value)
  (h:fF P f args ⟨ro,[]⟩ (fun d _=>d=v)) (e:K v ⟨ro,own⟩):cR P (dR P Φ) f args ⟨ro,own⟩ K:=by
 intro c cs g
 refine zF (own:=own) h Φ c cs fun d F' i=>?_
 obtain ⟨G,rfl,rfl,hf,k⟩:=i
 refine (pg P Φ).mono (F:=⟨ro,own⟩) ⟨fun w hw=>hf.left hw,fun b hb=>?_,fun a j=>?_⟩ (g d ⟨ro,own⟩ e)
 ·simp only[aa.star,ck,List.mem_append];exact .inr hb
 ·exact (gr (.inl j)).imp id (fun z=>by simp only[aa.star,ck,List.mem_append];exact .inr z)
end Go.Sep
end
section
namespace Go.Sep
open Go Go.Conc Go.ConcM
def zG (P:Program)(R:Value->aa->Prop)(g:Goroutine)(F:aa):Prop:=
 ∃(fr:Frame) (fn:Func) (t:Nat) (v:Value),g=G fr []/\fr.kind= .normal/\P.inits.idxOf? fr.fn=none/\fr.mode= .returning/\fr.defers=[]/\P.funcs[fr.fn]?=some fn/\fn.results=#[.tmp t]/\fr.tmps.getD t undef=v/\R v F
def l6 (P:Program)(f:FuncId)(args:Array Value)(F:aa)(R:Value->aa->Prop):Prop:=
 ∀Φ:Goroutine->aa->Prop,(∀g F',zG P R g F'->Φ g F')->dR P Φ (G (Frame.enter P f args .normal) []) F
theorem l6.go {P:Program}{f:FuncId}{fn:Func}{c:Code}{n t:Nat}{args:Array Value}{F:aa}{R:Value->aa->Prop}(hf:P.funcs[f]?=some fn)(hb:fn.body=some c)(g:fn.ntmps=n)(m:fn.results=[.tmp t].toArray)(w:args.size<=n)(hi:P.inits.idxOf? f=none)
  (h:∀Φ,Closed P true (dR P Φ)->∀A:Act,sz A=n->A.defers=[]->(∀i,slot A i=args.getD i undef)->Wp (dR P Φ) c (g9 P [.tmp t] R) A F):l6 P f args F R:=by
 intro Φ o
 have hJ:=pg P Φ
 let b:Frame:={(default:Frame) with fn:=f,kind:=.normal}
 have p:Frame.enter P f args .normal=on b {tmps:=args++Array.replicate (fn.ntmps - args.size) undef,defers:=[]} [.code c]:=by
  simp[Frame.enter,on,hf,hb,b]
  rfl
 rw[p]
 have j:∀(a:Act) (F':aa) (fr:Frame),fr.kind= .normal->fr.mode= .returning->fr.defers=a.defers->fr.fn=f->fr.tmps=a.tmps->g9 P [.tmp t] R .normal a F'->dR P Φ (G fr []) F':=by
  intro a F' fr q r s k u d
  obtain ⟨hd,v⟩:=d
  refine dR.done (o _ _ ⟨fr,fn,t,_,rfl,q,by rw[k];exact hi,r,by rw[s,hd],by rw[k];exact hf,m,rfl,?_⟩)
  rw[u]
  simpa [lV,lU,oZ,slot] using v
 refine h Φ hJ _ (by simp[sz,g];omega) rfl (fun i=>?_) b [] [] ⟨by simp[b],.inl rfl⟩ fun e l F' d=>?_
 ·simp only[slot,g,Array.getD_eq_getD_getElem?]
  rcases Nat.lt_or_ge i args.size with hi|hi
  ·rw[Array.getElem?_append_left hi]
  ·rw[Array.getElem?_append_right hi,Array.getElem?_replicate,Array.getElem?_eq_none hi]
   split<;>rfl
 ·cases e with
  |normal=>exact hJ.move (fun _=>lK rfl) (j l F' _ rfl rfl rfl rfl rfl d)
  |exit i=>exact d.elim
  |ret=>exact fun x=>hJ.move (fun _=>stepG_ret' rfl) (j l F' _ rfl rfl rfl rfl rfl d)
theorem l6.ends {P:Program}{f:FuncId}{args:Array Value}{F:aa}{R:Value->aa->Prop}(h:l6 P f args F R){W:World}(g:Has F W){a:Value->World->Prop}
  (i:∀v F' w',R v F'->e4 F F' W w'->a v w'):
  ∃M last o w' b,runNT P (M+1) (solo (G (Frame.enter P f args .normal) []) W) #[]=(.ended o w',b)/\runN P M (solo (G (Frame.enter P f args .normal) []) W)= .next last/\step P last= .ended o w'/\Go.Conc.Good P a last o w' b:=by
 obtain ⟨N,bW,w',j,b,A,g',F',k,c,hA,hu,_,fr,fn,t,v,rfl,l,hi,m,n,p,q,r,s⟩:=h (zG P R) (fun _ _ x=>x) (fun _=>False) #[G (Frame.enter P f args .normal) []] W none #[] (fun _=>0)
  ⟨rfl,leavers_one P _,past_nil.mono (Nat.zero_le _),g,fun _ x=>x.elim,fun _ x=>x.elim⟩
 have hg:Goes P true AtRel (fun _ _ _=>False) (AtEnd P k w'.heap.size a) 0 (G fr []) w':=by
  refine Goes.stop fun B ⟨d,hd⟩=>?_
  subst hd
  refine ⟨rfl,v,seen P fr.fn #[],?_,fun e he=>?_,i v F' _ s ⟨hu.os,hu.tape,hu.output,hu.size,hu.frame,hu.ro,hu.own⟩⟩
  ·have u:fr.tmps[t]?.getD undef=v:=by rw[<-r,Array.getD_eq_getD_getElem?]
   simp[G,stepG,unwind,m,n,p,results,q,u,doReturn,GStep.after,Sem.runT,l,hi]
  ·exact absurd (mem_seen he) (by simp)
 obtain ⟨w,last,o,w2,t2,e1,e2,y,z⟩:=beside_ends (sl:=j) (fun _ _ _ x=>x.elim) hA.g0 hA.lv hA.fB hg
 refine ⟨N+w,last,o,w2,t2,?_,?_,y,z⟩
 ·rw[solo_eq_crowd,Nat.add_assoc,jv c,e1]
 ·rw[solo_eq_crowd,runN_add]
  have:=runNT_fst P N (crowd #[G (Frame.enter P f args .normal) []] W none) #[]
  rw[c] at this
  rw[<-this]
  exact e2
end Go.Sep
end
section
namespace Go.Proofs.YtpgcmoanfifglaaGreatDoor
open Go Go.Sep Go.Proofs
set_option maxRecDepth 100000
theorem mixed:Tryz.prog.follows .mixedOrders=true:=by kernel_rfl
@[go_sem] theorem LI:cx Tryz.prog 3=some false:=by kernel_rfl
@[go_sem] theorem kR:bY Tryz.prog 3=some 1:=by kernel_rfl
theorem kS:bytesOf Tryz.prog 3=some 8:=by kernel_rfl
@[go_sem] theorem kT:zeroOf Tryz.prog 3=some (.int .i64 0):=by kernel_rfl
@[go_sem] theorem LJ:cx Tryz.prog 4=some false:=by kernel_rfl
@[go_sem] theorem zH:bY Tryz.prog 4=some 1:=by kernel_rfl
@[go_sem] theorem Em:zeroOf Tryz.prog 4=some (.bool false):=by kernel_rfl
@[go_sem] theorem LK:uA Tryz.prog 4=true:=by kernel_rfl
@[go_sem] theorem LL:cx Tryz.prog 23=some true:=by kernel_rfl
@[go_sem] theorem zI:bY Tryz.prog 23=some 2:=by kernel_rfl
theorem zJ:bytesOf Tryz.prog 23=some 16:=by kernel_rfl
@[go_sem] theorem uU:zeroOf Tryz.prog 23=some (.agg #[.int .i64 0,.int .i64 0]):=by kernel_rfl
@[go_sem] theorem LM:m9 Tryz.prog 23=some [true,true]:=by kernel_rfl
@[go_sem] theorem LN:cN Tryz.prog 23 0=some 0:=by kernel_rfl
@[go_sem] theorem LO:cN Tryz.prog 23 1=some 1:=by kernel_rfl
@[go_sem] theorem LP:placesOf Tryz.prog 23=some [(0,1),(1,1)]:=by kernel_rfl
@[go_sem] theorem LQ:cx Tryz.prog 24=some false:=by kernel_rfl
@[go_sem] theorem LR:bY Tryz.prog 24=some 1:=by kernel_rfl
@[go_sem] theorem LS:jT Tryz.prog 24=true:=by kernel_rfl
@[go_sem] theorem zK:c7 Tryz.prog 24=some 85:=by kernel_rfl
@[go_sem] theorem LU:cx Tryz.prog 25=some false:=by kernel_rfl
@[go_sem] theorem LV:bY Tryz.prog 25=some 1:=by kernel_rfl
@[go_sem] theorem LW:jT Tryz.prog 25=true:=by kernel_rfl
@[go_sem] theorem kU:c7 Tryz.prog 25=some 96:=by kernel_rfl
@[go_sem] theorem LX:cx Tryz.prog 26=some false:=by kernel_rfl
@[go_sem] theorem LY:bY Tryz.prog 26=some 1:=by kernel_rfl
@[go_sem] theorem LZ:jT Tryz.prog 26=true:=by kernel_rfl
@[go_sem] theorem zL:c7 Tryz.prog 26=some 41:=by kernel_rfl
@[go_sem] theorem L0:cx Tryz.prog 27=some false:=by kernel_rfl
@[go_sem] theorem L1:bY Tryz.prog 27=some 1:=by kernel_rfl
@[go_sem] theorem L2:jT Tryz.prog 27=true:=by kernel_rfl
@[go_sem] theorem eo:c7 Tryz.prog 27=some 76:=by kernel_rfl
@[go_sem] theorem L3:cx Tryz.prog 29=some true:=by kernel_rfl
@[go_sem] theorem L4:bY Tryz.prog 29=some 8:=by kernel_rfl
@[go_sem] theorem L5:zeroOf Tryz.prog 29=some (.agg #[.int .i64 0,.int .i64 0,.int .i64 0,.int .i64 0,.slice none 0 0,.slice none 0 0,.slice none 0 0,.slice none 0 0]):=by kernel_rfl
@[go_sem] theorem L6:cN Tryz.prog 29 0=some 0:=by kernel_rfl
@[go_sem] theorem L7:cN Tryz.prog 29 1=some 1:=by kernel_rfl
@[go_sem] theorem L8:cN Tryz.prog 29 2=some 2:=by kernel_rfl
@[go_sem] theorem L9:cN Tryz.prog 29 3=some 4:=by kernel_rfl
@[go_sem] theorem Ma:cN Tryz.prog 29 4=some 5:=by kernel_rfl
@[go_sem] theorem Mb:cN Tryz.prog 29 5=some 6:=by kernel_rfl
@[go_sem] theorem Mc:cN Tryz.prog 29 6=some 7:=by kernel_rfl
@[go_sem] theorem Md:placesOf Tryz.prog 29=some [(0,1),(1,1),(2,2),(4,1),(5,1),(6,1),(7,1)]:=by kernel_rfl
@[go_sem] theorem Me:cx Tryz.prog 35=some false:=by kernel_rfl
@[go_sem] theorem q3:bY Tryz.prog 35=some 1:=by kernel_rfl
theorem q4:bytesOf Tryz.prog 35=some 24:=by kernel_rfl
@[go_sem] theorem q5:zeroOf Tryz.prog 35=some (.slice none 0 0):=by kernel_rfl
@[go_sem] theorem Mf:jT Tryz.prog 35=true:=by kernel_rfl
@[go_sem] theorem fM:c7 Tryz.prog 35=some 3:=by kernel_rfl
@[go_sem] theorem Mg:cx Tryz.prog 39=some true:=by kernel_rfl
@[go_sem] theorem Mh:bY Tryz.prog 39=some 2:=by kernel_rfl
@[go_sem] theorem Mi:zeroOf Tryz.prog 39=some (.agg #[.int .i64 0,.int .i64 0]):=by kernel_rfl
@[go_sem] theorem Mj:cN Tryz.prog 39 0=some 0:=by kernel_rfl
@[go_sem] theorem Mk:cN Tryz.prog 39 1=some 1:=by kernel_rfl
@[go_sem] theorem Ml:placesOf Tryz.prog 39=some [(0,1),(1,1)]:=by kernel_rfl
@[go_sem] theorem Mm:cx Tryz.prog 41=some true:=by kernel_rfl
@[go_sem] theorem En:bY Tryz.prog 41=some 3:=by kernel_rfl
theorem Eo:bytesOf Tryz.prog 41=some 24:=by kernel_rfl
@[go_sem] theorem Ep:zeroOf Tryz.prog 41=some (.agg #[.int .i64 0,.int .i64 0,.int .i64 0]):=by kernel_rfl
@[go_sem] theorem Mn:cN Tryz.prog 41 0=some 0:=by kernel_rfl
@[go_sem] theorem Mo:cN Tryz.prog 41 1=some 1:=by kernel_rfl
@[go_sem] theorem Mq:placesOf Tryz.prog 41=some [(0,1),(1,2)]:=by kernel_rfl
@[go_sem] theorem Mr:cx Tryz.prog 53=some true:=by kernel_rfl
@[go_sem] theorem Ms:bY Tryz.prog 53=some 2:=by kernel_rfl
@[go_sem] theorem Mt:zeroOf Tryz.prog 53=some (.agg #[.int .i64 0,.int .i64 0]):=by kernel_rfl
@[go_sem] theorem Mv:placesOf Tryz.prog 53=some [(0,1),(1,1)]:=by kernel_rfl
@[go_sem] theorem q6:c7 Tryz.prog 72=some 23:=by kernel_rfl
@[go_sem] theorem Mw:cx Tryz.prog 76=some true:=by kernel_rfl
@[go_sem] theorem ia:bY Tryz.prog 76=some 2:=by kernel_rfl
theorem ie:bytesOf Tryz.prog 76=some 16:=by kernel_rfl
@[go_sem] theorem ig:zeroOf Tryz.prog 76=some (.agg #[.int .i64 0,.bool false]):=by kernel_rfl
@[go_sem] theorem Mx:cN Tryz.prog 76 0=some 0:=by kernel_rfl
@[go_sem] theorem My:cN Tryz.prog 76 1=some 1:=by kernel_rfl
@[go_sem] theorem Mz:placesOf Tryz.prog 76=some [(0,1),(1,1)]:=by kernel_rfl
@[go_sem] theorem MA:cx Tryz.prog 85=some true:=by kernel_rfl
@[go_sem] theorem Er:bY Tryz.prog 85=some 2:=by kernel_rfl
theorem Es:bytesOf Tryz.prog 85=some 16:=by kernel_rfl
@[go_sem] theorem zM:zeroOf Tryz.prog 85=some (.agg #[.int .i64 0,.int .i64 0]):=by kernel_rfl
@[go_sem] theorem MB:cN Tryz.prog 85 0=some 0:=by kernel_rfl
@[go_sem] theorem MC:cN Tryz.prog 85 1=some 1:=by kernel_rfl
@[go_sem] theorem MD:placesOf Tryz.prog 85=some [(0,1),(1,1)]:=by kernel_rfl
@[go_sem] theorem ME:cx Tryz.prog 96=some true:=by kernel_rfl
@[go_sem] theorem q7:bY Tryz.prog 96=some 2:=by kernel_rfl
theorem q8:bytesOf Tryz.prog 96=some 16:=by kernel_rfl
@[go_sem] theorem q9:zeroOf Tryz.prog 96=some (.agg #[.int .i64 0,.int .i64 0]):=by kernel_rfl
@[go_sem] theorem MF:cN Tryz.prog 96 0=some 0:=by kernel_rfl
@[go_sem] theorem MG:cN Tryz.prog 96 1=some 1:=by kernel_rfl
@[go_sem] theorem MH:placesOf Tryz.prog 96=some [(0,1),(1,1)]:=by kernel_rfl
@[go_sem] theorem MI:cx Tryz.prog 115=some true:=by kernel_rfl
@[go_sem] theorem MJ:bY Tryz.prog 115=some 8:=by kernel_rfl
@[go_sem] theorem MK:zeroOf Tryz.prog 115=some (.agg #[.int .i64 0,.int .i64 0,.int .i64 0,.int .i64 0,.slice none 0 0,.slice none 0 0,.slice none 0 0,.slice none 0 0]):=by kernel_rfl
@[go_sem] theorem ML:cN Tryz.prog 115 0=some 0:=by kernel_rfl
@[go_sem] theorem MM:placesOf Tryz.prog 115=some [(0,8)]:=by kernel_rfl
@[go_sem] theorem MN:cx Tryz.prog 118=some false:=by kernel_rfl
@[go_sem] theorem MO:bY Tryz.prog 118=some 1:=by kernel_rfl
@[go_sem] theorem MP:zeroOf Tryz.prog 118=some (.map none):=by kernel_rfl
@[go_sem] theorem MQ:cx Tryz.prog 121=some true:=by kernel_rfl
@[go_sem] theorem Et:bY Tryz.prog 121=some 3:=by kernel_rfl
theorem Eu:bytesOf Tryz.prog 121=some 24:=by kernel_rfl
@[go_sem] theorem Ev:zeroOf Tryz.prog 121=some (.agg #[.int .i64 0,.int .i64 0,.int .i64 0]):=by kernel_rfl
@[go_sem] theorem MR:m6 Tryz.prog 121=some (3,3):=by kernel_rfl
@[go_sem] theorem MS:cx Tryz.prog 122=some false:=by kernel_rfl
@[go_sem] theorem MT:bY Tryz.prog 122=some 1:=by kernel_rfl
@[go_sem] theorem zN:c7 Tryz.prog 122=some 121:=by kernel_rfl
@[go_sem] theorem MU:cx Tryz.prog 124=some true:=by kernel_rfl
@[go_sem] theorem MV:bY Tryz.prog 124=some 9:=by kernel_rfl
@[go_sem] theorem MW:zeroOf Tryz.prog 124=some (.agg #[.int .i64 0,.int .i64 0,.int .i64 0,.int .i64 0,.slice none 0 0,.slice none 0 0,.slice none 0 0,.slice none 0 0,.slice none 0 0]):=by kernel_rfl
@[go_sem] theorem MX:cN Tryz.prog 124 0=some 0:=by kernel_rfl
@[go_sem] theorem MY:cN Tryz.prog 124 1=some 8:=by kernel_rfl
@[go_sem] theorem MZ:placesOf Tryz.prog 124=some [(0,8),(8,1)]:=by kernel_rfl
@[go_sem] theorem M0:cx Tryz.prog 127=some false:=by kernel_rfl
@[go_sem] theorem M1:bY Tryz.prog 127=some 1:=by kernel_rfl
@[go_sem] theorem M3:zeroOf Tryz.prog 127=some .nilFunc:=by kernel_rfl
@[go_sem] theorem M4:cx Tryz.prog 134=some true:=by kernel_rfl
@[go_sem] theorem Ew:bY Tryz.prog 134=some 2:=by kernel_rfl
theorem Ey:bytesOf Tryz.prog 134=some 16:=by kernel_rfl
@[go_sem] theorem Ez:zeroOf Tryz.prog 134=some (.agg #[.int .i64 0,.int .i64 0]):=by kernel_rfl
@[go_sem] theorem M5:m9 Tryz.prog 134=some [true,true]:=by kernel_rfl
@[go_sem] theorem M6:cN Tryz.prog 134 0=some 0:=by kernel_rfl
@[go_sem] theorem M7:cN Tryz.prog 134 1=some 1:=by kernel_rfl
@[go_sem] theorem M8:placesOf Tryz.prog 134=some [(0,1),(1,1)]:=by kernel_rfl
@[go_sem] theorem M9:cx Tryz.prog 139=some false:=by kernel_rfl
@[go_sem] theorem ni:c7 Tryz.prog 141=some 147:=by kernel_rfl
@[go_sem] theorem Na:cx Tryz.prog 142=some false:=by kernel_rfl
@[go_sem] theorem Nb:bY Tryz.prog 142=some 1:=by kernel_rfl
@[go_sem] theorem Nc:zeroOf Tryz.prog 142=some (.slice none 0 0):=by kernel_rfl
@[go_sem] theorem zO:c7 Tryz.prog 142=some 134:=by kernel_rfl
@[go_sem] theorem Nf:cx Tryz.prog 145=some true:=by kernel_rfl
@[go_sem] theorem Ng:bY Tryz.prog 145=some 3:=by kernel_rfl
@[go_sem] theorem Nh:zeroOf Tryz.prog 145=some (.agg #[.int .i64 0,.int .i64 0,.int .i64 0]):=by kernel_rfl
@[go_sem] theorem Ni:m9 Tryz.prog 145=some [true,true,true]:=by kernel_rfl
@[go_sem] theorem Nj:cN Tryz.prog 145 0=some 0:=by kernel_rfl
@[go_sem] theorem Nk:cN Tryz.prog 145 1=some 1:=by kernel_rfl
@[go_sem] theorem Nl:placesOf Tryz.prog 145=some [(0,1),(1,2)]:=by kernel_rfl
@[go_sem] theorem Nm:cx Tryz.prog 147=some true:=by kernel_rfl
@[go_sem] theorem uV:bY Tryz.prog 147=some 6:=by kernel_rfl
theorem uW:bytesOf Tryz.prog 147=some 48:=by kernel_rfl
@[go_sem] theorem uX:zeroOf Tryz.prog 147=some (.agg #[.int .i64 0,.int .i64 0,.int .i64 0,.int .i64 0,.int .i64 0,.int .i64 0]):=by kernel_rfl
@[go_sem] theorem Nn:cN Tryz.prog 147 0=some 0:=by kernel_rfl
@[go_sem] theorem No:cN Tryz.prog 147 1=some 3:=by kernel_rfl
@[go_sem] theorem Np:cN Tryz.prog 147 2=some 4:=by kernel_rfl
@[go_sem] theorem Nq:uo Tryz.prog 147 2=some (4,2,true):=by kernel_rfl
@[go_sem] theorem Nr:placesOf Tryz.prog 147=some [(0,3),(3,1),(4,2)]:=by kernel_rfl
@[go_sem] theorem kV:c7 Tryz.prog 154=some 35:=by kernel_rfl
@[go_sem] theorem Ns:cx Tryz.prog 165=some false:=by kernel_rfl
@[go_sem] theorem Nt:bY Tryz.prog 165=some 1:=by kernel_rfl
@[go_sem] theorem Nu:zeroOf Tryz.prog 165=some .nilFunc:=by kernel_rfl
@[go_sem] theorem Nv:c7 Tryz.prog 167=some 127:=by kernel_rfl
@[go_sem] theorem Ny:cx Tryz.prog 174=some true:=by kernel_rfl
@[go_sem] theorem Nz:bY Tryz.prog 174=some 5:=by kernel_rfl
@[go_sem] theorem NA:m6 Tryz.prog 174=some (5,127):=by kernel_rfl
@[go_sem] theorem NB:cx Tryz.prog 177=some false:=by kernel_rfl
@[go_sem] theorem NC:bY Tryz.prog 177=some 1:=by kernel_rfl
@[go_sem] theorem ND:zeroOf Tryz.prog 177=some (.slice none 0 0):=by kernel_rfl
@[go_sem] theorem NF:c7 Tryz.prog 177=some 4:=by kernel_rfl
@[go_sem] theorem NG:cN Tryz.prog 182 0=some 0:=by kernel_rfl
@[go_sem] theorem NH:cN Tryz.prog 182 1=some 1:=by kernel_rfl
@[go_sem] theorem NI:zeroOf Tryz.prog 184=some (.agg #[.int .i32 0,.int .u32 0]):=by kernel_rfl
@[go_sem] theorem NJ:cN Tryz.prog 184 1=some 0:=by kernel_rfl
@[go_sem] theorem NK:cN Tryz.prog 189 2=some 0:=by kernel_rfl
@[go_sem] theorem NL:zeroOf Tryz.prog 191=some (.agg #[.int .u64 0,.int .u32 0]):=by kernel_rfl
@[go_sem] theorem NM:cN Tryz.prog 191 1=some 0:=by kernel_rfl
@[go_sem] theorem NN:cN Tryz.prog 191 2=some 1:=by kernel_rfl
@[go_sem] theorem NO:cx Tryz.prog 254=some false:=by kernel_rfl
@[go_sem] theorem NP:bY Tryz.prog 254=some 1:=by kernel_rfl
@[go_sem] theorem NQ:zeroOf Tryz.prog 254=some (.int .u64 0):=by kernel_rfl
@[go_sem] theorem NR:aJ Tryz.prog 2=true:=by kernel_rfl
@[go_sem] theorem NS:aJ Tryz.prog 3=true:=by kernel_rfl
@[go_sem] theorem NT:aJ Tryz.prog 4=true:=by kernel_rfl
@[go_sem] theorem NU:aJ Tryz.prog 5=true:=by kernel_rfl
@[go_sem] theorem NV:aJ Tryz.prog 6=true:=by kernel_rfl
@[go_sem] theorem NW:aJ Tryz.prog 7=true:=by kernel_rfl
@[go_sem] theorem NX:aJ Tryz.prog 8=true:=by kernel_rfl
@[go_sem] theorem NY:aJ Tryz.prog 9=true:=by kernel_rfl
@[go_sem] theorem NZ:aJ Tryz.prog 10=true:=by kernel_rfl
@[go_sem] theorem N0:aJ Tryz.prog 11=true:=by kernel_rfl
@[go_sem] theorem N1:aJ Tryz.prog 12=true:=by kernel_rfl
@[go_sem] theorem N2:aJ Tryz.prog 13=true:=by kernel_rfl
@[go_sem] theorem N3:aJ Tryz.prog 14=true:=by kernel_rfl
@[go_sem] theorem N4:aJ Tryz.prog 15=true:=by kernel_rfl
@[go_sem] theorem N5:aJ Tryz.prog 16=true:=by kernel_rfl
@[go_sem] theorem N6:aJ Tryz.prog 17=true:=by kernel_rfl
@[go_sem] theorem N7:aJ Tryz.prog 18=true:=by kernel_rfl
@[go_sem] theorem N8:aJ Tryz.prog 19=true:=by kernel_rfl
@[go_sem] theorem N9:aJ Tryz.prog 20=true:=by kernel_rfl
@[go_sem] theorem Oa:aJ Tryz.prog 21=true:=by kernel_rfl
@[go_sem] theorem Ob:aJ Tryz.prog 22=true:=by kernel_rfl
@[go_sem] theorem Oc:aJ Tryz.prog 23=true:=by kernel_rfl
@[go_sem] theorem Od:aJ Tryz.prog 24=true:=by kernel_rfl
@[go_sem] theorem Oe:aJ Tryz.prog 25=true:=by kernel_rfl
@[go_sem] theorem Of:aJ Tryz.prog 26=true:=by kernel_rfl
@[go_sem] theorem Og:aJ Tryz.prog 27=true:=by kernel_rfl
@[go_sem] theorem Oh:aJ Tryz.prog 28=true:=by kernel_rfl
@[go_sem] theorem Oi:aJ Tryz.prog 29=true:=by kernel_rfl
@[go_sem] theorem Oj:aJ Tryz.prog 30=true:=by kernel_rfl
@[go_sem] theorem Ok:aJ Tryz.prog 31=true:=by kernel_rfl
@[go_sem] theorem Ol:aJ Tryz.prog 32=true:=by kernel_rfl
@[go_sem] theorem Om:aJ Tryz.prog 33=true:=by kernel_rfl
@[go_sem] theorem On:aJ Tryz.prog 34=true:=by kernel_rfl
@[go_sem] theorem Oo:aJ Tryz.prog 35=true:=by kernel_rfl
@[go_sem] theorem Oq:aJ Tryz.prog 36=true:=by kernel_rfl
@[go_sem] theorem Ot:aJ Tryz.prog 37=true:=by kernel_rfl
@[go_sem] theorem Ou:aJ Tryz.prog 38=true:=by kernel_rfl
@[go_sem] theorem Ov:aJ Tryz.prog 39=true:=by kernel_rfl
@[go_sem] theorem Ow:aJ Tryz.prog 40=true:=by kernel_rfl
@[go_sem] theorem Ox:aJ Tryz.prog 41=true:=by kernel_rfl
@[go_sem] theorem Oy:aJ Tryz.prog 42=true:=by kernel_rfl
@[go_sem] theorem Oz:aJ Tryz.prog 43=true:=by kernel_rfl
@[go_sem] theorem OA:aJ Tryz.prog 44=true:=by kernel_rfl
@[go_sem] theorem OB:aJ Tryz.prog 45=true:=by kernel_rfl
@[go_sem] theorem OC:aJ Tryz.prog 46=true:=by kernel_rfl
@[go_sem] theorem OD:aJ Tryz.prog 47=true:=by kernel_rfl
@[go_sem] theorem OE:aJ Tryz.prog 48=true:=by kernel_rfl
@[go_sem] theorem OF:aJ Tryz.prog 49=true:=by kernel_rfl
@[go_sem] theorem OG:aJ Tryz.prog 50=true:=by kernel_rfl
@[go_sem] theorem OH:aJ Tryz.prog 51=true:=by kernel_rfl
@[go_sem] theorem OI:aJ Tryz.prog 52=true:=by kernel_rfl
@[go_sem] theorem OJ:aJ Tryz.prog 53=true:=by kernel_rfl
@[go_sem] theorem OK:aJ Tryz.prog 54=true:=by kernel_rfl
@[go_sem] theorem OL:aJ Tryz.prog 55=true:=by kernel_rfl
@[go_sem] theorem OM:aJ Tryz.prog 56=true:=by kernel_rfl
@[go_sem] theorem ON:aJ Tryz.prog 57=true:=by kernel_rfl
@[go_sem] theorem OO:aJ Tryz.prog 58=true:=by kernel_rfl
@[go_sem] theorem OP:aJ Tryz.prog 59=true:=by kernel_rfl
@[go_sem] theorem OQ:aJ Tryz.prog 60=true:=by kernel_rfl
@[go_sem] theorem OR:aJ Tryz.prog 61=true:=by kernel_rfl
@[go_sem] theorem OS:aJ Tryz.prog 62=true:=by kernel_rfl
@[go_sem] theorem OT:aJ Tryz.prog 63=true:=by kernel_rfl
@[go_sem] theorem OU:aJ Tryz.prog 64=true:=by kernel_rfl
@[go_sem] theorem OV:aJ Tryz.prog 65=true:=by kernel_rfl
@[go_sem] theorem OW:aJ Tryz.prog 66=true:=by kernel_rfl
@[go_sem] theorem OX:aJ Tryz.prog 67=true:=by kernel_rfl
@[go_sem] theorem OY:aJ Tryz.prog 68=true:=by kernel_rfl
@[go_sem] theorem OZ:aJ Tryz.prog 69=true:=by kernel_rfl
@[go_sem] theorem O0:aJ Tryz.prog 70=true:=by kernel_rfl
@[go_sem] theorem O1:aJ Tryz.prog 71=true:=by kernel_rfl
@[go_sem] theorem O2:aJ Tryz.prog 72=true:=by kernel_rfl
@[go_sem] theorem O3:aJ Tryz.prog 73=true:=by kernel_rfl
@[go_sem] theorem O4:aJ Tryz.prog 74=true:=by kernel_rfl
@[go_sem] theorem O5:aJ Tryz.prog 75=true:=by kernel_rfl
@[go_sem] theorem O6:aJ Tryz.prog 76=true:=by kernel_rfl
@[go_sem] theorem O7:aJ Tryz.prog 77=true:=by kernel_rfl
@[go_sem] theorem O8:aJ Tryz.prog 78=true:=by kernel_rfl
@[go_sem] theorem O9:aJ Tryz.prog 79=true:=by kernel_rfl
@[go_sem] theorem Pa:aJ Tryz.prog 80=true:=by kernel_rfl
@[go_sem] theorem Pb:aJ Tryz.prog 81=true:=by kernel_rfl
@[go_sem] theorem Pd:aJ Tryz.prog 82=true:=by kernel_rfl
@[go_sem] theorem Pe:aJ Tryz.prog 83=true:=by kernel_rfl
@[go_sem] theorem Pf:aJ Tryz.prog 84=true:=by kernel_rfl
@[go_sem] theorem Pg:aJ Tryz.prog 85=true:=by kernel_rfl
@[go_sem] theorem Pj:aJ Tryz.prog 86=true:=by kernel_rfl
@[go_sem] theorem Pk:aJ Tryz.prog 87=true:=by kernel_rfl
@[go_sem] theorem Pm:aJ Tryz.prog 88=true:=by kernel_rfl
@[go_sem] theorem Pn:aJ Tryz.prog 89=true:=by kernel_rfl
@[go_sem] theorem Po:aJ Tryz.prog 90=true:=by kernel_rfl
@[go_sem] theorem Pp:aJ Tryz.prog 91=true:=by kernel_rfl
@[go_sem] theorem Pq:aJ Tryz.prog 92=true:=by kernel_rfl
@[go_sem] theorem Pt:aJ Tryz.prog 93=true:=by kernel_rfl
@[go_sem] theorem Pu:aJ Tryz.prog 94=true:=by kernel_rfl
@[go_sem] theorem Pv:aJ Tryz.prog 95=true:=by kernel_rfl
@[go_sem] theorem Pw:aJ Tryz.prog 96=true:=by kernel_rfl
@[go_sem] theorem Px:aJ Tryz.prog 97=true:=by kernel_rfl
@[go_sem] theorem Py:aJ Tryz.prog 98=true:=by kernel_rfl
@[go_sem] theorem Pz:aJ Tryz.prog 99=true:=by kernel_rfl
@[go_sem] theorem PA:aJ Tryz.prog 100=true:=by kernel_rfl
@[go_sem] theorem PB:aJ Tryz.prog 101=true:=by kernel_rfl
@[go_sem] theorem PC:aJ Tryz.prog 102=true:=by kernel_rfl
@[go_sem] theorem PD:aJ Tryz.prog 103=true:=by kernel_rfl
@[go_sem] theorem PE:aJ Tryz.prog 104=true:=by kernel_rfl
@[go_sem] theorem PF:aJ Tryz.prog 105=true:=by kernel_rfl
@[go_sem] theorem PG:aJ Tryz.prog 106=true:=by kernel_rfl
@[go_sem] theorem PI:aJ Tryz.prog 107=true:=by kernel_rfl
@[go_sem] theorem PJ:aJ Tryz.prog 108=true:=by kernel_rfl
@[go_sem] theorem PK:aJ Tryz.prog 109=true:=by kernel_rfl
@[go_sem] theorem PL:aJ Tryz.prog 110=true:=by kernel_rfl
@[go_sem] theorem PM:aJ Tryz.prog 111=true:=by kernel_rfl
@[go_sem] theorem PN:aJ Tryz.prog 112=true:=by kernel_rfl
@[go_sem] theorem PO:aJ Tryz.prog 113=true:=by kernel_rfl
@[go_sem] theorem PR:aJ Tryz.prog 114=true:=by kernel_rfl
@[go_sem] theorem PS:aJ Tryz.prog 115=true:=by kernel_rfl
@[go_sem] theorem PU:aJ Tryz.prog 116=true:=by kernel_rfl
@[go_sem] theorem PV:aJ Tryz.prog 117=true:=by kernel_rfl
@[go_sem] theorem PW:aJ Tryz.prog 118=true:=by kernel_rfl
@[go_sem] theorem PX:aJ Tryz.prog 119=true:=by kernel_rfl
@[go_sem] theorem PY:aJ Tryz.prog 120=true:=by kernel_rfl
@[go_sem] theorem PZ:aJ Tryz.prog 121=true:=by kernel_rfl
@[go_sem] theorem P1:aJ Tryz.prog 122=true:=by kernel_rfl
@[go_sem] theorem P2:aJ Tryz.prog 123=true:=by kernel_rfl
@[go_sem] theorem P3:aJ Tryz.prog 124=true:=by kernel_rfl
@[go_sem] theorem P4:aJ Tryz.prog 125=true:=by kernel_rfl
@[go_sem] theorem P5:aJ Tryz.prog 126=true:=by kernel_rfl
@[go_sem] theorem P6:aJ Tryz.prog 127=true:=by kernel_rfl
@[go_sem] theorem P7:aJ Tryz.prog 128=true:=by kernel_rfl
@[go_sem] theorem P8:aJ Tryz.prog 129=true:=by kernel_rfl
@[go_sem] theorem P9:aJ Tryz.prog 130=true:=by kernel_rfl
@[go_sem] theorem Qa:aJ Tryz.prog 131=true:=by kernel_rfl
@[go_sem] theorem zP:aJ Tryz.prog 132=true:=by kernel_rfl
@[go_sem] theorem Qb:aJ Tryz.prog 133=true:=by kernel_rfl
@[go_sem] theorem Qc:aJ Tryz.prog 134=true:=by kernel_rfl
@[go_sem] theorem Qd:aJ Tryz.prog 135=true:=by kernel_rfl
@[go_sem] theorem Qe:aJ Tryz.prog 136=true:=by kernel_rfl
@[go_sem] theorem EA:aJ Tryz.prog 137=true:=by kernel_rfl
@[go_sem] theorem EB:aJ Tryz.prog 138=true:=by kernel_rfl
@[go_sem] theorem EC:aJ Tryz.prog 139=true:=by kernel_rfl
@[go_sem] theorem Qf:aJ Tryz.prog 140=true:=by kernel_rfl
@[go_sem] theorem Qg:aJ Tryz.prog 141=true:=by kernel_rfl
@[go_sem] theorem Qh:aJ Tryz.prog 142=true:=by kernel_rfl
@[go_sem] theorem Qi:aJ Tryz.prog 143=true:=by kernel_rfl
@[go_sem] theorem Qj:aJ Tryz.prog 144=true:=by kernel_rfl
@[go_sem] theorem Qk:aJ Tryz.prog 145=true:=by kernel_rfl
@[go_sem] theorem Ql:aJ Tryz.prog 146=true:=by kernel_rfl
@[go_sem] theorem Qm:aJ Tryz.prog 147=true:=by kernel_rfl
@[go_sem] theorem Qo:aJ Tryz.prog 148=true:=by kernel_rfl
@[go_sem] theorem Qp:aJ Tryz.prog 149=true:=by kernel_rfl
@[go_sem] theorem Qq:aJ Tryz.prog 150=true:=by kernel_rfl
@[go_sem] theorem Qr:aJ Tryz.prog 157=true:=by kernel_rfl
@[go_sem] theorem zQ:aJ Tryz.prog 158=true:=by kernel_rfl
@[go_sem] theorem uY:aJ Tryz.prog 160=true:=by kernel_rfl
@[go_sem] theorem ED:aJ Tryz.prog 161=true:=by kernel_rfl
@[go_sem] theorem Qs:aJ Tryz.prog 164=true:=by kernel_rfl
@[go_sem] theorem EE:aJ Tryz.prog 165=true:=by kernel_rfl
@[go_sem] theorem EF:aJ Tryz.prog 166=true:=by kernel_rfl
@[go_sem] theorem EG:aJ Tryz.prog 169=true:=by kernel_rfl
@[go_sem] theorem Qt:aJ Tryz.prog 172=true:=by kernel_rfl
@[go_sem] theorem Qu:aJ Tryz.prog 173=true:=by kernel_rfl
@[go_sem] theorem Qv:aJ Tryz.prog 174=true:=by kernel_rfl
@[go_sem] theorem Qw:aJ Tryz.prog 175=true:=by kernel_rfl
@[go_sem] theorem Qx:aJ Tryz.prog 176=true:=by kernel_rfl
@[go_sem] theorem Qy:aJ Tryz.prog 177=true:=by kernel_rfl
@[go_sem] theorem Qz:aJ Tryz.prog 178=true:=by kernel_rfl
@[go_sem] theorem QA:aJ Tryz.prog 179=true:=by kernel_rfl
@[go_sem] theorem QB:aJ Tryz.prog 180=true:=by kernel_rfl
@[go_sem] theorem QC:aJ Tryz.prog 181=true:=by kernel_rfl
@[go_sem] theorem QD:aJ Tryz.prog 182=true:=by kernel_rfl
@[go_sem] theorem QE:aJ Tryz.prog 183=true:=by kernel_rfl
@[go_sem] theorem QF:aJ Tryz.prog 184=true:=by kernel_rfl
@[go_sem] theorem QG:aJ Tryz.prog 185=true:=by kernel_rfl
@[go_sem] theorem QH:aJ Tryz.prog 186=true:=by kernel_rfl
@[go_sem] theorem QI:aJ Tryz.prog 187=true:=by kernel_rfl
@[go_sem] theorem QJ:aJ Tryz.prog 192=true:=by kernel_rfl
@[go_sem] theorem EH:aJ Tryz.prog 194=true:=by kernel_rfl
@[go_sem] theorem EI:aJ Tryz.prog 196=true:=by kernel_rfl
@[go_sem] theorem QK:aJ Tryz.prog 198=true:=by kernel_rfl
@[go_sem] theorem QL:aJ Tryz.prog 199=true:=by kernel_rfl
@[go_sem] theorem QM:aJ Tryz.prog 200=true:=by kernel_rfl
@[go_sem] theorem QN:aJ Tryz.prog 201=true:=by kernel_rfl
@[go_sem] theorem QO:aJ Tryz.prog 202=true:=by kernel_rfl
@[go_sem] theorem QS:aJ Tryz.prog 203=true:=by kernel_rfl
@[go_sem] theorem QT:aJ Tryz.prog 204=true:=by kernel_rfl
@[go_sem] theorem QU:aJ Tryz.prog 212=true:=by kernel_rfl
@[go_sem] theorem QV:aJ Tryz.prog 229=true:=by kernel_rfl
@[go_sem] theorem QW:aJ Tryz.prog 230=true:=by kernel_rfl
@[go_sem] theorem QX:aJ Tryz.prog 231=true:=by kernel_rfl
@[go_sem] theorem QY:aJ Tryz.prog 232=true:=by kernel_rfl
@[go_sem] theorem QZ:aJ Tryz.prog 233=true:=by kernel_rfl
@[go_sem] theorem Q0:aJ Tryz.prog 237=true:=by kernel_rfl
end Go.Proofs.YtpgcmoanfifglaaGreatDoor
end
section
namespace Go.Sep
open Go Go.Conc
def jY (o:Oper):Option (TypeId×Nat):=match o.op,o.dst,o.guard with
 | .alloc t,some d,none=>some (t,d)
 |_,_,_=>none
def zR (ops:Array Oper)(m:Nat):Bool:=
 nh ops (m+1)&&decide (m+2<=ops.size)&&
 (match (ops[m]?).bind jY,(ops[m+1]?).bind jY with|some (_,d),some (_,a)=>!(d==a)|_,_=>false)&&
 decide (Region.ready .any ops (cT ops.size m)=[m,m+1])&&decide (Region.ready .any ops ((cT ops.size m).setIfInBounds (m+1) true)=[m])
theorem zS {ro:Addr->Option Value}{x y:Nat×Obj}{l:List (Nat×Obj)}:Le ⟨ro,x::y::l⟩ ⟨ro,y::x::l⟩:=by
 have c:∀b,b∈keys (x::y::l)↔b∈keys (y::x::l):=fun b=>by
  simp only[keys,List.map_cons,List.mem_cons];exact ⟨fun h=>by rcases h with h|h|h;exact .inr (.inl h);exact .inl h;exact .inr (.inr h),fun h=>by rcases h with h|h|h;exact .inr (.inl h);exact .inl h;exact .inr (.inr h)⟩
 refine ⟨fun w hw=>⟨hw.ro,fun b o hb=>hw.own b o ?_,?_,fun a v h hm=>hw.apart a v h ((c _).1 hm)⟩,fun b hb=>(c b).1 hb,fun a d=>.inl d⟩
 ·rcases List.mem_cons.1 hb with h|h
  ·exact List.mem_cons_of_mem _ (h▸List.mem_cons_self)
  ·rcases List.mem_cons.1 h with h|h
   ·exact h▸List.mem_cons_self
   ·exact List.mem_cons_of_mem _ (List.mem_cons_of_mem _ h)
 ·have:=hw.nodup;simp only[keys,List.map_cons,List.nodup_cons,List.mem_cons,not_or] at this ⊢;exact ⟨⟨fun e=>this.1.1 e.symm,this.2.1⟩,this.1.2,this.2.2⟩
section
variable {P : Program} {main : Bool} {J : Goroutine → aa → Prop} {ops : Array Oper} {Q : Act → aa → Prop} {F0 : aa}
theorem zT {o:Oper}{t:TypeId}{d:Nat}(h:jY o=some (t,d)):o.op= .alloc t/\o.dst=some d/\o.guard=none:=by
 unfold jY at h;split at h
 ·rename_i a b c;cases h;exact ⟨a,b,c⟩
 ·cases h
theorem pq {o:Oper}{a:Act}(h:o.guard=none):cz ops o a=some true:=by unfold cz;rw[h]
theorem uZ {o:Oper}{t:TypeId}{a:Act}{F:aa}{z:Value}{R:Value->aa->Prop}{D:Deferred->aa->Prop}(d:o.op= .alloc t)(e:zeroOf P t=some z)
  (h:∀b,dQ F b->∃c,Le c (F.push b (.cells z.cells t))/\R (.pointer (some ⟨b,0,none⟩)) c):aU P (execOp a.eval o) (jP P J R D) F:=by
 have:Oper.nc o=false:=by unfold Oper.nc;rw[d]
 refine zo (R:=fun v F=>∃c,Le c F/\R v c) this ?_
 unfold cI
 rw[d]
 simp only[e]
 exact h
theorem EJ (m:Nat){o1 o2:Oper}{rest:List Oper}{t1 t2 d1 d2:Nat}(hm:m+2<=ops.size)(y:ops[m]?=some o1)(A:ops[m+1]?=some o2)(M:jY o1=some (t1,d1))(N:jY o2=some (t2,d2)){q:Value}(B:zeroOf P t2=some q)(hd:¬d1=d2)
  (C:ops.toList.drop (m+2)=rest) (D:Region.ready .any ops (cT ops.size m)=[m,m+1]) (E:Region.ready .any ops ((cT ops.size m).setIfInBounds (m+1) true)=[m])
  (G:∀j,j<ops.size - (m+1)->Region.ready .any ops (cT ops.size (m+1+j))=[m+1+j]) (H:Region.ready .any ops (cT ops.size ops.size)=[])
  {a:Act} {F:aa} (r:Knows F0 F) (h:eF P J ops F0 Q (o1::o2::rest) true a F):dK P J ops Q (Knows F0) (ops.size - m) (cT ops.size m) a F:=by
 obtain ⟨e1,s,t⟩:=zT M
 obtain ⟨e2,I,K⟩:=zT N
 have O:ops.size - m=(ops.size - (m+1))+1:=by omega
 have R:ops.size - (m+1)=(ops.size - (m+2))+1:=by omega
 unfold eF at h
 rw[pq t] at h
 simp only at h
 have k:∃z,zeroOf P t1=some z:=by
  unfold cI at h
  rw[e1] at h
  simp only at h
  split at h
  ·rename_i z S;exact ⟨z,S⟩
  ·exact h.elim
 obtain ⟨g,k⟩:=k
 have u:∀b,dQ F b->Knows F0 (F.push b (.cells g.cells t1))/\eF P J ops F0 Q (o2::rest) (!Oper.calls o1) (bf a (some d1) (.pointer (some ⟨b,0,none⟩))) (F.push b (.cells g.cells t1)):=by
  unfold cI at h
  rw[e1] at h
  simp only[k,s] at h
  exact h
 have T:∀b,dQ F b->∀f,dQ (F.push b (.cells g.cells t1)) f->Knows F0 ((F.push b (.cells g.cells t1)).push f (.cells q.cells t2))/\
   eF P J ops F0 Q rest (!Oper.calls o2) (bf (bf a (some d1) (.pointer (some ⟨b,0,none⟩))) (some d2) (.pointer (some ⟨f,0,none⟩))) ((F.push b (.cells g.cells t1)).push f (.cells q.cells t2)):=by
  intro b hb
  have:=(u b hb).2
  unfold eF at this
  rw[pq K] at this
  simp only at this
  unfold cI at this
  rw[e2] at this
  simp only[B,I] at this
  exact this
 have L:=qX (n:=ops.size) (m:=m) (by omega)
 have U:=qX (n:=ops.size) (m:=m+1) (by omega)
 rw[O]
 refine ⟨fun p=>(by rw[D] at p;cases p),fun i hi=>?_⟩
 rw[D] at hi
 simp only[List.mem_cons,List.not_mem_nil,or_false] at hi
 rcases hi with hi|hi
 ·subst hi
  unfold dJ
  simp only[y]
  rw[if_pos (cg (pq t))]
  refine uZ e1 k fun b hb=>⟨_,Le.refl _,(u b hb).1,?_⟩
  rw[L,s]
  exact lX (i+1) G H (o2::rest) (i+1) _ _ _ (Nat.le_refl _) (by omega) (by
   have:=List.drop_eq_getElem_cons (l:=ops.toList) (i:=i+1) (by simp;omega)
   rw[this,C]
   obtain ⟨_,he⟩:=Array.getElem?_eq_some_iff.1 A
   simp[he]) (u b hb).2
 ·subst hi
  unfold dJ
  simp only[A]
  rw[if_pos (cg (pq K))]
  refine uZ e2 B fun f v=>⟨_,Le.refl _,?_,?_⟩
  ·refine ⟨r.1,r.2.1,?_⟩
   have hl:∀(l own:List (Nat×Obj)),au own f->iS l own->iS l ((f,.cells q.cells t2)::own):=fun l own hf w=>by
    induction l with
    |nil=>trivial
    |cons x l ih=>
     obtain ⟨c,o⟩:=x
     refine ⟨?_,ih w.2⟩
     have V:¬f=c:=fun e=>kQ hf (e▸eN (gI w.1))
     simp only[lk,if_neg V]
     exact w.1
   exact hl _ _ v.own r.2.2
  ·rw[R]
   refine ⟨fun p=>(by rw[E] at p;cases p),fun i hi=>?_⟩
   rw[E] at hi
   simp only[List.mem_cons,List.not_mem_nil,or_false] at hi
   subst hi
   unfold dJ
   simp only[y]
   rw[if_pos (cg (pq t))]
   refine uZ e1 k fun b hb=>?_
   have W:dQ F b:=⟨hb.ro,hb.own.2⟩
   have aG:¬f=b:=fun e=>hb.own.1 e.symm
   have X:dQ (F.push b (.cells g.cells t1)) f:=⟨v.ro,⟨aG,v.own⟩⟩
   obtain ⟨Y,Z⟩:=T b W f X
   refine ⟨_,zS,Y,?_⟩
   have ab:bf (bf a o2.dst (.pointer (some ⟨f,0,none⟩))) o1.dst (.pointer (some ⟨b,0,none⟩))=bf (bf a (some d1) (.pointer (some ⟨b,0,none⟩))) (some d2) (.pointer (some ⟨f,0,none⟩)):=by
    rw[s,I]
    exact Act.put_comm a _ _ (fun d ad=>by cases ad;intro e;cases e;exact hd rfl)
   have hs:((cT ops.size i).setIfInBounds (i+1) true).setIfInBounds i true=cT ops.size (i+2):=by
    rw[Array.setIfInBounds_comm _ _ (by omega:i+1≠i),L,U]
   show dK P J ops Q (Knows F0) (ops.size - (i+2)) _ (bf (bf a o2.dst _) o1.dst _) _
   rw[hs,ab]
   exact lX (i+1) G H rest (i+2) _ _ _ (by omega) hm C Z
theorem zU {Q:Ex->Act->aa->Prop}(hJ:Closed P main J)(o:P.follows .mixedOrders=true)(m:Nat){id:Nat}{a:Act}{F:aa}(F0:aa)(e:Knows F0 F)(f:zR ops m=true)(t2:TypeId){p:Value}(g:((ops[m+1]?).bind jY).map (·.1)=some t2)(q:zeroOf P t2=some p)
  (h:dZ P J ops F0 (fun j=>eF P J ops F0 (Q .normal) (ops.toList.drop m) true j F) (ops.toList.take m) true a):Wp J (.region id ops true) Q a F:=by
 simp only[zR,Bool.and_eq_true,decide_eq_true_eq] at f
 obtain ⟨⟨⟨⟨r,hm⟩,b⟩,s⟩,t⟩:=f
 have k:=zz r
 simp only[o3,Bool.and_eq_true,decide_eq_true_eq,List.all_eq_true,List.mem_range] at k
 obtain ⟨⟨⟨⟨u,D⟩,v⟩,w⟩,x⟩:=k
 cases c:(ops[m]?).bind jY with
 |none=>rw[c] at b;cases b
 |some y=>
  cases d:(ops[m+1]?).bind jY with
  |none=>rw[c,d] at b;cases b
  |some z=>
   obtain ⟨t1,d1⟩:=y
   obtain ⟨A,d2⟩:=z
   rw[d] at g
   obtain rfl:A=t2:=by simpa using g
   rw[c,d] at b
   obtain ⟨o1,e1,a1⟩:=Option.bind_eq_some_iff.1 c
   obtain ⟨o2,e2,a2⟩:=Option.bind_eq_some_iff.1 d
   have hd:¬d1=d2:=by simpa using b
   have B:ops.toList.drop m=o1::o2::ops.toList.drop (m+2):=by
    obtain ⟨C,c1⟩:=Array.getElem?_eq_some_iff.1 e1
    obtain ⟨b2,c2⟩:=Array.getElem?_eq_some_iff.1 e2
    rw[List.drop_eq_getElem_cons (l:=ops.toList) (i:=m) (by simpa using C),List.drop_eq_getElem_cons (l:=ops.toList) (i:=m+1) (by simpa using b2)]
    simp[c1,c2]
   refine ua hJ (Knows F0) o ?_
   rw[<-zA]
   have:=qY (P:=P) (J:=J) (Q:=Q .normal) m (by omega) u (fun i hi=>by have:=v i (by omega);simpa using this) e (fun j n=>by
    rw[B] at n
    exact EJ (F0:=F0) m hm e1 e2 a1 a2 q hd rfl s t w x e n) _ 0 true a (by simp) (Nat.zero_le _) h
   simpa using this
end
def pick (ops:Array Oper):List Nat->List Oper
 |[]=>[]
 |i::is=>match ops[i]? with
  |some o=>o::pick ops is
  |none=>pick ops is
def u5:List Nat->Array Bool->Array Bool
 |[],L=>L
 |i::is,L=>u5 is (L.setIfInBounds i true)
def rf (ops:Array Oper):List Nat->Array Bool->Bool
 |[],_=>true
 |i::is,L=>Region.free .any ops L i&&(Region.ready .any ops L).contains i&&(ops[i]?).isSome&&rf ops is (L.setIfInBounds i true)
def pz (ops:Array Oper):List Nat->Array Bool->Bool
 |[],L=>decide (Region.ready .any ops L=[])
 |i::is,L=>decide (Region.ready .any ops L=[i])&&(ops[i]?).isSome&&pz ops is (L.setIfInBounds i true)
def zV (ops:Array Oper)(is a:List Nat):Bool:=
 Region.noSelect ops&&rf ops is (Array.replicate ops.size false)&&pz ops a (u5 is (Array.replicate ops.size false))&&decide (is.length+a.length=ops.size)
section
variable {P : Program} {main : Bool} {J : Goroutine → aa → Prop} {ops : Array Oper} {Q : Act → aa → Prop} {F0 : aa}
theorem zW {K:Act->Prop}(m:Region.noSelect ops=true){F:aa}(b:Knows F0 F)(fuel:Nat):
  ∀(is:List Nat) (L:Array Bool) (go:Bool) (a:Act),rf ops is L=true->dZ P J ops F0 K (pick ops is) go a->(∀n,K n->dK P J ops Q (Knows F0) fuel (u5 is L) n F)->
   dK P J ops Q (Knows F0) (fuel+is.length) L a F
 |[],L,go,a,_,h,k=>by unfold pick dZ at h;exact k a h
 |i::is,L,go,a,p,h,k=>by
  simp only[rf,Bool.and_eq_true] at p
  obtain ⟨⟨⟨c1,c2⟩,c3⟩,c4⟩:=p
  obtain ⟨o,c⟩:=Option.isSome_iff_exists.1 c3
  have g:(Region.noSelect ops&&Region.free .any ops L i&&(Region.ready .any ops L).contains i)=true:=by rw[m,c1,c2];rfl
  have q:pick ops (i::is)=o::pick ops is:=by simp only[pick,c]
  rw[q] at h
  have e:fuel+(i::is).length=(fuel+is.length)+1:=by simp only[List.length_cons];omega
  rw[e]
  have next:∀go v,dZ P J ops F0 K (pick ops is) go (bf a o.dst v)->dK P J ops Q (Knows F0) (fuel+is.length) (L.setIfInBounds i true) (bf a o.dst v) F:=fun go v d=>
   zW m b fuel is _ go _ c4 d k
  unfold dZ at h
  split at h
  ·rename_i hg
   exact zu i c g hg b (next true undef h)
  ·rename_i hg
   split at h
   ·rename_i t x l
    split at h
    case h_2=>exact h.elim
    rename_i ad r
    split at h
    case h_2=>exact h.elim
    rename_i v d
    refine ng i v c g hg (fun F R j f=>?_) b (next _ v h)
    unfold cI
    simp only[l,r,j.e5 d]
    exact f
   ·rename_i x args argTypes l
    split at h
    case h_2=>exact h.elim
    rename_i fn first captured hx
    obtain ⟨s,v,u,h⟩:=h
    refine ng i v c g hg (fun F R j f=>?_) b (next _ v h)
    unfold cI
    simp only[l,hx]
    exact ⟨s,(u F j).mono fun y F' w=>by obtain ⟨rfl,rfl⟩:=w;exact f⟩
   ·split at h
    case h_2=>exact h.elim
    rename_i v d
    exact ng i v c g hg (fun F R j f=>qW d f) b (next _ v h)
  ·exact h.elim
theorem zX:∀(b:List Nat) (L:Array Bool) (go:Bool) (a:Act) (F:aa),pz ops b L=true->eF P J ops F0 Q (pick ops b) go a F->dK P J ops Q (Knows F0) b.length L a F
 |[],L,go,a,F,c,h=>by
  simp only[pz,decide_eq_true_eq] at c
  unfold pick eF at h
  exact yY c h _
 |j::b,L,go,a,F,c,h=>by
  simp only[pz,Bool.and_eq_true,decide_eq_true_eq] at c
  obtain ⟨⟨c1,c3⟩,c4⟩:=c
  obtain ⟨o,d⟩:=Option.isSome_iff_exists.1 c3
  have e:pick ops (j::b)=o::pick ops b:=by simp only[pick,d]
  rw[e] at h
  unfold eF at h
  split at h
  ·rename_i hg
   refine zv j d c1 hg ?_
   refine lX.qZ ?_ h
   rintro v F' ⟨f,g⟩
   exact ⟨f,zX b _ _ _ F' c4 g⟩
  ·exact h.elim
theorem EK {Q:Ex->Act->aa->Prop}(hJ:Closed P main J)(e:P.follows .mixedOrders=true)(is b:List Nat){id:Nat}{a:Act}{F:aa}(F0:aa)(f:Knows F0 F)(d:zV ops is b=true)
  (h:dZ P J ops F0 (fun c=>eF P J ops F0 (Q .normal) (pick ops b) true c F) (pick ops is) true a):Wp J (.region id ops true) Q a F:=by
 simp only[zV,Bool.and_eq_true,decide_eq_true_eq] at d
 obtain ⟨⟨⟨g,i⟩,j⟩,l⟩:=d
 refine ua hJ (Knows F0) e ?_
 have:=zW (P:=P) (J:=J) (Q:=Q .normal) g f b.length is _ true a i h (fun c k=>zX b _ true c F j k)
 rwa [show b.length+is.length=ops.size by omega] at this
end
attribute [go_sem] pick
inductive jZ where
 |done
 |rd (i:Nat) (p:jZ)
 |one (i:Nat) (p:jZ)
 |two (i:Nat) (p:jZ) (j:Nat) (q:jZ)
inductive kW where
 |done
 |rd (o:Oper) (p:kW)
 |one (o:Oper) (p:kW)
 |two (o:Oper) (p:kW) (o':Oper) (q:kW)
 |bad
def jZ.opers (ops:Array Oper):jZ->kW
 | .done=>.done
 | .rd i p=>match ops[i]? with
  |some o=>.rd o (p.opers ops)
  |none=>.bad
 | .one i p=>match ops[i]? with
  |some o=>.one o (p.opers ops)
  |none=>.bad
 | .two i p j q=>match ops[i]?,ops[j]? with
  |some o,some o'=>.two o (p.opers ops) o' (q.opers ops)
  |_,_=>.bad
def jZ.len:jZ->Nat
 | .done=>0
 | .rd _ p=>p.len+1
 | .one _ p=>p.len+1
 | .two _ p _ q=>max p.len q.len+1
def fN (P:Program)(J:Goroutine->aa->Prop)(ops:Array Oper)(F0:aa)(Q:Act->aa->Prop):kW->Bool->Act->aa->Prop
 | .done,_,a,F=>Q a F
 | .bad,_,_,_=>False
 | .rd o p,_,a,F=>match cz ops o a with
  |some false=>fN P J ops F0 Q p true (bf a o.dst undef) F
  |some true=>match o.op with
   | .load t x=>match ev a x with
    | .pointer (some ad)=>match e5 P F0 t ad with
     |some v=>fN P J ops F0 Q p true (bf a o.dst v) F
     |none=>False
    |_=>False
   | .call {callee:=.value x,args, ..}=>match ev a x with
    | .func (.func fn) first captured=>aJ P fn=true/\∃v,Plain P J F0 fn (first++args.map (ev a)++captured) v/\fN P J ops F0 Q p false (bf a o.dst v) F
    |_=>False
   |_=>match iT P o a with
    |some v=>fN P J ops F0 Q p true (bf a o.dst v) F
    |none=>False
  |none=>False
 | .one o p,_,a,F=>match cz ops o a with
  |some true=>cI P J o (fun v F'=>Knows F0 F'/\fN P J ops F0 Q p (!Oper.calls o) (bf a o.dst v) F') a F
  |_=>False
 | .two o p o' q,_,a,F=>(match cz ops o a with
  |some true=>cI P J o (fun v F'=>Knows F0 F'/\fN P J ops F0 Q p (!Oper.calls o) (bf a o.dst v) F') a F
  |_=>False)/\(match cz ops o' a with
  |some true=>cI P J o' (fun v F'=>Knows F0 F'/\fN P J ops F0 Q q (!Oper.calls o') (bf a o'.dst v) F') a F
  |_=>False)
theorem EL {P:Program}{J:Goroutine->aa->Prop}{ops:Array Oper}{F0:aa}{Q:Act->aa->Prop}{go:Bool}{a:Act}{F:aa}:fN P J ops F0 Q .done go a F=Q a F:=rfl
theorem EM {P:Program}{J:Goroutine->aa->Prop}{ops:Array Oper}{F0:aa}{Q:Act->aa->Prop}{o:Oper}{p:kW}{a:Act}{F:aa}:fN P J ops F0 Q (.rd o p) true a F=match cz ops o a with
  |some false=>fN P J ops F0 Q p true (bf a o.dst undef) F
  |some true=>match o.op with
   | .load t x=>match ev a x with
    | .pointer (some ad)=>match e5 P F0 t ad with
     |some v=>fN P J ops F0 Q p true (bf a o.dst v) F
     |none=>False
    |_=>False
   | .call {callee:=.value x,args, ..}=>match ev a x with
    | .func (.func fn) first captured=>aJ P fn=true/\∃v,Plain P J F0 fn (first++args.map (ev a)++captured) v/\fN P J ops F0 Q p false (bf a o.dst v) F
    |_=>False
   |_=>match iT P o a with
    |some v=>fN P J ops F0 Q p true (bf a o.dst v) F
    |none=>False
  |none=>False:=(Eq.refl _).trans (Eq.refl _)
theorem EN {P:Program}{J:Goroutine->aa->Prop}{ops:Array Oper}{F0:aa}{Q:Act->aa->Prop}{o:Oper}{p:kW}{a:Act}{F:aa}:fN P J ops F0 Q (.one o p) true a F=match cz ops o a with
  |some true=>cI P J o (fun v F'=>Knows F0 F'/\fN P J ops F0 Q p (!Oper.calls o) (bf a o.dst v) F') a F
  |_=>False:=(Eq.refl _).trans (Eq.refl _)
attribute [irreducible] fN
attribute [go_sem] EL EM EN jZ.opers
theorem zY {F:aa}{a:Addr}:∀(cs:List Value) (i:Nat),(∀j v,cs[j]?=some v->F.get (a.add (i+j))=some v)->F.dr a i cs.length=some cs
 |[],i,_=>rfl
 |v::cs,i,h=>by
  have b:=h 0 v rfl
  rw[Nat.add_zero] at b
  have ih:=zY cs (i+1) (fun j w hw=>by
   have:=h (j+1) w (by simpa using hw)
   rwa [show i+(j+1)=i+1+j by omega] at this)
  simp only[List.length_cons,aa.dr,b,ih]
theorem zZ {F:aa}{a:Addr}:∀(m i k:Nat) (d c:List Value),F.dr a i m=some d->F.dr a (i+m) k=some c->F.dr a i (m+k)=some (d++c)
 |0,i,k,d,c,b,e=>by
  simp only[aa.dr,Option.some.injEq] at b
  subst b
  rw[Nat.zero_add]
  simpa using e
 |m+1,i,k,d,c,b,e=>by
  unfold aa.dr at b
  split at b
  case h_2=>cases b
  rename_i v f
  split at b
  case h_2=>cases b
  rename_i g h
  cases b
  have ih:=zZ m (i+1) k g c h (by rwa [show i+1+m=i+(m+1) by omega])
  rw[show m+1+k=(m+k)+1 by omega]
  simp only[aa.dr,f,ih,List.cons_append]
theorem aB.cells {T:Type}{r:b7 T}{ro:Addr->Option Value}{ad:Option Addr}{c:Nat}{l:List T}(h:aB r ro (.slice ad l.length c) l)(F:aa)(u:∀a v,ro a=some v->F.get a=some v):
  ∃b:List (List Value),b.length=l.length/\(∀x∈b,x.length=r.n/\∀v∈x,bG v=true)/\(∀(i:Nat) (x:T),l[i]?=some x->∃cs,b[i]?=some cs/\r.rel ro x cs)/\fX F r.n (.slice ad l.length c)=some b.flatten:=by
 obtain ⟨D,E,e,_,_,he⟩:=h
 cases e
 cases hl:l with
 |nil=>subst hl;refine ⟨[],rfl,by simp,by simp,?_⟩;cases ad<;>simp[fX,aa.dr]
 |cons w l0=>
  obtain ⟨p,G,z,-,-⟩:=he 0 w (by rw[hl];rfl)
  subst z
  rw[<-hl]
  have key:∀k,k<=l.length->∃b:List (List Value),b.length=k/\(∀x∈b,x.length=r.n/\∀v∈x,bG v=true)/\(∀(i:Nat) (x:T),i<k->l[i]?=some x->∃cs,b[i]?=some cs/\r.rel ro x cs)/\F.dr p 0 (k*r.n)=some b.flatten:=by
   intro k
   induction k with
   |zero=>intro _;exact ⟨[],rfl,by simp,by simp,by simp[aa.dr]⟩
   |succ k ih=>
    intro H
    obtain ⟨b,d,f,m,o⟩:=ih (by omega)
    have hx:l[k]?=some l[k]:=List.getElem?_eq_getElem (by omega)
    obtain ⟨I,cs,A,q,hm⟩:=he k _ hx
    cases A
    have t:=r.len q
    refine ⟨b++[cs],by simp[d],fun y B=>?_,fun i x hi s=>?_,?_⟩
    ·rcases List.mem_append.1 B with h|h
     ·exact f y h
     ·simp only[List.mem_singleton] at h;subst h;exact ⟨t,r.one q⟩
    ·rcases Nat.lt_or_ge i k with h|h
     ·obtain ⟨cs',a1,a2⟩:=m i x h s
      exact ⟨cs',by rw[List.getElem?_append_left (by omega)];exact a1,a2⟩
     ·have:i=k:=by omega
      subst this
      rw[hx] at s
      obtain rfl:=Option.some.inj s
      exact ⟨cs,by rw[List.getElem?_append_right (by omega)];simp[d],q⟩
    ·rw[Nat.succ_mul]
     have g:=zY (F:=F) (a:=p) cs (k*r.n) (fun j v C=>u _ _ (by have:=hm j v C;rwa [kO] at this))
     rw[t] at g
     have:=zZ (k*r.n) 0 r.n b.flatten cs o (by rw[Nat.zero_add];exact g)
     rw[this]
     simp
  obtain ⟨b,d,f,m,o⟩:=key l.length (Nat.le_refl _)
  exact ⟨b,d,f,fun i x hx=>m i x (List.getElem?_eq_some_iff.1 hx).1 hx,o⟩
theorem aO.empty {T:Type}{r:b7 T}{ro:Addr->Option Value}{e:TypeId}{b:Nat}(a:∀off sp,ro ⟨b,off,sp⟩=none):aO r ro e (.slice (some ⟨b,0,none⟩) 0 0) [] [(b,.cells #[] e)]:=
 ⟨[],.inr ⟨b,#[],0,rfl,rfl,by simp,Nat.le_refl _,by simp,by simp,a⟩,rfl,by simp,fun i x h=>by simp at h⟩
theorem z0 {ro:Addr->Option Value}{x:Nat×Obj}{l:List (Nat×Obj)}:Le ⟨ro,l++[x]⟩ ⟨ro,x::l⟩:=by
 have d:∀b,b∈keys (l++[x])↔b∈keys (x::l):=fun b=>by
  simp only[keys,List.map_append,List.map_cons,List.map_nil,List.mem_append,List.mem_cons,List.not_mem_nil,or_false];exact Or.comm
 refine ⟨fun w hw=>⟨hw.ro,fun b o hb=>hw.own b o ?_,?_,fun a v h hm=>hw.apart a v h ((d _).1 hm)⟩,fun b hb=>(d b).1 hb,fun a c=>.inl c⟩
 ·rcases List.mem_append.1 hb with h|h
  ·exact List.mem_cons_of_mem _ h
  ·simp only[List.mem_singleton] at h;rw[h];exact List.mem_cons_self
 ·have:=hw.nodup;simp only[keys,List.map_cons,List.nodup_cons] at this;simp only[keys,List.map_append,List.map_cons,List.map_nil];rw[List.nodup_append];refine ⟨this.2,by simp,fun a c b hb e=>?_⟩;simp only[List.mem_singleton] at hb;subst hb;exact this.1 (e▸c)
theorem pE {P:Program}{T:Type}{r:b7 T}{ro:Addr->Option Value}{rest:List (Nat×Obj)}{ks:List Nat}{R:Value->aa->Prop}{argTypes:Array TypeId}{m o e y:TypeId}{f b c:Nat}{ad:Option Addr}{z:Value}{xs:List T}
  (A:∀off sp,ro ⟨b,off,sp⟩=none) (B:au rest b) (p:keys rest=ks) (hlen:xs.length<=1000000) (hx:aB r ro (.slice ad xs.length c) xs)
  (C:argTypes[0]?=some m) (D:argTypes[1]?=some o) (he:c7 P m=some e) (E:c7 P o=some y) (hs:bY P e=some r.n) (F:zeroOf P e=some z) (G:z.cells.size=r.n) (hb:bytesOf P e=some f)
  (H:0<f) (I:f<=10000)
  (q:∀v g,aO r ro e v xs g->Apart ks g->R v ⟨ro,rest++g⟩):lT P argTypes (.slice (some ⟨b,0,none⟩) 0 0) (.slice ad xs.length c) R ⟨ro,(b,.cells #[] e)::rest⟩:=by
 intro ty
 obtain ⟨d,k1,J,K,L⟩:=hx.cells ⟨ro,(b,.cells #[] e)::rest⟩ (fun a v h=>by simp[aa.get,h])
 have s:∀x∈d,x.length=r.n:=fun x h=>(J x h).1
 have i:=g8 s
 refine uE (old:=[]) C D he E hs F hb H I (by simpa using hlen) (by simp[fX,aa.dr]) L (fun M=>?_) (fun M k t l u=>?_)
 ·have N:xs.length=0:=by omega
  have O:xs=[]:=List.eq_nil_of_length_eq_zero N
  have Q:d=[]:=List.eq_nil_of_length_eq_zero (by omega)
  subst O Q
  refine .inl ⟨_,_,rfl,rfl,⟨ro,rest++[(b,.cells #[] e)]⟩,z0,q _ _ (aO.empty A) fun k l=>?_⟩
  simp only[keys,List.map_cons,List.map_nil,List.mem_singleton] at l
  subst l
  rw[<-p]
  exact kQ B
 ·refine ⟨⟨ro,rest++[(t,.cells (([]:List Value).toArray++d.flatten.toArray++Builtin.zeroCells z.cells (k - (0+xs.length))) e)]⟩,z0.trans (Le.sub (.cons₂ _ (.cons _ (List.Sublist.refl _)))),q _ _ ?_ fun j w=>?_⟩
  ·refine ⟨d,.inr ⟨t,_,k,by rw[k1,Nat.zero_add],rfl,?_,by omega,?_,s,u.ro⟩,k1,hlen,K⟩
   ·simp only[List.nil_append,Array.size_append,List.size_toArray,List.length_nil,Builtin.zeroCells,Array.size_map,Array.size_range,i,G,k1]
    rw[Nat.zero_add,<-Nat.add_mul]
    congr 1;omega
   ·simp only[Array.toList_append,List.nil_append]
    rw[List.take_append_of_le_length (by simp[i])]
    rw[List.take_of_length_le (by simp[i])]
  ·simp only[keys,List.map_cons,List.map_nil,List.mem_singleton] at w
   subst w
   rw[<-p]
   exact kQ u.own.2
theorem ri:∀{pre bg:List (Nat×Obj)} {b:Nat} {o:Obj},au pre b->lk (pre++((b,o)::bg)) b=some o
 |[],bg,b,o,_=>by simp[lk]
 |(c,x)::pre,bg,b,o,h=>by
  have a:¬c=b:=fun e=>h.1 e.symm
  simp[lk,a,ri h.2]
theorem z1:∀{pre bg:List (Nat×Obj)} {b:Nat} {o x:Obj},au pre b->iO (pre++((b,o)::bg)) b x=pre++((b,x)::bg)
 |[],bg,b,o,x,_=>by simp[iO]
 |(c,y)::pre,bg,b,o,x,h=>by
  have a:¬c=b:=fun e=>h.1 e.symm
  simp[iO,a,z1 h.2]
theorem u6 {ro:Addr->Option Value}{pre bg:List (Nat×Obj)}{b:Nat}{e:TypeId}(hf:au pre b)(o:Nat):∀(a:List Value) (arr:Array Value) (i:Nat),(∀v∈a,bG v=true)->o+i+a.length<=arr.size->
  aa.jw ⟨ro,pre++((b,.cells arr e)::bg)⟩ ⟨b,o,none⟩ i a=some ⟨ro,pre++((b,.cells (cH arr (o+i) a) e)::bg)⟩
 |[],arr,i,_,_=>rfl
 |v::a,arr,i,c,h=>by
  simp only[List.length_cons] at h
  have d:(⟨b,o,none⟩:Addr).add i=⟨b,o+i,none⟩:=by
   unfold Addr.add
   split
   ·rename_i hi;subst hi;rfl
   ·rfl
  unfold aa.jw
  have:aa.lI ⟨ro,pre++((b,.cells arr e)::bg)⟩ ((⟨b,o,none⟩:Addr).add i) v=some ⟨ro,pre++((b,.cells (arr.setIfInBounds (o+i) v) e)::bg)⟩:=by
   have f:o+i<arr.size:=by omega
   simp[aa.lI,d,ri hf,c v (by simp),f,frozenAt,aa.put,z1 hf]
  rw[this]
  simp only
  rw[u6 hf o a _ (i+1) (fun x hx=>c x (by simp[hx])) (by simp;omega)]
  rw[cH]
  congr 1
theorem z2 {ro:Addr->Option Value}{pre bg:List (Nat×Obj)}{b:Nat}{e:TypeId}{arr:Array Value}(hf:au pre b)(a:∀off sp,ro ⟨b,off,sp⟩=none):∀(n i:Nat),i+n<=arr.size->
  aa.dr ⟨ro,pre++((b,.cells arr e)::bg)⟩ ⟨b,0,none⟩ i n=some ((arr.toList.drop i).take n)
 |0,i,_=>by simp[aa.dr]
 |n+1,i,h=>by
  have d:(⟨b,0,none⟩:Addr).add i=⟨b,i,none⟩:=by
   unfold Addr.add
   split
   ·rename_i hi;subst hi;rfl
   ·simp
  have c:i<arr.size:=by omega
  unfold aa.dr
  have ih:=z2 (e:=e) (arr:=arr) (bg:=bg) hf a n (i+1) (by omega)
  simp only[aa.get,d,a,if_true,ri hf,Option.bind_some,cellOf,Array.getElem?_eq_getElem c,ih]
  have f:i<arr.toList.length:=by simpa using c
  rw[List.drop_eq_getElem_cons f,List.take_succ_cons]
  simp
theorem Gr.EO {ro:Addr->Option Value}{e:TypeId}{size:Nat}{v:Value}{l:List (List Value)}{aR pre bg:List (Nat×Obj)}(h:Gr ro e size v l aR)(hf:∀k∈keys aR,au pre k):
  Go.Sep.fX ⟨ro,pre++(aR++bg)⟩ size v=some l.flatten:=by
 rcases h with ⟨rfl,rfl,rfl⟩|⟨b,arr,cap,rfl,rfl,hs,hl,ht,hx,a⟩
 ·rfl
 ·simp only[Go.Sep.fX,List.cons_append,List.nil_append]
  have hle:l.length*size<=arr.size:=by rw[hs];exact Nat.mul_le_mul_right _ hl
  rw[z2 (hf b (by simp[keys])) a _ _ (by omega)]
  simp[ht]
theorem Le.ps {ro:Addr->Option Value}{l m l':List (Nat×Obj)}(e:l.Perm m)(hs:m.Sublist l'):Le ⟨ro,l⟩ ⟨ro,l'⟩:=by
 have c:(keys m).Sublist (keys l'):=hs.map _;have d:(keys l).Perm (keys m):=e.map _;exact ⟨fun w hw=>⟨hw.ro,fun b o hb=>hw.own b o (hs.subset (e.subset hb)),d.nodup_iff.2 (c.nodup hw.nodup),fun a v f hm=>hw.apart a v f (c.subset (d.subset hm))⟩,fun b hb=>c.subset (d.subset hb),fun a g=>.inl g⟩
structure aQ (ks:List Nat):Prop where
 nd:ks.Nodup
abbrev Nd (l:List (Nat×Obj)):Prop:=(keys l).Nodup
theorem Nd.fresh {pre aR bg:List (Nat×Obj)}(h:Nd (pre++(aR++bg))):∀k∈keys aR,au pre k:=fun k a=>by
 refine l5 fun hm=>?_
 simp only[Nd,ck] at h
 exact (List.nodup_append.1 h).2.2 k hm k (List.mem_append_left _ a) rfl
theorem Nd.push {l:List (Nat×Obj)}{b:Nat}{o:Obj}(h:Nd l)(hb:au l b):Nd ((b,o)::l):=by
 simp only[Nd,keys,List.map_cons,List.nodup_cons];exact ⟨kQ hb,h⟩
theorem Nd.drop {pre aR bg:List (Nat×Obj)}(h:Nd (pre++(aR++bg))):Nd (pre++bg):=
 ((List.Sublist.append_left (List.sublist_append_right aR bg) pre).map _).nodup h
theorem Nd.ins {pre aR bg:List (Nat×Obj)}{b:Nat}{o:Obj}(h:Nd (pre++(aR++bg)))(hb:au (pre++(aR++bg)) b):Nd (pre++([(b,o)]++bg)):=by
 have a:Nd ((b,o)::(pre++bg)):=h.drop.push (l5 fun hm=>kQ hb (((List.Sublist.append_left (List.sublist_append_right aR bg) pre).map _).subset hm));have:(pre++([(b,o)]++bg)).Perm ((b,o)::(pre++bg)):=List.perm_middle;exact (this.map _).nodup_iff.2 a
section
variable {P : Program}
theorem z3 {ro:Addr->Option Value}{pre aR bg:List (Nat×Obj)}{R:Value->aa->Prop}{argTypes:Array TypeId}{ty y A e M:TypeId}{size o n c:Nat}{B:Option Addr}{s z:Value}{l xs:List (List Value)}
  (C:argTypes[0]?=some y) (D:argTypes[1]?=some A) (he:c7 P y=some e) (hx:c7 P A=some M) (hs:bY P e=some size) (E:zeroOf P e=some z) (N:z.cells.size=size) (hb:bytesOf P e=some o)
  (G:0<o) (H:o<=10000) (hg:Gr ro e size s l aR) (i:Nd (pre++(aR++bg))) (O:n=xs.length) (I:∀x∈xs,x.length=size/\∀v∈x,bG v=true) (J:fX ⟨ro,pre++(aR++bg)⟩ size (.slice B n c)=some xs.flatten)
  (K:l.length+xs.length<=1000000)
  (p:∀v q,Gr ro e size v (l++xs) q->Nd (pre++(q++bg))->∃F0,Le F0 ⟨ro,pre++(q++bg)⟩/\R v F0):
  aU P (Builtin.append_ argTypes ty #[s,.slice B n c]) (fun v F=>∃F0,Le F0 F/\R v F0) ⟨ro,pre++(aR++bg)⟩:=by
 subst O
 have hf:=i.fresh
 have hold:=hg.EO (bg:=bg) hf
 have r:∀x∈xs,x.length=size:=fun x h=>(I x h).1
 have a:=g8 r
 have out:∀(k b:Nat) (old:List Value),old=l.flatten->(∀x∈l,x.length=size)->l.length+xs.length<=k->dQ ⟨ro,pre++(aR++bg)⟩ b->
   ∃F0,Le F0 (aa.push ⟨ro,pre++(aR++bg)⟩ b (.cells (old.toArray++xs.flatten.toArray++Builtin.zeroCells z.cells (k - (l.length+xs.length))) e))/\R (.slice (some ⟨b,0,none⟩) (l.length+xs.length) k) F0:=by
  intro k b old Q hl g d
  subst Q
  have t:=g8 hl
  have u:=p (.slice (some ⟨b,0,none⟩) (l.length+xs.length) k) [(b,.cells (l.flatten.toArray++xs.flatten.toArray++Builtin.zeroCells z.cells (k - (l.length+xs.length))) e)] (.inr ⟨b,_,k,by simp,rfl,?_,by simpa using g,?_,?_,d.ro⟩) (i.ins d.own)
  ·obtain ⟨F0,hle,u⟩:=u
   refine ⟨F0,hle.trans ?_,u⟩
   exact Le.ps (m:=(b,.cells (l.flatten.toArray++xs.flatten.toArray++Builtin.zeroCells z.cells (k - (l.length+xs.length))) e)::(pre++bg)) List.perm_middle (.cons₂ _ (List.Sublist.append_left (List.sublist_append_right aR bg) pre))
  ·simp only[Array.size_append,List.size_toArray,Builtin.zeroCells,Array.size_map,Array.size_range,t,a,N]
   rw[<-Nat.add_mul,<-Nat.add_mul]
   congr 1;omega
  ·simp only[Array.toList_append,List.length_append,List.flatten_append]
   rw[List.take_append_of_le_length (by simp[t,a,Nat.add_mul])]
   rw[List.take_of_length_le (by simp[t,a,Nat.add_mul])]
  ·intro x hx
   rcases List.mem_append.1 hx with h|h
   ·exact hl x h
   ·exact r x h
 rcases id hg with ⟨rfl,rfl,rfl⟩|⟨b,arr,cap,rfl,rfl,w,hl,ht,j,S⟩
 ·refine uE C D he hx hs E hb G H (by simpa using K) hold J (fun f=>.inr ⟨rfl,?_⟩) (fun f k b g d=>?_)
  ·have:xs=[]:=List.eq_nil_of_length_eq_zero (by omega)
   subst this
   exact p _ _ (.inl ⟨rfl,rfl,rfl⟩) i
  ·have:=out k b [] rfl (by simp) (by simpa using g) d
   simpa using this
 ·refine uE C D he hx hs E hb G H K hold J (fun f=>.inl ⟨_,⟨ro,pre++([(b,.cells (cH arr (l.length*size) xs.flatten) e)]++bg)⟩,rfl,?_,?_⟩) (fun f k T g d=>out k T _ rfl j g d)
  ·have U:(⟨b,0,none⟩:Addr).add (l.length*size)=⟨b,l.length*size,none⟩:=by
    unfold Addr.add
    split
    ·rename_i hi;rw[hi]
    ·simp
   rw[U]
   have L:l.length*size+xs.length*size<=arr.size:=by rw[w,<-Nat.add_mul];exact Nat.mul_le_mul_right _ f
   have:=u6 (ro:=ro) (e:=e) (bg:=bg) (hf b (by simp[keys])) (l.length*size) xs.flatten arr 0 (fun v V=>by
    obtain ⟨x,W,X⟩:=List.mem_flatten.1 V
    exact (I x W).2 v X) (by rw[a];omega)
   simpa using this
  ·refine p _ _ (.inr ⟨b,_,cap,by simp,rfl,by rw[qQ];exact w,by simpa using f,?_,?_,S⟩) (by simpa [Nd,keys] using i)
   ·have L:l.length*size+xs.length*size<=arr.size:=by rw[w,<-Nat.add_mul];exact Nat.mul_le_mul_right _ f
    rw[qR _ _ _ (by rw[a];exact L),ht,List.length_append,List.flatten_append,a]
    rw[List.take_append_of_le_length (by simp[g8 j,a,Nat.add_mul])]
    rw[List.take_of_length_le (by simp[g8 j,a,Nat.add_mul])]
   ·intro x hx
    rcases List.mem_append.1 hx with h|h
    ·exact j x h
    ·exact r x h
theorem z4:∀{pre own:List (Nat×Obj)} {b:Nat} {o:Obj},lk pre b=some o->lk (pre++own) b=some o
 |(c,x)::pre,own,b,o,h=>by
  simp only[List.cons_append,lk] at h ⊢
  split
  ·rename_i a;rw[if_pos a] at h;exact h
  ·rename_i a;rw[if_neg a] at h;exact z4 h
theorem z5 {ro:Addr->Option Value}{own:List (Nat×Obj)}{b:Nat}{cs:Array Value}{e:TypeId}(a:lk own b=some (.cells cs e))(c:∀off sp,ro ⟨b,off,sp⟩=none):∀n i,i+n<=cs.toList.length->aa.dr ⟨ro,own⟩ ⟨b,0,none⟩ i n=some ((cs.toList.drop i).take n)
 |0,i,_=>by simp[aa.dr]
 |n+1,i,hi=>by
  have d:i<cs.toList.length:=by omega
  unfold aa.dr
  have f:(⟨b,0,none⟩:Addr).add i=⟨b,i,none⟩:=by
   unfold Addr.add
   split
   ·rename_i hi;subst hi;rfl
   ·simp
  have g:i<cs.size:=by simpa using d
  simp only[aa.get,f,c,if_true,a,Option.bind_some,cellOf,Array.getElem?_eq_getElem g,z5 a c n (i+1) (by omega)]
  rw[List.drop_eq_getElem_cons d,List.take_succ_cons]
  simp
theorem aO.more {T:Type}{r:b7 T}{ro:Addr->Option Value}{e:TypeId}{l xs:List T}{ls ys:List (List Value)}{v:Value}{a:List (Nat×Obj)}(hg:Gr ro e r.n v (ls++ys) a)(hl:ls.length=l.length)(b:ys.length=xs.length)
  (c:∀(i:Nat) (x:T),l[i]?=some x->∃cs:List Value,ls[i]?=some cs/\r.rel ro x cs) (d:∀(i:Nat) (x:T),xs[i]?=some x->∃cs:List Value,ys[i]?=some cs/\r.rel ro x cs) (f:l.length+xs.length<=1000000):aO r ro e v (l++xs) a:=by
 refine ⟨_,hg,by simp[hl,b],by simpa using f,fun i y hi=>?_⟩
 rcases Nat.lt_or_ge i l.length with h|h
 ·rw[List.getElem?_append_left h] at hi
  rw[List.getElem?_append_left (by omega)]
  exact c i y hi
 ·rw[List.getElem?_append_right h] at hi
  rw[List.getElem?_append_right (by omega),hl]
  exact d _ y hi
theorem z6 {T:Type}{r:b7 T}{ro:Addr->Option Value}{aR:List (Nat×Obj)}{R:Value->aa->Prop}{argTypes:Array TypeId}{g h e o e2:TypeId}{b c:Nat}{s z:Value}{l:List T}{x:T}{cs:Array Value}{own:List (Nat×Obj)}(pre bg:List (Nat×Obj))(p:own=pre++(aR++bg))
  (hg:aO r ro e s l aR) (q:aQ (keys own)) (j:l.length+[x].length<=1000000) (d:r.rel ro x cs.toList) (t:lk pre c=some (.cells cs e2)) (u:∀off sp,ro ⟨c,off,sp⟩=none)
  (w:argTypes[0]?=some g) (A:argTypes[1]?=some h) (he:c7 P g=some e) (hx:c7 P h=some o) (hs:bY P e=some r.n) (B:zeroOf P e=some z) (C:z.cells.size=r.n) (hb:bytesOf P e=some b)
  (D:0<b) (E:b<=10000)
  (F:∀v a,aO r ro e v (l++[x]) a->∀f,f=pre++(a++bg)->aQ (keys f)->∃F0,Le F0 ⟨ro,f⟩/\R v F0):lT P argTypes s (.slice (some ⟨c,0,none⟩) 1 1) R ⟨ro,own⟩:=by
 subst p
 obtain ⟨ls,G,hl,hm,H⟩:=hg
 have I:=q.nd
 intro ty
 have hlen:cs.toList.length=r.n:=r.len d
 refine z3 (xs:=[cs.toList]) (e:=e) (size:=r.n) (z:=z) (l:=ls) w A he hx hs B C hb D E G I rfl (fun y k=>?_) ?_ (by simpa [hl] using j) (fun v a J K=>F v a (aO.more J hl rfl H (fun i y hi=>?_) j) _ rfl ⟨K⟩)
 ·simp only[List.mem_singleton] at k;subst k;exact ⟨hlen,r.one d⟩
 ·simp only[fX,Nat.one_mul]
  rw[z5 (z4 t) u _ _ (by omega)]
  rw[List.drop_zero,List.take_of_length_le (by omega)]
  simp
 ·cases i with
  |zero=>simp at hi;subst hi;exact ⟨cs.toList,rfl,d⟩
  |succ m=>simp at hi
theorem EP {T:Type}{r:b7 T}{ro:Addr->Option Value}{aR:List (Nat×Obj)}{R:Value->aa->Prop}{argTypes:Array TypeId}{g i e k:TypeId}{d c:Nat}{ad:Option Addr}{s z:Value}{l xs:List T}{own:List (Nat×Obj)}(pre bg:List (Nat×Obj))(m:own=pre++(aR++bg))
  (hg:aO r ro e s l aR) (o:aQ (keys own)) (j:l.length+xs.length<=1000000) (hx:aB r ro (.slice ad xs.length c) xs)
  (p:argTypes[0]?=some g) (q:argTypes[1]?=some i) (he:c7 P g=some e) (t:c7 P i=some k) (hs:bY P e=some r.n) (u:zeroOf P e=some z) (w:z.cells.size=r.n) (hb:bytesOf P e=some d)
  (x:0<d) (y:d<=10000)
  (A:∀v b,aO r ro e v (l++xs) b->∀f,f=pre++(b++bg)->aQ (keys f)->∃F0,Le F0 ⟨ro,f⟩/\R v F0):lT P argTypes s (.slice ad xs.length c) R ⟨ro,own⟩:=by
 subst m
 obtain ⟨ls,B,hl,hm,C⟩:=hg
 have D:=o.nd
 intro ty
 obtain ⟨E,k1,F,G,H⟩:=hx.cells ⟨ro,pre++(aR++bg)⟩ (fun a v h=>by simp[aa.get,h])
 exact z3 (xs:=E) (e:=e) (size:=r.n) (z:=z) (l:=ls) p q he t hs u w hb x y B D k1.symm F H (by rw[hl,k1];exact j) (fun v b I J=>A v b (aO.more I hl k1 C G j) _ rfl ⟨J⟩)
theorem aO.kX {T:Type}{r:b7 T}{ro:Addr->Option Value}{e:TypeId}{v:Value}{l:List T}{aR:List (Nat×Obj)}(h:aO r ro e v l aR){own:List (Nat×Obj)}(a pre bg:List (Nat×Obj))(f:own=pre++(aR++bg))(g:a=pre++bg)(i:aQ (keys own))(j:aE ro a):
  ∃aN,Ext ro aN/\aE aN a/\aB r aN v l/\Le ⟨aN,a⟩ ⟨ro,own⟩:=by
 subst f g
 have c:Nd (pre++(aR++bg)):=i.nd
 have m:Apart (keys (pre++bg)) aR:=fun k d hm=>by
  simp only[Nd,ck] at c
  have b:=List.nodup_append.1 c
  simp only[ck,List.mem_append] at hm
  rcases hm with hm|hm
  ·exact b.2.2 k hm k (List.mem_append_left _ d) rfl
  ·exact (List.nodup_append.1 b.2.1).2.2 k d k hm rfl
 obtain ⟨aN,n,b,o,p⟩:=h.zE (pre++bg) m rfl j
 refine ⟨aN,n,b,o,p.trans ?_⟩
 have q:((pre++bg)++aR).Perm (pre++(aR++bg)):=by
  rw[List.append_assoc]
  exact List.Perm.append_left pre List.perm_append_comm
 exact Le.ps q (List.Sublist.refl _)
theorem aO.setAt {T:Type}{r:b7 T}{ro:Addr->Option Value}{e:TypeId}{l:List T}{b n cap:Nat}{arr:Array Value}(h:aO r ro e (.slice (some ⟨b,0,none⟩) n cap) l [(b,.cells arr e)]){i:Nat}{x y:T}(hi:l[i]?=some x){cs:List Value}(k:r.rel ro y cs):
  aO r ro e (.slice (some ⟨b,0,none⟩) n cap) (l.set i y) [(b,.cells (cH arr (i*r.n) cs) e)]:=by
 obtain ⟨ls,hg,hl,hm,m⟩:=h
 have B:i<l.length:=(List.getElem?_eq_some_iff.1 hi).1
 have a:=r.len k
 rcases hg with ⟨g,_,_⟩|⟨C,D,o,g,p,hs,hle,ht,hx,q⟩
 ·cases g
 ·cases p
  obtain ⟨rfl,rfl⟩:n=ls.length/\cap=o:=by cases g;exact ⟨rfl,rfl⟩
  have s:i*r.n+cs.length<=arr.size:=by
   rw[hs,a,<-Nat.succ_mul]
   exact Nat.mul_le_mul_right _ (by omega)
  refine ⟨ls.set i cs,.inr ⟨b,_,cap,by simp,rfl,by rw[qQ];exact hs,by simpa using hle,?_,?_,q⟩,by simp[hl],by simpa using hm,fun j z c=>?_⟩
  ·rw[qR _ _ _ s]
   have E:=g8 hx
   have d:i<ls.length:=by omega
   have e1:(ls.set i cs).flatten=(ls.take i).flatten++cs++(ls.drop (i+1)).flatten:=by
    rw[List.set_eq_take_append_cons_drop,if_pos d]
    simp
   have e2:ls.flatten=(ls.take i).flatten++(ls.drop i).flatten:=by rw[<-List.flatten_append,List.take_append_drop]
   have t1:((ls.take i).flatten).length=i*r.n:=by rw[g8 (fun x h=>hx x (List.mem_of_mem_take h)),List.length_take,Nat.min_eq_left (by omega)]
   have t:(ls.drop i).flatten=ls[i]++(ls.drop (i+1)).flatten:=by rw[List.drop_eq_getElem_cons d,List.flatten_cons]
   have t2:ls[i].length=r.n:=hx _ (List.getElem_mem d)
   have a1:arr.toList.take (i*r.n)=(ls.take i).flatten:=by
    have:=congrArg (List.take (i*r.n)) ht
    rw[List.take_take,Nat.min_eq_left (Nat.mul_le_mul_right _ (by omega)),e2,List.take_append_of_le_length (Nat.le_of_eq t1.symm),List.take_of_length_le (Nat.le_of_eq t1)] at this
    exact this
   have a2:(arr.toList.take (ls.length*r.n)).drop (i*r.n+cs.length)=(ls.drop (i+1)).flatten:=by
    have t3:((ls.take i).flatten++ls[i]).length=i*r.n+cs.length:=by rw[List.length_append,t1,t2,a]
    rw[ht,e2,t,<-List.append_assoc,List.drop_append_of_le_length (Nat.le_of_eq t3.symm),List.drop_eq_nil_of_le (Nat.le_of_eq t3),List.nil_append]
   rw[a1,e1]
   simp only[List.length_set]
   have u:ls.length*r.n=(i*r.n+cs.length)+(ls.length*r.n - (i*r.n+cs.length)):=by
    have:i*r.n+cs.length<=ls.length*r.n:=by rw[a,<-Nat.succ_mul];exact Nat.mul_le_mul_right _ d
    omega
   rw[u,List.take_append]
   rw[List.take_of_length_le (by rw[List.length_append,t1];omega)]
   congr 1
   have:i*r.n+cs.length+(ls.length*r.n - (i*r.n+cs.length)) - ((ls.take i).flatten++cs).length=ls.length*r.n - (i*r.n+cs.length):=by simp only[List.length_append,t1];omega
   rw[this,<-a2,List.drop_take]
  ·intro z v
   rcases List.mem_or_eq_of_mem_set v with h|h
   ·exact hx z h
   ·rw[h];exact a
  ·rcases Nat.decEq i j with f|f
   ·rw[List.getElem?_set_ne f] at c
    obtain ⟨cs',w,A⟩:=m j z c
    exact ⟨cs',by rw[List.getElem?_set_ne f];exact w,A⟩
   ·subst f
    rw[List.getElem?_set_self (by omega)] at c
    obtain rfl:=Option.some.inj c
    exact ⟨cs,List.getElem?_set_self (by omega),k⟩
end
section
variable {P : Program} {main : Bool} {J : Goroutine → aa → Prop}
theorem av (hJ:Closed P main J){c:Code}{Q:Ex->Act->aa->Prop}{a:Act}{F:aa}(h:aQ (keys F.own)->Wp J c Q a F):Wp J c Q a F:=by
 intro b k cs hb d;by_cases hw:∃w,Has F w
 ·obtain ⟨w,hw⟩:=hw;exact h ⟨hw.nodup⟩ b k cs hb d
 ·exact hJ.step fun w e=>absurd ⟨w,e⟩ hw
end
theorem aQ.cons {l:List (Nat×Obj)}{b:Nat}(hb:au l b)(h:aQ (keys l)):aQ (b::keys l):=⟨List.nodup_cons.2 ⟨kQ hb,h.nd⟩⟩
theorem aE.nil (ro:Addr->Option Value):aE ro []:=fun b h=>by cases h
theorem aE.cons {ro:Addr->Option Value}{b:Nat}{o:Obj}{l:List (Nat×Obj)}(hb:∀off sp,ro ⟨b,off,sp⟩=none)(h:aE ro l):aE ro ((b,o)::l):=fun c a=>by
 simp only[keys,List.map_cons,List.mem_cons] at a
 rcases a with rfl|a
 ·exact hb
 ·exact h c a
theorem aE.app {ro:Addr->Option Value}{l l':List (Nat×Obj)}(h:aE ro l)(b:aE ro l'):aE ro (l++l'):=fun c a=>by
 rw[ck] at a
 exact (List.mem_append.1 a).elim (h c) (b c)
theorem aE.hd {ro:Addr->Option Value}{b:Nat}{o:Obj}{l:List (Nat×Obj)}(h:aE ro ((b,o)::l)):∀off sp,ro ⟨b,off,sp⟩=none:=h b (by simp[keys])
theorem aE.tl {ro:Addr->Option Value}{x:Nat×Obj}{l:List (Nat×Obj)}(h:aE ro (x::l)):aE ro l:=fun c a=>h c (by simp only[keys,List.map_cons,List.mem_cons];exact .inr a)
theorem aE.l {ro:Addr->Option Value}{l l':List (Nat×Obj)}(h:aE ro (l++l')):aE ro l:=fun c a=>h c (by rw[ck];exact List.mem_append_left _ a)
theorem aE.r {ro:Addr->Option Value}{l l':List (Nat×Obj)}(h:aE ro (l++l')):aE ro l':=fun c a=>h c (by rw[ck];exact List.mem_append_right _ a)
theorem aO.jx {T:Type}{r:b7 T}{ro:Addr->Option Value}{e:TypeId}{v:Value}{l:List T}{aR:List (Nat×Obj)}(h:aO r ro e v l aR):aE ro aR:=by
 obtain ⟨ls,hg,-⟩:=h;rcases hg with ⟨_,_,rfl⟩|⟨b,arr,cap,_,rfl,_,_,_,_,a⟩
 ·exact aE.nil _
 ·exact aE.cons a (aE.nil _)
theorem Le.back {ro:Addr->Option Value}{l l':List (Nat×Obj)}(A B O S:List (Nat×Obj))(a:l=A++(B++(O++S)))(b:l'=A++(O++(B++S))):Le ⟨ro,l⟩ ⟨ro,l'⟩:=by
 subst a b;refine Le.ps (m:=A++(O++(B++S))) (List.Perm.append_left A ?_) (List.Sublist.refl _);rw[<-List.append_assoc,<-List.append_assoc];exact List.Perm.append_right S List.perm_append_comm
section
variable {P : Program} {main : Bool} {J : Goroutine → aa → Prop}
def rj (J:Goroutine->aa->Prop)(jy:Frame)(F:aa)(R:Value->aa->Prop):Prop:=
 ∀(c:Frame) (cs:List Frame),(∀v F',R v F'->J (G (c.finish v) cs) F')->J (G jy (c::cs)) F
theorem z7 (hJ:Closed P main J){jy:Frame}{ro:Addr->Option Value}{aR:List (Nat×Obj)}{K:Value->aa->Prop}{own:List (Nat×Obj)}(pre bg:List (Nat×Obj))(p:own=pre++(aR++bg))(R:Value->List (Nat×Obj)->Prop)(h:∀(main:Bool) (J:Goroutine->aa->Prop),Closed P main J->rj J jy ⟨ro,aR⟩ (fun v G=>∃d,R v d/\Le ⟨ro,d⟩ G))
  (L:∀v d,R v d->∀q,q=pre++(d++bg)->aQ (keys q)->∃F0,Le F0 ⟨ro,q⟩/\K v F0):rj J jy ⟨ro,own⟩ K:=by
 subst p
 intro c cs M
 by_cases hw:∃w,Has ⟨ro,pre++(aR++bg)⟩ w
 ·obtain ⟨r,k⟩:=hw
  let F:aa:=⟨fun _=>none,pre++bg⟩
  have s:(pre++bg).Sublist (pre++(aR++bg)):=List.Sublist.append_left (List.sublist_append_right aR bg) pre
  have t:aR.Sublist (pre++(aR++bg)):=(List.sublist_append_left aR bg).trans (List.sublist_append_right pre _)
  have A:∀w,Has ⟨ro,pre++(aR++bg)⟩ w->Has F w:=fun w hw=>⟨fun a v h=>(by cases h),fun b o hb=>hw.own b o (s.subset hb),(s.map _).nodup hw.nodup,fun a v h=>(by cases h)⟩
  have B:∀w,Has ⟨ro,pre++(aR++bg)⟩ w->Has ⟨ro,aR⟩ w:=fun w hw=>⟨hw.ro,fun b o hb=>hw.own b o (t.subset hb),(t.map _).nodup hw.nodup,fun a v i hm=>hw.apart a v i ((t.map _).subset hm)⟩
  have hd:∀b,b∈keys aR->b∉keys (pre++bg):=fun b hb hm=>by
   have l:=k.nodup
   simp only[ck] at l
   have C:=List.nodup_append.1 l
   simp only[ck,List.mem_append] at hm
   rcases hm with hm|hm
   ·exact C.2.2 b hm b (List.mem_append_left _ hb) rfl
   ·exact (List.nodup_append.1 C.2.1).2.2 b hb b hm rfl
  have D:Fits F ⟨ro,aR⟩:=⟨⟨r,B r k,A r k⟩,hd,fun a f hm=>(by cases f)⟩
  have N:lY F ⟨ro,aR⟩:=fun a f hm=>by
   obtain ⟨v,O⟩:=Option.isSome_iff_exists.1 f
   exact k.apart a v O ((s.map _).subset hm)
  have p:uN J F (G jy (c::cs)) ⟨ro,aR⟩:=by
   refine h main _ (zC hJ F) c cs fun v E u hf l=>?_
   obtain ⟨d,u,hle⟩:=u
   have H:Le ⟨ro,pre++(d++bg)⟩ (E.star F):=by
    refine ⟨fun w hw=>?_,fun b hb=>?_,fun a f=>?_⟩
    ·have m:=hle.has w (hf.right hw)
     have g:=hf.left hw
     have Q:∀b,b∈keys d->b∉keys (pre++bg):=fun b hb=>hf.own b (hle.own b hb)
     have j:(pre++(d++bg)).Perm (d++(pre++bg)):=by
      rw[<-List.append_assoc,<-List.append_assoc]
      exact List.Perm.append_right bg List.perm_append_comm
     refine ⟨m.ro,fun b o hb=>?_,?_,fun a v i hm=>?_⟩
     ·rcases List.mem_append.1 (j.subset hb) with x|x
      ·exact m.own b o x
      ·exact g.own b o x
     ·refine (j.map _).nodup_iff.2 ?_
      rw[List.map_append]
      exact List.nodup_append.2 ⟨m.nodup,g.nodup,fun a f b hb e=>Q a f (e▸hb)⟩
     ·have I:=(j.map (·.1)).subset hm
      rw[List.map_append] at I
      rcases List.mem_append.1 I with x|x
      ·exact m.apart a v i x
      ·rcases hle.ro a (by simp only at i;simp[i]) with y|y
       ·exact l a y x
       ·exact hf.own _ y x
    ·simp only[aa.star,ck,List.mem_append] at hb ⊢
     rcases hb with x|x|x
     ·exact .inr (show b∈keys (pre++bg) by rw[ck];exact List.mem_append_left _ x)
     ·exact .inl (hle.own b x)
     ·exact .inr (show b∈keys (pre++bg) by rw[ck];exact List.mem_append_right _ x)
    ·rcases hle.ro a f with x|x
     ·exact (gr (.inr x)).imp id (fun z=>by simp only[aa.star,ck,List.mem_append];exact .inr z)
     ·exact .inr (by simp only[aa.star,ck,List.mem_append];exact .inl x)
   have S:∃fr cs',G (c.finish v) cs=G fr cs':=⟨_,_,rfl⟩
   obtain ⟨fr,cs',T⟩:=S
   by_cases n:∃w,Has (E.star F) w
   ·obtain ⟨w1,n⟩:=n
    obtain ⟨F0,U,V⟩:=L v d u _ rfl ⟨(H.has w1 n).nodup⟩
    exact hJ.mono (U.trans H) (M v F0 V)
   ·rw[T]
    exact hJ.step fun w g=>absurd ⟨w,g⟩ n
  refine hJ.mono ⟨fun w hw=>D.both (B w hw) (A w hw),fun b hb=>?_,fun a f=>?_⟩ (p D N)
  ·have j:(aR++(pre++bg)).Perm (pre++(aR++bg)):=by
    rw[<-List.append_assoc,<-List.append_assoc]
    exact List.Perm.append_right bg List.perm_append_comm
   exact (j.map _).subset hb
  ·rcases jQ f with x|x
   ·cases x
   ·exact .inl x
 ·exact hJ.step fun w g=>absurd ⟨w,g⟩ hw
theorem ER (hJ:Closed P main J){f:FuncId}{args:Array Value}{ro:Addr->Option Value}{aR:List (Nat×Obj)}{K:Value->aa->Prop}{own:List (Nat×Obj)}(pre bg:List (Nat×Obj))(c:own=pre++(aR++bg))(R:Value->List (Nat×Obj)->Prop)(h:aC P f args ⟨ro,aR⟩ (fun v G=>∃a,R v a/\Le ⟨ro,a⟩ G))
  (d:∀v a,R v a->∀b,b=pre++(a++bg)->aQ (keys b)->∃F0,Le F0 ⟨ro,b⟩/\K v F0):cR P J f args ⟨ro,own⟩ K:=
 z7 hJ (jy:=Frame.enter P f args .normal) pre bg c R h d
end
attribute [go_sem] Array.size_setIfInBounds
theorem aB.op {T:Type}{r:b7 T}{ro:Addr->Option Value}{ad:Option Addr}{n cap:Nat}{l:List T}(h:aB r ro (.slice ad n cap) l):
  l.length<=cap/\l.length<=1000000000000000/\∀i x,l[i]?=some x->∃p cs,ad=some p/\r.rel ro x cs/\∀j v,cs[j]?=some v->ro ((p.add (i*r.n)).add j)=some v:=by
 obtain ⟨d,f,e,a,b,c⟩:=h
 cases e
 exact ⟨a,b,c⟩
theorem aQ.sub {l l':List (Nat×Obj)}(A O S:List (Nat×Obj))(a:l=A++S)(b:l'=A++(O++S))(h:aQ (keys l')):aQ (keys l):=by
 subst a b;exact
 ⟨((List.Sublist.append_left (List.sublist_append_right O S) A).map _).nodup h.nd⟩
theorem aQ.back {l l':List (Nat×Obj)}(A B O S:List (Nat×Obj))(a:l=A++(B++(O++S)))(b:l'=A++(O++(B++S)))(h:aQ (keys l')):aQ (keys l):=by
 subst a b;refine ⟨(List.Perm.map _ (List.Perm.append_left A ?_)).nodup_iff.2 h.nd⟩;rw[<-List.append_assoc,<-List.append_assoc];exact List.Perm.append_right S List.perm_append_comm
theorem fO {ro:Addr->Option Value}{b:Nat}{o:Obj}(pre bg:List (Nat×Obj))(f:aQ (keys (pre++((b,o)::bg))))(_hr:∀off sp,ro ⟨b,off,sp⟩=none)(g:aE ro (pre++bg)):
  Ext ro (bT ro b o)/\aE (bT ro b o) (pre++bg)/\Le ⟨bT ro b o,pre++bg⟩ ⟨ro,pre++((b,o)::bg)⟩:=by
 have a:(pre++((b,o)::bg)).Perm ((b,o)::(pre++bg)):=List.perm_middle
 have h:Nd ((b,o)::(pre++bg)):=(a.map _).nodup_iff.1 f.nd
 have hb:b∉keys (pre++bg):=(List.nodup_cons.1 h).1
 refine ⟨fY _ _ _,fun c d off sp=>?_,?_⟩
 ·have aG:¬c=b:=fun e=>hb (e▸d)
  simp[bT,g c d,aG]
 ·have i:Le ⟨bT ro b o,pre++bg⟩ ⟨ro,(b,o)::(pre++bg)⟩:=jV (by simp[lk]) (.cons _ (List.Sublist.refl _)) (l5 hb)
  exact i.trans (Le.ps a.symm (List.Sublist.refl _))
section
variable {P : Program} {main : Bool} {J : Goroutine → aa → Prop}
theorem fG (hJ:Closed P main J){c:Code}{Q:Ex->Act->aa->Prop}{a:Act}{F:aa}(h:aQ (keys F.own)->aE F.ro F.own->Wp J c Q a F):Wp J c Q a F:=by
 intro b k cs hb d;by_cases hw:∃w,Has F w
 ·obtain ⟨w,hw⟩:=hw;refine h ⟨hw.nodup⟩ (fun b hb off sp=>?_) b k cs hb d;cases e:F.ro ⟨b,off,sp⟩ with
  |none=>rfl
  |some v=>exact absurd hb (hw.apart _ v e)
 ·exact hJ.step fun w f=>absurd ⟨w,f⟩ hw
end
theorem u7:∀(a:List Value) (arr:Array Value) (k:Nat),k+a.length<=arr.size->∀q,(cH arr k a)[q]?=if k<=q/\q<k+a.length then a[q - k]? else arr[q]?
 |[],arr,k,h,q=>by
  have:¬(k<=q/\q<k+([]:List Value).length):=by simp
  rw[if_neg this];rfl
 |v::a,arr,k,h,q=>by
  simp only[List.length_cons] at h
  rw[cH,u7 a _ (k+1) (by simp;omega)]
  simp only[List.length_cons]
  by_cases b:k=q
  ·subst b
   rw[if_neg (by omega),if_pos (by omega),Array.getElem?_setIfInBounds_self_of_lt (by omega)]
   simp
  ·by_cases c:k+1<=q/\q<k+1+a.length
   ·rw[if_pos c,if_pos (by omega)]
    rw[show q - k=(q - (k+1))+1 by omega]
    simp
   ·rw[if_neg c,if_neg (by omega),Array.getElem?_setIfInBounds_ne b]
theorem aO.part {T:Type}{r:b7 T}{ro:Addr->Option Value}{e:TypeId}{l:List T}{b n cap:Nat}{arr:Array Value}(h:aO r ro e (.slice (some ⟨b,0,none⟩) n cap) l [(b,.cells arr e)]){i:Nat}{x y:T}(hi:l[i]?=some x)(o:Nat)(a cs cs':List Value)
  (hm:∀j v,cs[j]?=some v->arr[i*r.n+j]?=some v) (hlen:cs.length=r.n) (g:cs'=cs.take o++a++cs.drop (o+a.length)) (z:o+a.length<=cs.length) (k:r.rel ro y cs'):
  aO r ro e (.slice (some ⟨b,0,none⟩) n cap) (l.set i y) [(b,.cells (cH arr (i*r.n+o) a) e)]:=by
 have m:=h.setAt hi k
 have d:=r.len k
 have t:i*r.n+r.n<=arr.size:=by
  rcases Nat.eq_zero_or_pos r.n with u|A
  ·rw[u];omega
  ·have c:r.n - 1<cs.length:=by omega
   have:=hm (r.n - 1) cs[r.n - 1] (List.getElem?_eq_getElem c)
   have:=(Array.getElem?_eq_some_iff.1 this).1
   omega
 have e1:cH arr (i*r.n) cs'=cH arr (i*r.n+o) a:=by
  apply Array.ext_getElem?
  intro q
  rw[u7 cs' arr _ (by rw[d];exact t),u7 a arr _ (by omega)]
  by_cases p:i*r.n+o<=q/\q<i*r.n+o+a.length
  ·rw[if_pos p,if_pos (by rw[d];omega),g]
   rw[List.append_assoc,List.getElem?_append_right (by simp;omega),List.getElem?_append_left (by simp;omega)]
   congr 1
   simp;omega
  ·rw[if_neg p]
   by_cases f:i*r.n<=q/\q<i*r.n+cs'.length
   ·rw[if_pos f]
    rw[d] at f
    have w:arr[q]?=cs[q - i*r.n]?:=by
     have c:q - i*r.n<cs.length:=by omega
     have:=hm (q - i*r.n) _ (List.getElem?_eq_getElem c)
     rw[show i*r.n+(q - i*r.n)=q by omega] at this
     rw[this,List.getElem?_eq_getElem c]
    rw[w,g]
    rcases Nat.lt_or_ge (q - i*r.n) o with s|s
    ·rw[List.append_assoc,List.getElem?_append_left (by simp;omega),List.getElem?_take_of_lt s]
    ·have B:o+a.length<=q - i*r.n:=by omega
     rw[List.getElem?_append_right (by simp;omega),List.getElem?_drop]
     congr 1
     simp;omega
   ·rw[if_neg f]
 rw[e1] at m
 exact m
theorem aO.elemAt {T:Type}{r:b7 T}{ro:Addr->Option Value}{e:TypeId}{b n cap:Nat}{l:List T}{aR:List (Nat×Obj)}(h:aO r ro e (.slice (some ⟨b,0,none⟩) n cap) l aR){i:Nat}{x:T}(hi:l[i]?=some x):
  ∃arr cs,aR=[(b,.cells arr e)]/\(∀off sp,ro ⟨b,off,sp⟩=none)/\r.rel ro x cs/\∀j v,cs[j]?=some v->arr[i*r.n+j]?=some v:=by
 obtain ⟨g,arr,k,cs,a,c,d,f,hm⟩:=h.elem hi
 cases a
 exact ⟨arr,cs,c,d,f,hm⟩
theorem aO.z8 {T:Type}{r:b7 T}{ro:Addr->Option Value}{e:TypeId}{ad:Option Addr}{n cap:Nat}{l:List T}{aR:List (Nat×Obj)}(h:aO r ro e (.slice ad n cap) l aR){i:Nat}{x:T}(hi:l[i]?=some x):
  ∃b arr cs,ad=some ⟨b,0,none⟩/\aR=[(b,.cells arr e)]/\(∀off sp,ro ⟨b,off,sp⟩=none)/\r.rel ro x cs/\∀j v,cs[j]?=some v->arr[i*r.n+j]?=some v:=by
 obtain ⟨a,arr,m,cs,c,d,f,g,hm⟩:=h.elem hi
 injection c with k o p
 exact ⟨a,arr,cs,k,d,f,g,hm⟩
theorem aO.iW {T:Type}{r:b7 T}{ro:Addr->Option Value}{e:TypeId}{b n cap:Nat}{l:List T}{arr:Array Value}(h:aO r ro e (.slice (some ⟨b,0,none⟩) n cap) l [(b,.cells arr e)]){i:Nat}{x:T}(hi:l[i]?=some x):
  ∃cs,r.rel ro x cs/\∀j v,cs[j]?=some v->arr[i*r.n+j]?=some v:=by
 obtain ⟨d,cs,a,f,c,hm⟩:=h.elemAt hi
 simp only[List.cons.injEq,Prod.mk.injEq,Obj.cells.injEq,true_and,and_true] at a
 subst a
 exact ⟨cs,c,hm⟩
theorem aO.rm {T:Type}{r:b7 T}{ro:Addr->Option Value}{e:TypeId}{l:List T}{b n cap:Nat}{arr:Array Value}(h:aO r ro e (.slice (some ⟨b,0,none⟩) n cap) l [(b,.cells arr e)]){i:Nat}{y:T}(hi:i<l.length){cs:List Value}(a:r.rel ro y cs):
  aO r ro e (.slice (some ⟨b,0,none⟩) n cap) (l.set i y) [(b,.cells (cH arr (i*r.n) cs) e)]:=h.setAt (List.getElem?_eq_getElem hi) a
theorem aO.ij {T:Type}{r:b7 T}{ro:Addr->Option Value}{e:TypeId}{ad:Option Addr}{n cap:Nat}{l:List T}{aR:List (Nat×Obj)}(h:aO r ro e (.slice ad n cap) l aR)(a:l.isEmpty=false):
  ∃b arr,ad=some ⟨b,0,none⟩/\aR=[(b,.cells arr e)]/\(∀off sp,ro ⟨b,off,sp⟩=none):=by
 cases l with
 |nil=>cases a
 |cons x l=>
  obtain ⟨b,arr,cs,c,d,f,_⟩:=h.z8 (i:=0) rfl
  exact ⟨b,arr,c,d,f⟩
theorem aO.gw {T:Type}{r:b7 T}{ro:Addr->Option Value}{e:TypeId}{b n cap:Nat}{l:List T}{aR:List (Nat×Obj)}(h:aO r ro e (.slice (some ⟨b,0,none⟩) n cap) l aR):∃arr,aR=[(b,.cells arr e)]:=by
 obtain ⟨ls,hg,-⟩:=h;rcases hg with ⟨a,_,_⟩|⟨d,arr,f,a,c,_⟩
 ·cases a
 ·cases a;exact ⟨arr,c⟩
theorem aO.count {T:Type}{r:b7 T}{ro:Addr->Option Value}{e:TypeId}{ad:Option Addr}{n cap:Nat}{l:List T}{aR:List (Nat×Obj)}(h:aO r ro e (.slice ad n cap) l aR):l.length=n:=by
 obtain ⟨b,c,a,_⟩:=h.len;cases a;rfl
def pF (ops:Array Oper)(bX:List Nat)(i:Nat):Bool:=bX.all fun j=>match ops[j]? with
 |some o=>o.after.any fun e=>Region.binds .any e&&e.on==i
 |none=>true
section
variable {P : Program} {main : Bool} {J : Goroutine → aa → Prop} {ops : Array Oper} {Q : Act → aa → Prop} {S : aa → Prop} {bX : List Nat}
def dV (P:Program)(J:Goroutine->aa->Prop)(ops:Array Oper)(Q:Act->aa->Prop)(S:aa->Prop)(bX:List Nat):Nat->Array Bool->Act->aa->Prop
 |0,listed,a,F=>Region.ready .any ops listed=[]/\Q a F
 |fuel+1,listed,a,F=>(Region.ready .any ops listed=[]->Q a F)/\
  ∀i∈Region.ready .any ops listed,dJ P J ops i (fun b F'=>(¬i∈bX->S F->S F')/\dV P J ops Q S bX fuel (listed.setIfInBounds i true) b F') a F
theorem ES:∀(fuel t:Nat) (listed:Array Bool) (a:Act) (F:aa),dV P J ops Q S bX fuel listed a F->
  fK P J ops Q (Region.linearise.go .any ops fuel t listed []) a F:=by
 intro fuel
 induction fuel with
 |zero=>intro t listed a F h;simpa [Region.linearise.go,fK] using h.2
 |succ fuel ih=>
  intro t listed a F h
  obtain ⟨b,c⟩:=h
  simp only[Region.linearise.go]
  change fK P J ops Q (match (Region.ready .any ops listed)[t % (Region.ready .any ops listed).length]? with
   |some i=>Region.linearise.go .any ops fuel (t/(Region.ready .any ops listed).length) (listed.setIfInBounds i true) [i]
   |none=>[].reverse) a F
  cases hi:(Region.ready .any ops listed)[t % (Region.ready .any ops listed).length]? with
  |none=>
   have d:Region.ready .any ops listed=[]:=by
    cases e:Region.ready .any ops listed with
    |nil=>rfl
    |cons x xs=>
     rw[e] at hi
     have f:t % (x::xs).length<(x::xs).length:=Nat.mod_lt _ (by simp)
     simp at hi
     simp at f
     omega
   simpa [fK] using b d
  |some i=>
   simp only[]
   rw[linearise_go_acc,List.reverse_singleton,List.singleton_append]
   exact oO (fun a F h=>ih _ _ a F h.2) (c i (List.mem_of_getElem? hi))
theorem ET {i:Nat}{l:Oper}{v:Value}(hi:ops[i]?=some l)(m:pF ops bX i=true)(w:∀(j:Nat) (o:Oper) cs b,ops[j]?=some o->o.op≠ .select cs b):
  ∀(fuel:Nat) (listed:Array Bool) (a:Act) (F:aa),
   (∀j f,ops[j]?=some f->j≠i->listed.getD j true=false->(∀e∈f.after,Region.binds .any e=true->e.on≠i)->l.apart ops f=true)->
   i∈Region.ready .any ops listed->fz P J ops S l v a->S F->
   dV P J ops Q S bX fuel (listed.setIfInBounds i true) (a.put l.dst v) F->dV P J ops Q S bX (fuel+1) listed a F:=by
 intro fuel
 induction fuel with
 |zero=>
  intro listed a F _ g n p H
  refine ⟨fun h=>(by rw[h] at g;cases g),fun j q=>?_⟩
  by_cases d:j=i
  ·subst d;exact n.m4 hi p ⟨fun _ h=>h,H⟩
  ·have:=ready_mono q d
   rw[H.1] at this
   cases this
 |succ fuel ih=>
  intro listed a F y g n p H
  refine ⟨fun h=>(by rw[h] at g;cases g),fun j q=>?_⟩
  by_cases d:j=i
  ·subst d;exact n.m4 hi p ⟨fun _ h=>h,H⟩
  ·have c:=H.2 j (ready_mono q d)
   obtain ⟨z,f,r,en⟩:=mem_ready.1 q
   have A:∀e∈f.after,Region.binds .any e=true->e.on≠i:=fun e he hb heq=>by
    have c:=en e he hb
    have B:=(mem_ready.1 g).1
    rw[heq] at c
    rcases Nat.lt_or_ge i listed.size with t|t
    ·simp[t] at B c;rw[B] at c;cases c
    ·simp[Array.getElem?_eq_none t] at c
   have E:¬j∈bX:=fun e=>by
    have m:=List.all_eq_true.1 m j e
    simp only[r,Array.any_eq_true,Bool.and_eq_true,beq_iff_eq] at m
    obtain ⟨x,hx,c,u⟩:=m
    exact A _ (Array.getElem_mem hx) c u
   have u:=tU r (y j f r d z A) (fun cs b=>w i l cs b hi) (fun cs b=>w j f cs b r) n c
   have G:∀k ok,ops[k]?=some ok->k≠i->(listed.setIfInBounds j true).getD k true=false->
     (∀e∈ok.after,Region.binds .any e=true->e.on≠i)->l.apart ops ok=true:=fun k ok I K C L=>by
    refine y k ok I K ?_ L
    by_cases D:j=k
    ·subst D;exact z
    ·rw[getD_set_ne true D] at C;exact C
   refine oO (fun M F' s=>⟨s.2.1,ih (listed.setIfInBounds j true) M F' G (ready_mono g (Ne.symm d)) s.1 (s.2.1 E p) ?_⟩) u
   rw[Array.setIfInBounds_comm _ _ d]
   exact s.2.2
theorem EU {i:Nat}{l:Oper}{v:Value}(hi:ops[i]?=some l)(s:∀(j:Nat) (o:Oper) cs b,ops[j]?=some o->o.op≠ .select cs b):
  ∀(fuel:Nat) (listed:Array Bool) (a:Act) (F:aa),
   (∀j d,ops[j]?=some d->j≠i->listed.getD j true=false->(∀e∈d.after,Region.binds .any e=true->e.on≠i)->l.apart ops d=true)->
   i∈Region.ready .any ops listed->fz P J ops (fun _=>True) l v a->
   dV P J ops Q S bX fuel (listed.setIfInBounds i true) (a.put l.dst v) F->dV P J ops Q S bX (fuel+1) listed a F:=by
 intro fuel
 induction fuel with
 |zero=>
  intro listed a F _ f m H
  refine ⟨fun h=>(by rw[h] at f;cases f),fun j n=>?_⟩
  by_cases c:j=i
  ·subst c;exact m.m4 hi trivial ⟨fun _ h=>h,H⟩
  ·have:=ready_mono n c
   rw[H.1] at this
   cases this
 |succ fuel ih=>
  intro listed a F t f m H
  refine ⟨fun h=>(by rw[h] at f;cases f),fun j n=>?_⟩
  by_cases c:j=i
  ·subst c;exact m.m4 hi trivial ⟨fun _ h=>h,H⟩
  ·have g:=H.2 j (ready_mono n c)
   obtain ⟨u,d,p,en⟩:=mem_ready.1 n
   have z:∀e∈d.after,Region.binds .any e=true->e.on≠i:=fun e he hb heq=>by
    have g:=en e he hb
    have w:=(mem_ready.1 f).1
    rw[heq] at g
    rcases Nat.lt_or_ge i listed.size with q|q
    ·simp[q] at w g;rw[w] at g;cases g
    ·simp[Array.getElem?_eq_none q] at g
   have A:=tU p (t j d p c u z) (fun cs b=>s i l cs b hi) (fun cs b=>s j d cs b p) m g
   have B:∀k ok,ops[k]?=some ok->k≠i->(listed.setIfInBounds j true).getD k true=false->
     (∀e∈ok.after,Region.binds .any e=true->e.on≠i)->l.apart ops ok=true:=fun k ok C D x E=>by
    refine t k ok C D ?_ E
    by_cases y:j=k
    ·subst y;exact u
    ·rw[getD_set_ne true y] at x;exact x
   refine oO (fun G F' r=>⟨r.2.1,ih (listed.setIfInBounds j true) G F' B (ready_mono f (Ne.symm c)) r.1 ?_⟩) A
   rw[Array.setIfInBounds_comm _ _ c]
   exact r.2.2
theorem z9 (i:Nat){b:Oper}(v:Value){fuel:Nat}{listed:Array Bool}{a:Act}{F:aa}(hi:ops[i]?=some b)
  (hf:(Region.noSelect ops&&Region.free .any ops listed i&&(Region.ready .any ops listed).contains i)=true)
  (hl:pF ops bX i=true) (c:fz P J ops S b v a) (d:S F)
  (h:dV P J ops Q S bX fuel (listed.setIfInBounds i true) (a.put b.dst v) F):dV P J ops Q S bX (fuel+1) listed a F:=by
 simp only[Bool.and_eq_true] at hf
 exact ET hi hl (Region.noSelect_spec hf.1.1) fuel listed a F (Region.free_spec hi hf.1.2) (by simpa using hf.2) c d h
theorem u9 {rs:List Nat}{fuel:Nat}{listed:Array Bool}{a:Act}{F:aa}(b:Region.ready .any ops listed=rs)(aG:rs≠[])
  (h:∀i∈rs,dJ P J ops i (fun c F'=>(¬i∈bX->S F->S F')/\dV P J ops Q S bX fuel (listed.setIfInBounds i true) c F') a F):dV P J ops Q S bX (fuel+1) listed a F:=
 ⟨fun d=>absurd (b▸d) aG,b▸h⟩
theorem Aa (i:Nat){fuel:Nat}{listed:Array Bool}{a:Act}{F:aa}(b:Region.ready .any ops listed=[i])
  (h:dJ P J ops i (fun c F'=>(¬i∈bX->S F->S F')/\dV P J ops Q S bX fuel (listed.setIfInBounds i true) c F') a F):dV P J ops Q S bX (fuel+1) listed a F:=
 u9 b (by simp) (by simpa using h)
theorem Ab {listed:Array Bool}{a:Act}{F:aa}(b:Region.ready .any ops listed=[])(h:Q a F):∀fuel,dV P J ops Q S bX fuel listed a F
 |0=>⟨b,h⟩
 |_+1=>⟨fun _=>h,by rw[b];simp⟩
end
theorem vb {P:Program}{J:Goroutine->aa->Prop}{ops:Array Oper}{Q:Act->aa->Prop}{S:aa->Prop}{bX:List Nat}(i:Nat){b:Oper}(v:Value){fuel:Nat}{listed:Array Bool}{a:Act}{F:aa}(hi:ops[i]?=some b)
  (hf:(Region.noSelect ops&&Region.free .any ops listed i&&(Region.ready .any ops listed).contains i)=true)
  (hl:pF ops bX i=true) (hg:cz ops b a=some true) (d:∀F R,S F->R v F->cI P J b R a F) (c:S F)
  (h:dV P J ops Q S bX fuel (listed.setIfInBounds i true) (bf a b.dst v) F):dV P J ops Q S bX (fuel+1) listed a F:=
 z9 i v hi hf hl (.inl ⟨cg hg,fun F R c e=>kN (d F R c e)⟩) c h
theorem EV {P:Program}{J:Goroutine->aa->Prop}{ops:Array Oper}{Q:Act->aa->Prop}{S:aa->Prop}{bX:List Nat}(i:Nat){b:Oper}{fuel:Nat}{listed:Array Bool}{a:Act}{F:aa}(hi:ops[i]?=some b)
  (hf:(Region.noSelect ops&&Region.free .any ops listed i&&(Region.ready .any ops listed).contains i)=true)
  (hl:pF ops bX i=true) (hg:cz ops b a=some false) (c:S F)
  (h:dV P J ops Q S bX fuel (listed.setIfInBounds i true) (bf a b.dst undef) F):dV P J ops Q S bX (fuel+1) listed a F:=
 z9 i undef hi hf hl (.inr ⟨cg hg,rfl⟩) c h
theorem Ac {P:Program}{J:Goroutine->aa->Prop}{ops:Array Oper}{Q:Act->aa->Prop}{S:aa->Prop}{bX:List Nat}(i:Nat){b:Oper}(v:Value){fuel:Nat}{listed:Array Bool}{a:Act}{F:aa}(hi:ops[i]?=some b)
  (hf:(Region.noSelect ops&&Region.free .any ops listed i&&(Region.ready .any ops listed).contains i)=true)
  (c:fz P J ops (fun _=>True) b v a)
  (h:dV P J ops Q S bX fuel (listed.setIfInBounds i true) (bf a b.dst v) F):dV P J ops Q S bX (fuel+1) listed a F:=by
 simp only[Bool.and_eq_true] at hf
 exact EU hi (Region.noSelect_spec hf.1.1) fuel listed a F (Region.free_spec hi hf.1.2) (by simpa using hf.2) c h
inductive cj where
 |done
 |rd (i:Nat) (p:cj)
 |one (i:Nat) (p:cj)
 |two (i:Nat) (p:cj) (j:Nat) (q:cj)
 |three (i:Nat) (p:cj) (j:Nat) (q:cj) (k:Nat) (r:cj)
 |last (i:Nat) (p:cj)
 |pure (i:Nat) (p:cj)
inductive fH where
 |done
 |rd (o:Oper) (p:fH)
 |one (o:Oper) (p:fH)
 |two (o:Oper) (p:fH) (o':Oper) (q:fH)
 |three (o:Oper) (p:fH) (o':Oper) (q:fH) (j0:Oper) (r:fH)
 |last (o:Oper) (p:fH)
 |pure (o:Oper) (p:fH)
 |bad
def cj.opers (ops:Array Oper):cj->fH
 | .done=>.done
 | .rd i p=>match ops[i]? with
  |some o=>.rd o (p.opers ops)
  |none=>.bad
 | .one i p=>match ops[i]? with
  |some o=>.one o (p.opers ops)
  |none=>.bad
 | .two i p j q=>match ops[i]?,ops[j]? with
  |some o,some o'=>.two o (p.opers ops) o' (q.opers ops)
  |_,_=>.bad
 | .three i p j q k r=>match ops[i]?,ops[j]?,ops[k]? with
  |some o,some o',some j0=>.three o (p.opers ops) o' (q.opers ops) j0 (r.opers ops)
  |_,_,_=>.bad
 | .last i p=>match ops[i]? with
  |some o=>.last o (p.opers ops)
  |none=>.bad
 | .pure i p=>match ops[i]? with
  |some o=>.pure o (p.opers ops)
  |none=>.bad
def cj.tl:cj->Bool
 | .done=>true
 | .last _ p=>p.tl
 | .pure _ p=>p.tl
 |_=>false
def cj.ok (ops:Array Oper)(bX:List Nat):cj->Array Bool->Bool
 | .done,L=>decide (Region.ready .any ops L=[])
 | .rd i p,L=>Region.free .any ops L i&&(Region.ready .any ops L).contains i&&(ops[i]?).isSome&&pF ops bX i&&p.ok ops bX (L.setIfInBounds i true)
 | .one i p,L=>decide (Region.ready .any ops L=[i])&&(ops[i]?).isSome&&p.ok ops bX (L.setIfInBounds i true)
 | .two i p j q,L=>decide (Region.ready .any ops L=[i,j])&&(ops[i]?).isSome&&(ops[j]?).isSome&&p.ok ops bX (L.setIfInBounds i true)&&q.ok ops bX (L.setIfInBounds j true)
 | .three i p j q k r,L=>decide (Region.ready .any ops L=[i,j,k])&&(ops[i]?).isSome&&(ops[j]?).isSome&&(ops[k]?).isSome&&p.ok ops bX (L.setIfInBounds i true)&&q.ok ops bX (L.setIfInBounds j true)&&r.ok ops bX (L.setIfInBounds k true)
 | .pure i p,L=>Region.free .any ops L i&&(Region.ready .any ops L).contains i&&(ops[i]?).isSome&&p.ok ops bX (L.setIfInBounds i true)
 | .last i p,L=>bX.contains i&&decide (Region.ready .any ops L=[i])&&p.tl&&(ops[i]?).isSome&&p.ok ops bX (L.setIfInBounds i true)
def cj.len:cj->Nat
 | .done=>0
 | .rd _ p=>p.len+1
 | .one _ p=>p.len+1
 | .two _ p _ q=>max p.len q.len+1
 | .three _ p _ q _ r=>max p.len (max q.len r.len)+1
 | .last _ p=>p.len+1
 | .pure _ p=>p.len+1
def cr (P:Program)(J:Goroutine->aa->Prop)(ops:Array Oper)(F0:aa)(Q:Act->aa->Prop):fH->Bool->Act->aa->Prop
 | .done,_,a,F=>Q a F
 | .bad,_,_,_=>False
 | .rd o p,_,a,F=>match cz ops o a with
  |some false=>cr P J ops F0 Q p true (bf a o.dst undef) F
  |some true=>match o.op with
   | .load t x=>match ev a x with
    | .pointer (some ad)=>match e5 P F0 t ad with
     |some v=>cr P J ops F0 Q p true (bf a o.dst v) F
     |none=>False
    |_=>False
   | .call {callee:=.value x,args, ..}=>match ev a x with
    | .func (.func fn) first captured=>aJ P fn=true/\∃v,Plain P J F0 fn (first++args.map (ev a)++captured) v/\cr P J ops F0 Q p false (bf a o.dst v) F
    |_=>False
   |_=>match iT P o a with
    |some v=>cr P J ops F0 Q p true (bf a o.dst v) F
    |none=>False
  |none=>False
 | .one o p,_,a,F=>match cz ops o a with
  |some true=>cI P J o (fun v F'=>Knows F0 F'/\cr P J ops F0 Q p (!Oper.calls o) (bf a o.dst v) F') a F
  |_=>False
 | .two o p o' q,_,a,F=>(match cz ops o a with
  |some true=>cI P J o (fun v F'=>Knows F0 F'/\cr P J ops F0 Q p (!Oper.calls o) (bf a o.dst v) F') a F
  |_=>False)/\(match cz ops o' a with
  |some true=>cI P J o' (fun v F'=>Knows F0 F'/\cr P J ops F0 Q q (!Oper.calls o') (bf a o'.dst v) F') a F
  |_=>False)
 | .three o p o' q j0 r,_,a,F=>(match cz ops o a with
  |some true=>cI P J o (fun v F'=>Knows F0 F'/\cr P J ops F0 Q p (!Oper.calls o) (bf a o.dst v) F') a F
  |_=>False)/\(match cz ops o' a with
  |some true=>cI P J o' (fun v F'=>Knows F0 F'/\cr P J ops F0 Q q (!Oper.calls o') (bf a o'.dst v) F') a F
  |_=>False)/\(match cz ops j0 a with
  |some true=>cI P J j0 (fun v F'=>Knows F0 F'/\cr P J ops F0 Q r (!Oper.calls j0) (bf a j0.dst v) F') a F
  |_=>False)
 | .pure o p,_,a,F=>match cz ops o a with
  |some false=>cr P J ops F0 Q p true (bf a o.dst undef) F
  |some true=>match iT P o a with
   |some v=>cr P J ops F0 Q p true (bf a o.dst v) F
   |none=>False
  |none=>False
 | .last o p,_,a,F=>match cz ops o a with
  |some true=>cI P J o (fun v F'=>cr P J ops F0 Q p (!Oper.calls o) (bf a o.dst v) F') a F
  |_=>False
section
variable {P : Program} {main : Bool} {J : Goroutine → aa → Prop} {ops : Array Oper} {Q : Act → aa → Prop} {F0 : aa} {bX : List Nat}
theorem nj {p:cj}{i:Nat}{o:Oper}{fuel:Nat}{L:Array Bool}{a:Act}{F:aa}(c:ops[i]?=some o)
  (ih:∀go a F,Knows F0 F->cr P J ops F0 Q (p.opers ops) go a F->dV P J ops Q (Knows F0) bX fuel (L.setIfInBounds i true) a F)
  (h:match cz ops o a with
   |some true=>cI P J o (fun v F'=>Knows F0 F'/\cr P J ops F0 Q (p.opers ops) (!Oper.calls o) (bf a o.dst v) F') a F
   |_=>False):dJ P J ops i (fun d F'=>(¬i∈bX->Knows F0 F->Knows F0 F')/\dV P J ops Q (Knows F0) bX fuel (L.setIfInBounds i true) d F') a F:=by
 split at h
 ·rename_i hg
  unfold dJ
  simp only[c]
  rw[if_pos (cg hg)]
  refine kN (lX.qZ ?_ h)
  rintro v F' ⟨b,e⟩
  exact ⟨fun _ _=>b,ih _ _ F' b e⟩
 ·exact h.elim
theorem Ad {p:cj}{i:Nat}{fuel:Nat}{L:Array Bool}{go:Bool}{a:Act}{F:aa}(e:Region.noSelect ops=true)(c:(cj.pure i p).ok ops bX L=true)
  (ih:∀go v a,p.ok ops bX (L.setIfInBounds i true)=true->cr P J ops F0 Q (p.opers ops) go (bf a ((ops[i]?).bind (·.dst)) v) F->dV P J ops Q (Knows F0) bX fuel (L.setIfInBounds i true) (bf a ((ops[i]?).bind (·.dst)) v) F)
  (h:cr P J ops F0 Q ((cj.pure i p).opers ops) go a F):dV P J ops Q (Knows F0) bX (fuel+1) L a F:=by
 simp only[cj.ok,Bool.and_eq_true] at c
 obtain ⟨⟨⟨c1,c2⟩,c3⟩,c4⟩:=c
 obtain ⟨o,b⟩:=Option.isSome_iff_exists.1 c3
 have d:(Region.noSelect ops&&Region.free .any ops L i&&(Region.ready .any ops L).contains i)=true:=by rw[e,c1,c2];rfl
 have f:cj.opers ops (.pure i p)= .pure o (p.opers ops):=by simp only[cj.opers,b]
 rw[f] at h
 have hd:(ops[i]?).bind (·.dst)=o.dst:=by rw[b];rfl
 rw[hd] at ih
 unfold cr at h
 split at h
 ·rename_i hg
  exact Ac i undef b d (.inr ⟨cg hg,rfl⟩) (ih _ _ _ c4 h)
 ·rename_i hg
  split at h
  ·rename_i v g
   exact Ac i v b d (.inl ⟨cg hg,fun F R _ j=>kN (qW g j)⟩) (ih _ _ _ c4 h)
  ·exact h.elim
 ·exact h.elim
theorem vc (c:Region.noSelect ops=true):∀(p:cj) (fuel:Nat) (L:Array Bool) (go:Bool) (a:Act) (F:aa),p.tl=true->p.len<=fuel->p.ok ops bX L=true->cr P J ops F0 Q (p.opers ops) go a F->dV P J ops Q (Knows F0) bX fuel L a F
 | .done,fuel,L,go,a,F,_,hl,b,h=>by
  simp only[cj.ok,decide_eq_true_eq] at b
  unfold cj.opers cr at h
  exact Ab b h _
 | .last i p,fuel,L,go,a,F,ht,hl,b,h=>by
  simp only[cj.ok,Bool.and_eq_true,decide_eq_true_eq] at b
  obtain ⟨⟨⟨⟨c1,c2⟩,c3⟩,c4⟩,e⟩:=b
  obtain ⟨o,d⟩:=Option.isSome_iff_exists.1 c4
  have g:cj.opers ops (.last i p)= .last o (p.opers ops):=by simp only[cj.opers,d]
  rw[g] at h
  simp only[cj.len] at hl
  obtain ⟨fuel,rfl⟩:∃f,fuel=f+1:=⟨fuel - 1,by omega⟩
  unfold cr at h
  refine Aa i c2 ?_
  split at h
  ·rename_i hg
   unfold dJ
   simp only[d]
   rw[if_pos (cg hg)]
   refine kN (lX.qZ ?_ h)
   exact fun v F' j=>⟨fun aG _=>absurd (by simpa using c1) aG,vc c p fuel _ _ _ F' c3 (by omega) e j⟩
  ·exact h.elim
 | .pure i p,fuel,L,go,a,F,ht,hl,b,h=>by
  simp only[cj.len] at hl
  obtain ⟨fuel,rfl⟩:∃f,fuel=f+1:=⟨fuel - 1,by omega⟩
  exact Ad c b (fun go v a c4 k=>vc c p fuel _ go _ F ht (by omega) c4 k) h
 | .rd _ _,_,_,_,_,_,ht,_,_,_=>by cases ht
 | .one _ _,_,_,_,_,_,ht,_,_,_=>by cases ht
 | .two ..,_,_,_,_,_,ht,_,_,_=>by cases ht
 | .three ..,_,_,_,_,_,ht,_,_,_=>by cases ht
theorem j3 (e:Region.noSelect ops=true):∀(p:cj) (fuel:Nat) (L:Array Bool) (go:Bool) (a:Act) (F:aa),Knows F0 F->p.len<=fuel->p.ok ops bX L=true->cr P J ops F0 Q (p.opers ops) go a F->dV P J ops Q (Knows F0) bX fuel L a F
 | .done,fuel,L,go,a,F,b,hl,c,h=>by
  simp only[cj.ok,decide_eq_true_eq] at c
  unfold cj.opers cr at h
  exact Ab c h _
 | .rd i p,fuel,L,go,a,F,b,hl,c,h=>by
  simp only[cj.ok,Bool.and_eq_true] at c
  obtain ⟨⟨⟨⟨c1,c2⟩,c3⟩,g⟩,c4⟩:=c
  obtain ⟨o,d⟩:=Option.isSome_iff_exists.1 c3
  have u:(Region.noSelect ops&&Region.free .any ops L i&&(Region.ready .any ops L).contains i)=true:=by rw[e,c1,c2];rfl
  have l:cj.opers ops (.rd i p)= .rd o (p.opers ops):=by simp only[cj.opers,d]
  rw[l] at h
  simp only[cj.len] at hl
  obtain ⟨fuel,rfl⟩:∃f,fuel=f+1:=⟨fuel - 1,by omega⟩
  have next:∀go v,cr P J ops F0 Q (p.opers ops) go (bf a o.dst v) F->dV P J ops Q (Knows F0) bX fuel (L.setIfInBounds i true) (bf a o.dst v) F:=fun go v m=>
   j3 e p fuel _ go _ F b (by omega) c4 m
  unfold cr at h
  split at h
  ·rename_i hg
   exact EV i d u g hg b (next true undef h)
  ·rename_i hg
   split at h
   ·rename_i t x y
    split at h
    case h_2=>exact h.elim
    rename_i ad A
    split at h
    case h_2=>exact h.elim
    rename_i v m
    refine vb i v d u g hg (fun F R w n=>?_) b (next _ v h)
    unfold cI
    simp only[y,A,w.e5 m]
    exact n
   ·rename_i x args argTypes y
    split at h
    case h_2=>exact h.elim
    rename_i fn first captured hx
    obtain ⟨B,v,C,h⟩:=h
    refine vb i v d u g hg (fun F R w n=>?_) b (next _ v h)
    unfold cI
    simp only[y,hx]
    exact ⟨B,(C F w).mono fun H F' D=>by obtain ⟨rfl,rfl⟩:=D;exact n⟩
   ·split at h
    case h_2=>exact h.elim
    rename_i v m
    exact vb i v d u g hg (fun F R w n=>qW m n) b (next _ v h)
  ·exact h.elim
 | .one i p,fuel,L,go,a,F,b,hl,c,h=>by
  simp only[cj.ok,Bool.and_eq_true,decide_eq_true_eq] at c
  obtain ⟨⟨c1,c3⟩,c4⟩:=c
  obtain ⟨o,d⟩:=Option.isSome_iff_exists.1 c3
  have l:cj.opers ops (.one i p)= .one o (p.opers ops):=by simp only[cj.opers,d]
  rw[l] at h
  simp only[cj.len] at hl
  obtain ⟨fuel,rfl⟩:∃f,fuel=f+1:=⟨fuel - 1,by omega⟩
  unfold cr at h
  exact Aa i c1 (nj d (fun go a F b h=>j3 e p fuel _ go a F b (by omega) c4 h) h)
 | .two i p j q,fuel,L,go,a,F,b,hl,c,h=>by
  simp only[cj.ok,Bool.and_eq_true,decide_eq_true_eq] at c
  obtain ⟨⟨⟨⟨c1,c2⟩,c3⟩,c4⟩,g⟩:=c
  obtain ⟨o,d⟩:=Option.isSome_iff_exists.1 c2
  obtain ⟨o',s⟩:=Option.isSome_iff_exists.1 c3
  have l:cj.opers ops (.two i p j q)= .two o (p.opers ops) o' (q.opers ops):=by simp only[cj.opers,d,s]
  rw[l] at h
  simp only[cj.len] at hl
  obtain ⟨fuel,rfl⟩:∃f,fuel=f+1:=⟨fuel - 1,by omega⟩
  unfold cr at h
  refine u9 c1 (by simp) fun x hx=>?_
  simp only[List.mem_cons,List.not_mem_nil,or_false] at hx
  rcases hx with rfl|rfl
  ·exact nj d (fun go a F b h=>j3 e p fuel _ go a F b (by omega) c4 h) h.1
  ·exact nj s (fun go a F b h=>j3 e q fuel _ go a F b (by omega) g h) h.2
 | .three i p j q k r,fuel,L,go,a,F,b,hl,c,h=>by
  simp only[cj.ok,Bool.and_eq_true,decide_eq_true_eq] at c
  obtain ⟨⟨⟨⟨⟨⟨c1,c2⟩,c3⟩,c4⟩,g⟩,E⟩,G⟩:=c
  obtain ⟨o,d⟩:=Option.isSome_iff_exists.1 c2
  obtain ⟨o',s⟩:=Option.isSome_iff_exists.1 c3
  obtain ⟨j0,z⟩:=Option.isSome_iff_exists.1 c4
  have l:cj.opers ops (.three i p j q k r)= .three o (p.opers ops) o' (q.opers ops) j0 (r.opers ops):=by simp only[cj.opers,d,s,z]
  rw[l] at h
  simp only[cj.len] at hl
  obtain ⟨fuel,rfl⟩:∃f,fuel=f+1:=⟨fuel - 1,by omega⟩
  unfold cr at h
  refine u9 c1 (by simp) fun x hx=>?_
  simp only[List.mem_cons,List.not_mem_nil,or_false] at hx
  rcases hx with rfl|rfl|rfl
  ·exact nj d (fun go a F b h=>j3 e p fuel _ go a F b (by omega) g h) h.1
  ·exact nj s (fun go a F b h=>j3 e q fuel _ go a F b (by omega) E h) h.2.1
  ·exact nj z (fun go a F b h=>j3 e r fuel _ go a F b (by omega) G h) h.2.2
 | .last i p,fuel,L,go,a,F,b,hl,c,h=>vc e (.last i p) fuel L go a F (by simp only[cj.ok,Bool.and_eq_true] at c;exact c.1.1.2) hl c h
 | .pure i p,fuel,L,go,a,F,b,hl,c,h=>by
  simp only[cj.len] at hl
  obtain ⟨fuel,rfl⟩:∃f,fuel=f+1:=⟨fuel - 1,by omega⟩
  exact Ad e c (fun go v a c4 m=>j3 e p fuel _ go _ F b (by omega) c4 m) h
theorem eI {Q:Ex->Act->aa->Prop}(hJ:Closed P main J)(d:P.follows .mixedOrders=true)(bX:List Nat)(p:cj){id:Nat}{a:Act}{F:aa}(F0:aa)(e:Knows F0 F)
  (c:(Region.noSelect ops&&decide (p.len<=ops.size)&&p.ok ops bX (Array.replicate ops.size false))=true)
  (h:cr P J ops F0 (Q .normal) (p.opers ops) true a F):Wp J (.region id ops true) Q a F:=by
 simp only[Bool.and_eq_true,decide_eq_true_eq] at c
 obtain ⟨⟨f,g⟩,i⟩:=c
 intro b k cs hb j
 refine hJ.step fun w hw=>?_
 refine ⟨_,_,_,F,yS,.drawn _ _ _,hw.drawn _,by simp,?_⟩
 refine qD (K:=Q .normal) hJ (tZ hb) (fun l F' m=>j .normal l F' m) _ _ _ ?_
 simp only[Region.schedule,d,Bool.true_or,if_true]
 exact ES ops.size _ _ a F (j3 (bX:=bX) f p ops.size _ true a F e g i h)
end
theorem EW {P:Program}{J:Goroutine->aa->Prop}{ops:Array Oper}{F0:aa}{Q:Act->aa->Prop}{go:Bool}{a:Act}{F:aa}:cr P J ops F0 Q .done go a F=Q a F:=rfl
theorem EX {P:Program}{J:Goroutine->aa->Prop}{ops:Array Oper}{F0:aa}{Q:Act->aa->Prop}{o:Oper}{p:fH}{a:Act}{F:aa}:cr P J ops F0 Q (.rd o p) true a F=match cz ops o a with
  |some false=>cr P J ops F0 Q p true (bf a o.dst undef) F
  |some true=>match o.op with
   | .load t x=>match ev a x with
    | .pointer (some ad)=>match e5 P F0 t ad with
     |some v=>cr P J ops F0 Q p true (bf a o.dst v) F
     |none=>False
    |_=>False
   | .call {callee:=.value x,args, ..}=>match ev a x with
    | .func (.func fn) first captured=>aJ P fn=true/\∃v,Plain P J F0 fn (first++args.map (ev a)++captured) v/\cr P J ops F0 Q p false (bf a o.dst v) F
    |_=>False
   |_=>match iT P o a with
    |some v=>cr P J ops F0 Q p true (bf a o.dst v) F
    |none=>False
  |none=>False:=(Eq.refl _).trans (Eq.refl _)
theorem Ae {P:Program}{J:Goroutine->aa->Prop}{ops:Array Oper}{F0:aa}{Q:Act->aa->Prop}{o:Oper}{p:fH}{a:Act}{F:aa}:cr P J ops F0 Q (.one o p) true a F=match cz ops o a with
  |some true=>cI P J o (fun v F'=>Knows F0 F'/\cr P J ops F0 Q p (!Oper.calls o) (bf a o.dst v) F') a F
  |_=>False:=(Eq.refl _).trans (Eq.refl _)
theorem j4 {P:Program}{J:Goroutine->aa->Prop}{ops:Array Oper}{F0:aa}{Q:Act->aa->Prop}{o o':Oper}{p q:fH}{go:Bool}{a:Act}{F:aa}(b:cr P J ops F0 Q (.one o p) true a F)(c:cr P J ops F0 Q (.one o' q) true a F):cr P J ops F0 Q (.two o p o' q) go a F:=by
 rw[Ae] at b c;unfold cr;exact ⟨b,c⟩
theorem EY {P:Program}{J:Goroutine->aa->Prop}{ops:Array Oper}{F0:aa}{Q:Act->aa->Prop}{o:Oper}{p:fH}{a:Act}{F:aa}:cr P J ops F0 Q (.last o p) true a F=match cz ops o a with
  |some true=>cI P J o (fun v F'=>cr P J ops F0 Q p (!Oper.calls o) (bf a o.dst v) F') a F
  |_=>False:=(Eq.refl _).trans (Eq.refl _)
theorem EZ {P:Program}{J:Goroutine->aa->Prop}{ops:Array Oper}{F0:aa}{Q:Act->aa->Prop}{o:Oper}{p:fH}{a:Act}{F:aa}:cr P J ops F0 Q (.pure o p) true a F=match cz ops o a with
  |some false=>cr P J ops F0 Q p true (bf a o.dst undef) F
  |some true=>match iT P o a with
   |some v=>cr P J ops F0 Q p true (bf a o.dst v) F
   |none=>False
  |none=>False:=(Eq.refl _).trans (Eq.refl _)
theorem bZ {P:Program}{J:Goroutine->aa->Prop}{ops:Array Oper}{F0:aa}{Q:Act->aa->Prop}:∀{p:fH} {go:Bool} {a:Act} {F:aa},cr P J ops F0 Q p true a F->cr P J ops F0 Q p go a F
 | .done,_,_,_,h=>h
 | .bad,_,_,_,h=>h
 | .rd ..,_,_,_,h=>h
 | .one ..,_,_,_,h=>h
 | .two ..,_,_,_,h=>h
 | .three ..,_,_,_,h=>h
 | .last ..,_,_,_,h=>h
 | .pure ..,_,_,_,h=>h
attribute [irreducible] cr
attribute [go_sem] EW EX Ae EY EZ cj.opers
theorem eP {ro aN:Addr->Option Value}{l:List (Nat×Obj)}(hx:Ext ro aN)(a:aE aN l)(own:List (Nat×Obj)):Knows ⟨ro,l⟩ ⟨aN,own⟩=iS l own:=
 propext ⟨fun h=>h.2.2,D4 hx a⟩
section
variable {P : Program} {main : Bool} {J : Goroutine → aa → Prop} {a : Act} {F : aa}
def l7 (l:Nat)(R:Value->aa->Prop)(st:LoopState)(jump:Option Code)(F:aa):Prop:=
 ∃lo,F.eW l=some (.loop lo)/\R (.bool jump.isNone) (F.put l (.loop {lo with state:=st,pending:=jump}))
def rq (l:Nat)(R:Value->aa->Prop):Ex->Act->aa->Prop
 | .normal,_,F=>l7 l R .ready none F
 | .exit id,_,F=>l7 l R .done (some (.exit id)) F
 | .ret,_,F=>l7 l R .done (some .ret) F
def pG (J:Goroutine->aa->Prop)(l:Nat)(body:Code)(R:Value->aa->Prop):Ex->Act->aa->Prop
 | .normal,a,F=>∃lo,F.eW l=some (.loop lo)/\lo.state= .ready/\Wp J body (rq l R) a (F.put l (.loop {lo with state:=.busy}))
 |_,_,_=>False
theorem ve {l:Nat}{R:Value->aa->Prop}{st:LoopState}{jump:Option Code}(c:st=if jump.isNone then .ready else .done)(h:l7 l R st jump F):aU P (Instr.endRound l jump) R F:=by
 obtain ⟨lo,a,b⟩:=h;simp only[Instr.endRound,Instr.getLoop,bq,m5];refine ⟨_,a,?_⟩;simp only[bF,bq,lM,a,Option.isSome_some,Obj.isChan,true_and];rw[c] at b;exact b
theorem vf (hJ:Closed P main J){l:Nat}{b:Frame}{a:Act}{todo:List Item}{jump:Option Code}{c:Frame}{cs:List Frame}(f:b.kind= .normal)
  (hs:∀w,stepG P main (G (on b a todo) (c::cs)) w=GStep.after (seen P b.fn ((Instr.endRound l jump).runT P w #[]).2) (match ((Instr.endRound l jump).runT P w #[]).1 with
    | .ok v w=>doReturn P main (on b a todo) (c::cs) none v w
    | .halt _ w=>.ended (.stuck "range over a function: no such loop" ((on b a todo).pos P)) w))
  (h:aU P (Instr.endRound l jump) (fun v F'=>J (G (c.finish v) cs) F') F):J (G (on b a todo) (c::cs)) F:=by
 refine hJ.step fun w hw=>?_
 obtain ⟨v,w',F',es,H⟩:=kL _ F w #[] h hw
 have d:=H.run
 rw[Array.empty_append] at d
 refine ⟨G (c.finish v) cs,w',seen P b.fn es,F',?_,H.upd,H.has,fun e he=>H.g6 e (mem_seen he),H.post⟩
 rw[hs w,d]
 have g:(on b a todo).kind= .normal:=f
 simp only[doReturn,g,GStep.after,G]
 simp
theorem js.of_wp (hJ:Closed P main J){l:Nat}{f:FuncId}{tmps:Array Value}{assign body:Code}{R:Value->aa->Prop}(hd:fA assign=true)(q:fA body=true)
  (h:Wp J assign (pG J l body R) {tmps:=tmps,defers:=[]} F):js J l f tmps assign body F R:=by
 intro c cs j
 let b:Frame:={(default:Frame) with fn:=f,kind:=.normal,roundOf:=some l}
 have he:Frame.round l f tmps assign body .normal=on b {tmps:=tmps,defers:=[]} (.code assign::[.beginRound,.code body]):=rfl
 rw[he]
 refine h b [.beginRound,.code body] (c::cs) ⟨by simp[b],.inr hd⟩ fun e m F' d=>?_
 cases e with
 |exit i=>exact d.elim
 |ret=>exact d.elim
 |normal=>
  obtain ⟨lo,a,g,r⟩:=d
  show J (G (on b m [.beginRound,.code body]) (c::cs)) F'
  have hl:aU P (do Instr.beginRound l;pure Next.skip:Sem Next) (fun n k=>n= .skip/\k=F'.put l (.loop {lo with state:=.busy})) F':=by
   simp only[Instr.beginRound,Instr.getLoop,bq,m5]
   refine ⟨_,a,?_⟩
   simp only[bF,bq,lM,a,Option.isSome_some,Obj.isChan,true_and,g]
   all_goals first|trivial|exact ⟨rfl,rfl⟩
  refine hJ.step fun w hw=>?_
  obtain ⟨n,w',k,es,H⟩:=kL _ F' w #[] hl hw
  have o:=H.run
  rw[Array.empty_append] at o
  obtain ⟨rfl,rfl⟩:=H.post
  refine ⟨G (on b m [.code body]) (c::cs),w',seen P b.fn es,_,?_,H.upd,H.has,fun e he=>H.g6 e (mem_seen he),?_⟩
  ·have s:b.roundOf=some l:=rfl
   simp only[G,stepG,stepG.exec,on,s,Option.elim,stepG.apply,if_true]
   have t:(b.kind==CallKind.early)=false:=rfl
   simp only[o,t,Bool.false_eq_true,if_false,GStep.after]
   simp[Frame.finish,undef]
  ·refine r b [] (c::cs) ⟨by simp[b],.inr q⟩ fun e a2 k d=>?_
   cases e with
   |normal=>
    refine vf hJ (l:=l) (jump:=none) rfl (fun w=>?_) (ve rfl (R:=fun v F'=>J (G (c.finish v) cs) F') ?_)
    ·simp only[G,stepG,stepG.exec,on]
     rfl
    ·obtain ⟨lo,a,g⟩:=d
     exact ⟨lo,a,j _ _ g⟩
   |exit i=>
    intro p u
    refine vf hJ (l:=l) (jump:=some (.exit i)) rfl (fun w=>?_) (ve rfl (R:=fun v F'=>J (G (c.finish v) cs) F') ?_)
    ·have x:exitTo i p=none:=u
     simp only[G,stepG,stepG.exec,on,x,Option.elim]
     rfl
    ·obtain ⟨lo,a,g⟩:=d
     exact ⟨lo,a,j _ _ g⟩
   |ret=>
    intro p
    refine vf hJ (l:=l) (jump:=some .ret) rfl (fun w=>?_) (ve rfl (R:=fun v F'=>J (G (c.finish v) cs) F') ?_)
    ·simp only[G,stepG,stepG.exec,on]
     rfl
    ·obtain ⟨lo,a,g⟩:=d
     exact ⟨lo,a,j _ _ g⟩
def ru (Q:Ex->Act->aa->Prop)(a:Act)(F:aa):Option Code->Prop
 |none=>Q .normal a F
 |some (.exit id)=>Q (.exit id) a F
 |some .ret=>Q .ret a F
 |_=>False
def nk (b:FuncId)(a:Act)(params:Array Tmp)(assign body:Code)(d:Nat):Loop:={state:=.ready,pending:=none,fn:=b,tmps:=a.tmps,params:=params,assign:=assign,body:=body,defers:=d}
theorem E0 (hJ:Closed P main J){x:Operand}{params:Array Tmp}{assign body:Code}{Q:Ex->Act->aa->Prop}{fn:FuncId}{first captured:Array Value}
  (hx:ev a x= .func (.func fn) first captured) (D:aJ P fn=true)
  (E:∀I d l,dQ F d->dQ (F.push d (.deferred (some []))) l->
   cR P J fn (first++#[.func (.yield l) #[] #[]]++captured) ((F.push d (.deferred (some []))).push l (.loop (nk I a params assign body d)))
    (fun _ F'=>∃lo,F'.eW l=some (.loop lo)/\lo.state≠ .busy/\ru Q {a with defers:=⟨.collected d,#[]⟩::a.defers} (F'.put l (.loop {lo with state:=.exhausted})) lo.pending)):
  Wp J (.rangeFunc x params assign body) Q a F:=by
 intro b k cs hb p
 have s:b.roundOf=none:=hb.round.elim id fun h=>by simp[fA] at h
 obtain ⟨t,L,M,N,O,q,a0⟩:=b
 simp only at s
 subst s
 let b:Frame:=⟨t,L,M,N,O,q,none⟩
 have R:a.eval x= .func (.func fn) first captured:=hx
 have i:=D
 unfold aJ at i
 split at i
 case h_2=>cases i
 rename_i a2 hf
 simp only[Bool.not_eq_true',Bool.or_eq_false_iff] at i
 let K:Nat×List Deferred->aa->Prop:=fun r F'=>∃d l,r=(l,[⟨.collected d,#[]⟩])/\dQ F d/\dQ (F.push d (.deferred (some []))) l/\F'=(F.push d (.deferred (some []))).push l (.loop (nk b.fn a params assign body d))
 have S:aU P (Instr.enterLoop b.fn a.tmps params assign body none) K F:=by
  simp only[Instr.enterLoop,bq,oQ,bF]
  exact ⟨rfl,fun d hd=>⟨rfl,fun l hl=>⟨d,l,rfl,hd,hl,rfl⟩⟩⟩
 refine hJ.step fun w hw=>?_
 obtain ⟨r,w1,a3,u,H1⟩:=kL _ F w #[] S hw
 have z:=H1.run
 rw[Array.empty_append] at z
 obtain ⟨d,l,rfl,hd,hl,rfl⟩:=H1.post
 let fr':Frame:={on b a (.inRangeFunc l::k) with defers:=[⟨.collected d,#[]⟩]++a.defers}
 have T:fr'=on b {a with defers:=⟨.collected d,#[]⟩::a.defers} (.inRangeFunc l::k):=rfl
 have U:fr'.eval x= .func (.func fn) first captured:=by rw[T,tQ];exact R
 have V:aU P (do let m<-resolve fr'.eval {callee:=.value x,args:=#[.const (.func (.yield l) #[] #[])],argTypes:=#[]} 0;invoke m.target m.args:Sem Next)
   (fun n o=>n= .enter fn (first++#[.func (.yield l) #[] #[]]++captured)/\o=(F.push d (.deferred (some []))).push l (.loop (nk b.fn a params assign body d))) ((F.push d (.deferred (some []))).push l (.loop (nk b.fn a params assign body d))):=by
  have W:fr'.eval (.const (.func (.yield l) #[] #[]))= .func (.yield l) #[] #[]:=rfl
  simp only[resolve,U,Deferred.ofValue,bq,bF,invoke,callFunc,jR,hf,i.1,i.2,Bool.false_eq_true,if_false,List.map_toArray,List.map_cons,List.map_nil,W]
  simp
 obtain ⟨n,w2,o,X,g⟩:=kL _ _ w1 #[] V H1.has
 have A:=g.run
 rw[Array.empty_append] at A
 obtain ⟨rfl,rfl⟩:=g.post
 refine ⟨G (Frame.enter P fn (first++#[.func (.yield l) #[] #[]]++captured) .normal) (fr'::cs),w2,seen P b.fn u++seen P b.fn X,_,?_,H1.upd.trans g.upd,g.has,fun e he=>?_,?_⟩
 ·have Y:(q==CallKind.early)=false:=by have:=hb.kind;cases q<;>simp_all
  have hs:∀e:Array Event,stepG P main (G (on b a (.code (.rangeFunc x params assign body)::k)) cs) w=GStep.after (seen P t u) (stepG.apply P true fr' cs none (do let m<-resolve fr'.eval {callee:=.value x,args:=#[.const (.func (.yield l) #[] #[])],argTypes:=#[]} 0;invoke m.target m.args) w1):=fun _=>by
   simp only[G,stepG,stepG.exec,on,b]
   rw[z]
   rfl
  show stepG P main (G (on b a (.code (.rangeFunc x params assign body)::k)) cs) w=_
  rw[hs #[]]
  unfold stepG.apply
  simp only[if_true,A]
  have Z:(fr'.kind==CallKind.early)=false:=Y
  simp only[Z,Bool.false_eq_true,if_false,GStep.after]
  rfl
 ·rcases Array.mem_append.1 he with h|h
  ·refine (H1.g6 e (mem_seen h)).mono (fun _ x=>x) fun b hb=>hb.imp id fun y=>⟨y.1,Nat.lt_of_lt_of_le y.2 g.upd.size⟩
  ·refine (g.g6 e (mem_seen h)).mono (fun a ab=>ab) fun b hb=>?_
   rcases hb with hb|hb
   ·rcases H1.upd.own b hb with x|x
    ·exact .inl x
    ·exact .inr ⟨x,Nat.lt_of_lt_of_le (H1.has.lt hb) g.upd.size⟩
   ·exact .inr ⟨Nat.le_trans H1.upd.size hb.1,hb.2⟩
 ·refine E b.fn d l hd hl fr' cs fun v F' ad=>?_
  obtain ⟨lo,B,ae,f⟩:=ad
  have al:fr'.finish v=on b {a with defers:=⟨.collected d,#[]⟩::a.defers} (.endRangeFunc l::k):=rfl
  rw[al]
  have ao:aU P (Instr.endLoop l) (fun j o=>j=lo.pending/\o=F'.put l (.loop {lo with state:=.exhausted})) F':=by
   simp only[Instr.endLoop,Instr.getLoop,bq,m5]
   refine ⟨_,B,?_⟩
   have ar:¬(lo.state== .busy)=true:=by simpa using ae
   simp only[bF,bq,lM,B,Option.isSome_some,Obj.isChan,true_and,dm,ar]
   all_goals first|trivial|exact ⟨rfl,rfl⟩
  refine hJ.step fun w hw=>?_
  obtain ⟨j,w',a4,es,H⟩:=kL _ F' w #[] ao hw
  have C:=H.run
  rw[Array.empty_append] at C
  obtain ⟨rfl,rfl⟩:=H.post
  refine ⟨G (on b {a with defers:=⟨.collected d,#[]⟩::a.defers} ((lo.pending.map Item.code).toList++k)) cs,w',seen P b.fn es,_,?_,H.upd,H.has,fun e he=>H.g6 e (mem_seen he),?_⟩
  ·simp only[G,stepG,stepG.exec,on,C,GStep.after]
   simp
  ·revert f
   cases lo.pending with
   |none=>exact fun f=>p .normal _ _ f
   |some c=>
    intro f
    cases c<;>simp only[ru] at f<;>first
     |exact f.elim
     |exact p (.exit _) _ _ f k rfl
     |exact p .ret _ _ f k
end
def eX {H σ:Type}(step:σ->H->Option (Bool×σ)):List (Option H)->σ->Option (Bool×σ)
 |[],s=>some (true,s)
 |none::_,_=>none
 |some x::l,s=>match step s x with
  |some (true,s')=>eX step l s'
  |some (false,s')=>some (false,s')
  |none=>none
theorem Af {H σ:Type}(step:σ->H->Option (Bool×σ)):∀(l l':List (Option H)) (s:σ),eX step (l++l') s=match eX step l s with
  |some (true,s')=>eX step l' s'
  |some (false,s')=>some (false,s')
  |none=>none
 |[],l',s=>rfl
 |none::l,l',s=>rfl
 |some x::l,l',s=>by
  simp only[List.cons_append,eX]
  split<;>first|rfl|exact Af step l l' _
def iX {H σ ρ:Type}(f:H->σ->Option (Fl σ ρ)):List (Option H)->σ->Option (Fl σ ρ)
 |[],s=>some (.nx s)
 |none::_,_=>none
 |some x::l,s=>ag (f x s) fun o=>match o with
  | .nx s'=>iX f l s'
  | .bk s'=>some (.nx s')
  | .br k s'=>some (.br k s')
  | .rt _=>none
def vg {H σ:Type}(P:Program)(y:Value)(enc:H->Value)(step:σ->H->Option (Bool×σ))(ro:Addr->Option Value)(I:σ->List (Nat×Obj)->Prop):Prop:=
 ∀s x b s',step s x=some (b,s')->∀(main:Bool) (J:Goroutine->aa->Prop),Closed P main J->∀own,I s own->
  gv P J y #[enc x] ⟨ro,own⟩ (fun v F'=>∃a,Le ⟨ro,a⟩ F'/\v= .bool b/\I s' a)
def l8 {H:Type}(P:Program)(f:FuncId)(first cap:Array Value)(enc:H->Value)(L:List (Option H))(ro:Addr->Option Value):Prop:=
 aJ P f=true/\∀(aN:Addr->Option Value),Ext ro aN->∀(σ:Type) (step:σ->H->Option (Bool×σ)) (I:σ->List (Nat×Obj)->Prop) (a:Fn) (c d:Array Value),vg P (.func a c d) enc step aN I->
  ∀s b s',eX step L s=some (b,s')->∀(main:Bool) (J:Goroutine->aa->Prop),Closed P main J->∀own,I s own->
   cR P J f (first++#[.func a c d]++cap) ⟨aN,own⟩ (fun _ F'=>∃e,Le ⟨aN,e⟩ F'/\I s' e)
theorem l8.mono {H:Type}{P:Program}{f:FuncId}{first cap:Array Value}{enc:H->Value}{L:List (Option H)}{ro a:Addr->Option Value}(h:l8 P f first cap enc L ro)(hx:Ext ro a):l8 P f first cap enc L a:=
 ⟨h.1,fun aN b=>h.2 aN (hx.trans b)⟩
def ry:Nat:=1000000000
def l9 (k:Nat):Code:=if k=ry then .ret else .exit k
def vh (Q:Ex->Act->aa->Prop)(k:Nat):Act->aa->Prop:=if k=ry then Q .ret else Q (.exit k)
def Ah {σ ρ:Type}(c:Nat)(ro:Addr->Option Value)(l d:Nat)(S:σ->List (Nat×Obj)->Prop)(lo:Loop)(b:Fl σ ρ)(v:Value)(F:aa):Prop:=
 ∃a,Le ⟨ro,(l,.loop {lo with state:=(match b with| .nx _=>.ready|_=>.done),pending:=(match b with| .nx _=>none| .bk _=>some (l9 c)| .br k _=>some (l9 k)| .rt _=>none)})::(d,.deferred (some []))::a⟩ F/\
  match b with
  | .nx s'=>v= .bool true/\S s' a
  | .bk s'=>v= .bool false/\S s' a
  | .br _ s'=>v= .bool false/\S s' a
  | .rt _=>False
section
variable {P : Program} {main : Bool} {J : Goroutine → aa → Prop} {a : Act}
theorem Ai {H σ ρ:Type}{f:H->σ->Option (Fl σ ρ)}(a:Nat):∀(L:List (Option H)) (s:σ) (o:Fl σ ρ),iX f L s=some o->
  ∃b s' pend,eX (σ:=σ×Option Nat) (fun st x=>match st with
   |(s,none)=>match f x s with
    |some (.nx s')=>some (true,(s',none))
    |some (.bk s')=>some (false,(s',some a))
    |some (.br k s')=>some (false,(s',some k))
    |_=>none
   |_=>none) L (s,none)=some (b,(s',pend))/\((o= .nx s'/\(pend=none\/pend=some a))\/∃k,o= .br k s'/\pend=some k)
 |[],s,o,h=>by
  cases h
  exact ⟨true,s,none,rfl,.inl ⟨rfl,.inl rfl⟩⟩
 |none::L,s,o,h=>by cases h
 |some x::L,s,o,h=>by
  unfold iX at h
  obtain ⟨e,d,c⟩:=fL h
  cases e with
  |nx s'=>
   obtain ⟨b,s2,pend,g,i⟩:=Ai a L s' o c
   refine ⟨b,s2,pend,?_,i⟩
   unfold eX
   simp only[d]
   exact g
  |bk s'=>
   cases c
   refine ⟨false,s',some a,?_,.inl ⟨rfl,.inr rfl⟩⟩
   unfold eX
   simp only[d]
  |br k s'=>
   cases c
   refine ⟨false,s',some k,?_,.inr ⟨k,rfl,rfl⟩⟩
   unfold eX
   simp only[d]
  |rt r=>cases c
theorem Aj {ro:Addr->Option Value}{l:Nat}{o:Obj}{own:List (Nat×Obj)}(a:Obj.oM o=false)(b:o.isChan=false):aa.eW ⟨ro,(l,o)::own⟩ l=some o:=by
 simp[aa.eW,lk,a,b]
def pH (a:Act)(d:Nat):Act:={a with defers:=⟨.collected d,#[]⟩::a.defers}
theorem E1 (a:Act)(d i:Nat):slot (pH a d) i=slot a i:=rfl
theorem E2 (a:Act)(d:Nat):sz (pH a d)=sz a:=rfl
theorem E3 (a:Act)(d:Nat):(pH a d).defers=⟨.collected d,#[]⟩::a.defers:=rfl
def mb (a:Act)(p:Tmp)(v:Value):Act:={tmps:=a.tmps.setIfInBounds p v,defers:=[]}
theorem nq (a:Act)(p:Tmp)(v:Value)(i:Nat):slot (mb a p v) i=slot (bf a (some p) v) i:=rfl
theorem vi (a:Act)(p:Tmp)(v:Value):sz (mb a p v)=sz a:=by simp[sz,mb]
theorem vj {H σ ρ:Type}(hJ:Closed P main J){x:Operand}{p:Tmp}{assign body:Code}{Q:Ex->Act->aa->Prop}{fn:FuncId}{first captured:Array Value}{ro:Addr->Option Value}{own:List (Nat×Obj)}{g:Nat}
  (enc:H->Value) {L:List (Option H)} (hx:ev a x= .func (.func fn) first captured) (G:l8 P fn first captured enc L ro)
  (T:fA assign=true) (U:fA body=true)
  (S:σ->List (Nat×Obj)->Prop) {f:H->σ->Option (Fl σ ρ)} {z:σ} {o:Fl σ ρ} (V:iX f L z=some o) (W:S z own)
  (X:∀(d l:Nat) (lo:Loop),lo.state= .ready->∀(s:σ) (y:H) (q:Fl σ ρ),f y s=some q->∀(main:Bool) (J:Goroutine->aa->Prop),Closed P main J->∀own,S s own->
   Wp J assign (pG J l body (Ah g ro l d S lo q)) (mb a p (enc y)) ⟨ro,(l,.loop lo)::(d,.deferred (some []))::own⟩)
  (Y:¬g=ry)
  (Z:∀d l lo j s',S s' j->aQ (keys ((l,.loop lo)::(d,.deferred (some []))::j))->aE ro ((l,.loop lo)::(d,.deferred (some []))::j)->(o= .nx s'->Q .normal (pH a d) ⟨ro,(l,.loop lo)::(d,.deferred (some []))::j⟩)/\
   (∀k,o= .br k s'->vh Q k (pH a d) ⟨ro,(l,.loop lo)::(d,.deferred (some []))::j⟩))
  (ab:∀k s',o= .br k s'->¬k=g):Wp J (.block g (.rangeFunc x #[p] assign body)) Q a ⟨ro,own⟩:=by
 refine aP hJ (Wp.mono (Q:=fun e A F'=>match e with| .exit i=>if i=g then Q .normal A F' else Q (.exit i) A F'|e=>Q e A F') ?_ fun e a F h=>by cases e<;>exact h)
 obtain ⟨b,s',pend,ad,ae⟩:=Ai g L z o V
 refine E0 hJ hx G.1 fun B d l hd hl=>?_
 let lo:Loop:=nk B a #[p] assign body d
 let n:Option Nat->Loop:=fun pend=>{lo with state:=(match pend with|none=>.ready|some _=>.done),pending:=pend.map l9}
 let I:σ×Option Nat->List (Nat×Obj)->Prop:=fun st al=>∃aR,al=(l,.loop (n st.2))::(d,.deferred (some []))::aR/\S st.1 aR
 have ao:vg P (.func (.yield l) #[] #[]) enc (fun (st:σ×Option Nat) x=>match st with
   |(s,none)=>match f x s with
    |some (.nx s')=>some (true,(s',none))
    |some (.bk s')=>some (false,(s',some g))
    |some (.br k s')=>some (false,(s',some k))
    |_=>none
   |_=>none) ro I:=by
  rintro ⟨s,pend⟩ y ba ⟨s1,bb⟩ m ar K M a0 ⟨aR,rfl,a2⟩
  cases pend with
  |some k=>cases m
  |none=>
   simp only at m
   refine ⟨rfl,rfl,lo,Aj rfl rfl,rfl,?_⟩
   cases hf:f y s with
   |none=>rw[hf] at m;cases m
   |some q=>
    have C:=js.of_wp M (R:=Ah g ro l d S lo q) (f:=B) T U (X d l lo rfl s y q hf ar K M aR a2)
    rw[hf] at m
    have a3:(lo.params.zip #[enc y]).foldl (fun tmps (t,a)=>tmps.setIfInBounds t a) lo.tmps=a.tmps.setIfInBounds p (enc y):=by simp[lo,nk]
    show js K l B ((lo.params.zip #[enc y]).foldl (fun tmps (t,a)=>tmps.setIfInBounds t a) lo.tmps) assign body _ _
    rw[a3]
    refine C.mono fun v F' D=>?_
    obtain ⟨j,hle,hm⟩:=D
    cases q with
    |nx s2=>
     simp only[Option.some.injEq,Prod.mk.injEq] at m
     obtain ⟨rfl,rfl,rfl⟩:=m
     exact ⟨_,hle,hm.1,j,rfl,hm.2⟩
    |bk s2=>
     simp only[Option.some.injEq,Prod.mk.injEq] at m
     obtain ⟨rfl,rfl,rfl⟩:=m
     exact ⟨_,hle,hm.1,j,rfl,hm.2⟩
    |br k s2=>
     simp only[Option.some.injEq,Prod.mk.injEq] at m
     obtain ⟨rfl,rfl,rfl⟩:=m
     exact ⟨_,hle,hm.1,j,rfl,hm.2⟩
    |rt r=>exact hm.elim
 have a4:=G.2 ro (Ext.refl ro) _ _ I _ _ _ ao (z,none) b (s',pend) ad main J hJ ((l,.loop lo)::(d,.deferred (some []))::own) ⟨own,rfl,W⟩
 intro c cs a5
 refine a4 c cs fun v F' D=>?_
 obtain ⟨a0,hle,j,rfl,a6⟩:=D
 by_cases hw:∃w,Has F' w
 case neg=>exact hJ.step fun w a7=>absurd ⟨w,a7⟩ hw
 obtain ⟨w,hw⟩:=hw
 have N:=hle.has w hw
 refine hJ.mono hle (a5 v _ ⟨n pend,Aj rfl rfl,?_,?_⟩)
 ·cases pend<;>simp[n]
 ·obtain ⟨O,a8⟩:=Z d l {n pend with state:=.exhausted} j s' a6 ⟨N.nodup⟩ (fun b hb off sp=>by
   cases C:ro ⟨b,off,sp⟩ with
   |none=>rfl
   |some v=>exact absurd hb (N.apart _ v C))
  have a9:aa.put ⟨ro,(l,.loop (n pend))::(d,.deferred (some []))::j⟩ l (.loop {n pend with state:=.exhausted})=⟨ro,(l,.loop {n pend with state:=.exhausted})::(d,.deferred (some []))::j⟩:=by simp[aa.put,iO]
  rw[a9]
  rcases ae with ⟨rfl,rfl|rfl⟩|⟨k,rfl,rfl⟩
  ·exact O rfl
  ·show ru _ _ _ (some (l9 g))
   have:l9 g= .exit g:=if_neg Y
   rw[this]
   show (if g=g then Q .normal _ _ else Q (.exit g) _ _)
   rw[if_pos rfl]
   exact O rfl
  ·have u:=a8 k rfl
   show ru _ _ _ (some (l9 k))
   unfold vh at u
   unfold l9
   split
   ·rename_i E
    rw[if_pos E] at u
    exact u
   ·rename_i E
    rw[if_neg E] at u
    show (if k=g then Q .normal _ _ else Q (.exit k) _ _)
    rw[if_neg (ab k s' rfl)]
    exact u
theorem E4 {R:List Deferred->aa->Prop}{r:Nat}{F:aa}:aU P (Instr.takeDeferred r) R F=match F.eW r with
  |some (.deferred (some a))=>R a (F.put r (.deferred none))
  |_=>False:=by
 unfold Instr.takeDeferred
 rw[bq,m5]
 refine propext ⟨fun ⟨o,d,b⟩=>?_,fun h=>?_⟩
 ·rw[d]
  cases o<;>first|exact (show False from b).elim|skip
  rename_i a
  cases a with
  |none=>exact (show False from b).elim
  |some a=>
   simp only[bq,lM,bF] at b
   exact b.2.2
 ·split at h
  ·rename_i a c
   refine ⟨_,c,?_⟩
   simp only[bq,lM,bF]
   exact ⟨rfl,by rw[c];rfl,h⟩
  ·exact h.elim
theorem E5 (hJ:Closed P main J){y:Value}{args:Array Value}{ro:Addr->Option Value}{own:List (Nat×Obj)}{R:Value->List (Nat×Obj)->Prop}(pre:List (Nat×Obj))
  (h:∀(main:Bool) (J:Goroutine->aa->Prop),Closed P main J->gv P J y args ⟨ro,own⟩ (fun v F'=>∃a,Le ⟨ro,a⟩ F'/\R v a)) (p:aQ (keys (pre++own))) {K:Value->aa->Prop}
  (s:∀v a,R v a->aQ (keys (pre++a))->K v ⟨ro,pre++a⟩):gv P J y args ⟨ro,pre++own⟩ K:=by
 have key:∀jy:Frame,(∀(main:Bool) (J:Goroutine->aa->Prop),Closed P main J->rj J jy ⟨ro,own⟩ (fun v F'=>∃a,Le ⟨ro,a⟩ F'/\R v a))->rj J jy ⟨ro,pre++own⟩ K:=fun jy d=>
  z7 hJ pre [] (by simp) R (fun m e f c cs t=>d m e f c cs fun v F' u=>t v F' (by obtain ⟨o,b,g⟩:=u;exact ⟨o,g,b⟩)) fun v w x a k i=>by
   rw[List.append_nil] at k
   subst k
   exact ⟨_,Le.refl _,s v w x i⟩
 have d:=h main J hJ
 unfold gv at d ⊢
 split at d
 ·rename_i fn first captured
  refine ⟨d.1,key _ fun m e f=>?_⟩
  have:=h m e f
  unfold gv at this
  exact this.2
 ·rename_i l first captured
  obtain ⟨e1,e2,r,b,g,_⟩:=d
  refine ⟨e1,e2,r,?_,g,key _ fun m e f=>?_⟩
  ·have hm:l∈keys own:=by
    unfold aa.eW at b
    split at b
    ·rename_i o z;exact eN (gI z)
    ·cases b
   have i:l∉keys pre:=fun A=>by
    have:=p.nd
    rw[ck] at this
    exact (List.nodup_append.1 this).2.2 l A l hm rfl
   have hl:∀(pre:List (Nat×Obj)),l∉keys pre->lk (pre++own) l=lk own l:=fun pre=>by
    induction pre with
    |nil=>intro _;rfl
    |cons q pre ih=>
     intro j
     simp only[keys,List.map_cons,List.mem_cons,not_or] at j
     simp only[List.cons_append,lk,if_neg (Ne.symm j.1)]
     exact ih j.2
   unfold aa.eW at b ⊢
   simp only at b ⊢
   rw[hl pre i]
   exact b
  ·have:=h m e f
   unfold gv at this
   obtain ⟨_,_,C,n,D,B⟩:=this
   rw[b] at n
   cases n
   exact B
 ·exact d.elim
theorem cR.less (hJ:Closed P main J){f:FuncId}{args:Array Value}{F:aa}{R:Value->aa->Prop}(h:cR P J f args F (fun v F'=>∃F0,Le F0 F'/\R v F0)):cR P J f args F R:=
 fun c cs a=>h c cs fun v F' ⟨F0,hle,b⟩=>hJ.mono hle (a v F0 b)
def Ak (P:Program)(rs:List ResultVar)(R:Value->aa->Prop):Ex->Act->aa->Prop
 | .exit _,_,_=>False
 |_,a,F=>g7 P a.defers (fun F=>match lV P F a rs with|some v=>R v F|none=>False) F
theorem Al {K b:aa->Prop}(h:∀F,K F->b F):∀(a:List Deferred) (F:aa),g7 P a K F->g7 P a b F
 |[],F,x=>h F x
 |d::a,F,⟨r,e,f⟩=>⟨r,e,gL (fun calls F' c=>⟨c.1,Al h a F' c.2⟩) _ _ f⟩
theorem aC.vk {f:FuncId}{fn:Func}{c:Code}{n:Nat}{rs:List ResultVar}{args:Array Value}{F:aa}{R:Value->aa->Prop}(hf:P.funcs[f]?=some fn)(hb:fn.body=some c)(g:fn.ntmps=n)(j:fn.results=rs.toArray)(k:args.size<=n)
  (h:∀main J,Closed P main J->∀A:Act,sz A=n->A.defers=[]->(∀i,slot A i=args.getD i undef)->Wp J c (Ak P rs R) A F):aC P f args F R:=
 aC.start hf hb g k fun main J hJ A l m o=>(h main J hJ A l m o).mono fun e a F b=>by
  have key:g7 P a.defers (fun F=>match lV P F a rs with|some v=>R v F|none=>False) F->g7 P a.defers (fun F=>aU P (results fn a.tmps) R F) F:=Al (fun F d=>by
   split at d
   ·rename_i v p;exact qV j p d
   ·exact d.elim) _ _
  cases e with
  |exit i=>exact b
  |normal=>exact key b
  |ret=>exact key b
theorem cR.go (hJ:Closed P main J){f:FuncId}{fn:Func}{c:Code}{n:Nat}{rs:List ResultVar}{args:Array Value}{F:aa}{R:Value->aa->Prop}(hf:P.funcs[f]?=some fn)(hb:fn.body=some c)(d:fn.ntmps=n)(j:fn.results=rs.toArray)(l:args.size<=n)
  (h:∀A:Act,sz A=n->A.defers=[]->(∀i,slot A i=args.getD i undef)->Wp J c (g9 P rs R) A F):cR P J f args F R:=by
 refine cR.of_wp hJ hf hb ?_
 refine (h _ (by simp[sz,d];omega) rfl fun i=>?_).mono fun e a F g=>?_
 ·simp only[slot,d,Array.getD_eq_getD_getElem?]
  rcases Nat.lt_or_ge i args.size with hi|hi
  ·rw[Array.getElem?_append_left hi]
  ·rw[Array.getElem?_append_right hi,Array.getElem?_replicate,Array.getElem?_eq_none hi]
   split<;>rfl
 ·cases e with
  |exit i=>exact g
  |_=>
   obtain ⟨hd,b⟩:=g
   split at b
   ·rename_i v k
    show g7 P a.defers _ F
    rw[hd]
    exact qV j k b
   ·exact b.elim
theorem E6 {d:Nat}{X:Nat->Prop}:(∃r,Target.collected d=Target.collected r/\X r)=X d:=propext ⟨fun ⟨r,a,b⟩=>by cases a;exact b,fun h=>⟨d,rfl,h⟩⟩
attribute [go_sem] E6 E1 E2 E3 Ak E4 aa.eW Obj.oM Obj.isChan
end
section
variable {P : Program}
theorem Am {argTypes:Array TypeId}{t e ty:TypeId}{R:Value->aa->Prop}{F:aa}{ad:Option Addr}{n c:Nat}(ht:argTypes[0]?=some t)(hu:P.underlying t=some (.slice e))(h:R (.int .i64 c) F):eO P (Builtin.cap_ argTypes ty #[.slice ad n c]) R F:=by
 unfold eO;simp only[Builtin.cap_,ht,List.getElem?_toArray,List.getElem?_cons_zero,bq,dy,hu,bF];exact h
theorem E7 (z:Value)(n:Nat):(Builtin.zeroCells #[z] n).toList=List.replicate n z:=by
 simp only[Builtin.zeroCells,List.size_toArray,List.length_cons,List.length_nil,Nat.zero_add,Nat.mul_one,Nat.mod_one];rw[Array.toList_map,Array.toList_range];apply List.ext_getElem
 ·simp
 ·intro i a b;simp
theorem E8 {ro:Addr->Option Value}{pre bg:List (Nat×Obj)}{argTypes:Array TypeId}{t e ty:TypeId}{R:Value->aa->Prop}{b off n c:Nat}{arr:Array Value}{z zc:Value}(ht:argTypes[0]?=some t)(hu:P.underlying t=some (.slice e))(a:zeroOf P e=some z)(d:z.cells=#[zc])(f:bG zc=true)
  (j:0<n) (hf:au pre b) (g:off+n<=arr.size)
  (h:R (.tuple #[]) ⟨ro,pre++((b,.cells (cH arr off (List.replicate n zc)) e)::bg)⟩):
  eO P (Builtin.clear_ argTypes ty #[.slice (some ⟨b,off,none⟩) n c]) R ⟨ro,pre++((b,.cells arr e)::bg)⟩:=by
 unfold eO
 have l:n≠0:=by omega
 obtain ⟨k,rfl⟩:∃k,n=k+1:=⟨n - 1,by omega⟩
 simp only[Builtin.clear_,ht,List.getElem?_toArray,List.getElem?_cons_zero,bq,dy,hu,lN,a,d]
 refine qI _ _ 0 _ ⟨ro,pre++((b,.cells (cH arr off (List.replicate (k+1) zc)) e)::bg)⟩ ?_ ?_
 ·rw[E7]
  have:=u6 (ro:=ro) (bg:=bg) (e:=e) hf off (List.replicate (k+1) zc) arr 0 (fun v i=>by rw[List.eq_of_mem_replicate i];exact f) (by simpa using g)
  simpa using this
 ·simp only[bF]
  exact h
end
theorem aO.An {T:Type}{r:b7 T}{ro:Addr->Option Value}{e:TypeId}{v:Value}{l:List T}{aR:List (Nat×Obj)}(h:aO r ro e v l aR){own:List (Nat×Obj)}(pre bg:List (Nat×Obj))(c:own=pre++(aR++bg))(d:aQ (keys own)):aB r (aa.cq ⟨ro,own⟩).ro v l:=by
 subst c;obtain ⟨ls,hg,hl,hm,f⟩:=h;rcases hg with ⟨rfl,rfl,rfl⟩|⟨b,arr,cap,rfl,rfl,hs,hle,ht,hx,g⟩
 ·have:l=[]:=List.eq_nil_of_length_eq_zero (by simpa using hl.symm);subst this;exact aB.nil r _
 ·have hf:au pre b:=Nd.fresh d.nd b (by simp[keys]);refine ⟨some ⟨b,0,none⟩,cap,by rw[hl],by omega,by omega,fun i x hi=>?_⟩;obtain ⟨cs,k,m⟩:=f i x hi;refine ⟨_,cs,rfl,r.mono aW m,fun j v o=>?_⟩;have a:=o9 ls i cs hx k j v o;rw[kO,kP,Nat.zero_add];have p:i*r.n+j<ls.length*r.n:=by
   have:=(List.getElem?_eq_some_iff.1 a).1;rw[g8 hx] at this;exact this
  rw[<-ht,List.getElem?_take_of_lt p] at a;show aa.get ⟨ro,pre++([(b,Obj.cells arr e)]++bg)⟩ ⟨b,i*r.n+j,none⟩=some v;simp only[aa.get,g,if_true,List.cons_append,List.nil_append,ri hf,Option.bind_some,cellOf];simpa using a
theorem aB.two {T:Type}{r:b7 T}{ro:Addr->Option Value}{own:List (Nat×Obj)}{b:Nat}{x y:T}{v u:Value}{e:TypeId}(c:∀off sp,ro ⟨b,off,sp⟩=none)(hl:lk own b=some (.cells #[v,u] e))(d:r.n=1)(h:r.rel ro x [v])(k:r.rel ro y [u]):
  aB r (bT ro b (.cells #[v,u] e)) (.slice (some ⟨b,0,none⟩) 2 2) [x,y]:=by
 refine ⟨some ⟨b,0,none⟩,2,rfl,Nat.le_refl _,by simp,fun i z hi=>?_⟩
 have:(i=0/\z=x)\/(i=1/\z=y):=by
  cases i with
  |zero=>simp at hi;exact .inl ⟨rfl,hi.symm⟩
  |succ i=>cases i with
   |zero=>simp at hi;exact .inr ⟨rfl,hi.symm⟩
   |succ i=>simp at hi
 rcases this with ⟨rfl,rfl⟩|⟨rfl,rfl⟩
 ·refine ⟨_,_,rfl,r.mono (fY _ _ _) h,fun j w a=>?_⟩
  cases j with
  |zero=>
   rw[Nat.zero_mul,add_zero',kP,Nat.zero_add,iU c]
   simpa [cellOf] using a
  |succ j=>simp at a
 ·refine ⟨_,_,rfl,r.mono (fY _ _ _) k,fun j w a=>?_⟩
  cases j with
  |zero=>
   rw[d,kO,kP,iU c]
   simpa [cellOf] using a
  |succ j=>simp at a
theorem aO.clear {ro:Addr->Option Value}{e:TypeId}{b n cap k:Nat}{x:List Int}{arr:Array Value}(h:aO rI ro e (.slice (some ⟨b,0,none⟩) n cap) x [(b,.cells arr e)])(s:k<=x.length):
  aO rI ro e (.slice (some ⟨b,0,none⟩) k cap) (x.take k) [(b,.cells (cH arr k (List.replicate (n - k) (.int .i64 0))) e)]:=by
 obtain ⟨ls,hg,hl,hm,j⟩:=h
 rcases hg with ⟨a,_,_⟩|⟨t,u,l,a,m,hs,hle,ht,hx,o⟩
 ·cases a
 ·cases m
  obtain ⟨rfl,rfl⟩:n=ls.length/\cap=l:=by cases a;exact ⟨rfl,rfl⟩
  have d:rI.n=1:=rfl
  rw[d] at hs ht hx
  simp only[Nat.mul_one] at hs ht
  have c:(ls.take k).length=k:=by rw[List.length_take];omega
  refine ⟨ls.take k,.inr ⟨b,_,cap,by rw[c],rfl,by rw[qQ];rw[d,Nat.mul_one];exact hs,by rw[c];omega,?_,?_,o⟩,by rw[c,List.length_take];omega,by rw[List.length_take];omega,?_⟩
  ·rw[qR _ _ _ (by simp;omega),c,d,Nat.mul_one,List.append_assoc,List.take_append_of_le_length (by rw[List.length_take,Array.length_toList];omega),List.take_take,Nat.min_self]
   have e1:arr.toList.take k=(arr.toList.take ls.length).take k:=by rw[List.take_take,Nat.min_eq_left (by omega)]
   rw[e1,ht]
   have e2:ls.flatten=(ls.take k).flatten++(ls.drop k).flatten:=by rw[<-List.flatten_append,List.take_append_drop]
   have g:(ls.take k).flatten.length=k:=by rw[g8 (size:=1) (fun z f=>hx z (List.mem_of_mem_take f)),c,Nat.mul_one]
   rw[e2,List.take_append_of_le_length (Nat.le_of_eq g.symm),List.take_of_length_le (Nat.le_of_eq g)]
  ·intro z f
   rw[d];exact hx z (List.mem_of_mem_take f)
  ·intro i v a
   obtain ⟨hi,p⟩:i<k/\x[i]?=some v:=by
    rw[List.getElem?_take] at a
    split at a
    ·exact ⟨‹_›,a⟩
    ·cases a
   obtain ⟨cs,q,r⟩:=j i v p
   exact ⟨cs,by rw[List.getElem?_take,if_pos hi];exact q,r⟩
section
variable {P : Program}
theorem E9 {t:TypeId}{R:Value->aa->Prop}{F:aa}(h:∀b,dQ F b->R (.map (some b)) (F.push b (.map #[] 0))):eO P (Instr.makeMap t none) R F:=by
 unfold eO;simp only[Instr.makeMap,bq,oQ,bF];exact ⟨rfl,h⟩
theorem Fa {argTypes:Array TypeId}{t a b ty:TypeId}{r:Nat}{es:Array MapEntry}{clock:Nat}{R:Value->aa->Prop}{F:aa}(ht:argTypes[0]?=some t)(hu:P.underlying t=some (.map a b))(c:F.eW r=some (.map es clock))(h:R (.int .i64 (es.size:Int)) F):
  eO P (Builtin.len_ argTypes ty #[.map (some r)]) R F:=by
 unfold eO
 simp only[Builtin.len_,ht,List.getElem?_toArray,List.getElem?_cons_zero,bq,dy,hu,m5]
 exact ⟨_,c,h⟩
theorem Ao {c:TypeId}{key:Value}{F:aa}{Q:Option (Nat×Value)->aa->Prop}:∀(l:List MapEntry) (i:Nat),
  (∀e∈l,∃b,(∀(Q:Bool->aa->Prop),Q b F->aU P (Op.equal c key e.key) Q F)/\(b=true↔e.key=key))->
  (∀j e,l[j]?=some e->e.key=key->Q (some (i+j,e.val)) F)->((∀e∈l,¬e.key=key)->Q none F)->aU P (Instr.findAsking c key l i) Q F
 |[],i,_,_,a=>a (by simp)
 |e::l,i,d,f,a=>by
  obtain ⟨b,hb,g⟩:=d e (by simp)
  simp only[Instr.findAsking,bq]
  refine hb _ ?_
  cases b with
  |true=>exact f 0 e rfl (g.1 rfl)
  |false=>
   have aG:¬e.key=key:=fun x=>by have:=g.2 x;cases this
   refine Ao l (i+1) (fun x hx=>d x (by simp[hx])) (fun j x hx he=>?_) (fun hl=>a (by simpa [aG] using hl))
   have:=f (j+1) x (by simpa using hx) he
   rwa [show i+1+j=i+(j+1) by omega]
theorem modify_keys {es:Array MapEntry}{i:Nat}{key val:Value}{e:MapEntry}(hi:es[i]?=some e)(he:e.key=key):(es.modify i fun e=>{e with key:=key,val:=val}).toList.map (·.key)=es.toList.map (·.key):=by
 apply List.ext_getElem?;intro j;simp only[List.getElem?_map,Array.toList_modify,List.getElem?_modify];by_cases a:i=j
 ·subst a;have:es.toList[i]?=some e:=by simpa using hi
  simp[this,he]
 ·simp[a]
theorem Fb {t c p f n:TypeId}{r:Nat}{es:Array MapEntry}{clock:Nat}{key val:Value}{R:Value->aa->Prop}{F:aa}(hu:P.underlying t=some (.map c p))(g:F.eW r=some (.map es clock))
  (q:∀Q:Unit->aa->Prop,Q () F->aU P (Instr.checkKey false 10000 c key) Q F) (s:P.underlying c=some (.array n f))
  (u:∀e∈es.toList,∃b,(∀(Q:Bool->aa->Prop),Q b F->aU P (Op.equal c key e.key) Q F)/\(b=true↔e.key=key))
  (h:∀d v,((key∈es.toList.map (·.key)/\d.toList.map (·.key)=es.toList.map (·.key))\/(key∉es.toList.map (·.key)/\d.toList.map (·.key)=es.toList.map (·.key)++[key]))->R undef (F.put r (.map d v))):
  eO P (Instr.mapUpdate t (.map (some r)) key val>>= fun _=>pure undef) R F:=by
 unfold eO
 simp only[Instr.mapUpdate,bq,dy,hu,m5]
 refine ⟨_,g,?_⟩
 simp only[bq]
 refine q _ ?_
 have k:(F.eW r).isSome=true:=by rw[g];rfl
 have step:aU P (Instr.findAsking c key es.toList) (fun a G=>aU P (match a with
   |some (i,_)=>do
    let key<-Instr.keyThatStays (((es[i]?).map (·.key)).getD key) key
    setObj r (.map (es.modify i fun e=>{e with key,val}) clock)
   |none=>setObj r (.map (es.push {key,val,born:=clock}) (clock+1))) (fun _ G=>aU P (pure undef) R G) G) F:=by
  refine Ao _ 0 u (fun j e m he=>?_) (fun w=>?_)
  ·simp only[Nat.zero_add,bq]
   have o:es[j]?=some e:=by simpa using m
   rw[o]
   simp only[Option.map_some,Option.getD_some,he]
   have fin:aU P (setObj r (.map (es.modify j fun e=>{e with key:=key,val:=val}) clock)) (fun _ G=>aU P (pure undef) R G) F:=by
    simp only[lM,bF]
    refine ⟨rfl,k,h _ _ (.inl ⟨?_,modify_keys o he⟩)⟩
    rw[<-he]
    exact List.mem_map_of_mem (List.mem_of_getElem? m)
   unfold Instr.keyThatStays
   rw[dm]
   split
   ·exact fin
   ·simp only[bq,uj]
    split
    ·simp only[bF,ite_self];exact fin
    ·intro t;simp only[bF,ite_self];exact fin
  ·simp only[lM,bF]
   refine ⟨rfl,k,h _ _ (.inr ⟨?_,by simp⟩)⟩
   intro hm
   obtain ⟨e,he,x⟩:=List.mem_map.1 hm
   exact w e he x
 unfold Instr.findKey
 simp only[bq,dy,s]
 cases hl:es.toList with
 |nil=>
  rw[hl] at step
  exact step
 |cons e l=>
  have:Instr.findNow (.array n f) key (e::l) 0=none:=rfl
  rw[this]
  rw[hl] at step
  exact step
end
theorem bS {α β:Type}{x:Option α}{f:α->Option β}{r:β}{G:Prop}(k:∀a,x=some a->f a=some r->G)(h:ag x f=some r):G:=by
 obtain ⟨a,b,c⟩:=fL h;exact k a b c
def bC:Code->Code
 | .seq _ b=>b
 |c=>c
theorem sI {α:Type}{x r:α}(h:some x=some r):x=r:=Option.some.inj h
theorem ay {ro:Addr->Option Value}{own:List (Nat×Obj)}{G:Nat->Prop}(h:∀b,(∀off sp,ro ⟨b,off,sp⟩=none)->au own b->G b):∀b,dQ ⟨ro,own⟩ b->G b:=fun b f=>h b (eE f) (fC f)
theorem bp:(∀(ro:Addr->Option Value) (b:Nat) (o:Obj) (l:List (Nat×Obj)),aE ro ((b,o)::l)=((∀off sp,ro ⟨b,off,sp⟩=none)/\aE ro l))/\(∀l:List (Nat×Obj),[]++l=l)/\(∀l:List (Nat×Obj),l++[]=l)/\
  (∀(x:Nat×Obj) (l m:List (Nat×Obj)),x::l++m=x::(l++m))/\∀l m n:List (Nat×Obj),l++m++n=l++(m++n):=
 ⟨fun _ _ _ _=>propext ⟨fun h=>⟨h.hd,h.tl⟩,fun h=>aE.cons h.1 h.2⟩,fun _=>rfl,List.append_nil,fun _ _ _=>rfl,List.append_assoc⟩
theorem aB.el {T:Type}{r:b7 T}{ro:Addr->Option Value}{ad:Option Addr}{n cap:Nat}{l:List T}(h:aB r ro (.slice ad n cap) l):
  ∀i x,l[i]?=some x->∃p cs,ad=some p/\r.rel ro x cs/\∀j v,cs[j]?=some v->ro ((p.add (i*r.n)).add j)=some v:=by
 obtain ⟨a,b,e,_,_,h⟩:=h
 cases e
 exact h
theorem aQ.tl {b:Nat}{ks:List Nat}(h:aQ (b::ks)):aQ ks:=⟨(List.nodup_cons.1 h.nd).2⟩
theorem aQ.cut {l:List (Nat×Obj)}(h:aQ (keys l))(i n:Nat):aQ (keys (l.take i++l.drop (i+n))):=
 ⟨(((List.Sublist.append_left (show (l.drop (i+n)).Sublist (l.drop i) by rw[<-List.drop_drop];exact List.drop_sublist _ _) (l.take i)).trans (by rw[List.take_append_drop];exact List.Sublist.refl _)).map _).nodup h.nd⟩
theorem aO.eR {T:Type}{r:b7 T}{ro:Addr->Option Value}{e:TypeId}{v:Value}{l:List T}{aR:List (Nat×Obj)}(h:aO r ro e v l aR){own:List (Nat×Obj)}(pre bg:List (Nat×Obj))(a:aQ (keys own))(b:aE ro (pre++bg))
  (c:own=pre++(aR++bg):=by first|rfl|simp only[aT]|(simp only[aT];rfl)):
  ∃aN,Ext ro aN/\aE aN (pre++bg)/\aB r aN v l/\Le ⟨aN,pre++bg⟩ ⟨ro,own⟩:=h.kX _ pre bg c rfl a b
theorem aB.oc {T:Type}{r:b7 T}{ro:Addr->Option Value}{s:Value}{l:List T}(h:aB r ro s l):bG s=true:=by
 obtain ⟨_,_,e,_⟩:=h;rw[e];rfl
theorem Fc {p:Nat->Prop}{a:Nat}{l:List Nat}:(∀i,i∈a::l->p i)=(p a/\∀i,i∈l->p i):=propext List.forall_mem_cons
theorem Fe {p:Nat->Prop}:(∀i,i∈([]:List Nat)->p i)=True:=propext ⟨fun _=>trivial,fun _ _ h=>(by cases h)⟩
section
variable {P : Program} {main : Bool} {J : Goroutine → aa → Prop} {Q : Ex → Act → aa → Prop} {a : Act} {F : aa}
theorem cc (hJ:Closed P main J){f:FuncId}{args:Array Value}{ro:Addr->Option Value}{own:List (Nat×Obj)}{K:Value->aa->Prop}(R:Value->(Addr->Option Value)->Prop)(h:eH P f args ro R)
  (a:∀v aN,Ext ro aN->aE aN own->R v aN->K v ⟨aN,own⟩):cR P J f args ⟨ro,own⟩ K:=uO hJ R h a
theorem rz {Φ:Goroutine->aa->Prop}{f:FuncId}{args:Array Value}{ro:Addr->Option Value}{own:List (Nat×Obj)}{K:Value->aa->Prop}(R:Value->(Addr->Option Value)->Prop)(h:pn P f args ro R)
  (a:∀v aN,Ext ro aN->aE aN own->R v aN->K v ⟨aN,own⟩):cR P (dR P Φ) f args ⟨ro,own⟩ K:=El R h a
theorem cS {α:Type}{b:Bool}{e1 e2:Option α}{r:α}{G:Prop}(c:b=true->e1=some r->G)(d:b=false->e2=some r->G)(h:cond b e1 e2=some r):G:=by
 rcases iV h with ⟨a,b⟩|⟨a,b⟩
 ·exact c a b
 ·exact d a b
theorem jC {α:Type}(hJ:Closed P main J){c:Operand}{x y:Code}{b:Bool}{e1 e2:Option α}{r:α}(d:ev a c= .bool b)(f:b=true->e1=some r->Wp J x Q a F)(g:b=false->e2=some r->Wp J y Q a F)(h:cond b e1 e2=some r):Wp J (.cond c x y) Q a F:=by
 refine D9 hJ b d (fun e=>f e ?_) fun e=>g e ?_
 ·rw[e] at h;exact h
 ·rw[e] at h;exact h
structure vl (Q:Ex->Act->aa->Prop)(K:Act->aa->Prop):Prop where
 go:∀{a F},Q .normal a F->K a F
theorem cL (hJ:Closed P main J)(b:P.follows .mixedOrders=true)(m n:Nat){id:Nat}{ops:Array Oper}(c:Knows ⟨F.ro,F.own.take n⟩ F)(d:nh ops m=true)
  (h:dZ P J ops ⟨F.ro,F.own.take n⟩ (fun e=>eF P J ops ⟨F.ro,F.own.take n⟩ (Q .normal) (ops.toList.drop m) true e F) (ops.toList.take m) true a):Wp J (.region id ops true) Q a F:=e7 hJ b m _ c d h
theorem pI (hJ:Closed P main J)(b:P.follows .mixedOrders=true)(m n:Nat){id:Nat}{ops:Array Oper}(c:Knows ⟨F.ro,F.own.take n⟩ F)(d:nh ops m=true)
  (h:∀K,vl Q K->dZ P J ops ⟨F.ro,F.own.take n⟩ (fun e=>eF P J ops ⟨F.ro,F.own.take n⟩ K (ops.toList.drop m) true e F) (ops.toList.take m) true a):Wp J (.region id ops true) Q a F:=e7 hJ b m _ c d (h _ ⟨fun h=>h⟩)
theorem ep (hJ:Closed P main J){id:Nat}{ops:Array Oper}(h:∀K,vl Q K->e6 P J ops K ops.toList true a F):Wp J (.region id ops false) Q a F:=aj hJ (h _ ⟨fun h=>h⟩)
theorem j5 (hJ:Closed P main J)(b:P.follows .mixedOrders=true)(bX:List Nat)(p:cj){id:Nat}{ops:Array Oper}(F0:aa)(c:Knows F0 F)
  (d:(Region.noSelect ops&&decide (p.len<=ops.size)&&p.ok ops bX (Array.replicate ops.size false))=true)
  (h:∀K,vl Q K->cr P J ops F0 K (p.opers ops) true a F):Wp J (.region id ops true) Q a F:=eI hJ b bX p F0 c d (h _ ⟨fun h=>h⟩)
theorem fP {c:Code}(L:List Nat){a:Act}(h:∀A,sz A=sz a->A.defers=a.defers->(∀i∈L,slot A i=slot a i)->Wp J c Q A F):Wp J c Q a F:=h a rfl rfl fun _ _=>rfl
theorem cC.pick {ws:List Nat}{A a:Act}(h:cC ws A a)(L:List Nat)(b:(L.all fun i=>!jU ws i)=true):sz A=sz a/\A.defers=a.defers/\∀i∈L,slot A i=slot a i:=
 ⟨h.size,h.defers,fun i hi=>h.c8 i fun x=>by
  have c:=List.all_eq_true.1 b i hi
  have d:jU ws i=true:=by
   unfold In at x
   exact x
  simp[d] at c⟩
theorem dW {T:Type}{r:b7 T}{ro:Addr->Option Value}{aR:List (Nat×Obj)}{R:Value->aa->Prop}{argTypes:Array TypeId}{d f e h e2:TypeId}{a b:Nat}{s z:Value}{l:List T}{x:T}{cs:Array Value}{own:List (Nat×Obj)}(pre bg:List (Nat×Obj))
  (hg:aO r ro e s l aR) (i:aQ (keys own)) (j:l.length+[x].length<=1000000) (k:r.rel ro x cs.toList) (m:lk pre b=some (.cells cs e2)) (o:∀off sp,ro ⟨b,off,sp⟩=none)
  (p:argTypes[0]?=some d) (q:argTypes[1]?=some f) (he:c7 P d=some e) (hx:c7 P f=some h) (hs:bY P e=some r.n) (t:zeroOf P e=some z) (u:z.cells.size=r.n) (hb:bytesOf P e=some a)
  (w:0<a) (y:a<=10000)
  (A:∀v g,aO r ro e v (l++[x]) g->∀c,c=pre++(g++bg)->aQ (keys c)->∃F0,Le F0 ⟨ro,c⟩/\R v F0)
  (B:own=pre++(aR++bg):=by first|rfl|simp only[aT]|(simp only[aT];rfl)):lT P argTypes s (.slice (some ⟨b,0,none⟩) 1 1) R ⟨ro,own⟩:=
 z6 pre bg B hg i j k m o p q he hx hs t u hb w y A
theorem pJ {T:Type}{r:b7 T}{ro:Addr->Option Value}{aR:List (Nat×Obj)}{R:Value->aa->Prop}{argTypes:Array TypeId}{d f e h:TypeId}{a c:Nat}{ad:Option Addr}{s z:Value}{l xs:List T}{own:List (Nat×Obj)}(pre bg:List (Nat×Obj))
  (hg:aO r ro e s l aR) (i:aQ (keys own)) (j:l.length+xs.length<=1000000) (hx:aB r ro (.slice ad xs.length c) xs)
  (k:argTypes[0]?=some d) (m:argTypes[1]?=some f) (he:c7 P d=some e) (o:c7 P f=some h) (hs:bY P e=some r.n) (p:zeroOf P e=some z) (q:z.cells.size=r.n) (hb:bytesOf P e=some a)
  (t:0<a) (u:a<=10000)
  (w:∀v g,aO r ro e v (l++xs) g->∀b,b=pre++(g++bg)->aQ (keys b)->∃F0,Le F0 ⟨ro,b⟩/\R v F0)
  (x:own=pre++(aR++bg):=by first|rfl|simp only[aT]|(simp only[aT];rfl)):lT P argTypes s (.slice ad xs.length c) R ⟨ro,own⟩:=
 EP pre bg x hg i j hx k m he o hs p q hb t u w
theorem dL (hJ:Closed P main J){f:FuncId}{args:Array Value}{ro:Addr->Option Value}{aR:List (Nat×Obj)}{K:Value->aa->Prop}{own:List (Nat×Obj)}(pre bg:List (Nat×Obj))(R:Value->List (Nat×Obj)->Prop)(h:aC P f args ⟨ro,aR⟩ (fun v G=>∃a,R v a/\Le ⟨ro,a⟩ G))
  (c:∀v a,R v a->∀b,b=pre++(a++bg)->aQ (keys b)->∃F0,Le F0 ⟨ro,b⟩/\K v F0)
  (d:own=pre++(aR++bg):=by first|rfl|simp only[aT]|(simp only[aT];rfl)):cR P J f args ⟨ro,own⟩ K:=ER hJ pre bg d R h c
end
end Go.Sep
end
section
namespace Go.Proofs.YtpgcmoanfifglaaGreatDoor
open Go Go.Sep Go.Proofs
set_option maxRecDepth 100000
attribute [go_sem] aB.nil
theorem rA:rI.n=1:=rfl
theorem vm:rB.n=1:=rfl
theorem Ff {T:Type}(r:b7 T):(rL r).n=1:=rfl
attribute [go_sem] rA vm Ff
structure an where
 num:Int
 den:Int
 deriving DecidableEq
def an.v (x:an):Value:=.agg #[.int .i64 x.num,.int .i64 x.den]
def an.cells (x:an):List Value:=[.int .i64 x.num,.int .i64 x.den]
def iq:b7 an:=hU 2 an.cells (fun _=>rfl) (fun _ v a=>by simp only[an.cells,List.mem_cons,List.not_mem_nil,or_false] at a;rcases a with rfl|rfl<;>rfl)
theorem Fg:iq.n=2:=rfl
attribute [go_sem] an.v an.cells Fg
structure b8 where
 aM:Int
 high:Int
 deriving DecidableEq
def b8.cells (x:b8):List Value:=[.int .i64 x.aM,.int .i64 x.high]
def eY:b7 b8:=hU 2 b8.cells (fun _=>rfl) (fun _ v a=>by simp only[b8.cells,List.mem_cons,List.not_mem_nil,or_false] at a;rcases a with rfl|rfl<;>rfl)
theorem Fh:eY.n=2:=rfl
attribute [go_sem] b8.cells Fh
structure cm where
 place:Int
 dF:Int
 deriving DecidableEq
def cm.cells (x:cm):List Value:=[.int .i64 x.place,.int .i64 x.dF]
def ez:b7 cm:=hU 2 cm.cells (fun _=>rfl) (fun _ v a=>by simp only[cm.cells,List.mem_cons,List.not_mem_nil,or_false] at a;rcases a with rfl|rfl<;>rfl)
theorem Fi:ez.n=2:=rfl
attribute [go_sem] cm.cells Fi
structure dh where
 low:Int
 high:Int
 deriving DecidableEq
def dh.v (x:dh):Value:=.agg #[.int .i64 x.low,.int .i64 x.high]
def dh.cells (x:dh):List Value:=[.int .i64 x.low,.int .i64 x.high]
def Fj:b7 dh:=hU 2 dh.cells (fun _=>rfl) (fun _ v a=>by simp only[dh.cells,List.mem_cons,List.not_mem_nil,or_false] at a;rcases a with rfl|rfl<;>rfl)
theorem Fo:Fj.n=2:=rfl
attribute [go_sem] dh.v dh.cells Fo
structure b6 where
 back:Int
 high:dh
 deriving DecidableEq
def b6.cells (x:b6):List Value:=[.int .i64 x.back,.int .i64 x.high.low,.int .i64 x.high.high]
def eT:b7 b6:=hU 3 b6.cells (fun _=>rfl) (fun _ v a=>by simp only[b6.cells,List.mem_cons,List.not_mem_nil,or_false] at a;rcases a with rfl|rfl|rfl<;>rfl)
theorem Fp:eT.n=3:=rfl
attribute [go_sem] b6.cells Fp
structure bU where
 aX:Int
 bu:Bool
 deriving DecidableEq
def bU.v (x:bU):Value:=.agg #[.int .i64 x.aX,.bool x.bu]
def bU.cells (x:bU):List Value:=[.int .i64 x.aX,.bool x.bu]
def di:b7 bU:=hU 2 bU.cells (fun _=>rfl) (fun _ v a=>by simp only[bU.cells,List.mem_cons,List.not_mem_nil,or_false] at a;rcases a with rfl|rfl<;>rfl)
theorem Fq:di.n=2:=rfl
attribute [go_sem] bU.v bU.cells Fq
structure ak where
 bH:Int
 bV:Int
 aF:an
 aD:(List b8)
 props:(List cm)
 aH:(List b6)
 told:(List bU)
 deriving DecidableEq
def ak.rel (ro:Addr->Option Value)(x:ak)(cs:List Value):Prop:=∃a b c d,cs=[.int .i64 x.bH,.int .i64 x.bV,.int .i64 x.aF.num,.int .i64 x.aF.den,a,b,c,d]/\aB eY ro a x.aD/\aB ez ro b x.props/\aB eT ro c x.aH/\aB di ro d x.told
theorem ak.pK {ro:Addr->Option Value}{x:ak}{cs:List Value}(h:ak.rel ro x cs):∀v∈cs,bG v=true:=by
 obtain ⟨b,c,d,e,rfl,⟨_,_,rfl,_⟩,⟨_,_,rfl,_⟩,⟨_,_,rfl,_⟩,⟨_,_,rfl,_⟩⟩:=h;intro v a;simp only[List.mem_cons,List.not_mem_nil,or_false] at a;rcases a with rfl|rfl|rfl|rfl|rfl|rfl|rfl|rfl<;>rfl
def Fs:b7 ak:=⟨8,ak.rel,fun hx ⟨a,b,c,d,e,f,g,h,i⟩=>⟨a,b,c,d,e,f.mono hx,g.mono hx,h.mono hx,i.mono hx⟩,fun ⟨a,b,c,d,e,_⟩=>by rw[e];rfl,ak.pK⟩
theorem Ft:Fs.n=8:=rfl
attribute [go_sem] Ft
structure aY where
 back:Int
 high:Int
 deriving DecidableEq
def aY.v (x:aY):Value:=.agg #[.int .i64 x.back,.int .i64 x.high]
def aY.cells (x:aY):List Value:=[.int .i64 x.back,.int .i64 x.high]
def iY:b7 aY:=hU 2 aY.cells (fun _=>rfl) (fun _ v a=>by simp only[aY.cells,List.mem_cons,List.not_mem_nil,or_false] at a;rcases a with rfl|rfl<;>rfl)
theorem Fu:iY.n=2:=rfl
attribute [go_sem] aY.v aY.cells Fu
structure aV where
 e0:Int
 e1:Int
 e2:Int
 deriving DecidableEq
def aV.v (x:aV):Value:=.agg #[.int .i64 x.e0,.int .i64 x.e1,.int .i64 x.e2]
def aV.cells (x:aV):List Value:=[.int .i64 x.e0,.int .i64 x.e1,.int .i64 x.e2]
def gP:b7 aV:=hU 3 aV.cells (fun _=>rfl) (fun _ v a=>by simp only[aV.cells,List.mem_cons,List.not_mem_nil,or_false] at a;rcases a with rfl|rfl|rfl<;>rfl)
theorem Fv:gP.n=3:=rfl
attribute [go_sem] aV.v aV.cells Fv
def aV.get (x:aV)(i:Int):Option Int:=if i=0 then some x.e0 else if i=1 then some x.e1 else if i=2 then some x.e2 else none
theorem aV.get_some {x:aV}{i:Int}{y:Int}(h:aV.get x i=some y):0<=i/\i<((3:Nat):Int)/\([.int .i64 x.e0,.int .i64 x.e1,.int .i64 x.e2]:List Value)[i.toNat]?=some (.int .i64 y):=by
 unfold aV.get at h;by_cases a:i=0
 ·subst a;simp at h;subst h;exact ⟨by omega,by omega,rfl⟩
 by_cases b:i=1
 ·subst b;simp at h;subst h;exact ⟨by omega,by omega,rfl⟩
 by_cases c:i=2
 ·subst c;simp at h;subst h;exact ⟨by omega,by omega,rfl⟩
 simp[a,b,c] at h
theorem aV.Fw {ro:Addr->Option Value}{b:Nat}{x:aV}{i:Int}{y:Int}(h:aV.get x i=some y)(g0:ro ⟨b,0,none⟩=some (.int .i64 x.e0))(e:ro ⟨b,1,none⟩=some (.int .i64 x.e1))(f:ro ⟨b,2,none⟩=some (.int .i64 x.e2)):ro ⟨b,i.toNat,none⟩=some (.int .i64 y):=by
 unfold aV.get at h;by_cases a:i=0
 ·subst a;simp at h;subst h;exact g0
 by_cases c:i=1
 ·subst c;simp at h;subst h;exact e
 by_cases d:i=2
 ·subst d;simp at h;subst h;exact f
 simp[a,c,d] at h
structure cM where
 book:ak
 all:(List aV)
 deriving DecidableEq
def cM.rel (ro:Addr->Option Value)(x:cM)(cs:List Value):Prop:=∃a b c d e,cs=[.int .i64 x.book.bH,.int .i64 x.book.bV,.int .i64 x.book.aF.num,.int .i64 x.book.aF.den,a,b,c,d,e]/\aB eY ro a x.book.aD/\aB ez ro b x.book.props/\aB eT ro c x.book.aH/\aB di ro d x.book.told/\aB gP ro e x.all
theorem cM.pK {ro:Addr->Option Value}{x:cM}{cs:List Value}(h:cM.rel ro x cs):∀v∈cs,bG v=true:=by
 obtain ⟨b,c,d,e,f,rfl,⟨_,_,rfl,_⟩,⟨_,_,rfl,_⟩,⟨_,_,rfl,_⟩,⟨_,_,rfl,_⟩,⟨_,_,rfl,_⟩⟩:=h;intro v a;simp only[List.mem_cons,List.not_mem_nil,or_false] at a;rcases a with rfl|rfl|rfl|rfl|rfl|rfl|rfl|rfl|rfl<;>rfl
def Fx:b7 cM:=⟨9,cM.rel,fun hx ⟨a,b,c,d,f,e,g,h,i,j,k⟩=>⟨a,b,c,d,f,e,g.mono hx,h.mono hx,i.mono hx,j.mono hx,k.mono hx⟩,fun ⟨a,b,c,d,f,e,_⟩=>by rw[e];rfl,cM.pK⟩
theorem Fy:Fx.n=9:=rfl
attribute [go_sem] Fy
structure gQ where
 aM:Int
 high:an
 deriving DecidableEq
def gQ.cells (x:gQ):List Value:=[.int .i64 x.aM,.int .i64 x.high.num,.int .i64 x.high.den]
def Fz:b7 gQ:=hU 3 gQ.cells (fun _=>rfl) (fun _ v a=>by simp only[gQ.cells,List.mem_cons,List.not_mem_nil,or_false] at a;rcases a with rfl|rfl|rfl<;>rfl)
theorem FA:Fz.n=3:=rfl
attribute [go_sem] gQ.cells FA
structure bt where
 spot:gQ
 at_:Int
 high:an
 deriving DecidableEq
def bt.v (x:bt):Value:=.agg #[.int .i64 x.spot.aM,.int .i64 x.spot.high.num,.int .i64 x.spot.high.den,.int .i64 x.at_,.int .i64 x.high.num,.int .i64 x.high.den]
def bt.cells (x:bt):List Value:=[.int .i64 x.spot.aM,.int .i64 x.spot.high.num,.int .i64 x.spot.high.den,.int .i64 x.at_,.int .i64 x.high.num,.int .i64 x.high.den]
def j6:b7 bt:=hU 6 bt.cells (fun _=>rfl) (fun _ v a=>by simp only[bt.cells,List.mem_cons,List.not_mem_nil,or_false] at a;rcases a with rfl|rfl|rfl|rfl|rfl|rfl<;>rfl)
theorem FB:j6.n=6:=rfl
attribute [go_sem] bt.v bt.cells FB
def c5.rel (ro:Addr->Option Value)(g:(ak->Option Int))(cs:List Value):Prop:=∃(b:FuncId) (c d:Array Value),cs=[.func (.func b) c d]/\aJ Tryz.prog b=true/\∀(aN:Addr->Option Value),Ext ro aN->∀(a:ak) (e:Value) (f:Value) (h:Value) (i:Value) (z:Int),aB eY aN e a.aD->aB ez aN f a.props->aB eT aN h a.aH->aB di aN i a.told->g a=some z->aC Tryz.prog b (c++#[.agg #[.int .i64 a.bH,.int .i64 a.bV,.int .i64 a.aF.num,.int .i64 a.aF.den,e,f,h,i]]++d) ⟨aN,[]⟩ (fun v _=>v= .int .i64 z)
theorem c5.FC {ro aN:Addr->Option Value}{g:(ak->Option Int)}{cs:List Value}(hx:Ext ro aN)(h:c5.rel ro g cs):c5.rel aN g cs:=by
 obtain ⟨f,a,c,e,b,d⟩:=h;exact ⟨f,a,c,e,b,fun i j=>d i (hx.trans j)⟩
theorem c5.FD {ro:Addr->Option Value}{g:(ak->Option Int)}{cs:List Value}(h:c5.rel ro g cs):cs.length=1:=by
 obtain ⟨f,a,c,e,_⟩:=h;rw[e];rfl
theorem c5.pK {ro:Addr->Option Value}{g:(ak->Option Int)}{cs:List Value}(h:c5.rel ro g cs):∀v∈cs,bG v=true:=by
 obtain ⟨f,a,c,e,_⟩:=h;intro v b;rw[e] at b;simp at b;subst b;rfl
def c5:b7 (ak->Option Int):=⟨1,c5.rel,c5.FC,c5.FD,c5.pK⟩
theorem FE:c5.n=1:=rfl
attribute [go_sem] FE
abbrev sl {T:Type}(d:Option Addr)(l:List T)(c:Nat):Value:=.slice d l.length c
abbrev bk (x:ak)(a b c d:Value):Obj:=.cells #[.int .i64 x.bH,.int .i64 x.bV,.int .i64 x.aF.num,.int .i64 x.aF.den,a,b,c,d] 29
abbrev bl (x:ak)(a b c d:Value):Obj:=.cells #[.int .i64 x.bH,.int .i64 x.bV,.int .i64 x.aF.num,.int .i64 x.aF.den,a,b,c,d] 115
abbrev bz (t:Nat):Obj:=.cells #[.int .i64 0,.int .i64 0,.int .i64 0,.int .i64 0,.slice none 0 0,.slice none 0 0,.slice none 0 0,.slice none 0 0] t
abbrev kn (x:cM)(a b c d e:Value):Obj:=.cells #[.int .i64 x.book.bH,.int .i64 x.book.bV,.int .i64 x.book.aF.num,.int .i64 x.book.aF.den,a,b,c,d,e] 124
abbrev rt (a b:Int):Obj:=.cells #[.int .i64 a,.int .i64 b] 23
abbrev ic (a:Int):Obj:=.cells #[.int .i64 a] 3
abbrev bv (x:ak)(a b c d:Value):Value:=.agg #[.int .i64 x.bH,.int .i64 x.bV,.int .i64 x.aF.num,.int .i64 x.aF.den,a,b,c,d]
attribute [go_sem] sl bk bl bz kn rt ic bv Fc Fe List.cons_append List.nil_append List.append_nil List.append_assoc
structure bL (ro:Addr->Option Value)(u:ak)(a b c d:Value):Prop where
 e:aB eY ro a u.aD
 p:aB ez ro b u.props
 y:aB eT ro c u.aH
 t:aB di ro d u.told
theorem bL.oc {ro:Addr->Option Value}{u:ak}{a b c d:Value}(h:bL ro u a b c d):bG a=true/\bG b=true/\bG c=true/\bG d=true:=⟨h.e.oc,h.p.oc,h.y.oc,h.t.oc⟩
theorem bL.mono {ro aN:Addr->Option Value}{u:ak}{a b c d:Value}(h:bL ro u a b c d)(hx:Ext ro aN):bL aN u a b c d:=⟨h.e.mono hx,h.p.mono hx,h.y.mono hx,h.t.mono hx⟩
end Go.Proofs.YtpgcmoanfifglaaGreatDoor
end

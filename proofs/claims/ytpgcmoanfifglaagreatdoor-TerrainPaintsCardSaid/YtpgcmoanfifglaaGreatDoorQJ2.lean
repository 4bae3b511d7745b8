/- A part of the proof of a row and its tied card: QJ2. -/
import Derived.Test.YtpgcmoanfifglaaGreatDoorQJ1
import Derived.WalkKit
import Derived.IntWalk
import Derived.NoCompilerSame
import Derived.Test.YtpgcmoanfifglaaGreatDoorProg
import Derived.KernelRfl
set_option linter.all false
section
namespace Go.Sep
open Go Go.Conc
section
variable {α β : Type} {P : Program} {Q : α → aa → Prop} {F : aa}
@[go_sem] theorem bG (a:α):aT P (Pure.pure a) Q F=Q a F:=rfl
@[go_sem] theorem LI (a:α):aT P (Sem.pure a) Q F=Q a F:=rfl
@[go_sem] theorem bq {R:β->aa->Prop}(x:Sem α)(f:α->Sem β):aT P (x>>= f) R F=aT P x (fun a G=>aT P (f a) R G) F:=propext (yI x F)
@[go_sem] theorem LJ {R:β->aa->Prop}(x:Sem α)(f:α->β):aT P (Functor.map f x) R F=aT P x (fun a G=>R (f a) G) F:=propext (yI x F)
@[go_sem] theorem dh (c:Prop)[Decidable c](x y:Sem α):aT P (if c then x else y) Q F=if c then aT P x Q F else aT P y Q F:=by split<;>rfl
@[go_sem] theorem za {Q:Value->aa->Prop}(a:Addr):aT P (load a) Q F=∃v,F.get a=some v/\Q v F:=by simp[load,aT]
@[go_sem] theorem DH {Q:Unit->aa->Prop}(a:Addr)(v:Value):aT P (store a v) Q F=∃F',F.lM a v=some F'/\Q () F':=by simp[store,aT]
@[go_sem] theorem oL {Q:Nat->aa->Prop}(o:Obj):aT P (newObj o) Q F=(o.isChan=false/\∀b,dP F b->Q b (F.push b o)):=rfl
@[go_sem] theorem jQ {Q:Program->aa->Prop}:aT P program Q F=Q P F:=rfl
@[go_sem] theorem uo {Q:Nat->aa->Prop}(q:Question):aT P (choose q) Q F=if q.forced then Q 0 F else ∀t,Q (q.cut t) F:=rfl
@[go_sem] theorem m3 {Q:Obj->aa->Prop}(r:Nat):aT P (getObj r) Q F=∃o,F.eR r=some o/\Q o F:=rfl
@[go_sem] theorem lP {Q:Unit->aa->Prop}(r:Nat)(o:Obj):aT P (Go.setObj r o) Q F=(o.isChan=false/\(F.eR r).isSome=true/\Q () (F.put r o)):=rfl
@[go_sem] theorem LK (s:String):aT P (stuck s:Sem α) Q F=False:=rfl
@[go_sem] theorem LL {Q:Unit->aa->Prop}(m:Mark):aT P (mark m) Q F=(oG m=true/\Q () F):=rfl
@[go_sem] theorem dn {Q:TypeDesc->aa->Prop}(t:TypeId):aT P (underlying t) Q F=match P.underlying t with|some d=>Q d F|none=>False:=by
 simp only[underlying,bq,jQ];cases P.underlying t<;>rfl
@[go_sem] theorem oM {Q:TypeInfo->aa->Prop}(t:TypeId):aT P (typeInfo t) Q F=match P.info? t with|some d=>Q d F|none=>False:=by
 simp only[typeInfo,bq,jQ];cases P.info? t<;>rfl
def bW (P:Program)(t:TypeId):Option Nat:=(P.info? t).map (·.size)
def zeroOf (P:Program)(t:TypeId):Option Value:=(P.info? t).bind (·.zero)
def bytesOf (P:Program)(t:TypeId):Option Nat:=(P.info? t).map (·.bytes)
@[go_sem] theorem eE {Q:Nat->aa->Prop}(t:TypeId):aT P (sizeOf t) Q F=match bW P t with|some n=>Q n F|none=>False:=by
 simp only[sizeOf,bq,oM,bW];cases P.info? t<;>rfl
@[go_sem] theorem lQ {Q:Value->aa->Prop}(t:TypeId):aT P (zeroValue t) Q F=match zeroOf P t with|some n=>Q n F|none=>False:=by
 simp only[zeroValue,bq,oM,zeroOf];cases P.info? t with
 |none=>rfl
 |some i=>simp only[Option.bind_some];cases i.zero<;>rfl
def cx (P:Program)(t:TypeId):Option Bool:=(P.underlying t).map fun| .struct _=>true| .array _ _=>true|_=>false
@[go_sem] theorem lR {Q:Bool->aa->Prop}(t:TypeId):aT P (isAgg t) Q F=match cx P t with|some n=>Q n F|none=>False:=by
 simp only[isAgg,bq,dn,cx];cases P.underlying t with
 |none=>rfl
 |some d=>cases d<;>rfl
def aa.lS (F:aa)(a:Addr):Nat->List Value->Prop
 |_,[]=>True
 |i,v::b=>F.get (a.add i)=some v/\F.lS a (i+1) b
theorem uq {Q:Array Value->aa->Prop}(a:Addr):∀(b:List Value) (i:Nat) (acc:Array Value),F.lS a i b->Q (acc++b.toArray) F->aT P (loadCellsFrom a i b.length acc) Q F
 |[],i,acc,_,h=>by simpa [loadCellsFrom,bG] using h
 |v::b,i,acc,hg,h=>by
  simp only[List.length_cons,loadCellsFrom,bq,za]
  refine ⟨v,hg.1,uq a b (i+1) (acc.push v) hg.2 ?_⟩
  simpa using h
theorem DI {Q:Value->aa->Prop}{t:TypeId}{a:Addr}(b:List Value)(ht:cx P t=some true)(hs:bW P t=some b.length)(hg:F.lS a 0 b)(h:Q (.agg b.toArray) F):aT P (loadVar t a) Q F:=by
 simp only[loadVar,bq,lR,ht,dh,if_true,eE,hs,loadCells];exact uq a b 0 #[] hg (by simpa [bG] using h)
theorem DJ {Q:Value->aa->Prop}{t:TypeId}{a:Addr}(v:Value)(ht:cx P t=some false)(hg:F.get a=some v)(h:Q v F):aT P (loadVar t a) Q F:=by
 simp only[loadVar,bq,lR,ht,dh,za];exact ⟨v,hg,h⟩
def aa.jv (F:aa)(a:Addr):Nat->List Value->Option aa
 |_,[]=>some F
 |i,v::b=>match F.lM (a.add i) v with
  |some F'=>F'.jv a (i+1) b
  |none=>none
theorem qK {Q:Unit->aa->Prop}(a:Addr):∀(b:List Value) (i:Nat) (F F':aa),F.jv a i b=some F'->Q () F'->aT P (storeCells a b i) Q F
 |[],i,F,F',hg,h=>by simp only[aa.jv,Option.some.injEq] at hg;subst hg;simpa [storeCells,bG] using h
 |v::b,i,F,F',hg,h=>by
  simp only[storeCells,bq,DH]
  unfold aa.jv at hg
  split at hg
  ·rename_i c d
   exact ⟨c,d,qK a b (i+1) c F' hg h⟩
  ·cases hg
theorem DK {Q:Unit->aa->Prop}{t:TypeId}{a:Addr}{v:Value}(F':aa)(hs:bW P t=some v.cells.size)(hg:F.jv a 0 v.cells.toList=some F')(h:Q () F'):aT P (storeVar t a v) Q F:=by
 simp only[storeVar,bq,eE,hs,ne_eq,not_true_eq_false,if_false];exact qK a _ 0 F F' hg h
@[go_sem] theorem zb {Q:Addr->aa->Prop}(t:TypeId)(v:Value):aT P (newVar t v) Q F=∀b,dP F b->Q ⟨b,0,none⟩ (F.push b (.cells v.cells t)):=by
 simp only[newVar,newRow,bq,oL,bG];simp[Obj.isChan]
@[go_sem] theorem qL {Q:Addr->aa->Prop}(t:TypeId)(v:Array Value):aT P (newRow t v) Q F=∀b,dP F b->Q ⟨b,0,none⟩ (F.push b (.cells v t)):=by
 simp only[newRow,bq,oL,bG];simp[Obj.isChan]
@[go_sem] theorem qM {Q:Addr->aa->Prop}(a:Addr):aT P (Instr.sureAddr (.pointer (some a))) Q F=Q a F:=rfl
@[go_sem] theorem kP {Q:IntKind×Int->aa->Prop}(k:IntKind)(n:Int):aT P (asIntOf (.int k n)) Q F=Q (k,n) F:=rfl
@[go_sem] theorem zd {Q:Int->aa->Prop}(k:IntKind)(n:Int):aT P (asInt (.int k n)) Q F=Q n F:=rfl
@[go_sem] theorem DL {Q:Bool->aa->Prop}(b:Bool):aT P (asBool (.bool b)) Q F=Q b F:=rfl
@[go_sem] theorem DN {Q:Array Value->aa->Prop}(b:Array Value):aT P (asAgg (.agg b)) Q F=Q b F:=rfl
end
def slot (a:Act)(i:Nat):Value:=a.tmps.getD i undef
def sz (a:Act):Nat:=a.tmps.size
def aZ (a:Act)(d:Option Tmp)(v:Value):Act:=a.put d v
def ev (a:Act)(x:Operand):Value:=a.eval x
@[go_sem] theorem LM (a:Act)(t:Nat):ev a (.tmp t)=slot a t:=rfl
@[go_sem] theorem LN (a:Act)(v:Value):ev a (.const v)=v:=rfl
@[go_sem] theorem LO (a:Act)(g:Nat):ev a (.global g)= .pointer (some ⟨g,0,none⟩):=rfl
@[go_sem] theorem LP (a:Act)(f:Nat):ev a (.func f)= .func (.func f) #[] #[]:=rfl
@[go_sem] theorem LQ (a:Act)(v:Value):aZ a none v=a:=rfl
@[go_sem] theorem ze (a:Act)(d:Option Tmp)(v:Value):sz (aZ a d v)=sz a:=by cases d<;>simp[sz,aZ,Act.put]
theorem DO (a:Act)(d:Nat)(v:Value)(h:d<sz a):slot (aZ a (some d) v) d=v:=by
 simp only[sz] at h;simp[slot,aZ,Act.put,h]
theorem uu (a:Act)(d i:Nat)(v:Value)(h:¬d=i):slot (aZ a (some d) v) i=slot a i:=by
 simp[slot,aZ,Act.put,Array.getElem?_setIfInBounds_ne h]
@[go_sem] theorem LR (a:Act)(d i:Nat)(v:Value)(h:d<sz a):slot (aZ a (some d) v) i=if d=i then v else slot a i:=by
 split
 ·rename_i e;subst e;exact DO a d v h
 ·rename_i e;exact uu a d i v e
@[go_sem] theorem zf (a:Act)(d:Option Tmp)(v:Value):(aZ a d v).defers=a.defers:=by cases d<;>rfl
theorem aC.start {P:Program}{f:FuncId}{fn:Func}{c:Code}{n:Nat}{args:Array Value}{F:aa}{R:Value->aa->Prop}(b:P.funcs[f]?=some fn)(hb:fn.body=some c)(a:fn.ntmps=n)(d:args.size<=n)
  (h:∀main J,Closed P main J->∀A:Act,sz A=n->A.defers=[]->(∀i,slot A i=args.getD i undef)->Wp J c (qH P fn R) A F):aC P f args F R:=
 aC.of_wp b hb fun main J hJ=>h main J hJ _ (by simp[sz,a];omega) rfl fun i=>by
  simp only[slot,a,Array.getD_eq_getD_getElem?]
  rcases Nat.lt_or_ge i args.size with hi|hi
  ·rw[Array.getElem?_append_left hi]
  ·rw[Array.getElem?_append_right hi,Array.getElem?_replicate,Array.getElem?_eq_none hi]
   split<;>rfl
def cZ (P:Program)(t:TypeId):Option TypeId:=match P.underlying t with|some (.slice e)=>some e|_=>none
def m4 (P:Program)(t:TypeId):Option (Nat×TypeId):=match P.underlying t with|some (.array n e)=>some (n,e)|_=>none
def cM (P:Program)(t:TypeId)(n:Nat):Option Nat:=
 match P.underlying t with
 |some (.struct a)=>match a[n]? with
  |some f=>match bW P f.type with
   |some (_+1)=>some f.offset
   |_=>none
  |none=>none
 |_=>none
def uv (P:Program)(t:TypeId)(n:Nat):Option (Nat×Nat×Bool):=
 match P.underlying t with
 |some (.struct a)=>match a[n]? with
  |some f=>match bW P f.type,cx P f.type with
   |some s,some g=>some (f.offset,s,g)
   |_,_=>none
  |none=>none
 |_=>none
def placesOf (P:Program)(t:TypeId):Option (List (Nat×Nat)):=
 match P.underlying t with
 |some (.struct a)=>a.toList.mapM fun f=>(bW P f.type).map fun s=>(f.offset,s)
 |_=>none
def aH (P:Program)(f:FuncId):Bool:=match P.funcs[f]? with|some fn=>!(fn.body.isNone||fn.name== "runtime.NumGoroutine")|none=>false
def aa.dj (F:aa)(a:Addr):Nat->Nat->Option (List Value)
 |_,0=>some []
 |i,n+1=>match F.get (a.add i) with
  |some v=>match F.dj a (i+1) n with
   |some b=>some (v::b)
   |none=>none
  |none=>none
theorem uw (F:aa)(a:Addr):∀(n i:Nat) (b:List Value),F.dj a i n=some b->F.lS a i b/\b.length=n
 |0,i,b,h=>by simp only[aa.dj,Option.some.injEq] at h;subst h;exact ⟨trivial,rfl⟩
 |n+1,i,b,h=>by
  unfold aa.dj at h
  split at h
  ·rename_i v c
   split at h
   ·rename_i ws d
    cases h
    obtain ⟨h1,e⟩:=uw F a n (i+1) ws d
    exact ⟨⟨c,h1⟩,by simp[e]⟩
   ·cases h
  ·cases h
def e7 (P:Program)(F:aa)(t:TypeId)(ad:Addr):Option Value:=
 match cx P t with
 |some false=>F.get ad
 |some true=>match bW P t with
  |some n=>match F.dj ad 0 n with
   |some a=>some (.agg a.toArray)
   |none=>none
  |none=>none
 |none=>none
def qN (P:Program)(F:aa)(t:TypeId)(ad:Addr)(v:Value):Option aa:=
 match bW P t with
 |some n=>if n=v.cells.size then F.jv ad 0 v.cells.toList else none
 |none=>none
theorem zg {P:Program}{F:aa}{t:TypeId}{ad:Addr}{v:Value}{Q:Value->aa->Prop}(h:e7 P F t ad=some v)(a:Q v F):aT P (loadVar t ad) Q F:=by
 unfold e7 at h;split at h
 ·rename_i hg;exact DJ v hg h a
 ·rename_i hg;split at h
  ·rename_i n c;split at h
   ·rename_i b d;cases h;obtain ⟨h1,e⟩:=uw F ad n 0 b d;exact DI b hg (by rw[c,e]) h1 a
   ·cases h
  ·cases h
 ·cases h
theorem DQ {P:Program}{F F':aa}{t:TypeId}{ad:Addr}{v:Value}{Q:Unit->aa->Prop}(h:qN P F t ad v=some F')(a:Q () F'):aT P (storeVar t ad v) Q F:=by
 unfold qN at h;split at h
 ·rename_i n b;split at h
  ·rename_i e;exact DK F' (by rw[b,e]) h a
  ·cases h
 ·cases h
def m5 (op:BinOp):Value->Value->Option Value
 | .int k a,.int c b=>if k=c then match op with
   | .add=>some (.int k (k.wrap (a+b)))
   | .sub=>some (.int k (k.wrap (a - b)))
   | .mul=>some (.int k (k.wrap (a*b)))
   | .quo=>if b=0 then none else some (.int k (k.wrap (a.tdiv b)))
   | .rem=>if b=0 then none else some (.int k (a.tmod b))
   | .eql=>some (.bool (a==b))
   | .neq=>some (.bool (a != b))
   | .lss=>some (.bool (decide (a<b)))
   | .leq=>some (.bool (decide (a<=b)))
   | .gtr=>some (.bool (decide (a>b)))
   | .geq=>some (.bool (decide (a≥b)))
   | .shl=>if b<0 then none else some (.int k (k.wrap (a*2 ^ min b.toNat k.bits)))
   | .shr=>if b<0 then none else some (.int k (a.fdiv (2 ^ min b.toNat k.bits)))
   | .and=>some (.int k (k.wrap (BitVec.ofInt k.bits a&&& BitVec.ofInt k.bits b).toNat))
   | .or=>some (.int k (k.wrap (BitVec.ofInt k.bits a|||BitVec.ofInt k.bits b).toNat))
   | .andNot=>some (.int k (k.wrap (BitVec.ofInt k.bits a&&& ~~~(BitVec.ofInt k.bits b)).toNat))
   | .xor=>some (.int k (k.wrap (BitVec.ofInt k.bits a ^^^ BitVec.ofInt k.bits b).toNat))
  else none
 |_,_=>none
theorem iL {P:Program}{s:Sem Value}{Q:Next->aa->Prop}{F:aa}:aT P (do pure (Next.value (<-s)):Sem Next) Q F=aT P s (fun v G=>Q (.value v) G) F:=by
 simp only[bq,bG]
theorem uy {P:Program}(op:BinOp)(t:TypeId)(x y:Operand)(k c:IntKind)(a b:Int){Q:Unit->aa->Prop}{F:aa}(h:Q () F):aT P (eqGuard op t x y (.int k a) (.int c b)) Q F:=by
 unfold eqGuard;cases op<;>simp<;>exact h
theorem DR {P:Program}{op:BinOp}{t:TypeId}{x y:Operand}{u v w:Value}{Q:Value->aa->Prop}{F:aa}(h:m5 op u v=some w)(c:Q w F):aT P (do eqGuard op t x y u v;binOp op t u v) Q F:=by
 unfold m5 at h;split at h
 case h_2=>cases h
 rename_i k a e b;split at h
 case isFalse=>cases h
 rename_i d;subst d;rw[bq];refine uy op t x y k k a b ?_;cases op<;>simp only[binOp,ne_eq,not_true_eq_false,if_false,Op.intArith,Op.intDiv,Op.intCmp,Op.intBits,Op.shift,dh] at h ⊢<;>first
  |(cases h;done)
  |(cases h;exact c)
  |(split at h
    ·cases h
    ·rename_i hb;rw[if_neg hb];cases h;exact c)
def lT (op:UnOp):Value->Option Value
 | .int k a=>match op with
  | .neg=>some (.int k (k.wrap (0 - a)))
  |_=>none
 | .bool b=>match op with
  | .not=>some (.bool (!b))
  |_=>none
 |_=>none
theorem DS {P:Program}{op:UnOp}{u w:Value}{Q:Value->aa->Prop}{F:aa}(h:lT op u=some w)(a:Q w F):aT P (Op.unary op u) Q F:=by
 cases u<;>cases op<;>simp only[lT] at h<;>first|(cases h;done)|(cases h;exact a)
def qO:Value->Value->Option Value
 | .int k x,.int _ y=>some (.int k (if y>x then y else x))
 |_,_=>none
def qP:Value->Value->Option Value
 | .int k x,.int _ y=>some (.int k (if y<x then y else x))
 |_,_=>none
def oN (P:Program)(t:TypeId):Value->Value->Option Value
 | .slice (some ad) len _,.int _ i=>match cZ P t with
  |some e=>match bW P e with
   |some n=>if 0<=i/\i<(len:Int) then some (.pointer (some (ad.add (i.toNat*n)))) else none
   |none=>none
  |none=>none
 | .pointer (some ad),.int _ i=>match m4 P t with
  |some (len,e)=>match bW P e with
   |some n=>if 0<=i/\i<(len:Int) then some (.pointer (some (ad.add (i.toNat*n)))) else none
   |none=>none
  |none=>none
 |_,_=>none
theorem DT {P:Program}{t:TypeId}{u v w:Value}{Q:Value->aa->Prop}{F:aa}(h:oN P t u v=some w)(c:Q w F):aT P (Instr.indexAt t u v) Q F:=by
 unfold oN at h;split at h
 ·rename_i ad len cap k i;split at h
  case h_2=>cases h
  rename_i e he;split at h
  case h_2=>cases h
  rename_i n a;split at h
  case isFalse=>cases h
  rename_i hi;cases h;have hu:P.underlying t=some (.slice e):=by
   unfold cZ at he;split at he
   ·rename_i d b;cases he;exact b
   ·cases he
  simp only[Instr.indexAt,bq,kP,dn,hu,bG,dh,if_pos hi,eE,a];exact c
 ·rename_i ad k i;split at h
  case h_2=>cases h
  rename_i len e he;split at h
  case h_2=>cases h
  rename_i n a;split at h
  case isFalse=>cases h
  rename_i hi;cases h;have hu:P.underlying t=some (.array len e):=by
   unfold m4 at he;split at he
   ·rename_i f d b;cases he;exact b
   ·cases he
  simp only[Instr.indexAt,bq,kP,dn,hu,bG,qM,dh,if_pos hi,eE,a];exact c
 ·cases h
def m6 (P:Program)(t:TypeId)(x:Value)(lo hi:Option Value):Option Value:=
 match x,cZ P t with
 | .slice ad len cap,some e=>match bW P e with
  |some n=>
   match (match lo with|none=>some 0|some (.int _ i)=>if 0<=i then some i.toNat else none|_=>none),(match hi with|none=>some len|some (.int _ i)=>if 0<=i then some i.toNat else none|_=>none) with
   |some l,some h=>if l<=h/\h<=cap then some (.slice (if cap=l then ad else ad.map (·.add (l*n))) (h - l) (cap - l)) else none
   |_,_=>none
  |none=>none
 |_,_=>none
theorem DU {P:Program}{t:TypeId}{x w:Value}{lo hi:Option Value}{Q:Value->aa->Prop}{F:aa}(hlen:∀ad len cap,x= .slice ad len cap->len<=cap)(h:m6 P t x lo hi=some w)(c:Q w F):aT P (Instr.sliceAt t x lo hi none) Q F:=by
 unfold m6 at h;split at h
 case h_2=>cases h
 rename_i ad len cap e he;have o:=hlen ad len cap rfl;have hu:P.underlying t=some (.slice e):=by
  unfold cZ at he;split at he
  ·rename_i p f;cases he;exact f
  ·cases he
 split at h
 case h_2=>cases h
 rename_i n d;split at h
 case h_2=>cases h
 rename_i l q a b;split at h
 case isFalse=>cases h
 rename_i hb;cases h;simp only[Instr.sliceAt,bq,dn,hu,Instr.slice,Instr.sliceBounds,bG];cases hi with
 |none=>
  simp only[Option.some.injEq] at b;subst b;simp only[bG];cases lo with
  |none=>
   simp only[Option.some.injEq] at a;subst a;simp only[bG,eE,d];exact c
  |some v=>
   cases v<;>simp only[reduceCtorEq] at a;rename_i k i;split at a
   case isFalse=>cases a
   rename_i h0;cases a;have:0<=i/\i<=(len:Int):=⟨h0,by omega⟩
   simp only[Instr.sliceBound,bq,kP,dh,if_pos this,bG,eE,d];exact c
 |some v=>
  cases v<;>simp only[reduceCtorEq] at b;rename_i k i;split at b
  case isFalse=>cases b
  rename_i h0;cases b;have h1:0<=i/\i<=(cap:Int):=⟨h0,by omega⟩
  simp only[Instr.sliceBound,bq,kP,dh,if_pos h1,bG];cases lo with
  |none=>
   simp only[Option.some.injEq] at a;subst a;simp only[bG,eE,d];exact c
  |some v=>
   cases v<;>simp only[reduceCtorEq] at a;rename_i r j;split at a
   case isFalse=>cases a
   rename_i g;cases a;have m:0<=j/\j<=((i.toNat:Nat):Int):=⟨g,by omega⟩
   simp only[bq,kP,dh,if_pos m,bG,eE,d];exact c
def gv:List Value->List Value->Option Bool
 |[],[]=>some true
 | .int k a::xs,.int c b::ys=>if k=c then match gv xs ys with
   |some r=>some (a==b&&r)
   |none=>none
  else none
 | .bool a::xs,.bool b::ys=>match gv xs ys with
   |some r=>some (a==b&&r)
   |none=>none
 |_,_=>none
theorem qQ:∀{xs ys:List Value} {us b:List Value} {r:Bool},xs.length=ys.length->gv (xs++us) (ys++b)=some r->∃r1 r2,gv xs ys=some r1/\gv us b=some r2/\r=(r1&&r2)
 |[],[],us,b,r,_,h=>⟨true,r,rfl,h,by simp⟩
 |[],y::ys,_,_,_,a,_=>by simp at a
 |x::xs,[],_,_,_,a,_=>by simp at a
 |x::xs,y::ys,us,b,r,a,h=>by
  have e:xs.length=ys.length:=by simpa using a
  cases x<;>cases y<;>simp only[List.cons_append,gv,reduceCtorEq] at h ⊢
  ·split at h
   ·rename_i f c
    obtain ⟨r1,r2,h1,d,rfl⟩:=qQ e c
    cases h
    exact ⟨_,r2,by rw[h1],d,by rw[Bool.and_assoc]⟩
   ·cases h
  ·split at h
   ·rename_i g
    split at h
    ·rename_i f c
     obtain ⟨r1,r2,h1,d,rfl⟩:=qQ e c
     cases h
     exact ⟨_,r2,by rw[if_pos g,h1],d,by rw[Bool.and_assoc]⟩
    ·cases h
   ·cases h
def Kd:List Bool->List Value->Prop
 |[],[]=>True
 |true::ks,.int _ _::xs=>Kd ks xs
 |false::ks,.bool _::xs=>Kd ks xs
 |_,_=>False
theorem Kd.length:∀{ks:List Bool} {xs:List Value},Kd ks xs->xs.length=ks.length
 |[],[],_=>rfl
 |[],x::xs,h=>by simp[Kd] at h
 |k::ks,[],h=>by cases k<;>simp[Kd] at h
 |k::ks,x::xs,h=>by
  have:Kd ks xs:=by cases k<;>cases x<;>simp only[Kd] at h<;>exact h
  simp[Kd.length this]
theorem Kd.split:∀{ks:List Bool} {ls:List Bool} {xs:List Value},Kd (ks++ls) xs->Kd ks (xs.take ks.length)/\Kd ls (xs.drop ks.length)
 |[],_,_,h=>⟨by simp[Kd],by simpa using h⟩
 |k::ks,ls,[],h=>by cases k<;>simp[Kd] at h
 |k::ks,ls,x::xs,h=>by
  cases k<;>cases x<;>simp only[List.cons_append,Kd] at h
  all_goals
   obtain ⟨h1,a⟩:=Kd.split h
   exact ⟨by simpa [Kd] using h1,by simpa using a⟩
def oO (P:Program)(g:TypeId->Option (List Bool)):List Field->Nat->Option (List Bool)
 |[],_=>some []
 |f::a,off=>if f.name≠ "_"/\f.offset=off then match g f.type with
   |some ks=>if bW P f.type=some ks.length then match oO P g a (off+ks.length) with
     |some ls=>some (ks++ls)
     |none=>none
    else none
   |none=>none
  else none
def jR (P:Program):Nat->TypeId->Option (List Bool)
 |0,_=>none
 |d+1,t=>match P.underlying t with
  |some .bool=>if cx P t=some false then some [false] else none
  |some (.int _)=>if cx P t=some false then some [true] else none
  |some (.struct a)=>if cx P t=some true/\P.stoodInHeld t=false then oO P (jR P d) a.toList 0 else none
  |some (.array n e)=>if cx P t=some true then match jR P d e with
    |some ks=>if bW P e=some ks.length then some (List.replicate n ks).flatten else none
    |none=>none
   else none
  |_=>none
def Sc (v:Value):Prop:=(∃k a,v= .int k a)\/∃b,v= .bool b
theorem Kd.sc:∀{ks:List Bool} {xs:List Value},Kd ks xs->∀x∈xs,Sc x
 |[],[],_=>by simp
 |[],x::xs,h=>by simp[Kd] at h
 |k::ks,[],h=>by simp
 |k::ks,x::xs,h=>by
  have:Sc x/\Kd ks xs:=by cases k<;>cases x<;>simp only[Kd] at h<;>first|exact ⟨.inl ⟨_,_,rfl⟩,h⟩|exact ⟨.inr ⟨_,rfl⟩,h⟩
  simpa using ⟨this.1,Kd.sc this.2⟩
theorem Sc.cells {v:Value}(h:Sc v):v.cells=#[v]:=by
 rcases h with ⟨k,a,rfl⟩|⟨b,rfl⟩<;>rfl
def Shape (P:Program)(t:TypeId)(v:Value):Prop:=(cx P t=some true->∃xs,v= .agg xs)/\(cx P t=some false->Sc v)
section
variable {P : Program}
theorem qR {t:TypeId}{xs:Array Value}{off m:Nat}{g:Bool}{Q:Value->aa->Prop}{F:aa}(hg:cx P t=some g)(hs:bW P t=some m)(hm:g=false->m=1)(e:off+m<=xs.size)
  (d:∀x∈xs.toList,Sc x) (h:∀v,v.cells.toList=(xs.toList.drop off).take m->Shape P t v->Q v F):aT P (part t xs off) Q F:=by
 simp only[part,bq,lR,hg,dh]
 cases g with
 |true=>
  simp only[if_true,bq,eE,hs,bG]
  refine h _ ?_ ⟨fun _=>⟨_,rfl⟩,fun a=>by rw[hg] at a;cases a⟩
  simp only[Value.cells,Array.toList_extract,List.extract_eq_take_drop]
  congr 1;omega
 |false=>
  have:=hm rfl
  subst this
  have b:off<xs.size:=by omega
  simp only[Bool.false_eq_true,if_false,Array.getElem?_eq_getElem b,bG]
  have c:=d xs[off] (by simp)
  refine h _ ?_ ⟨fun a=>(by rw[hg] at a;cases a),fun _=>c⟩
  rw[c.cells]
  have:off<xs.toList.length:=by simpa using b
  rw[List.drop_eq_getElem_cons this]
  simp
def uz (P:Program)(d:Nat)(t:TypeId)(ks:List Bool):Prop:=
 ∀(u v:Value) (r:Bool) (Q:Bool->aa->Prop) (F:aa),Shape P t u->Shape P t v->Kd ks u.cells.toList->Kd ks v.cells.toList->gv u.cells.toList v.cells.toList=some r->Q r F->aT P (Op.equalIn d t u v) Q F
theorem zh {d t:Nat}{ks:List Bool}(h:jR P d t=some ks):∃g,cx P t=some g/\(g=false->ks.length=1):=by
 cases d with
 |zero=>cases h
 |succ d=>
  unfold jR at h;split at h
  ·split at h
   ·rename_i hg;cases h;exact ⟨_,hg,fun _=>rfl⟩
   ·cases h
  ·split at h
   ·rename_i hg;cases h;exact ⟨_,hg,fun _=>rfl⟩
   ·cases h
  ·split at h
   ·rename_i hg;exact ⟨true,hg.1,fun x=>by cases x⟩
   ·cases h
  ·split at h
   ·rename_i hg;exact ⟨true,hg,fun x=>by cases x⟩
   ·cases h
  ·cases h
theorem zi {d:Nat}(ih:∀t ks,jR P d t=some ks->uz P d t ks){xs ys:Array Value}{Q:Bool->aa->Prop}{F:aa}(m:∀x∈xs.toList,Sc x)(n:∀x∈ys.toList,Sc x):
  ∀(c:List Field) (off:Nat) (ks:List Bool) (r:Bool),oO P (jR P d) c off=some ks->Kd ks (xs.toList.drop off)->Kd ks (ys.toList.drop off)->gv (xs.toList.drop off) (ys.toList.drop off)=some r->off<=xs.size->off<=ys.size->Q r F->
  aT P (do
   let x<-forIn c ((none,()):Option Bool×Unit) fun f _=>do
    if f.name≠ "_" then
     if (!(<-Op.equalIn d f.type (<-part f.type xs f.offset) (<-part f.type ys f.offset)))=true then pure (ForInStep.done (some false,())) else pure (ForInStep.yield (none,()))
    else pure (ForInStep.yield (none,()))
   match x.fst with
    |some a=>pure a
    |none=>pure true:Sem Bool) Q F
 |[],off,ks,r,b,e,h,he,_,_,i=>by
  simp only[oO,Option.some.injEq] at b
  subst b
  have h1:=e.length
  have j:=h.length
  rw[List.eq_nil_of_length_eq_zero h1,List.eq_nil_of_length_eq_zero j] at he
  cases he
  simp only[List.forIn_nil,bq,bG]
  exact i
 |f::c,off,ks,r,b,e,h,he,E,G,i=>by
  unfold oO at b
  split at b
  case isFalse=>cases b
  rename_i l
  obtain ⟨l,rfl⟩:=l
  split at b
  case h_2=>cases b
  rename_i k o
  split at b
  case isFalse=>cases b
  rename_i hs
  split at b
  case h_2=>cases b
  rename_i ls y
  cases b
  obtain ⟨g,hg,p⟩:=zh o
  have z:=e.length
  have A:=h.length
  simp only[List.length_drop,Array.length_toList,List.length_append] at z A
  obtain ⟨B,q⟩:=e.split
  obtain ⟨C,s⟩:=h.split
  rw[List.drop_drop] at q s
  have e1:xs.toList.drop f.offset=(xs.toList.drop f.offset).take k.length++xs.toList.drop (f.offset+k.length):=by
   rw[<-List.drop_drop,List.take_append_drop]
  have e2:ys.toList.drop f.offset=(ys.toList.drop f.offset).take k.length++ys.toList.drop (f.offset+k.length):=by
   rw[<-List.drop_drop,List.take_append_drop]
  rw[e1,e2] at he
  obtain ⟨r1,r2,h1,j,rfl⟩:=qQ (by simp;omega) he
  simp only[List.forIn_cons,bq,if_pos l]
  refine qR hg hs p (by omega) m fun u hu D=>?_
  refine qR hg hs p (by omega) n fun v w sv=>?_
  refine ih _ _ o u v r1 _ F D sv (by rw[hu];exact B) (by rw[w];exact C) (by rw[hu,w];exact h1) ?_
  cases r1 with
  |false=>simpa [bG,dh] using i
  |true=>
   have:=zi ih m n c (f.offset+k.length) ls r2 y q s j (by omega) (by omega) (Q:=Q) (F:=F) (by simpa using i)
   simpa [bG,dh,bq] using this
theorem zj {d e k:Nat}{ks:List Bool}{g:Bool}(s:uz P d e ks)(h:ks.length=k)(hg:cx P e=some g)(j:g=false->ks.length=1)(hs:bW P e=some ks.length){xs ys:Array Value}{Q:Bool->aa->Prop}{F:aa}(t:∀x∈xs.toList,Sc x)(w:∀x∈ys.toList,Sc x):
  ∀(n i:Nat) (r:Bool),Kd (List.replicate n ks).flatten (xs.toList.drop (i*k))->Kd (List.replicate n ks).flatten (ys.toList.drop (i*k))->gv (xs.toList.drop (i*k)) (ys.toList.drop (i*k))=some r->i*k<=xs.size->i*k<=ys.size->Q r F->
  aT P (do
   let x<-forIn (List.range' i n) ((none,()):Option Bool×Unit) fun i _=>do
    if (!(<-Op.equalIn d e (<-part e xs (i*k)) (<-part e ys (i*k))))=true then pure (ForInStep.done (some false,())) else pure (ForInStep.yield (none,()))
   match x.fst with
    |some a=>pure a
    |none=>pure true:Sem Bool) Q F
 |0,i,r,b,c,he,_,_,f=>by
  have h1:=b.length
  have l:=c.length
  rw[List.eq_nil_of_length_eq_zero h1,List.eq_nil_of_length_eq_zero l] at he
  cases he
  simp only[List.range'_zero,List.forIn_nil,bq,bG]
  exact f
 |n+1,i,r,b,c,he,D,E,f=>by
  have m:(i+1)*k=i*k+k:=by simp only[Nat.add_mul,Nat.one_mul]
  have A:=b.length
  have B:=c.length
  simp only[List.replicate_succ,List.flatten_cons,List.length_drop,Array.length_toList,List.length_append] at A B
  simp only[List.replicate_succ,List.flatten_cons] at b c
  obtain ⟨y,o⟩:=b.split
  obtain ⟨z,p⟩:=c.split
  rw[h] at y o z p
  rw[List.drop_drop,<-m] at o p
  have e1:xs.toList.drop (i*k)=(xs.toList.drop (i*k)).take k++xs.toList.drop ((i+1)*k):=by
   rw[m,<-List.drop_drop,List.take_append_drop]
  have e2:ys.toList.drop (i*k)=(ys.toList.drop (i*k)).take k++ys.toList.drop ((i+1)*k):=by
   rw[m,<-List.drop_drop,List.take_append_drop]
  rw[e1,e2] at he
  obtain ⟨r1,r2,h1,l,rfl⟩:=qQ (by simp;omega) he
  simp only[List.range'_succ,List.forIn_cons,bq]
  refine qR hg hs j (by omega) t fun u hu C=>?_
  refine qR hg hs j (by omega) w fun v q sv=>?_
  rw[h] at hu q
  refine s u v r1 _ F C sv (by rw[hu];exact y) (by rw[q];exact z) (by rw[hu,q];exact h1) ?_
  cases r1 with
  |false=>simpa [bG,dh] using f
  |true=>
   have:=zj s h hg j hs t w n (i+1) r2 o p l (by omega) (by omega) (Q:=Q) (F:=F) (by simpa using f)
   simpa [bG,dh,bq] using this
theorem uA:∀(d t:Nat) (ks:List Bool),jR P d t=some ks->uz P d t ks
 |0,_,_,h=>by cases h
 |d+1,t,ks,h=>by
  intro u v r Q F i sv hu c he j
  unfold jR at h
  split at h
  ·rename_i f
   split at h
   case isFalse=>cases h
   rename_i hg
   cases h
   have a1:=i.2 hg
   have a2:=sv.2 hg
   rw[a1.cells] at he hu
   rw[a2.cells] at he c
   simp only[Op.equalIn,bq,dn,f]
   rcases a1 with ⟨k,a,rfl⟩|⟨a,rfl⟩<;>rcases a2 with ⟨m,b,rfl⟩|⟨b,rfl⟩<;>simp[Kd] at hu c
   simp[gv] at he
   subst he
   simpa [bG] using j
  ·rename_i f
   split at h
   case isFalse=>cases h
   rename_i hg
   cases h
   have a1:=i.2 hg
   have a2:=sv.2 hg
   rw[a1.cells] at he hu
   rw[a2.cells] at he c
   simp only[Op.equalIn,bq,dn,f]
   rcases a1 with ⟨k,a,rfl⟩|⟨a,rfl⟩<;>rcases a2 with ⟨m,b,rfl⟩|⟨b,rfl⟩<;>simp[Kd] at hu c
   simp[gv] at he
   obtain ⟨l,rfl⟩:=he
   simpa [bG,dh,l] using j
  ·rename_i o f
   split at h
   case isFalse=>cases h
   rename_i hg
   obtain ⟨hg,p⟩:=hg
   obtain ⟨xs,rfl⟩:=i.1 hg
   obtain ⟨ys,rfl⟩:=sv.1 hg
   simp only[Op.equalIn,bq,dn,f,jQ,p,Bool.false_eq_true,if_false,dh,bG]
   have:=zi (P:=P) (d:=d) (fun t ks q=>uA d t ks q) (xs:=xs) (ys:=ys) (Q:=Q) (F:=F) hu.sc c.sc o.toList 0 ks r h (by simpa [Value.cells] using hu) (by simpa [Value.cells] using c) (by simpa [Value.cells] using he) (by omega) (by omega) j
   rw[<-Array.forIn_toList]
   simp[bq] at this ⊢
   exact gL (fun a G h=>by rcases a with ⟨_|_,_⟩<;>exact h) _ _ this
  ·rename_i n e f
   split at h
   case isFalse=>cases h
   rename_i hg
   split at h
   case h_2=>cases h
   rename_i k l
   split at h
   case isFalse=>cases h
   rename_i hs
   cases h
   obtain ⟨xs,rfl⟩:=i.1 hg
   obtain ⟨ys,rfl⟩:=sv.1 hg
   obtain ⟨g,s,w⟩:=zh l
   simp only[Op.equalIn,bq,dn,f,eE,hs]
   have:=zj (P:=P) (d:=d) (uA d e k l) rfl s w hs (xs:=xs) (ys:=ys) (Q:=Q) (F:=F) hu.sc c.sc n 0 r (by simpa [Value.cells] using hu) (by simpa [Value.cells] using c) (by simpa [Value.cells] using he) (by simp) (by simp) j
   simp only[Std.Legacy.Range.forIn_eq_forIn_range',Std.Legacy.Range.size,Nat.sub_zero,Nat.add_one_sub_one,Nat.div_one]
   simp[bq] at this ⊢
   exact gL (fun a G h=>by rcases a with ⟨_|_,_⟩<;>exact h) _ _ this
  ·cases h
def iM:List Bool->List Value->Bool
 |[],[]=>true
 |true::ks,.int _ _::xs=>iM ks xs
 |false::ks,.bool _::xs=>iM ks xs
 |_,_=>false
theorem uB:∀{ks:List Bool} {xs:List Value},iM ks xs=true->Kd ks xs
 |[],[],_=>trivial
 |[],x::xs,h=>by simp[iM] at h
 |k::ks,[],h=>by cases k<;>simp[iM] at h
 |k::ks,x::xs,h=>by
  cases k<;>cases x<;>first
   |(simp only[iM,reduceCtorEq,Bool.false_eq_true] at h;done)
   |exact uB (ks:=ks) (xs:=xs) (by simpa only[iM] using h)
def m7 (P:Program)(t:TypeId):Option (List Bool):=if P.eqGuardType P.depth t=false/\cx P t=some true then jR P Op.maxDepth t else none
def lU (P:Program)(t:TypeId):Value->Value->Option Bool
 | .agg xs,.agg ys=>match m7 P t with
  |some ks=>if iM ks xs.toList&&iM ks ys.toList then gv xs.toList ys.toList else none
  |none=>none
 |_,_=>none
theorem uC {t:TypeId}{u v:Value}{r:Bool}{Q:Bool->aa->Prop}{F:aa}(h:lU P t u v=some r)(c:Q r F):aT P (Op.equal t u v) Q F/\P.eqGuardType P.depth t=false/\(∃xs,u= .agg xs)/\∃ys,v= .agg ys:=by
 unfold lU at h;split at h
 case h_2=>cases h
 rename_i xs ys;split at h
 case h_2=>cases h
 rename_i ks a;split at h
 case isFalse=>cases h
 rename_i b;simp only[Bool.and_eq_true] at b;unfold m7 at a;split at a
 case isFalse=>cases a
 rename_i hg;refine ⟨?_,hg.1,⟨_,rfl⟩,_,rfl⟩;exact uA _ _ _ a _ _ r Q F ⟨fun _=>⟨_,rfl⟩,fun x=>by rw[hg.2] at x;cases x⟩ ⟨fun _=>⟨_,rfl⟩,fun x=>by rw[hg.2] at x;cases x⟩ (uB b.1) (uB b.2) h c
def uD (P:Program)(t:TypeId):Bool:=match P.underlying t with|some .bool=>true|_=>false
def jS (P:Program)(t:TypeId):Bool:=match P.underlying t with|some (.slice _)=>true|_=>false
def oP (P:Program)(t:TypeId):Value->Value->Option Bool
 | .bool a,.bool b=>if uD P t=true then some (a==b) else none
 | .slice none _ _,.slice b _ _=>if jS P t=true then some b.isNone else none
 | .slice (some _) _ _,.slice none _ _=>if jS P t=true then some false else none
 |_,_=>none
theorem zk {t:TypeId}{u v:Value}{r:Bool}{Q:Bool->aa->Prop}{F:aa}(h:oP P t u v=some r)(e:Q r F):aT P (Op.equal t u v) Q F/\((∃a b,u= .bool a/\v= .bool b)\/∃a n c b m d,u= .slice a n c/\v= .slice b m d):=by
 obtain ⟨d,hd⟩:∃d,Op.maxDepth=d+1:=⟨_,rfl⟩
 unfold oP at h;split at h
 ·split at h
  ·rename_i hb;cases h;unfold uD at hb;split at hb
   ·rename_i hu;refine ⟨?_,.inl ⟨_,_,rfl,rfl⟩⟩;unfold Op.equal;rw[hd];simp only[Op.equalIn,bq,dn,hu,bG];exact e
   ·cases hb
  ·cases h
 ·split at h
  ·rename_i hb;cases h;unfold jS at hb;split at hb
   ·rename_i hu;refine ⟨?_,.inr ⟨_,_,_,_,_,_,rfl,rfl⟩⟩;unfold Op.equal;rw[hd];simp only[Op.equalIn,bq,dn,hu,bG];exact e
   ·cases hb
  ·cases h
 ·split at h
  ·rename_i hb;cases h;unfold jS at hb;split at hb
   ·rename_i hu;refine ⟨?_,.inr ⟨_,_,_,_,_,_,rfl,rfl⟩⟩;unfold Op.equal;rw[hd];simp only[Op.equalIn,bq,dn,hu,bG];exact e
   ·cases hb
  ·cases h
 ·cases h
def oQ (P:Program)(op:BinOp)(t:TypeId)(u v:Value):Option Value:=
 match m5 op u v with
 |some w=>some w
 |none=>match op with
  | .eql=>match lU P t u v with
   |some r=>some (.bool r)
   |none=>match oP P t u v with
    |some r=>some (.bool r)
    |none=>none
  | .neq=>match lU P t u v with
   |some r=>some (.bool (!r))
   |none=>match oP P t u v with
    |some r=>some (.bool (!r))
    |none=>none
  | .shr=>match u,v with
   | .int k a,.int _ b=>if b<0 then none else some (.int k (a.fdiv (2 ^ min b.toNat k.bits)))
   |_,_=>none
  | .shl=>match u,v with
   | .int k a,.int _ b=>if b<0 then none else some (.int k (k.wrap (a*2 ^ min b.toNat k.bits)))
   |_,_=>none
  |_=>none
theorem DV {op:BinOp}{t:TypeId}{x y:Operand}{u v w:Value}{Q:Value->aa->Prop}{F:aa}(h:oQ P op t u v=some w)(e:Q w F):aT P (do eqGuard op t x y u v;binOp op t u v) Q F:=by
 unfold oQ at h;split at h
 ·rename_i w' hw;cases h;exact DR hw e
 ·split at h
  ·split at h
   ·rename_i r f;cases h;obtain ⟨h1,g,⟨xs,rfl⟩,ys,rfl⟩:=uC (Q:=fun r G=>Q (.bool r) G) f e;simp only[bq,eqGuard,binOp,jQ,g,dh,bG];simpa using h1
   ·split at h
    ·rename_i r f;cases h;obtain ⟨h1,g⟩:=zk (Q:=fun r G=>Q (.bool r) G) f e;rcases g with ⟨a,b,rfl,rfl⟩|⟨a,n,c,b,m,d,rfl,rfl⟩<;>
     ·simp only[bq,eqGuard,binOp,jQ,dh,bG];simpa using h1
    ·cases h
  ·split at h
   ·rename_i r f;cases h;obtain ⟨h1,g,⟨xs,rfl⟩,ys,rfl⟩:=uC (Q:=fun r G=>Q (.bool (!r)) G) f e;simp only[bq,eqGuard,binOp,jQ,g,dh,bG];simpa using h1
   ·split at h
    ·rename_i r f;cases h;obtain ⟨h1,g⟩:=zk (Q:=fun r G=>Q (.bool (!r)) G) f e;rcases g with ⟨a,b,rfl,rfl⟩|⟨a,n,c,b,m,d,rfl,rfl⟩<;>
     ·simp only[bq,eqGuard,binOp,jQ,dh,bG];simpa using h1
    ·cases h
  ·split at h
   ·split at h
    ·cases h
    ·rename_i hb;cases h;rw[bq];refine uy .shr t x y _ _ _ _ ?_;simp only[binOp,Op.shift,dh];rw[if_neg hb];exact e
   ·cases h
  ·split at h
   ·split at h
    ·cases h
    ·rename_i hb;cases h;rw[bq];refine uy .shl t x y _ _ _ _ ?_;simp only[binOp,Op.shift,dh];rw[if_neg hb];exact e
   ·cases h
  ·cases h
end
theorem uE {P:Program}{t e:TypeId}(h:cZ P t=some e):P.underlying t=some (.slice e):=by
 unfold cZ at h;split at h
 ·rename_i a he;cases h;exact he
 ·cases h
theorem zl (n:Nat):∀(r c:Nat),Builtin.growBy n r c<=2 ^ r*(c+768)
 |0,c=>by simp[Builtin.growBy]
 |r+1,c=>by
  unfold Builtin.growBy
  split
  ·have:1<=2 ^ (r+1):=Nat.one_le_two_pow
   have:=Nat.mul_le_mul_right (c+768) this
   omega
  ·have h:=zl n r (c+(c+768)/4)
   refine Nat.le_trans h ?_
   rw[Nat.pow_succ,Nat.mul_assoc]
   refine Nat.mul_le_mul_left _ ?_
   omega
theorem nextslicecap_le {n c:Nat}(h:c<n)(b:n<=1000000):Builtin.nextslicecap n c<=20000000:=by
 unfold Builtin.nextslicecap;split
 ·omega
 ·split
  ·omega
  ·have a:=zl n 4 c;have e:(2:Nat) ^ 4=16:=by decide
   rw[e] at a;refine Nat.le_trans a ?_;omega
section
variable {P : Program}
theorem DW {Q:Array Value->aa->Prop}{F:aa}(a:Addr){n:Nat}{b:List Value}(h:F.dj a 0 n=some b)(c:Q b.toArray F):aT P (loadCells a n) Q F:=by
 obtain ⟨h1,d⟩:=uw F a n 0 b h;subst d;exact uq a b 0 #[] h1 (by simpa using c)
def fW (F:aa)(size:Nat):Value->Option (List Value)
 | .slice (some a) n _=>F.dj a 0 (n*size)
 | .slice none 0 _=>some []
 |_=>none
theorem uF {Q:Array Value->aa->Prop}{F:aa}{size n:Nat}{ad:Option Addr}{c:Nat}{b:List Value}(h:fW F size (.slice ad n c)=some b)(d:Q b.toArray F):aT P (Builtin.firstCells size n (.slice ad n c)) Q F:=by
 cases ad with
 |none=>
  cases n with
  |zero=>simp only[fW,Option.some.injEq] at h;subst h;exact d
  |succ n=>simp[fW] at h
 |some a=>exact DW a h d
theorem uG {Q:Unit->aa->Prop}{F:aa}(n:Nat)(h:Q () F):aT P (askRoom n) Q F:=by
 unfold askRoom;rw[dh];split
 ·exact ⟨rfl,h⟩
 ·exact h
theorem uH {F:aa}{Q:Value->aa->Prop}{argTypes:Array TypeId}{ty i j e p:TypeId}{size d len cap n c:Nat}{base l:Option Addr}{z:Value}{old new:List Value}
  (h0:argTypes[0]?=some i) (h1:argTypes[1]?=some j) (he:cZ P i=some e) (q:cZ P j=some p) (hs:bW P e=some size) (r:zeroOf P e=some z) (hb:bytesOf P e=some d)
  (A:0<d) (s:d<=10000) (u:len+n<=1000000) (hold:fW F size (.slice base len cap)=some old) (m:fW F size (.slice l n c)=some new)
  (f:len+n<=cap->(∃a F',base=some a/\F.jv (a.add (len*size)) 0 new=some F'/\Q (.slice base (len+n) cap) F')\/(base=none/\Q (.slice base (len+n) cap) F))
  (v:cap<len+n->∀k b,len+n<=k->dP F b->Q (.slice (some ⟨b,0,none⟩) (len+n) k) (F.push b (.cells (old.toArray++new.toArray++Builtin.zeroCells z.cells (k - (len+n))) e))):
  aT P (Builtin.append_ argTypes ty #[.slice base len cap,.slice l n c]) Q F:=by
 have hu:=uE he
 have w:=uE q
 unfold bytesOf at hb
 obtain ⟨info,hi,rfl⟩:=Option.map_eq_some_iff.1 hb
 simp only[Builtin.append_,h0,h1,List.getElem?_toArray,List.getElem?_cons_zero,List.getElem?_cons_succ,bq,dn,hu,w,eE,hs,bG,Builtin.lenOf,Bool.false_eq_true,if_false,dh,Bool.not_false,if_true,oM,hi]
 split
 ·rename_i hle
  have f:=f hle
  refine uF m ?_
  rcases f with ⟨a,F',rfl,x,g⟩|⟨rfl,g⟩
  ·simp only[bq]
   refine qK _ _ 0 F F' (by simpa using x) ?_
   exact g
  ·exact g
 ·rename_i B
  have y:=nextslicecap_le (n:=len+n) (c:=cap) (by omega) u
  have e1:¬(((len+n:Nat):Int)>IntKind.i64.max/\(false=true\/info.bytes=0)):=by
   rintro ⟨_,h|h⟩
   ·cases h
   ·omega
  have e2:¬(Builtin.nextslicecap (len+n) cap*info.bytes>2 ^ 48):=by
   have:Builtin.nextslicecap (len+n) cap*info.bytes<=20000000*10000:=Nat.mul_le_mul y s
   omega
  rw[if_neg (by simpa using e1),if_neg e2]
  rw[uo]
  rw[if_neg (by simp[Question.forced])]
  intro t
  have o:len+n<=(Question.appendCap (len+n) cap e).cut t:=Nat.le_add_right _ _
  generalize (Question.appendCap (len+n) cap e).cut t=k at o ⊢
  refine uG _ ?_
  refine uF hold ?_
  refine uF m ?_
  simp only[bq,lQ,r,qL,bG]
  exact fun b hb=>v (by omega) k b o hb
end
theorem uI:∀{pre:List (Nat×Obj)} {b:Nat} {o:Obj},au pre b->lk (pre++[(b,o)]) b=some o
 |[],b,o,_=>by simp[lk]
 |(c,x)::pre,b,o,h=>by
  have a:¬c=b:=fun e=>h.1 e.symm
  simp[lk,a,uI h.2]
def cI (arr:Array Value)(k:Nat):List Value->Array Value
 |[]=>arr
 |v::a=>cI (arr.setIfInBounds k v) (k+1) a
theorem qS:∀(a:List Value) (arr:Array Value) (k:Nat),(cI arr k a).size=arr.size
 |[],_,_=>rfl
 |v::a,arr,k=>by rw[cI,qS a];simp
theorem qT:∀(a:List Value) (arr:Array Value) (k:Nat),k+a.length<=arr.size->(cI arr k a).toList=arr.toList.take k++a++arr.toList.drop (k+a.length)
 |[],arr,k,_=>by simp[cI]
 |v::a,arr,k,h=>by
  simp only[List.length_cons] at h
  rw[cI,qT a _ _ (by simp;omega)]
  have b:k<arr.toList.length:=by simp;omega
  rw[Array.toList_setIfInBounds]
  have e1:(arr.toList.set k v).take (k+1)=arr.toList.take k++[v]:=by
   rw[List.take_succ_eq_append_getElem (by simpa using b),List.take_set_of_le (Nat.le_refl _)]
   simp
  have e2:(arr.toList.set k v).drop (k+1+a.length)=arr.toList.drop (k+(v::a).length):=by
   rw[List.drop_set_of_lt (by omega)]
   congr 1
   simp;omega
  rw[e1,e2]
  simp
def Gr (ro:Addr->Option Value)(e:TypeId)(size:Nat)(v:Value)(l:List (List Value))(aS:List (Nat×Obj)):Prop:=
 (v= .slice none 0 0/\l=[]/\aS=[])\/
 ∃b arr cap,v= .slice (some ⟨b,0,none⟩) l.length cap/\aS=[(b,.cells arr e)]/\arr.size=cap*size/\l.length<=cap/\arr.toList.take (l.length*size)=l.flatten/\(∀x∈l,x.length=size)/\∀off sp,ro ⟨b,off,sp⟩=none
theorem g8 {size:Nat}:∀{l:List (List Value)},(∀x∈l,x.length=size)->l.flatten.length=l.length*size
 |[],_=>by simp
 |x::l,h=>by
  have ih:l.flatten.length=l.length*size:=g8 (fun y a=>h y (List.mem_cons_of_mem _ a))
  simp only[List.flatten_cons,List.length_append,List.length_cons,h x (by simp),ih,Nat.add_mul,Nat.one_mul]
  omega
theorem zm {ro:Addr->Option Value}{pre:List (Nat×Obj)}{b:Nat}{e:TypeId}{arr:Array Value}(a:au pre b)(c:∀off sp,ro ⟨b,off,sp⟩=none):∀(n i:Nat),i+n<=arr.size->
  aa.dj ⟨ro,pre++[(b,.cells arr e)]⟩ ⟨b,0,none⟩ i n=some ((arr.toList.drop i).take n)
 |0,i,_=>by simp[aa.dj]
 |n+1,i,h=>by
  have f:(⟨b,0,none⟩:Addr).add i=⟨b,i,none⟩:=by
   unfold Addr.add
   split
   ·rename_i hi;subst hi;rfl
   ·simp
  have d:i<arr.size:=by omega
  unfold aa.dj
  have ih:=zm (e:=e) (arr:=arr) a c n (i+1) (by omega)
  simp only[aa.get,f,c,if_true,uI a,Option.bind_some,cellOf,Array.getElem?_eq_getElem d,ih]
  have g:i<arr.toList.length:=by simpa using d
  rw[List.drop_eq_getElem_cons g,List.take_succ_cons]
  simp
theorem Gr.fW {ro:Addr->Option Value}{e:TypeId}{size:Nat}{v:Value}{l:List (List Value)}{aS pre:List (Nat×Obj)}(h:Gr ro e size v l aS)(a:∀k∈keys aS,au pre k):
  Go.Sep.fW ⟨ro,pre++aS⟩ size v=some l.flatten:=by
 rcases h with ⟨rfl,rfl,rfl⟩|⟨b,arr,cap,rfl,rfl,hs,c,ht,f,d⟩
 ·rfl
 ·simp only[Go.Sep.fW]
  have hle:l.length*size<=arr.size:=by rw[hs];exact Nat.mul_le_mul_right _ c
  rw[zm (a b (by simp[keys])) d _ _ (by omega)]
  simp[ht]
def oR (P:Program)(t:TypeId)(parts:List (Nat×Value)):Option Value:=
 match zeroOf P t,placesOf P t with
 |some z,some pl=>match Instr.fill (fun i=>pl[i]?) z.cells parts with
  |some cs=>some (.agg cs)
  |none=>none
 |_,_=>none
theorem zn {P:Program}{Q:Array (Nat×Nat)->aa->Prop}{F:aa}:∀(a:List Field) (pl:List (Nat×Nat)) (acc:Array (Nat×Nat)),(a.mapM fun f=>(bW P f.type).map fun s=>(f.offset,s))=some pl->
  Q (acc++pl.toArray) F->aT P (a.foldlM (fun (b:Array (Nat×Nat)) f=>do let s<-sizeOf f.type;pure (b.push (f.offset,s))) acc) Q F
 |[],pl,acc,h,c=>by
  simp at h;subst h
  simpa [bG] using c
 |f::a,pl,acc,h,c=>by
  simp only[List.mapM_cons] at h
  cases hs:bW P f.type with
  |none=>simp[hs] at h
  |some s=>
   cases d:(a.mapM fun f=>(bW P f.type).map fun s=>(f.offset,s)) with
   |none=>simp[hs,d] at h
   |some e=>
    simp[hs,d] at h
    subst h
    simp only[List.foldlM_cons,bq,eE,hs,bG]
    exact zn a e _ d (by simpa using c)
theorem DX {P:Program}{Q:Array (Nat×Nat)->aa->Prop}{F:aa}(a:Array Field)(pl:List (Nat×Nat))(h:(a.toList.mapM fun f=>(bW P f.type).map fun s=>(f.offset,s))=some pl)
  (b:Q pl.toArray F):aT P (a.mapM fun f=>do let s<-sizeOf f.type;pure (f.offset,s)) Q F:=by
 rw[Array.mapM_eq_foldlM,<-Array.foldlM_toList]
 have:=zn (Q:=Q) (F:=F) a.toList pl #[] h (by simpa using b)
 simpa using this
theorem DY {P:Program}{t:TypeId}{parts:Array (Nat×Value)}{w:Value}{Q:Value->aa->Prop}{F:aa}(h:oR P t parts.toList=some w)(b:Q w F):aT P (Instr.build t parts) Q F:=by
 unfold oR at h;split at h
 case h_2=>cases h
 rename_i z pl c a;split at h
 case h_2=>cases h
 rename_i cs d;cases h;unfold placesOf at a;split at a
 case h_2=>cases a
 rename_i e f;simp only[Instr.build,bq,lQ,c,dn,f];refine DX e pl a ?_;simp only[List.getElem?_toArray,d,bG];exact b
def qU (P:Program)(t:TypeId)(len:Nat)(parts:List (Nat×Value)):Option (TypeId×Array Value):=
 match cZ P t with
 |some e=>match bW P e,zeroOf P e with
  |some size,some z=>if len*size<=2 ^ 24/\0<len*size then
    match Instr.fill (fun i=>some (i*size,size)) ((Array.range (len*size)).map (z.cells[· % z.cells.size]!)) parts with
    |some cs=>some (e,cs)
    |none=>none
   else if len*size=0/\parts.isEmpty=true then some (e,#[]) else none
  |_,_=>none
 |none=>none
theorem DZ {P:Program}{t:TypeId}{len:Nat}{parts:Array (Nat×Value)}{e:TypeId}{cs:Array Value}{Q:Value->aa->Prop}{F:aa}(h:qU P t len parts.toList=some (e,cs))
  (c:∀b,dP F b->Q (.slice (some ⟨b,0,none⟩) len len) (F.push b (.cells cs e))):aT P (Instr.buildSlice t len parts) Q F:=by
 unfold qU at h
 split at h
 case h_2=>cases h
 rename_i d he
 split at h
 case h_2=>cases h
 rename_i size z hs f
 split at h
 case isFalse=>
  split at h
  case isFalse=>cases h
  rename_i hb
  cases h
  have hu:P.underlying t=some (.slice e):=by
   unfold cZ at he
   split at he
   ·rename_i d a;cases he;exact a
   ·cases he
  have h1:¬(len*size>2 ^ 24):=by rw[hb.1];decide
  have g:parts.toList=[]:=List.isEmpty_iff.1 hb.2
  simp only[Instr.buildSlice,bq,dn,hu,eE,hs,dh,if_neg h1,if_pos hb.1,bG,g]
  rw[hb.1]
  have e0:Array.range 0=#[]:=rfl
  simp only[e0,Array.map_empty,Instr.fill,bq,qL,bG]
  exact c
 rename_i hb
 split at h
 case h_2=>cases h
 rename_i cs' i
 cases h
 have hu:P.underlying t=some (.slice e):=by
  unfold cZ at he
  split at he
  ·rename_i d a;cases he;exact a
  ·cases he
 have h1:¬(len*size>2 ^ 24):=by omega
 have j:¬(len*size=0):=by omega
 simp only[Instr.buildSlice,bq,dn,hu,eE,hs,dh,if_neg h1,if_neg j,lQ,f,bG,i,qL]
 exact c
def oS (P:Program)(t:TypeId)(n:Nat):Value->Option Value
 | .agg cs=>match uv P t n with
  |some (off,s,true)=>some (.agg (cs.extract off (off+s)))
  |some (off,_,false)=>cs[off]?
  |none=>none
 |_=>none
theorem D1 {P:Program}{t:TypeId}{n:Nat}{u w:Value}{Q:Value->aa->Prop}{F:aa}(h:oS P t n u=some w)(b:Q w F):aT P (Instr.field t u n) Q F:=by
 cases u<;>simp only[oS,reduceCtorEq] at h;rename_i cs;unfold uv at h;cases hu:P.underlying t with
 |none=>simp[hu] at h
 |some d=>
  cases d<;>simp only[hu,reduceCtorEq] at h;rename_i c;cases a:c[n]? with
  |none=>simp[a] at h
  |some f=>
   simp only[a] at h;cases hs:bW P f.type with
   |none=>simp[hs] at h
   |some s=>
    cases hg:cx P f.type with
    |none=>simp[hs,hg] at h
    |some g=>
     simp only[hs,hg] at h;simp only[Instr.field,bq,dn,hu,a,DN,part,lR,hg,dh];cases g with
     |true=>simp only[Option.some.injEq] at h;subst h;simpa [eE,hs,bG] using b
     |false=>
      simp only at h;simp only[Bool.false_eq_true,if_false,h];exact b
def qV (n:Nat):Value->Option Value
 | .tuple a=>a[n]?
 |_=>none
def lV (P:Program)(src dst:TypeId):Value->Option Value
 | .int _ n=>match P.underlying src,P.underlying dst with
  |some (.int _),some (.int k)=>some (.int k (k.wrap n))
  |_,_=>none
 |_=>none
theorem D2 {P:Program}{src dst:TypeId}{u w:Value}{Q:Value->aa->Prop}{F:aa}(h:lV P src dst u=some w)(a:Q w F):aT P (convert src dst u) Q F:=by
 cases u<;>simp only[lV,reduceCtorEq] at h;rename_i k n;split at h
 ·rename_i k1 c h1 b;cases h;simp only[convert,bq,dn,h1,b,Conv.intToInt,bG];exact a
 ·cases h
def qW (P:Program)(t:TypeId):Value->Option Value
 | .slice _ n _=>match cZ P t with
  |some _=>some (.int .i64 n)
  |none=>none
 |_=>none
def oT (P:Program)(t:TypeId):Value->Value->Option Value
 | .agg cs,.int _ i=>match m4 P t with
  |some (len,e)=>match bW P e,cx P e with
   |some s,some true=>if 0<=i/\i<(len:Int) then some (.agg (cs.extract (i.toNat*s) (i.toNat*s+s))) else none
   |some s,some false=>if 0<=i/\i<(len:Int) then cs[i.toNat*s]? else none
   |_,_=>none
  |none=>none
 | .string s,.int _ i=>match P.underlying t with
  |some .string=>if 0<=i then (s[i.toNat]?).map fun b=>.int .u8 b.toNat else none
  |_=>none
 |_,_=>none
theorem D3 {P:Program}{t:TypeId}{u v w:Value}{Q:Value->aa->Prop}{F:aa}(h:oT P t u v=some w)(a:Q w F):aT P (Instr.index t u v) Q F:=by
 unfold oT at h;split at h
 case h_3=>cases h
 case h_2=>
  rename_i s k i;split at h
  case h_2=>cases h
  rename_i hu;split at h
  case isFalse=>cases h
  rename_i hi;obtain ⟨b,hb,rfl⟩:=Option.map_eq_some_iff.1 h;simp only[Instr.index,bq,kP,dn,hu,if_pos hi,hb,bG];exact a
 rename_i cs k i;split at h
 case h_2=>cases h
 rename_i len e he;have hu:P.underlying t=some (.array len e):=by
  unfold m4 at he;split at he
  ·rename_i d f c;cases he;exact c
  ·cases he
 split at h
 ·rename_i s hs hg;split at h
  case isFalse=>cases h
  rename_i hi;cases h;simp only[Instr.index,bq,kP,dn,hu,dh,if_pos hi,eE,hs,part,lR,hg,if_true,bG];exact a
 ·rename_i s hs hg;split at h
  case isFalse=>cases h
  rename_i hi;simp only[Instr.index,bq,kP,dn,hu,dh,if_pos hi,eE,hs,part,lR,hg,Bool.false_eq_true,if_false,h,bG];exact a
 ·cases h
def lW (P:Program)(argTypes:Array TypeId)(s x:Value)(R:Value->aa->Prop)(F:aa):Prop:=
 ∀ty,aT P (Builtin.append_ argTypes ty #[s,x]) (fun v F=>∃F0,Le F0 F/\R v F0) F
def Oper.m8 (o:Oper):Bool:=match o.op with| .call {callee:=.builtin .append, ..}=>true|_=>false
def gw (P:Program)(J:Goroutine->aa->Prop)(y:Value)(args:Array Value)(F:aa)(R:Value->aa->Prop):Prop:=
 match y with
 | .func (.func fn) first captured=>aH P fn=true/\cP P J fn (first++args++captured) F R
 | .func (.yield l) first captured=>first=#[]/\captured=#[]/\∃r,F.eR l=some (.loop r)/\args.size=r.params.size/\jr J l r.fn ((r.params.zip args).foldl (fun tmps (t,a)=>tmps.setIfInBounds t a) r.tmps) r.assign r.body F R
 |_=>False
theorem gw.mono {P:Program}{J:Goroutine->aa->Prop}{y:Value}{args:Array Value}{F:aa}{R a:Value->aa->Prop}(h:gw P J y args F R)(b:∀v F',R v F'->a v F'):gw P J y args F a:=by
 unfold gw at h ⊢;split at h
 ·exact ⟨h.1,h.2.mono b⟩
 ·obtain ⟨e1,e2,r,h1,c,d⟩:=h;exact ⟨e1,e2,r,h1,c,d.mono b⟩
 ·exact h.elim
theorem D4 {P:Program}{J:Goroutine->aa->Prop}{fn:FuncId}{first captured args:Array Value}{F:aa}{R:Value->aa->Prop}:gw P J (.func (.func fn) first captured) args F R=(aH P fn=true/\cP P J fn (first++args++captured) F R):=rfl
def eL (P:Program)(m:Sem Value)(R:Value->aa->Prop)(F:aa):Prop:=aT P m R F
def cJ (P:Program)(J:Goroutine->aa->Prop)(o:Oper)(R:Value->aa->Prop)(a:Act)(F:aa):Prop:=
 match o.op with
 | .move x| .assign x=>R (ev a x) F
 | .nilCheck x=>match ev a x with
  | .pointer (some _)=>R (ev a x) F
  |_=>False
 | .pick c x y=>match ev a c with
  | .bool b=>R (if b then ev a x else ev a y) F
  |_=>False
 | .alloc t=>match zeroOf P t with
  |some z=>∀b,dP F b->R (.pointer (some ⟨b,0,none⟩)) (F.push b (.cells z.cells t))
  |none=>False
 | .box t x=>∀b,dP F b->R (.pointer (some ⟨b,0,none⟩)) (F.push b (.cells (ev a x).cells t))
 | .build t parts=>match oR P t (parts.map fun (i,x)=>(i,ev a x)).toList with
  |some v=>R v F
  |none=>False
 | .buildSlice t len parts=>match qU P t len (parts.map fun (i,x)=>(i,ev a x)).toList with
  |some (e,cs)=>∀b,dP F b->R (.slice (some ⟨b,0,none⟩) len len) (F.push b (.cells cs e))
  |none=>False
 | .load t x=>match ev a x with
  | .pointer (some ad)=>match e7 P F t ad with
   |some v=>R v F
   |none=>False
  |_=>False
 | .store t x y=>match ev a x with
  | .pointer (some ad)=>match qN P F t ad (ev a y) with
   |some F'=>R undef F'
   |none=>False
  |_=>False
 | .binOp op t x y _=>match oQ P op t (ev a x) (ev a y) with
  |some v=>R v F
  |none=>False
 | .unOp op _ x=>match lT op (ev a x) with
  |some v=>R v F
  |none=>False
 | .convert src dst x=>match lV P src dst (ev a x) with
  |some v=>R v F
  |none=>False
 | .makeFunc fn first captured=>R (.func fn (first.map (ev a)) (captured.map (ev a))) F
 | .slice t x lo hi none=>(match ev a x with| .slice _ len cap=>len<=cap|_=>False)/\match m6 P t (ev a x) (lo.map (ev a)) (hi.map (ev a)) with
  |some v=>R v F
  |none=>False
 | .fieldAddr s x n=>match ev a x with
  | .pointer (some ad)=>match cM P s n with
   |some k=>R (.pointer (some (ad.add k))) F
   |none=>False
  |_=>False
 | .field s x n=>match oS P s n (ev a x) with
  |some v=>R v F
  |none=>False
 | .indexAddr t x i=>match oN P t (ev a x) (ev a i) with
  |some v=>R v F
  |none=>False
 | .index t x i=>match oT P t (ev a x) (ev a i) with
  |some v=>R v F
  |none=>False
 | .extract x n=>match qV n (ev a x) with
  |some v=>R v F
  |none=>False
 | .call {callee:=.value x,args, ..}=>gw P J (ev a x) (args.map (ev a)) F R
 | .call {callee:=.builtin .len,args,argTypes}=>match argTypes[0]?,args[0]? with
  |some t,some x=>match qW P t (ev a x) with
   |some v=>R v F
   |none=>eL P (Builtin.len_ argTypes o.type (args.map (ev a))) R F
  |_,_=>False
 | .makeMap t r=>eL P (Instr.makeMap t (r.map (ev a))) R F
 | .makeSlice t l c=>eL P (Instr.makeSlice t (ev a l) (ev a c)) R F
 | .mapUpdate t m k x=>eL P (Instr.mapUpdate t (ev a m) (ev a k) (ev a x)>>= fun _=>pure undef) R F
 | .call {callee:=.builtin .clear,args,argTypes}=>eL P (Builtin.clear_ argTypes o.type (args.map (ev a))) R F
 | .call {callee:=.builtin .cap,args,argTypes}=>eL P (Builtin.cap_ argTypes o.type (args.map (ev a))) R F
 | .call {callee:=.builtin .copy,args,argTypes}=>eL P (Builtin.copy_ argTypes o.type (args.map (ev a))) R F
 | .call {callee:=.builtin .append,args,argTypes}=>match args.toList with
  |[x,y]=>lW P argTypes (ev a x) (ev a y) R F
  |_=>False
 | .call {callee:=.builtin .max,args, ..}=>match args.toList with
  |[x,y]=>match qO (ev a x) (ev a y) with
   |some v=>R v F
   |none=>False
  |_=>False
 | .call {callee:=.builtin .min,args, ..}=>match args.toList with
  |[x,y]=>match qP (ev a x) (ev a y) with
   |some v=>R v F
   |none=>False
  |_=>False
 |_=>False
theorem ep (a:Act):a.eval=ev a:=rfl
theorem zo {P:Program}{J:Goroutine->aa->Prop}{o:Oper}{R:Value->aa->Prop}{D:Deferred->aa->Prop}{a:Act}{F:aa}(B:Oper.m8 o=false)(h:cJ P J o R a F):aT P (execOp a.eval o) (fA P J R D) F:=by
 obtain ⟨dst,op,type,pos,after,guard⟩:=o;unfold execOp;simp only[ep];unfold cJ at h;simp only at h;cases op<;>simp only at h ⊢
 case move x=>exact h
 case assign x=>exact h
 case nilCheck x=>
  split at h
  ·rename_i ad g;simp only[g,bG,fA];rw[g] at h;exact h
  ·exact h.elim
 case pick c x y=>
  split at h
  ·rename_i b hb;simp only[bq,hb,DL,bG,fA];exact h
  ·exact h.elim
 case alloc t=>
  split at h
  ·rename_i z C;simp only[Instr.alloc,bq,lQ,C,zb,bG,fA];exact h
  ·exact h.elim
 case box t x=>
  simp only[Instr.box,bq,zb,bG,fA];exact h
 case build t parts=>
  split at h
  ·rename_i v d;simp only[bq,bG];exact DY d h
  ·exact h.elim
 case buildSlice t len parts=>
  split at h
  ·rename_i e cs d;simp only[bq,bG];exact DZ d h
  ·exact h.elim
 case load t x=>
  split at h
  case h_2=>exact h.elim
  rename_i ad q;split at h
  case h_2=>exact h.elim
  rename_i v d;simp only[Instr.loadAt,bq,q,qM,bG];exact zg d h
 case store t x y=>
  split at h
  case h_2=>exact h.elim
  rename_i ad q;split at h
  case h_2=>exact h.elim
  rename_i F' E;simp only[Instr.storeAt,bq,q,qM,bG];exact DQ E h
 case binOp op t x y W=>
  split at h
  case h_2=>exact h.elim
  rename_i v d;rw[iL];exact DV d h
 case unOp op t x=>
  split at h
  case h_2=>exact h.elim
  rename_i v d;rw[iL];exact DS d h
 case convert src dst x=>
  split at h
  case h_2=>exact h.elim
  rename_i v d;rw[iL];exact D2 d h
 case makeFunc fn first captured=>
  simp only[Instr.makeFunc,bq,bG,fA];exact h
 case slice t x lo hi G=>
  cases G with
  |some m=>exact h.elim
  |none=>
   simp only at h;obtain ⟨h1,h⟩:=h;split at h
   case h_2=>exact h.elim
   rename_i v d;rw[iL];exact DU (fun ad len cap e=>by rw[e] at h1;exact h1) d h
 case fieldAddr s x n=>
  split at h
  case h_2=>exact h.elim
  rename_i ad q;split at h
  case h_2=>exact h.elim
  rename_i k j;unfold cM at j;split at j
  case h_2=>cases j
  rename_i X H;split at j
  case h_2=>cases j
  rename_i f u;split at j
  case h_2=>cases j
  rename_i m hm;cases j;rw[iL];simp only[Instr.fieldAt,bq,dn,H,u,q,qM,fieldPlace,eE,hm];simpa [bG,fA] using h
 case field s x n=>
  split at h
  case h_2=>exact h.elim
  rename_i v d;rw[iL];exact D1 d h
 case indexAddr t x i=>
  split at h
  case h_2=>exact h.elim
  rename_i v d;rw[iL];exact DT d h
 case index t x i=>
  split at h
  case h_2=>exact h.elim
  rename_i v d;rw[iL];exact D3 d h
 case extract x n=>
  split at h
  case h_2=>exact h.elim
  rename_i v d;rw[iL];unfold qV at d;split at d
  ·rename_i Y I;simp only[I,Instr.extract,d];exact h
  ·cases d
 case makeMap t r=>
  rw[iL];exact h
 case makeSlice t l c=>
  rw[iL];exact h
 case mapUpdate t m k x=>
  unfold eL at h;rw[bq] at h;rw[bq];exact h
 case call c=>
  obtain ⟨callee,args,argTypes⟩:=c;cases callee with
  |value x=>
   simp only at h;unfold gw at h;split at h
   case h_3=>exact h.elim
   ·rename_i fn first captured g
    obtain ⟨p,K⟩:=h;unfold aH at p;split at p
    case h_2=>cases p
    rename_i f u;simp only[Bool.not_eq_true',Bool.or_eq_false_iff] at p;simp only[resolve,g,Deferred.ofValue,bq,bG,invoke,callFunc,jQ,u,p.1,p.2,Bool.false_eq_true,if_false,fA];exact K
   ·rename_i l first captured g
    obtain ⟨rfl,rfl,r,h1,L,M⟩:=h;simp only[resolve,g,Deferred.ofValue,bq,bG,invoke,Instr.yield,Instr.getLoop,Array.append_empty,Array.empty_append,Array.map_map];refine ⟨_,h1,?_⟩;have N:∀{α:Type} (x:α) (Q:α->aa->Prop) (F:aa),aT P (Sem.pure x) Q F=Q x F:=fun _ _ _=>rfl;simp only[bq,N,bG,dh,ne_eq,L,not_true_eq_false,if_false,fA];exact M
  |invoke r m=>exact h.elim
  |builtin b=>
   cases b<;>simp only at h
   case append=>simp[Oper.m8] at B
   case clear=>
    simp only[resolve,bq,bG,invoke,builtin];exact h
   case cap=>
    simp only[resolve,bq,bG,invoke,builtin];exact h
   case copy=>
    simp only[resolve,bq,bG,invoke,builtin];exact h
   case len=>
    split at h
    case h_2=>exact h.elim
    rename_i t x ht g;split at h
    case h_2=>
     simp only[resolve,bq,bG,invoke,builtin];exact h
    rename_i v d;unfold qW at d;split at d
    case h_2=>cases d
    rename_i ad n cap O;split at d
    case h_2=>cases d
    rename_i e S;have he:=uE S;cases d;have T:(args.map (ev a))[0]?=some (.slice ad n cap):=by simp[g,O]
    simp only[resolve,bq,bG,invoke,builtin,Builtin.len_,ht,T,dn,he];exact h
   case max=>
    split at h
    case h_2=>exact h.elim
    rename_i x y w;split at h
    case h_2=>exact h.elim
    rename_i v d;unfold qO at d;split at d
    case h_2=>cases d
    rename_i k U V y' g A;cases d;simp only[resolve,bq,bG,invoke,builtin,Builtin.max_,Array.toList_map,w,List.map_cons,List.map_nil,List.foldlM_cons,List.foldlM_nil,g,A,Builtin.max2,fA];exact h
   case min=>
    split at h
    case h_2=>exact h.elim
    rename_i x y w;split at h
    case h_2=>exact h.elim
    rename_i v d;unfold qP at d;split at d
    case h_2=>cases d
    rename_i k U V y' g A;cases d;simp only[resolve,bq,bG,invoke,builtin,Builtin.min_,Array.toList_map,w,List.map_cons,List.map_nil,List.foldlM_cons,List.foldlM_nil,g,A,Builtin.min2,fA];exact h
theorem kQ {P:Program}{J:Goroutine->aa->Prop}{o:Oper}{R:Value->aa->Prop}{D:Deferred->aa->Prop}{a:Act}{F:aa}(h:cJ P J o R a F):aT P (execOp a.eval o) (jO P J R D) F:=
by
 cases b:Oper.m8 o with
 |false=>exact gL Du _ _ (zo b h)
 |true=>
  obtain ⟨dst,op,type,pos,after,guard⟩:=o
  unfold Oper.m8 at b
  split at b
  ·rename_i callee args argTypes c
   simp only at c
   subst c
   unfold cJ at h
   simp only at h
   split at h
   case h_2=>exact h.elim
   rename_i x y d
   have e:args=#[x,y]:=by rw[<-Array.toList_inj];simpa using d
   subst e
   unfold execOp
   simp only[ep,resolve,bq,bG,invoke,builtin]
   have:=h type
   simpa [jO,fA,bq,bG] using this
  ·cases b
def cz (ops:Array Oper)(o:Oper)(a:Act):Option Bool:=
 match o.guard with
 |none=>some true
 |some (j,want)=>match (ops[j]?).bind (·.dst) with
  |some d=>match slot a d with
   | .bool b=>some (b==want)
   | .tuple _=>some false
   |_=>none
  |none=>none
theorem b9 {ops:Array Oper}{o:Oper}{a:Act}{t:Bool}(h:cz ops o a=some t):Region.wanted o (yielded ops a.tmps)=t:=by
 unfold cz at h;unfold Region.wanted;split at h
 ·rename_i hg;rw[hg];cases h;rfl
 ·rename_i j want hg;rw[hg];split at h
  ·rename_i d hd;split at h
   ·rename_i b hb;cases h;have ht:a.tmps[d]?=some (.bool b):=by
     unfold slot at hb;rw[Array.getD_eq_getD_getElem?] at hb;cases c:a.tmps[d]? with
     |none=>rw[c] at hb;simp[undef] at hb
     |some v=>rw[c] at hb;simpa using hb
    simp only[yielded,hd,Option.bind_some,ht];cases b<;>cases want<;>rfl
   ·rename_i b hb;cases h;simp only[yielded,hd,Option.bind_some];unfold slot at hb;rw[Array.getD_eq_getD_getElem?] at hb;cases c:a.tmps[d]? with
    |none=>rfl
    |some v=>
     rw[c] at hb;simp at hb;subst hb;rfl
   ·cases h
  ·cases h
def Oper.calls (o:Oper):Bool:=match o.op with| .call {callee:=.value _, ..}=>true| .call {callee:=.builtin .append, ..}=>true| .call {callee:=.builtin .clear, ..}=>true| .call {callee:=.builtin .cap, ..}=>true| .call {callee:=.builtin .copy, ..}=>true| .makeMap ..=>true| .makeSlice ..=>true| .mapUpdate ..=>true|_=>false
def e8 (P:Program)(J:Goroutine->aa->Prop)(ops:Array Oper)(K:Act->aa->Prop):List Oper->Bool->Act->aa->Prop
 |[],_,a,F=>K a F
 |o::rest,_,a,F=>match cz ops o a with
  |some true=>cJ P J o (fun v F'=>e8 P J ops K rest (!Oper.calls o) (aZ a o.dst v) F') a F
  |some false=>e8 P J ops K rest true (aZ a o.dst undef) F
  |none=>False
theorem zp {P:Program}{J:Goroutine->aa->Prop}{ops:Array Oper}{K:Act->aa->Prop}{go:Bool}{a:Act}{F:aa}:e8 P J ops K [] go a F=K a F:=rfl
theorem zq {P:Program}{J:Goroutine->aa->Prop}{ops:Array Oper}{K:Act->aa->Prop}{o:Oper}{rest:List Oper}{a:Act}{F:aa}:e8 P J ops K (o::rest) true a F=match cz ops o a with
  |some true=>cJ P J o (fun v F'=>e8 P J ops K rest (!Oper.calls o) (aZ a o.dst v) F') a F
  |some false=>e8 P J ops K rest true (aZ a o.dst undef) F
  |none=>False:=(Eq.refl _).trans (Eq.refl _)
theorem aJ {P:Program}{J:Goroutine->aa->Prop}{ops:Array Oper}{K:Act->aa->Prop}:∀{l:List Oper} {go:Bool} {a:Act} {F:aa},e8 P J ops K l true a F->e8 P J ops K l go a F
 |[],_,_,_,h=>h
 |_::_,_,_,_,h=>h
theorem uJ {P:Program}{J:Goroutine->aa->Prop}{ops:Array Oper}{K:Act->aa->Prop}:∀(l:List Oper) (k:Nat) (go:Bool) (a:Act) (F:aa),ops.toList.drop k=l->e8 P J ops K l go a F->
  fL P J ops K (List.range' k l.length) a F
 |[],k,_,a,F,_,h=>h
 |o::rest,k,_,a,F,b,h=>by
  have d:ops[k]?=some o:=by
   have:=congrArg List.head? b
   simpa [List.head?_drop] using this
  have c:ops.toList.drop (k+1)=rest:=by
   have:=congrArg List.tail b
   simpa [List.tail_drop] using this
  simp only[List.length_cons,List.range'_succ]
  show dH P J ops k (fL P J ops K (List.range' (k+1) rest.length)) a F
  unfold dH
  simp only[d]
  unfold e8 at h
  split at h
  ·rename_i hg
   rw[if_pos (b9 hg)]
   exact gL (oI (fun v F' e=>uJ rest (k+1) _ _ F' c e) (fun _ _ x=>x)) _ _ (kQ h)
  ·rename_i hg
   rw[if_neg (by rw[b9 hg];simp)]
   exact uJ rest (k+1) _ _ F c h
  ·exact h.elim
theorem aj {P:Program}{main:Bool}{J:Goroutine->aa->Prop}{Q:Ex->Act->aa->Prop}{a:Act}{F:aa}(hJ:Closed P main J){id:Nat}{ops:Array Oper}(h:e8 P J ops (Q .normal) ops.toList true a F):Wp J (.region id ops false) Q a F:=by
 refine DD hJ ?_;have:=uJ ops.toList 0 true a F (by simp) h;simpa [List.range_eq_range'] using this
theorem ah {P:Program}{main:Bool}{J:Goroutine->aa->Prop}{Q:Ex->Act->aa->Prop}{a:Act}{F:aa}(hJ:Closed P main J){id:Nat}{ops:Array Oper}{y:Code}(h:e8 P J ops (tZ J y Q .normal) ops.toList true a F):Wp J (.seq (.region id ops false) y) Q a F:=af hJ (aj hJ h)
attribute [irreducible] e8
theorem m9 {P:Program}{J:Goroutine->aa->Prop}{ops:Array Oper}{Q:Act->aa->Prop}{S:aa->Prop}(i:Nat){b:Oper}(v:Value){fuel:Nat}{listed:Array Bool}{a:Act}{F:aa}(hi:ops[i]?=some b)
  (d:(Region.noSelect ops&&Region.free .any ops listed i&&(Region.ready .any ops listed).contains i)=true)
  (hg:cz ops b a=some true) (e:∀F R,S F->R v F->cJ P J b R a F) (c:S F)
  (h:dI P J ops Q S fuel (listed.setIfInBounds i true) (aZ a b.dst v) F):dI P J ops Q S (fuel+1) listed a F:=
 yX i v hi d (.inl ⟨b9 hg,fun F R c f=>kQ (e F R c f)⟩) c h
theorem zu {P:Program}{J:Goroutine->aa->Prop}{ops:Array Oper}{Q:Act->aa->Prop}{S:aa->Prop}(i:Nat){b:Oper}{fuel:Nat}{listed:Array Bool}{a:Act}{F:aa}(hi:ops[i]?=some b)
  (c:(Region.noSelect ops&&Region.free .any ops listed i&&(Region.ready .any ops listed).contains i)=true)
  (hg:cz ops b a=some false) (d:S F)
  (h:dI P J ops Q S fuel (listed.setIfInBounds i true) (aZ a b.dst undef) F):dI P J ops Q S (fuel+1) listed a F:=
 yX i undef hi c (.inr ⟨b9 hg,rfl⟩) d h
theorem zv {P:Program}{J:Goroutine->aa->Prop}{ops:Array Oper}{Q:Act->aa->Prop}{S:aa->Prop}(i:Nat){b:Oper}{fuel:Nat}{listed:Array Bool}{a:Act}{F:aa}(hi:ops[i]?=some b)
  (c:Region.ready .any ops listed=[i]) (hg:cz ops b a=some true)
  (h:cJ P J b (fun v F'=>S F'/\dI P J ops Q S fuel (listed.setIfInBounds i true) (aZ a b.dst v) F') a F):dI P J ops Q S (fuel+1) listed a F:=by
 refine Dy i c ?_
 unfold dH
 simp only[hi]
 rw[if_pos (b9 hg)]
 exact kQ h
attribute [go_sem] List.isEmpty_nil List.isEmpty_cons undef zp zq Oper.calls Bool.not_true Bool.not_false cz cJ aa.push aa.get aa.put lk iJ cellOf e7 qN aa.dj aa.jv aa.lM bH frozenAt oQ lU oP Option.isNone_none Option.isNone_some gv iM m5 lT qO qP oN oT m6 oS qV lV qW oR qU
theorem add_zero' (a:Addr):a.add 0=a:=rfl
theorem kR (a:Addr)(m n:Nat):(a.add m).add n=a.add (m+n):=by
 unfold Addr.add;by_cases hm:m=0
 ·subst hm;simp
 ·by_cases b:n=0
  ·subst b;simp[hm]
  ·have:¬m+n=0:=by omega
   simp[hm,b,this,Nat.add_assoc]
theorem kS (b o n:Nat):(⟨b,o,none⟩:Addr).add n=⟨b,o+n,none⟩:=by
 unfold Addr.add;by_cases a:n=0
 ·subst a;simp
 ·simp[a]
attribute [go_sem] add_zero' kR kS Nat.add_assoc Int.reduceLE Int.reduceLT Int.reduceToNat Int.toNat_zero Int.le_refl
attribute [go_sem] Value.cells Instr.fill qH g7 uf tZ D4
attribute [go_sem] and_true true_and Array.getD_eq_getD_getElem? List.getElem?_toArray List.getElem?_cons_zero List.getElem?_cons_succ List.getElem?_nil Option.getD_some Option.getD_none Option.bind_some Option.bind_none Option.map_some Option.map_none
attribute [go_sem] Nat.reduceLT Nat.reduceEqDiff Nat.reduceAdd Nat.reduceMul Nat.reduceSub if_true if_false reduceIte reduceCtorEq List.setIfInBounds_toArray List.set_cons_zero List.set_cons_succ
attribute [go_sem] List.map_toArray List.map_cons List.map_nil List.append_toArray List.cons_append List.nil_append List.append_nil Array.append_empty Array.empty_append List.toList_toArray List.length_cons List.length_nil List.size_toArray ne_eq not_true_eq_false not_false_eq_true forall_const
theorem eB {ro:Addr->Option Value}{own:List (Nat×Obj)}{b:Nat}(h:dP ⟨ro,own⟩ b):∀off sp,ro ⟨b,off,sp⟩=none:=h.ro
theorem fE {ro:Addr->Option Value}{own:List (Nat×Obj)}{b:Nat}(h:dP ⟨ro,own⟩ b):au own b:=h.own
def oU (P:Program)(F:aa)(a:Act):ResultVar->Option Value
 | .tmp t=>some (slot a t)
 | .cell ad t=>match slot a ad with
  | .pointer (some p)=>e7 P F t p
  |_=>none
def lX (P:Program)(F:aa)(a:Act):List ResultVar->Option (List Value)
 |[]=>some []
 |r::rs=>match oU P F a r with
  |some v=>match lX P F a rs with
   |some b=>some (v::b)
   |none=>none
  |none=>none
def lY (P:Program)(F:aa)(a:Act)(rs:List ResultVar):Option Value:=
 match lX P F a rs with
 |some [v]=>some v
 |some b=>some (.tuple b.toArray)
 |none=>none
attribute [go_sem] oU lX lY
theorem uK {P:Program}{F:aa}{a:Act}{Q:Array Value->aa->Prop}:∀(rs:List ResultVar) (d:List Value) (acc:Array Value),lX P F a rs=some d->Q (acc++d.toArray) F->
  aT P (rs.foldlM (fun (b:Array Value) r=>do let x<-(match r with| .tmp t=>pure (a.tmps.getD t undef)| .cell ad t=>do loadVar t (<-asAddr (a.tmps.getD ad undef)):Sem Value);pure (b.push x)) acc) Q F
 |[],d,acc,h,e=>by
  simp only[lX,Option.some.injEq] at h;subst h
  simpa [bG] using e
 |r::rs,d,acc,h,e=>by
  unfold lX at h
  split at h
  case h_2=>cases h
  rename_i v c
  split at h
  case h_2=>cases h
  rename_i ws i
  cases h
  have f:=uK rs ws (acc.push v) i (Q:=Q) (by simpa using e)
  simp only[List.foldlM_cons,bq]
  cases r with
  |tmp t=>
   simp only[oU,Option.some.injEq,slot] at c
   subst c
   simpa only[bG] using f
  |cell ad t=>
   simp only[oU] at c
   split at c
   ·rename_i p g
    unfold slot at g
    simp only[bq,g,asAddr,bG]
    exact zg c f
   ·cases c
theorem qX {P:Program}{fn:Func}{rs:List ResultVar}{F:aa}{a:Act}{v:Value}{R:Value->aa->Prop}(d:fn.results=rs.toArray)(h:lY P F a rs=some v)(c:R v F):aT P (results fn a.tmps) R F:=by
 unfold results;rw[d,bq,Array.mapM_eq_foldlM,<-Array.foldlM_toList];unfold lY at h;split at h
 case h_3=>cases h
 ·rename_i x b;cases h;exact uK rs [v] #[] b (by simpa [bG] using c)
 ·rename_i e f b;cases h;refine uK rs e #[] b ?_;simp only[Array.empty_append,bG];split
  ·rename_i hs;simp at hs;obtain ⟨v,rfl⟩:=List.length_eq_one_iff.1 hs;exact absurd rfl (f v)
  ·exact c
def iN (P:Program)(rs:List ResultVar)(R:Value->aa->Prop):Ex->Act->aa->Prop
 | .exit _,_,_=>False
 |_,a,F=>a.defers=[]/\match lY P F a rs with|some v=>R v F|none=>False
attribute [go_sem] iN
theorem aC.go {P:Program}{f:FuncId}{fn:Func}{c:Code}{n:Nat}{rs:List ResultVar}{args:Array Value}{F:aa}{R:Value->aa->Prop}(g:P.funcs[f]?=some fn)(hb:fn.body=some c)(j:fn.ntmps=n)(k:fn.results=rs.toArray)(l:args.size<=n)
  (h:∀main J,Closed P main J->∀A:Act,sz A=n->A.defers=[]->(∀i,slot A i=args.getD i undef)->Wp J c (iN P rs R) A F):aC P f args F R:=
 aC.start g hb j l fun main J hJ A h1 m o=>(h main J hJ A h1 m o).mono fun e a F d=>by
  cases e with
  |exit i=>exact d
  |_=>
   obtain ⟨hd,b⟩:=d
   split at b
   ·rename_i v p
    show g7 P a.defers _ F
    rw[hd]
    exact qX k p b
   ·exact b.elim
def cQ (n m:Nat):Array Bool:=(Array.range n).map fun i=>decide (i<m)
def oV (ops:Array Oper)(m:Nat):Bool:=
 Region.noSelect ops&&decide (m<=ops.size)&&((List.range m).all fun i=>Region.free .any ops (cQ ops.size i) i&&(Region.ready .any ops (cQ ops.size i)).contains i)&&
 ((List.range (ops.size - m)).all fun j=>decide (Region.ready .any ops (cQ ops.size (m+j))=[m+j]))&&decide (Region.ready .any ops (cQ ops.size ops.size)=[])
def D5 (D:List Nat)(L:List (List Nat))(x y:Nat):Bool:=RegionTabs.apart ⟨#[],D.toArray,L.toArray⟩ x y
def uL (A:List (List Nat))(D:List Nat)(L:List (List Nat))(n m:Nat):Bool:=
 decide (m<=n)&&((List.range m).all fun k=>(A.getD k []).all (fun x=>decide (x<k))&&(List.range n).all fun j=>decide (j<=k)||(A.getD j []).contains k||D5 D L k j)&&
 ((List.range (n - m)).all fun t=>(A.getD (m+t) []).all (fun x=>decide (x<m+t))&&(List.range (n - (m+t+1))).all fun u=>!(A.getD (m+t+1+u) []).all (fun x=>decide (x<m+t)))
section
variable {ops : Array Oper}
theorem zw {n k i:Nat}(h:i<n):(cQ n k).getD i true=decide (i<k):=by
 simp[cQ,Array.getD_eq_getD_getElem?,h]
theorem D6 {n k i:Nat}(a:k<=n):(cQ n k).getD i false=decide (i<k):=by
 rcases Nat.lt_or_ge i n with h|h
 ·simp[cQ,Array.getD_eq_getD_getElem?,h]
 ·have:¬i<k:=by omega
  simp[cQ,Array.getD_eq_getD_getElem?,Array.getElem?_eq_none,h,this]
theorem uM {A:List (List Nat)}{k:Nat}(a:Region.tabAfter .any ops=A)(b:k<=ops.size):
  Region.ready .any ops (cQ ops.size k)=(List.range ops.size).filter fun i=>!decide (i<k)&&(A.getD i []).all fun x=>decide (x<k):=by
 have hlen:A.length=ops.size:=by rw[<-a];simp[Region.tabAfter]
 rw[<-RegionTabs.ready_eq]
 unfold RegionTabs.ready RegionTabs.of
 simp only[a,List.size_toArray,hlen]
 apply List.filter_congr
 intro i hi
 have c:i<ops.size:=List.mem_range.1 hi
 rw[zw c]
 congr 1
 rw[List.getElem?_toArray,List.getD_eq_getElem?_getD,List.getElem?_eq_getElem (by omega)]
 simp only[Option.map_some,Option.getD_some]
 congr 1
 funext x
 exact D6 b
theorem filter_one {k:Nat}{p:Nat->Bool}(b:p k=true):∀(n:Nat),k<n->(∀i,i<n->i≠k->p i=false)->(List.range n).filter p=[k]
 |0,c,_=>by omega
 |n+1,c,a=>by
  rw[List.range_succ,List.filter_append]
  by_cases e:k=n
  ·subst e
   have:(List.range k).filter p=[]:=by
    rw[List.filter_eq_nil_iff]
    intro i hi
    have d:=List.mem_range.1 hi
    rw[a i (by omega) (by omega)];simp
   rw[this];simp[b]
  ·rw[filter_one b n (by omega) fun i hi=>a i (by omega)]
   simp[a n (by omega) (fun x=>e x.symm)]
theorem D7 {m n:Nat}(A:List (List Nat))(D:List Nat)(L:List (List Nat))(hs:Region.noSelect ops=true)(d:ops.size=n)(a:Region.tabAfter .any ops=A)(f:Region.tabDst ops=D)(g:Region.tabLooks ops=L)(h:uL A D L n m=true):oV ops m=true:=by
 subst d;have hlen:A.length=ops.size:=by rw[<-a];simp[Region.tabAfter]
 simp only[uL,Bool.and_eq_true,decide_eq_true_eq,List.all_eq_true,List.mem_range] at h;obtain ⟨⟨hm,h1⟩,c⟩:=h;simp only[oV,Bool.and_eq_true,decide_eq_true_eq,List.all_eq_true,List.mem_range];refine ⟨⟨⟨⟨hs,hm⟩,fun i hi=>⟨?_,?_⟩⟩,fun j b=>?_⟩,?_⟩
 ·rw[<-RegionTabs.free_eq];unfold RegionTabs.free;have e1:(RegionTabs.of .any ops).after=A.toArray:=by simp[RegionTabs.of,a]
  rw[e1,List.size_toArray,hlen];simp only[Bool.and_eq_true,decide_eq_true_eq,List.all_eq_true,List.mem_range];refine ⟨by omega,fun j b=>?_⟩;have:=(h1 i hi).2 j b;simp only[Bool.or_eq_true,decide_eq_true_eq] at this;simp only[Bool.or_eq_true];rcases this with (hle|k)|l
  ·rcases Nat.lt_or_eq_of_le hle with x|x
   ·left;left;right;rw[zw (by omega)];simpa using x
   ·left;left;left;simpa using x
  ·left;right;simpa [Array.getD_eq_getD_getElem?,List.getD_eq_getElem?_getD] using k
  ·right;have e:RegionTabs.of .any ops=⟨A.toArray,D.toArray,L.toArray⟩:=by simp[RegionTabs.of,a,f,g]
   rw[e];exact l
 ·rw[uM a (by omega)];rw[List.contains_iff_mem,List.mem_filter];refine ⟨List.mem_range.2 (by omega),?_⟩;have:=(h1 i hi).1;simpa [List.all_eq_true] using this
 ·have o:m+j<ops.size:=by omega
  rw[uM a (by omega)];refine filter_one ?_ _ o fun i hi aF=>?_
  ·have:=(c j b).1;simpa [List.all_eq_true] using this
  ·rcases Nat.lt_or_ge i (m+j) with x|x
   ·simp[x]
   ·have:=(c j b).2 (i - (m+j+1)) (by omega);rw[show m+j+1+(i - (m+j+1))=i by omega] at this;simp only[Bool.not_eq_true'] at this;simp only[this,Bool.and_false]
 ·rw[uM a (Nat.le_refl _)];rw[List.filter_eq_nil_iff];intro i hi;have:=List.mem_range.1 hi;simp[this]
def uN (n:Nat)(k:Nat->Bool):Bool:=Nat.casesOn n (k 0) fun m=>k (m+1)
def oW:List Nat->(List Nat->Bool)->Bool
 |[],k=>k []
 |x::xs,k=>uN x fun y=>oW xs fun ys=>k (y::ys)
def oX:List (List Nat)->(List (List Nat)->Bool)->Bool
 |[],k=>k []
 |x::xs,k=>oW x fun y=>oX xs fun ys=>k (y::ys)
theorem zx (n:Nat)(k:Nat->Bool):uN n k=k n:=by cases n<;>rfl
theorem uO:∀(l:List Nat) (k:List Nat->Bool),oW l k=k l
 |[],_=>rfl
 |x::xs,k=>by rw[oW,zx,uO xs]
theorem zy:∀(l:List (List Nat)) (k:List (List Nat)->Bool),oX l k=k l
 |[],_=>rfl
 |x::xs,k=>by rw[oX,uO,zy xs]
def nc (ops:Array Oper)(m:Nat):Bool:=Region.noSelect ops&&oX (Region.tabAfter .any ops) fun A=>oW (Region.tabDst ops) fun D=>oX (Region.tabLooks ops) fun L=>uN ops.size fun n=>uL A D L n m
theorem zz {m:Nat}(h:nc ops m=true):oV ops m=true:=by
 simp only[nc,Bool.and_eq_true,zy,uO,zx] at h;exact D7 _ _ _ h.1 rfl rfl rfl rfl h.2
end
def iO:List (Nat×Obj)->List (Nat×Obj)->Prop
 |[],_=>True
 |(b,o)::l,own=>lk own b=some o/\iO l own
def Knows (F0 F:aa):Prop:=(∀a v,F0.ro a=some v->F.ro a=some v)/\(∀a,a.block∈keys F0.own->F0.ro a=none->F.ro a=none)/\iO F0.own F.own
theorem iO.lk:∀{l own:List (Nat×Obj)} {b:Nat} {o:Obj},iO l own->lk l b=some o->Go.Sep.lk own b=some o
 |[],_,_,_,_,h=>by cases h
 |(c,x)::l,own,b,o,a,h=>by
  unfold Go.Sep.lk at h
  split at h
  ·rename_i e;cases h;exact e▸a.1
  ·exact iO.lk a.2 h
theorem Knows.get {F0 F:aa}(h:Knows F0 F){a:Addr}{v:Value}(hg:F0.get a=some v):F.get a=some v:=by
 unfold aa.get at hg ⊢;cases b:F0.ro a with
 |some x=>rw[b] at hg;rw[h.1 a x b];exact hg
 |none=>
  rw[b] at hg;simp only at hg;split at hg
  ·rename_i hs;obtain ⟨o,c,d⟩:=Option.bind_eq_some_iff.1 hg;rw[h.2.1 a (eK (gI c)) b];simp only;rw[if_pos hs,h.2.2.lk c];exact d
  ·cases hg
theorem D8 {ro:Addr->Option Value}{l own:List (Nat×Obj)}:Knows ⟨ro,l⟩ ⟨ro,own⟩=iO l own:=
 propext ⟨fun h=>h.2.2,fun h=>⟨fun _ _ x=>x,fun _ _ x=>x,h⟩⟩
theorem D9 {ro aM:Addr->Option Value}{l own:List (Nat×Obj)}(c:∀a v,ro a=some v->aM a=some v)(d:∀b∈keys l,∀off sp,aM ⟨b,off,sp⟩=none)(h:iO l own):Knows ⟨ro,l⟩ ⟨aM,own⟩:=
 ⟨c,fun a e _=>d a.block e a.off a.spot,h⟩
theorem Knows.lS {F0 F:aa}(h:Knows F0 F){a:Addr}:∀{n i:Nat} {b:List Value},F0.dj a i n=some b->F.dj a i n=some b
 |0,_,_,hg=>hg
 |n+1,i,b,hg=>by
  unfold aa.dj at hg ⊢
  split at hg
  case h_2=>cases hg
  rename_i v c
  split at hg
  case h_2=>cases hg
  rename_i ws d
  rw[h.get c,h.lS d]
  exact hg
theorem Knows.e7 {P:Program}{F0 F:aa}(h:Knows F0 F){t:TypeId}{ad:Addr}{v:Value}(hg:e7 P F0 t ad=some v):Go.Sep.e7 P F t ad=some v:=by
 unfold Go.Sep.e7 at hg ⊢;split at hg
 ·exact h.get hg
 ·split at hg
  case h_2=>cases hg
  rename_i n b;split at hg
  case h_2=>cases hg
  rename_i c a;rw[h.lS a];exact hg
 ·cases hg
def iP (P:Program)(o:Oper)(a:Act):Option Value:=
 match o.op with
 | .move x| .assign x=>some (ev a x)
 | .nilCheck x=>match ev a x with
  | .pointer (some ad)=>some (.pointer (some ad))
  |_=>none
 | .pick c x y=>match ev a c with
  | .bool b=>some (if b then ev a x else ev a y)
  |_=>none
 | .build t parts=>oR P t (parts.map fun (i,x)=>(i,ev a x)).toList
 | .binOp op t x y _=>oQ P op t (ev a x) (ev a y)
 | .unOp op _ x=>lT op (ev a x)
 | .convert src dst x=>lV P src dst (ev a x)
 | .makeFunc fn first captured=>some (.func fn (first.map (ev a)) (captured.map (ev a)))
 | .slice t x lo hi none=>match ev a x with
  | .slice ad len cap=>if len<=cap then m6 P t (.slice ad len cap) (lo.map (ev a)) (hi.map (ev a)) else none
  |_=>none
 | .fieldAddr s x n=>match ev a x with
  | .pointer (some ad)=>match cM P s n with
   |some k=>some (.pointer (some (ad.add k)))
   |none=>none
  |_=>none
 | .field s x n=>oS P s n (ev a x)
 | .indexAddr t x i=>oN P t (ev a x) (ev a i)
 | .index t x i=>oT P t (ev a x) (ev a i)
 | .extract x n=>qV n (ev a x)
 | .call {callee:=.builtin .len,args,argTypes}=>match argTypes[0]?,args[0]? with
  |some t,some x=>qW P t (ev a x)
  |_,_=>none
 | .call {callee:=.builtin .max,args, ..}=>match args.toList with
  |[x,y]=>qO (ev a x) (ev a y)
  |_=>none
 | .call {callee:=.builtin .min,args, ..}=>match args.toList with
  |[x,y]=>qP (ev a x) (ev a y)
  |_=>none
 |_=>none
theorem qY {P:Program}{J:Goroutine->aa->Prop}{o:Oper}{a:Act}{v:Value}{R:Value->aa->Prop}{F:aa}(h:iP P o a=some v)(d:R v F):cJ P J o R a F:=by
 obtain ⟨dst,op,type,pos,after,guard⟩:=o;unfold iP at h;unfold cJ;cases op<;>simp only[reduceCtorEq] at h ⊢
 case move x=>cases h;exact d
 case assign x=>cases h;exact d
 case nilCheck x=>
  split at h
  ·rename_i ad e;cases h;rw[e];exact d
  ·cases h
 case pick c x y=>
  split at h
  ·rename_i b hb;cases h;try rw[hb]
   exact d
  ·cases h
 case build t parts=>rw[h];exact d
 case binOp=>rw[h];exact d
 case unOp=>rw[h];exact d
 case convert=>rw[h];exact d
 case makeFunc=>cases h;exact d
 case slice t x lo hi g=>
  cases g with
  |some m=>cases h
  |none=>
   simp only at h ⊢;split at h
   case h_2=>cases h
   rename_i ad len cap e;split at h
   case isFalse=>cases h
   rename_i i;rw[e];exact ⟨i,by rw[h];exact d⟩
 case fieldAddr s x n=>
  split at h
  case h_2=>cases h
  rename_i ad e;split at h
  case h_2=>cases h
  rename_i k j;cases h;try rw[e]
  try simp only[j]
  exact d
 case field=>rw[h];exact d
 case indexAddr=>rw[h];exact d
 case index=>rw[h];exact d
 case extract=>rw[h];exact d
 case call c=>
  obtain ⟨callee,args,argTypes⟩:=c;cases callee with
  |value x=>cases h
  |invoke r m=>cases h
  |builtin b=>
   cases b<;>simp only[reduceCtorEq] at h ⊢
   case len=>
    split at h
    case h_2=>cases h
    rename_i t x ht e;simp only[ht,e,h];exact d
   case max=>
    split at h
    case h_2=>cases h
    rename_i x y f;simp only[f,h];exact d
   case min=>
    split at h
    case h_2=>cases h
    rename_i x y f;simp only[f,h];exact d
def Plain (P:Program)(J:Goroutine->aa->Prop)(F0:aa)(f:FuncId)(args:Array Value)(v:Value):Prop:=
 ∀F,Knows F0 F->cP P J f args F (fun a F'=>a=v/\F'=F)
def dW (P:Program)(J:Goroutine->aa->Prop)(ops:Array Oper)(F0:aa)(K:Act->Prop):List Oper->Bool->Act->Prop
 |[],_,a=>K a
 |o::rest,_,a=>match cz ops o a with
  |some false=>dW P J ops F0 K rest true (aZ a o.dst undef)
  |some true=>match o.op with
   | .load t x=>match ev a x with
    | .pointer (some ad)=>match e7 P F0 t ad with
     |some v=>dW P J ops F0 K rest true (aZ a o.dst v)
     |none=>False
    |_=>False
   | .call {callee:=.value x,args, ..}=>match ev a x with
    | .func (.func fn) first captured=>aH P fn=true/\∃v,Plain P J F0 fn (first++args.map (ev a)++captured) v/\dW P J ops F0 K rest false (aZ a o.dst v)
    |_=>False
   |_=>match iP P o a with
    |some v=>dW P J ops F0 K rest true (aZ a o.dst v)
    |none=>False
  |none=>False
theorem Ea {P:Program}{J:Goroutine->aa->Prop}{ops:Array Oper}{F0:aa}{K:Act->Prop}{go:Bool}{a:Act}:dW P J ops F0 K [] go a=K a:=rfl
theorem Eb {P:Program}{J:Goroutine->aa->Prop}{ops:Array Oper}{F0:aa}{K:Act->Prop}{o:Oper}{rest:List Oper}{a:Act}:dW P J ops F0 K (o::rest) true a=match cz ops o a with
  |some false=>dW P J ops F0 K rest true (aZ a o.dst undef)
  |some true=>match o.op with
   | .load t x=>match ev a x with
    | .pointer (some ad)=>match e7 P F0 t ad with
     |some v=>dW P J ops F0 K rest true (aZ a o.dst v)
     |none=>False
    |_=>False
   | .call {callee:=.value x,args, ..}=>match ev a x with
    | .func (.func fn) first captured=>aH P fn=true/\∃v,Plain P J F0 fn (first++args.map (ev a)++captured) v/\dW P J ops F0 K rest false (aZ a o.dst v)
    |_=>False
   |_=>match iP P o a with
    |some v=>dW P J ops F0 K rest true (aZ a o.dst v)
    |none=>False
  |none=>False:=(Eq.refl _).trans (Eq.refl _)
theorem bZ {P:Program}{J:Goroutine->aa->Prop}{ops:Array Oper}{F0:aa}{K:Act->Prop}:∀{l:List Oper} {go:Bool} {a:Act},dW P J ops F0 K l true a->dW P J ops F0 K l go a
 |[],_,_,h=>h
 |_::_,_,_,h=>h
theorem qZ {n m:Nat}(h:m<n):(cQ n m).setIfInBounds m true=cQ n (m+1):=by
 apply Array.ext
 ·simp[cQ]
 ·intro i h1 a;simp[cQ] at h1 a;rw[Array.getElem_setIfInBounds (by simp[cQ];omega)];by_cases e:m=i
  ·subst e;simp[cQ]
  ·simp only[if_neg e,cQ,Array.getElem_map,Array.getElem_range];rw[decide_eq_decide];omega
theorem zA (n:Nat):cQ n 0=Array.replicate n false:=by
 apply Array.ext
 ·simp[cQ]
 ·intro i h1 a;simp[cQ]
section
variable {P : Program} {main : Bool} {J : Goroutine → aa → Prop} {ops : Array Oper} {Q : Act → aa → Prop} {F0 : aa}
theorem q2 {K:Act->Prop}(m:Nat)(hm:m<=ops.size)(r:Region.noSelect ops=true)(s:∀i,i<m->(Region.free .any ops (cQ ops.size i) i&&(Region.ready .any ops (cQ ops.size i)).contains i)=true)
  {F:aa} (b:Knows F0 F) (u:∀a,K a->dI P J ops Q (Knows F0) (ops.size - m) (cQ ops.size m) a F):
  ∀(l:List Oper) (k:Nat) (go:Bool) (a:Act),(ops.toList.take m).drop k=l->k<=m->dW P J ops F0 K l go a->dI P J ops Q (Knows F0) (ops.size - k) (cQ ops.size k) a F
 |[],k,_,a,c,A,h=>by
  have:k=m:=by
   have:=congrArg List.length c
   simp at this
   omega
  subst this
  exact u a h
 |o::rest,k,_,a,c,A,h=>by
  have g:k<m:=by
   rcases Nat.lt_or_ge k m with x|x
   ·exact x
   ·rw[List.drop_eq_nil_of_le (by simp;omega)] at c;cases c
  have j:ops[k]?=some o:=by
   have:=congrArg List.head? c
   rw[List.head?_drop,List.getElem?_take_of_lt g] at this
   simpa using this
  have y:(ops.toList.take m).drop (k+1)=rest:=by
   have:=congrArg List.tail c
   simpa [List.tail_drop] using this
  have B:=s k g
  have e:ops.size - k=(ops.size - (k+1))+1:=by omega
  have z:=qZ (n:=ops.size) (m:=k) (by omega)
  have p:(Region.noSelect ops&&Region.free .any ops (cQ ops.size k) k&&(Region.ready .any ops (cQ ops.size k)).contains k)=true:=by
   rw[r,Bool.true_and];exact B
  rw[e]
  unfold dW at h
  split at h
  ·rename_i hg
   exact zu k j p hg b (by rw[z];exact q2 m hm r s b u rest (k+1) _ _ y g h)
  ·rename_i hg
   have next:∀go v,dW P J ops F0 K rest go (aZ a o.dst v)->dI P J ops Q (Knows F0) (ops.size - (k+1)) ((cQ ops.size k).setIfInBounds k true) (aZ a o.dst v) F:=fun go v d=>by
    rw[z];exact q2 m hm r s b u rest (k+1) _ _ y g d
   split at h
   ·rename_i t x w
    split at h
    case h_2=>exact h.elim
    rename_i ad C
    split at h
    case h_2=>exact h.elim
    rename_i v d
    refine m9 k v j p hg (fun F R q f=>?_) b (next _ v h)
    unfold cJ
    simp only[w,C,q.e7 d]
    exact f
   ·rename_i x args argTypes w
    split at h
    case h_2=>exact h.elim
    rename_i fn first captured D
    obtain ⟨E,v,G,h⟩:=h
    refine m9 k v j p hg (fun F R q f=>?_) b (next _ v h)
    unfold cJ
    simp only[w,D]
    exact ⟨E,(G F q).mono fun I F' H=>by obtain ⟨rfl,rfl⟩:=H;exact f⟩
   ·split at h
    case h_2=>exact h.elim
    rename_i v d
    exact m9 k v j p hg (fun F R q f=>qY d f) b (next _ v h)
  ·exact h.elim
def eC (P:Program)(J:Goroutine->aa->Prop)(ops:Array Oper)(F0:aa)(Q:Act->aa->Prop):List Oper->Bool->Act->aa->Prop
 |[],_,a,F=>Q a F
 |o::rest,_,a,F=>match cz ops o a with
  |some true=>cJ P J o (fun v F'=>Knows F0 F'/\eC P J ops F0 Q rest (!Oper.calls o) (aZ a o.dst v) F') a F
  |_=>False
theorem Ec {P:Program}{J:Goroutine->aa->Prop}{ops:Array Oper}{F0:aa}{Q:Act->aa->Prop}{go:Bool}{a:Act}{F:aa}:eC P J ops F0 Q [] go a F=Q a F:=rfl
theorem Ed {P:Program}{J:Goroutine->aa->Prop}{ops:Array Oper}{F0:aa}{Q:Act->aa->Prop}{o:Oper}{rest:List Oper}{a:Act}{F:aa}:eC P J ops F0 Q (o::rest) true a F=match cz ops o a with
  |some true=>cJ P J o (fun v F'=>Knows F0 F'/\eC P J ops F0 Q rest (!Oper.calls o) (aZ a o.dst v) F') a F
  |_=>False:=(Eq.refl _).trans (Eq.refl _)
theorem jT {P:Program}{J:Goroutine->aa->Prop}{ops:Array Oper}{F0:aa}{Q:Act->aa->Prop}:∀{l:List Oper} {go:Bool} {a:Act} {F:aa},eC P J ops F0 Q l true a F->eC P J ops F0 Q l go a F
 |[],_,_,_,h=>h
 |_::_,_,_,_,h=>h
theorem lZ (m:Nat)(i:∀j,j<ops.size - m->Region.ready .any ops (cQ ops.size (m+j))=[m+j])(n:Region.ready .any ops (cQ ops.size ops.size)=[]):
  ∀(l:List Oper) (k:Nat) (go:Bool) (a:Act) (F:aa),m<=k->k<=ops.size->ops.toList.drop k=l->eC P J ops F0 Q l go a F->dI P J ops Q (Knows F0) (ops.size - k) (cQ ops.size k) a F
 |[],k,_,a,F,s,u,f,h=>by
  have:k=ops.size:=by
   have:=congrArg List.length f
   simp at this
   omega
  subst this
  exact yY n h _
 |o::rest,k,_,a,F,s,u,f,h=>by
  have w:k<ops.size:=by
   rcases Nat.lt_or_ge k ops.size with x|x
   ·exact x
   ·rw[List.drop_eq_nil_of_le (by simpa using x)] at f;cases f
  have y:ops[k]?=some o:=by
   have:=congrArg List.head? f
   simpa [List.head?_drop] using this
  have z:ops.toList.drop (k+1)=rest:=by
   have:=congrArg List.tail f
   simpa [List.tail_drop] using this
  have e:ops.size - k=(ops.size - (k+1))+1:=by omega
  have p:=i (k - m) (by omega)
  rw[show m+(k - m)=k by omega] at p
  rw[e]
  unfold eC at h
  split at h
  ·rename_i hg
   refine zv k y p hg ?_
   refine q3 ?_ h
   rintro v F' ⟨h1,g⟩
   refine ⟨h1,?_⟩
   rw[qZ w]
   exact lZ m i n rest (k+1) _ _ F' (by omega) (by omega) z g
  ·exact h.elim
where
 q3 {o:Oper} {a:Act} {F:aa} {R q:Value->aa->Prop} (d:∀v F,R v F->q v F) (h:cJ P J o R a F):cJ P J o q a F:=by
  obtain ⟨dst,op,type,pos,after,guard⟩:=o
  unfold cJ at h ⊢
  cases op<;>simp only at h ⊢<;>first
   |exact h.elim
   |exact d _ _ h
   |exact fun b hb=>d _ _ (h b hb)
   |exact gL (fun v F h=>d v F h) _ _ h
   |(split at h<;>first
     |exact h.elim
     |exact d _ _ h
     |exact fun b hb=>d _ _ (h b hb)
     |(split at h<;>first|exact h.elim|exact d _ _ h|exact fun b hb=>d _ _ (h b hb)))
   |skip
  case slice t x lo hi A=>
   cases A with
   |some m=>exact h.elim
   |none=>
    refine ⟨h.1,?_⟩
    have g:=h.2
    revert g
    cases m6 P t (ev a x) (lo.map (ev a)) (hi.map (ev a)) with
    |some v=>exact fun x=>d _ _ x
    |none=>exact fun x=>x
  case call c=>
   obtain ⟨callee,args,argTypes⟩:=c
   cases callee with
   |value x=>
    exact gw.mono h d
   |invoke r m=>exact h.elim
   |builtin b=>
    cases b<;>simp only at h ⊢<;>first
     |exact h.elim
     |(split at h<;>first|exact h.elim|exact fun ty=>gL (fun v F ⟨F0,hle,h⟩=>⟨F0,hle,d _ _ h⟩) _ _ (h ty))
     |exact gL (fun v F h=>d v F h) _ _ h
     |(split at h<;>first|exact h.elim|(split at h<;>first|exact h.elim|exact d _ _ h|exact gL (fun v F h=>d v F h) _ _ h))
theorem e9 {Q:Ex->Act->aa->Prop}(hJ:Closed P main J)(e:P.follows .mixedOrders=true)(m:Nat){id:Nat}{a:Act}{F:aa}(F0:aa)(f:Knows F0 F)(g:nc ops m=true)
  (h:dW P J ops F0 (fun b=>eC P J ops F0 (Q .normal) (ops.toList.drop m) true b F) (ops.toList.take m) true a):Wp J (.region id ops true) Q a F:=by
 have c:=zz g
 simp only[oV,Bool.and_eq_true,decide_eq_true_eq,List.all_eq_true,List.mem_range] at c
 obtain ⟨⟨⟨⟨h1,d⟩,j⟩,k⟩,l⟩:=c
 refine uh hJ (Knows F0) e ?_
 rw[<-zA]
 have:=q2 (P:=P) (J:=J) (Q:=Q .normal) m d h1 (fun i hi=>by have:=j i hi;simpa using this) f (fun b n=>lZ m k l _ m _ b F (Nat.le_refl _) d rfl n) _ 0 true a (by simp) (Nat.zero_le _) h
 simpa using this
theorem bD (hJ:Closed P main J){F0:aa}{f:FuncId}{args:Array Value}{v:Value}(h:∀F,Knows F0 F->aC P f args F.cq (fun a _=>a=v)):Plain P J F0 f args v:=
 fun F b=>um (h F b) main J hJ
end
attribute [irreducible] dW eC
attribute [go_sem] iO D8 iP Ea Eb Ec Ed qG List.take_succ_cons List.take_zero List.drop_succ_cons List.drop_zero Array.zipIdx_toArray List.zipIdx_cons List.zipIdx_nil List.foldl_toArray List.foldl_toArray' decide_eq_true_eq Bool.and_false Bool.false_and Bool.and_self Bool.true_and Bool.and_true List.foldl_cons List.foldl_nil decide_false decide_true Bool.or_false Bool.false_or Bool.or_self Bool.or_true Bool.true_or gt_iff_lt Nat.reduceGT Nat.lt_irrefl Bool.false_eq_true Nat.zero_add Nat.add_zero Nat.not_lt_zero
section
variable {P : Program} {main : Bool} {J : Goroutine → aa → Prop} {Q : Ex → Act → aa → Prop} {a : Act} {F : aa}
theorem bg (hJ:Closed P main J){f:FuncId}{args:Array Value}{F:aa}{K:Value->aa->Prop}(v:Value)(h:aC P f args F.cq (fun a _=>a=v))(b:K v F):cP P J f args F K:=
 (um h main J hJ).mono fun a F' c=>by obtain ⟨rfl,rfl⟩:=c;exact b
theorem bP (hJ:Closed P main J){c:Operand}{x y:Code}(b:ev a c= .bool true)(h:Wp J x Q a F):Wp J (.cond c x y) Q a F:=ua hJ true b h
theorem bL (hJ:Closed P main J){c:Operand}{x y:Code}(b:ev a c= .bool false)(h:Wp J y Q a F):Wp J (.cond c x y) Q a F:=ua hJ false b h
theorem Ee (hJ:Closed P main J){c:Operand}{x y:Code}(b:Bool)(d:ev a c= .bool b)(h1:b=true->Wp J x Q a F)(e:b=false->Wp J y Q a F):Wp J (.cond c x y) Q a F:=by
 refine ua hJ b d ?_;cases b
 ·exact e rfl
 ·exact h1 rfl
theorem cF (hJ:Closed P main J){c:Code}{F':aa}(hle:Le F F')(h:Wp J c Q a F):Wp J c Q a F':=h.le (hJ:=hJ) hle
theorem Le.sub {ro:Addr->Option Value}{l l':List (Nat×Obj)}(h:l.Sublist l'):Le ⟨ro,l⟩ ⟨ro,l'⟩:=by
 have c:(keys l).Sublist (keys l'):=h.map _;exact ⟨fun w hw=>⟨hw.ro,fun b o hb=>hw.own b o (h.subset hb),c.nodup hw.nodup,fun a v d hm=>hw.apart a v d (c.subset hm)⟩,fun b hb=>c.subset hb,fun a e=>.inl e⟩
theorem uP (hJ:Closed P main J){c:Code}(I:Nat->Act->aa->Prop)(n:Nat)(h0:I n a F)(hs:∀n a F,I n a F->Wp J c (qG (fun m a F=>∃F0,Le F0 F/\I m a F0) n Q) a F):Wp J (.loop c) Q a F:=
 y3 hJ (fun m a F=>∃F0,Le F0 F/\I m a F0) n ⟨F,Le.refl F,h0⟩ fun n a F ⟨F0,hle,b⟩=>cF hJ hle (hs n a F0 b)
end
def jU:List Nat->Nat->Bool
 |[],_=>false
 |w::ws,i=>i==w||jU ws i
abbrev In (ws:List Nat)(i:Nat):Prop:=jU ws i=true
structure cG (ws:List Nat)(a a0:Act):Prop where
 size:sz a=sz a0
 defers:a.defers=a0.defers
 fc:∀i,¬In ws i->slot a i=slot a0 i
theorem cG.refl (ws:List Nat)(a:Act):cG ws a a:=⟨rfl,rfl,fun _ _=>rfl⟩
theorem cG.trans {ws:List Nat}{a b c:Act}(h:cG ws a b)(k:cG ws b c):cG ws a c:=⟨h.size.trans k.size,h.defers.trans k.defers,fun i hi=>(h.fc i hi).trans (k.fc i hi)⟩
theorem cG.sub {ws c:List Nat}{a b:Act}(hs:∀i,In ws i->In c i)(h:cG ws a b):cG c a b:=⟨h.size,h.defers,fun i hi=>h.fc i fun x=>hi (hs i x)⟩
theorem Ef {ws:List Nat}{a:Act}:cG ws a a=True:=eq_true (cG.refl ws a)
theorem Eg {ws:List Nat}{a a0:Act}{d:Nat}{v:Value}(h:jU ws d=true):cG ws (aZ a (some d) v) a0=cG ws a a0:=by
 apply propext;constructor
 ·intro k;refine ⟨by rw[<-k.size,ze],by rw[<-k.defers,zf],fun i hi=>?_⟩;rw[<-k.fc i hi,uu _ _ _ _ (fun e=>hi (by subst e;exact h))]
 ·intro k;refine ⟨by rw[<-k.size,ze],by rw[<-k.defers,zf],fun i hi=>?_⟩;rw[<-k.fc i hi,uu _ _ _ _ (fun e=>hi (by subst e;exact h))]
def fX (ws a:List Nat):Bool:=ws.all fun w=>jU a w
theorem zB:∀{ws:List Nat} {i:Nat},jU ws i=true->i∈ws
 |[],_,h=>by cases h
 |w::ws,i,h=>by
  simp only[jU,Bool.or_eq_true,beq_iff_eq] at h
  rcases h with h|h
  ·rw[h];exact List.mem_cons_self
  ·exact List.mem_cons_of_mem _ (zB h)
theorem cG.fX {ws c:List Nat}{a b:Act}(h:cG ws a b)(hs:Sep.fX ws c=true):cG c a b:=h.sub fun i hi=>by
 have:=zB hi
 exact List.all_eq_true.1 hs i this
attribute [go_sem] jU Ef Eg or_true true_or or_false false_or Nat.reduceBEq
section
variable {P : Program} {main : Bool} {J : Goroutine → aa → Prop} {Q : Ex → Act → aa → Prop} {a : Act} {F : aa}
theorem bU (hJ:Closed P main J){c:Code}(ws:List Nat)(I:Nat->Act->aa->Prop)(n:Nat)(h0:I n a F)
  (hs:∀n b F',cG ws b a->I n b F'->Wp J c (qG (fun m a2 d=>cG ws a2 b/\∃F0,Le F0 d/\I m a2 F0) n Q) b F'):Wp J (.loop c) Q a F:=
 y3 hJ (fun m a2 d=>cG ws a2 a/\∃F0,Le F0 d/\I m a2 F0) n ⟨.refl ws a,F,Le.refl F,h0⟩ fun n b F' ⟨g,F0,hle,h⟩=>
  cF hJ hle ((hs n b F0 g h).mono fun e a2 d f=>by
   cases e with
   |normal=>obtain ⟨m,hm,h1,j⟩:=f;exact ⟨m,hm,h1.trans g,j⟩
   |exit i=>exact f
   |ret=>exact f)
end
def Ext (ro aM:Addr->Option Value):Prop:=∀a v,ro a=some v->aM a=some v
theorem Ext.refl (ro:Addr->Option Value):Ext ro ro:=fun _ _ h=>h
theorem Ext.trans {r s t:Addr->Option Value}(h:Ext r s)(k:Ext s t):Ext r t:=fun a v x=>k a v (h a v x)
def bR (ro:Addr->Option Value)(b:Nat)(o:Obj):Addr->Option Value:=fun a=>match ro a with
 |some v=>some v
 |none=>if a.block=b/\a.spot=none then cellOf o a.off else none
theorem fY (ro:Addr->Option Value)(b:Nat)(o:Obj):Ext ro (bR ro b o):=fun a v h=>by simp[bR,h]
theorem iQ {ro:Addr->Option Value}{b off:Nat}{o:Obj}(h:∀off sp,ro ⟨b,off,sp⟩=none):bR ro b o ⟨b,off,none⟩=cellOf o off:=by simp[bR,h]
theorem jV {ro:Addr->Option Value}{own e:List (Nat×Obj)}{b:Nat}{o:Obj}(i:lk own b=some o)(hs:e.Sublist own)(hb:au e b):Le ⟨bR ro b o,e⟩ ⟨ro,own⟩:=by
 have g:(keys e).Sublist (keys own):=hs.map _;have hm:=gI i;have j:b∉keys e:=by
  clear i hs g hm
  induction e with
  |nil=>simp[keys]
  |cons x l ih=>
   simp only[keys,List.map_cons,List.mem_cons,not_or];exact ⟨hb.1,ih hb.2⟩
 refine ⟨fun w hw=>⟨fun a v h=>?_,fun c x d=>hw.own c x (hs.subset d),g.nodup hw.nodup,fun a v h d=>?_⟩,fun c d=>g.subset d,fun a k=>?_⟩
 ·replace h:bR ro b o a=some v:=h;unfold bR at h;split at h
  ·rename_i x f;cases h;exact hw.ro _ _ f
  ·split at h
   ·rename_i d;have:=hw.own b o hm;rw[<-d.1] at this;cases o<;>simp only[cellOf,reduceCtorEq] at h;simp[World.cell?,this,d.2,h]
   ·cases h
 ·replace h:bR ro b o a=some v:=h;unfold bR at h;split at h
  ·rename_i x f;exact hw.apart a x f (g.subset d)
  ·split at h
   ·rename_i m;rw[m.1] at d;exact j d
   ·cases h
 ·obtain ⟨v,h⟩:=Option.isSome_iff_exists.1 k;replace h:bR ro b o a=some v:=h;unfold bR at h;split at h
  ·rename_i x f;exact .inl (by simp[f])
  ·split at h
   ·rename_i d;exact .inr (by rw[d.1];exact eK hm)
   ·cases h
def eD (P:Program)(f:FuncId)(args:Array Value)(ro:Addr->Option Value)(R:Value->(Addr->Option Value)->Prop):Prop:=
 aC P f args ⟨ro,[]⟩ (fun v G=>∃aM,Ext ro aM/\Le ⟨aM,[]⟩ G/\R v aM)
def l5 (F G:aa):Prop:=∀a,(G.ro a).isSome=true->a.block∉keys F.own
def uQ (J:Goroutine->aa->Prop)(F:aa)(g:Goroutine)(G:aa):Prop:=Fits F G->l5 F G->J g (G.star F)
theorem zC {P:Program}{main:Bool}{J:Goroutine->aa->Prop}(hJ:Closed P main J)(F:aa):Closed P main (uQ J F) where
 mono {g G I} hle h c i:=by
  have n:=c.le hle
  have u:l5 F G:=fun a d=>(hle.ro a d).elim (i a) (c.own _)
  refine hJ.mono ⟨fun w hw=>n.both (hle.has w (c.right hw)) (c.left hw),fun b hb=>?_,fun a d=>?_⟩ (h n u)
  ·simp only[aa.star,cj,List.mem_append] at hb ⊢
   exact hb.imp (hle.own b) id
  ·rcases jP d with x|x
   ·exact (gu (.inl x)).imp id (fun y=>by simp only[aa.star,cj,List.mem_append];exact .inr y)
   ·rcases hle.ro a x with y|y
    ·exact (gu (.inr y)).imp id (fun z=>by simp only[aa.star,cj,List.mem_append];exact .inr z)
    ·exact .inr (by simp only[aa.star,cj,List.mem_append];exact .inl y)
 step {fr cs G} h c i:=by
  refine hJ.step fun w hw=>?_
  have A:=c.right hw
  have f:=c.left hw
  obtain ⟨g',w',es,k,hgo,hu,p,B,C⟩:=h w A
  have q:Has F w':=by
   refine ⟨fun a v l=>?_,fun b o hb=>?_,f.nodup,f.apart⟩
   ·have h0:=f.ro a v l
    have D:=f.gK (a:=a) (by simp[l])
    unfold World.cell? at h0 ⊢
    rw[hu.frame _ D (c.ro a (by simp[l]))]
    exact h0
   ·rw[hu.frame b (f.lt (eK hb)) (fun hm=>c.own b hm (eK hb))]
    exact f.own b o hb
  have s:Fits F k:=by
   refine ⟨⟨w',p,q⟩,fun b hb hm=>?_,fun a d hm=>?_⟩
   ·rcases hu.own b hb with x|x
    ·exact c.own b x hm
    ·have:=f.lt hm;omega
   ·rcases hu.own _ hm with x|x
    ·exact c.ro a d x
    ·have:=f.gK d;omega
  have E:l5 F k:=fun a d hm=>by
   rcases hu.ro a d with x|x|x
   ·exact i a x hm
   ·exact c.own _ x hm
   ·have:=f.lt hm;omega
  refine ⟨g',w',es,k.star F,hgo,⟨hu.os,hu.tape,hu.output,hu.size,fun b hb i=>hu.frame b hb fun hm=>i ?_,fun a d=>?_,fun b hb=>?_⟩,s.both p q,fun e he=>?_,C s E⟩
  ·simp only[aa.star,cj,List.mem_append];exact .inl hm
  ·rcases jP d with x|x
   ·exact (gu (.inl x)).imp id (fun y=>.inl (by simp only[aa.star,cj,List.mem_append];exact .inr y))
   ·rcases hu.ro a x with y|y|y
    ·exact (gu (.inr y)).imp id (fun z=>.inl (by simp only[aa.star,cj,List.mem_append];exact .inr z))
    ·exact .inr (.inl (by simp only[aa.star,cj,List.mem_append];exact .inl y))
    ·exact .inr (.inr y)
  ·simp only[aa.star,cj,List.mem_append] at hb ⊢
   rcases hb with hb|hb
   ·exact (hu.own b hb).imp .inl id
   ·exact .inl (.inr hb)
  ·have t:∀b,gJ G w.heap.size w'.heap.size b->gJ (G.star F) w.heap.size w'.heap.size b:=fun b hb=>hb.imp (fun x=>by simp only[aa.star,cj,List.mem_append];exact .inl x) id
   rcases B e he with ⟨a,wr,rfl,j|⟨H,j⟩⟩|⟨r,wr,rfl,j⟩|⟨m,rfl,hm⟩
   ·exact .inl ⟨a,wr,rfl,.inl (t _ j)⟩
   ·rcases gu (F:=F) (.inr j) with y|y
    ·exact .inl ⟨a,wr,rfl,.inr ⟨H,y⟩⟩
    ·exact .inl ⟨a,wr,rfl,.inl (.inl (by simp only[aa.star,cj,List.mem_append];exact .inr y))⟩
   ·exact .inr (.inl ⟨r,wr,rfl,t _ j⟩)
   ·exact .inr (.inr ⟨m,rfl,hm⟩)
section
variable {P : Program} {main : Bool} {J : Goroutine → aa → Prop}
theorem uR (hJ:Closed P main J){f:FuncId}{args:Array Value}{ro:Addr->Option Value}{own:List (Nat×Obj)}{K:Value->aa->Prop}(R:Value->(Addr->Option Value)->Prop)(h:eD P f args ro R)
  (r:∀v aM,Ext ro aM->(∀b∈keys own,∀off sp,aM ⟨b,off,sp⟩=none)->R v aM->K v ⟨aM,own⟩):cP P J f args ⟨ro,own⟩ K:=by
 intro c cs s
 by_cases hw:∃w,Has ⟨ro,own⟩ w
 ·obtain ⟨i,j⟩:=hw
  let F:aa:=⟨fun _=>none,own⟩
  have m:∀w,Has ⟨ro,own⟩ w->Has F w:=fun w hw=>⟨fun a v h=>(by cases h),hw.own,hw.nodup,fun a v h=>(by cases h)⟩
  have n:∀w,Has ⟨ro,own⟩ w->Has ⟨ro,[]⟩ w:=fun w hw=>⟨hw.ro,fun b o hb=>(by cases hb),List.nodup_nil,fun a v e hm=>(by cases hm)⟩
  have p:Fits F ⟨ro,[]⟩:=⟨⟨i,n i j,m i j⟩,fun b hb=>(by cases hb),fun a d hm=>(by cases hm)⟩
  have t:l5 F ⟨ro,[]⟩:=fun a d hm=>by
   obtain ⟨v,u⟩:=Option.isSome_iff_exists.1 d
   exact j.apart a v u hm
  have y:uQ J F (G (Frame.enter P f args .normal) (c::cs)) ⟨ro,[]⟩:=by
   refine h main _ (zC hJ F) c cs fun v G k l A=>?_
   obtain ⟨aM,B,hle,k⟩:=k
   have q:∀a,(aM a).isSome=true->a.block∉keys own:=fun a d=>(hle.ro a d).elim (A a) (l.own _)
   refine hJ.mono (F:=⟨aM,own⟩) ⟨fun w hw=>?_,fun b hb=>?_,fun a d=>?_⟩ (s v ⟨aM,own⟩ (r v aM B (fun b hb off sp=>?_) k))
   ·have C:=hle.has w (l.right hw)
    have g:=l.left hw
    exact ⟨C.ro,g.own,g.nodup,fun a v e=>q a (by simp only at e;simp[e])⟩
   ·simp only[aa.star,cj,List.mem_append];exact .inr hb
   ·rcases hle.ro a d with x|x
    ·exact (gu (.inr x)).imp id (fun z=>by simp only[aa.star,cj,List.mem_append];exact .inr z)
    ·exact .inr (by simp only[aa.star,cj,List.mem_append];exact .inl x)
   ·cases e:aM ⟨b,off,sp⟩ with
    |none=>rfl
    |some v=>exact absurd hb (q ⟨b,off,sp⟩ (by simp[e]))
  refine hJ.mono ⟨fun w hw=>p.both (n w hw) (m w hw),fun b hb=>?_,fun a d=>?_⟩ (y p t)
  ·simpa [aa.star,F] using hb
  ·rcases jP d with x|x
   ·cases x
   ·exact .inl x
 ·exact hJ.step fun w g=>absurd ⟨w,g⟩ hw
end
attribute [go_sem] beq_self_eq_true beq_iff_eq beq_true beq_false Int.toNat_natCast Int.natCast_nonneg Int.ofNat_lt Nat.zero_mul Nat.mul_one List.length_map Bool.not_eq_true Bool.not_not decide_not
inductive Fl (σ ρ:Type) where
 |nx (s:σ)
 |bk (s:σ)
 |br (k:Nat) (s:σ)
 |rt (r:ρ)
def ag {α β:Type}(x:Option α)(f:α->Option β):Option β:=match x with
 |some a=>f a
 |none=>none
theorem fM {α β:Type}{x:Option α}{f:α->Option β}{r:β}(h:ag x f=some r):∃a,x=some a/\f a=some r:=by
 cases x with
 |none=>cases h
 |some a=>exact ⟨a,rfl,h⟩
theorem iR {α:Type}{b:Bool}{x y:Option α}{r:α}(h:cond b x y=some r):(b=true/\x=some r)\/(b=false/\y=some r):=by
 cases b
 ·exact .inr ⟨rfl,h⟩
 ·exact .inl ⟨rfl,h⟩
def aG {σ ρ τ:Type}(o:Fl σ ρ)(f:σ->Option τ)(g:Nat->σ->Option τ)(h:ρ->Option τ):Option τ:=match o with
 | .nx s=>f s
 | .bk s=>f s
 | .br k s=>g k s
 | .rt r=>h r
def bn {σ ρ:Type}(f:σ->Option (Fl σ ρ)):Nat->σ->Option (Fl σ ρ)
 |0,_=>none
 |n+1,s=>ag (f s) fun o=>match o with
  | .nx s'=>bn f n s'
  | .bk s'=>some (.nx s')
  | .br k s'=>some (.br k s')
  | .rt r=>some (.rt r)
def bF {α σ ρ:Type}(f:Nat->α->σ->Option (Fl σ ρ)):Nat->List α->σ->Option (Fl σ ρ)
 |_,[],s=>some (.nx s)
 |i,x::l,s=>ag (f i x s) fun o=>match o with
  | .nx s'=>bF f (i+1) l s'
  | .bk s'=>some (.nx s')
  | .br k s'=>some (.br k s')
  | .rt r=>some (.rt r)
def fu:Nat:=1000000000000000000
def bp {α:Type}(l:List α)(i:Int):Option α:=if 0<=i then l[i.toNat]? else none
theorem c5 {α:Type}{l:List α}{i:Int}{x:α}(h:bp l i=some x):0<=i/\i<l.length/\l[i.toNat]?=some x:=by
 unfold bp at h;split at h
 ·rename_i h0;obtain ⟨hi,_⟩:=List.getElem?_eq_some_iff.1 h;exact ⟨h0,by omega,h⟩
 ·cases h
def c6 {α:Type}(l xs:List α):Option (List α):=if l.length+xs.length<=1000000 then some (l++xs) else none
theorem dr {α:Type}{l xs r:List α}(h:c6 l xs=some r):l.length+xs.length<=1000000/\r=l++xs:=by
 unfold c6 at h;split at h
 ·rename_i h0;cases h;exact ⟨h0,rfl⟩
 ·cases h
def g9 {α:Type}(l:List α)(lo hi:Int):Option (List α):=if 0<=lo/\lo<=hi/\hi<=l.length then some ((l.take hi.toNat).drop lo.toNat) else none
theorem oY {α:Type}{l r:List α}{lo hi:Int}(h:g9 l lo hi=some r):0<=lo/\lo<=hi/\hi<=l.length/\r=(l.take hi.toNat).drop lo.toNat:=by
 unfold g9 at h;split at h
 ·rename_i h0;cases h;exact ⟨h0.1,h0.2.1,h0.2.2,rfl⟩
 ·cases h
def fF (a b:Int):Option Int:=if b=0 then none else some (IntKind.i64.wrap (a.tdiv b))
theorem jW {a b r:Int}(h:fF a b=some r):¬b=0/\IntKind.i64.wrap (a.tdiv b)=r:=by
 unfold fF at h;split at h
 ·cases h
 ·rename_i h0;cases h;exact ⟨h0,rfl⟩
def iS (a b:Int):Option Int:=if b=0 then none else some (a.tmod b)
theorem q4 {a b r:Int}(h:iS a b=some r):¬b=0/\a.tmod b=r:=by
 unfold iS at h;split at h
 ·cases h
 ·rename_i h0;cases h;exact ⟨h0,rfl⟩
def uS (a b:Int):Option Int:=if b<0 then none else some (IntKind.i64.wrap (a*2 ^ min b.toNat 64))
theorem Eh {a b r:Int}(h:uS a b=some r):¬b<0/\IntKind.i64.wrap (a*2 ^ min b.toNat 64)=r:=by
 unfold uS at h;split at h
 ·cases h
 ·rename_i h0;cases h;exact ⟨h0,rfl⟩
def uT (a b:Int):Option Int:=if b<0 then none else some (a.fdiv (2 ^ min b.toNat 64))
theorem Ei {a b r:Int}(h:uT a b=some r):¬b<0/\a.fdiv (2 ^ min b.toNat 64)=r:=by
 unfold uT at h;split at h
 ·cases h
 ·rename_i h0;cases h;exact ⟨h0,rfl⟩
def zD (a b:Int):Int:=IntKind.i64.wrap (BitVec.ofInt 64 a&&& BitVec.ofInt 64 b).toNat
theorem Ej (a b:Int):IntKind.i64.wrap (BitVec.ofInt IntKind.i64.bits a&&& BitVec.ofInt IntKind.i64.bits b).toNat=zD a b:=rfl
attribute [go_sem ↓] Ej
def Ek (a b:Int):Int:=IntKind.u8.wrap (BitVec.ofInt 8 a&&& BitVec.ofInt 8 b).toNat
theorem El (a b:Int):IntKind.u8.wrap (BitVec.ofInt IntKind.u8.bits a&&& BitVec.ofInt IntKind.u8.bits b).toNat=Ek a b:=rfl
attribute [go_sem ↓] El
def oZ (a b:Int):Option Int:=if b<0 then none else some (IntKind.u64.wrap (a*2 ^ min b.toNat IntKind.u64.bits))
theorem uU {a b r:Int}(h:oZ a b=some r):¬b<0/\IntKind.u64.wrap (a*2 ^ min b.toNat IntKind.u64.bits)=r:=by
 unfold oZ at h;split at h
 ·cases h
 ·rename_i h0;cases h;exact ⟨h0,rfl⟩
def uV (a b:Int):Option Int:=if b<0 then none else some (a.fdiv (2 ^ min b.toNat IntKind.u64.bits))
theorem Em {a b r:Int}(h:uV a b=some r):¬b<0/\a.fdiv (2 ^ min b.toNat IntKind.u64.bits)=r:=by
 unfold uV at h;split at h
 ·cases h
 ·rename_i h0;cases h;exact ⟨h0,rfl⟩
def hH (a b:Int):Int:=IntKind.u64.wrap (BitVec.ofInt 64 a&&& BitVec.ofInt 64 b).toNat
theorem En (a b:Int):IntKind.u64.wrap (BitVec.ofInt IntKind.u64.bits a&&& BitVec.ofInt IntKind.u64.bits b).toNat=hH a b:=rfl
def gN (a b:Int):Int:=IntKind.u64.wrap (BitVec.ofInt 64 a ^^^ BitVec.ofInt 64 b).toNat
theorem Eo (a b:Int):IntKind.u64.wrap (BitVec.ofInt IntKind.u64.bits a ^^^ BitVec.ofInt IntKind.u64.bits b).toNat=gN a b:=rfl
attribute [go_sem ↓] En Eo
theorem cn {n:Nat}(h:n<1000000000000000):IntKind.i64.wrap ((n:Int)+1)=((n+1:Nat):Int):=by
 simp only[IntKind.wrap,IntKind.bits,IntKind.signed];simp;omega
theorem c8 {α:Type}{l:List α}{i:Nat}{x:α}(h:l[i]?=some x):l.drop i=x::l.drop (i+1):=by
 obtain ⟨hi,rfl⟩:=List.getElem?_eq_some_iff.1 h;exact List.drop_eq_getElem_cons hi
theorem cast_zero:((0:Nat):Int)=0:=rfl
attribute [go_sem] cast_zero
theorem Ep (l:List Value)(i j:Nat):(l.toArray).extract i j=((l.drop i).take (j - i)).toArray:=by
 apply Array.ext';simp[List.extract_eq_drop_take]
attribute [go_sem] Ep
structure b6 (T:Type) where
 n:Nat
 rel:(Addr->Option Value)->T->List Value->Prop
 mono:∀{ro aM:Addr->Option Value} {x:T} {cs:List Value},Ext ro aM->rel ro x cs->rel aM x cs
 len:∀{ro:Addr->Option Value} {x:T} {cs:List Value},rel ro x cs->cs.length=n
 one:∀{ro:Addr->Option Value} {x:T} {cs:List Value},rel ro x cs->∀v∈cs,bH v=true
def hO {T:Type}(n:Nat)(c:T->List Value)(h:∀x,(c x).length=n)(h1:∀x,∀v∈c x,bH v=true):b6 T:=
 ⟨n,fun _ x cs=>cs=c x,fun _ h=>h,fun e=>by rw[e];exact h _,fun e=>by rw[e];exact h1 _⟩
def rI:b6 Int:=hO 1 (fun n=>[.int .i64 n]) (fun _=>rfl) (fun _ v a=>by simp at a;subst a;rfl)
def rB:b6 Bool:=hO 1 (fun n=>[.bool n]) (fun _=>rfl) (fun _ v a=>by simp at a;subst a;rfl)
def aB {T:Type}(r:b6 T)(ro:Addr->Option Value)(s:Value)(l:List T):Prop:=
 ∃ad cap,s= .slice ad l.length cap/\l.length<=cap/\l.length<=1000000000000000/\∀i x,l[i]?=some x->∃p cs,ad=some p/\r.rel ro x cs/\∀j v,cs[j]?=some v->ro ((p.add (i*r.n)).add j)=some v
theorem aB.mono {T:Type}{r:b6 T}{ro aM:Addr->Option Value}{s:Value}{l:List T}(h:aB r ro s l)(a:Ext ro aM):aB r aM s l:=by
 obtain ⟨ad,cap,h1,b,c,d⟩:=h;refine ⟨ad,cap,h1,b,c,fun i x hi=>?_⟩;obtain ⟨p,cs,e,f,hm⟩:=d i x hi;exact ⟨p,cs,e,r.mono a f,fun j v g=>a _ _ (hm j v g)⟩
theorem aB.nil {T:Type}(r:b6 T)(ro:Addr->Option Value):aB r ro (.slice none 0 0) []:=⟨none,0,rfl,Nat.le_refl _,by simp,fun i x h=>by simp at h⟩
def rL {T:Type}(r:b6 T):b6 (List T):=
 ⟨1,fun ro l cs=>∃s,cs=[s]/\aB r ro s l,fun c ⟨s,h1,a⟩=>⟨s,h1,a.mono c⟩,fun ⟨s,h1,_⟩=>by rw[h1];rfl,fun ⟨s,h1,ad,cap,a,_⟩ v b=>by rw[h1] at b;simp at b;subst b;rw[a];rfl⟩
theorem aB.part {T:Type}{r:b6 T}{ro:Addr->Option Value}{ad:Option Addr}{cap:Nat}{l:List T}(h:aB r ro (.slice ad l.length cap) l)(lo hi:Nat)(h1:lo<=hi)(g:hi<=l.length):
  aB r ro (.slice (if cap=lo then ad else ad.map (·.add (lo*r.n))) (hi - lo) (cap - lo)) ((l.take hi).drop lo):=by
 obtain ⟨k,m,e,o,q,b⟩:=h
 cases e
 have hlen:((l.take hi).drop lo).length=hi - lo:=by simp;omega
 refine ⟨_,cap - lo,by rw[hlen],by rw[hlen];omega,by rw[hlen];omega,fun i x a=>?_⟩
 rw[List.getElem?_drop,List.getElem?_take] at a
 split at a
 case isFalse=>cases a
 obtain ⟨p,cs,c,d,hm⟩:=b _ x a
 have s:lo+i<l.length:=(List.getElem?_eq_some_iff.1 a).1
 refine ⟨p.add (lo*r.n),cs,?_,d,fun j v f=>?_⟩
 ·have aF:¬cap=lo:=by omega
  rw[if_neg aF,c];rfl
 ·have:=hm j v f
  rw[kR] at this
  rw[kR,kR]
  rw[show lo*r.n+(i*r.n+j)=(lo+i)*r.n+j by rw[Nat.add_mul];omega]
  exact this
def Apart (ks:List Nat)(aS:List (Nat×Obj)):Prop:=∀k∈keys aS,k∉ks
theorem Apart.nil (ks:List Nat):Apart ks []:=fun k h=>(by cases h)
theorem kT:∀{l:List (Nat×Obj)} {b:Nat},au l b->b∉keys l
 |[],_,_=>by simp[keys]
 |(c,o)::l,b,h=>by simp only[keys,List.map_cons,List.mem_cons,not_or];exact ⟨h.1,kT h.2⟩
theorem l6:∀{l:List (Nat×Obj)} {b:Nat},b∉keys l->au l b
 |[],_,_=>trivial
 |(c,o)::l,b,h=>by simp only[keys,List.map_cons,List.mem_cons,not_or] at h;exact ⟨h.1,l6 h.2⟩
theorem Apart.push {ks:List Nat}{aS:List (Nat×Obj)}{b:Nat}(h:Apart ks aS)(hb:au aS b):Apart (b::ks) aS:=fun k a=>by
 simp only[List.mem_cons,not_or]
 exact ⟨fun e=>kT hb (e▸a),h k a⟩
theorem Apart.drop {ks:List Nat}{aS:List (Nat×Obj)}{b:Nat}(h:Apart (b::ks) aS):Apart ks aS:=fun k a=>(by have:=h k a;simp only[List.mem_cons,not_or] at this;exact this.2)
def aO {T:Type}(r:b6 T)(ro:Addr->Option Value)(e:TypeId)(v:Value)(l:List T)(aS:List (Nat×Obj)):Prop:=
 ∃ls:List (List Value),Gr ro e r.n v ls aS/\ls.length=l.length/\l.length<=1000000/\∀(i:Nat) (x:T),l[i]?=some x->∃cs:List Value,ls[i]?=some cs/\r.rel ro x cs
theorem aO.nil {T:Type}(r:b6 T)(ro:Addr->Option Value)(e:TypeId):aO r ro e (.slice none 0 0) [] []:=⟨[],.inl ⟨rfl,rfl,rfl⟩,rfl,by simp,fun i x h=>by simp at h⟩
theorem aO.len {T:Type}{r:b6 T}{ro:Addr->Option Value}{e:TypeId}{v:Value}{l:List T}{aS:List (Nat×Obj)}(h:aO r ro e v l aS):∃ad cap,v= .slice ad l.length cap/\l.length<=cap:=by
 obtain ⟨ls,hg,a,-⟩:=h;rcases hg with ⟨rfl,rfl,rfl⟩|⟨b,arr,cap,rfl,rfl,hs,hle,-⟩
 ·exact ⟨none,0,by rw[<-a];rfl,by rw[<-a];exact Nat.le_refl _⟩
 ·exact ⟨_,cap,by rw[a],by omega⟩
def aD (ro:Addr->Option Value)(own:List (Nat×Obj)):Prop:=∀b∈keys own,∀off sp,ro ⟨b,off,sp⟩=none
theorem aO.mono {T:Type}{r:b6 T}{ro aM:Addr->Option Value}{e:TypeId}{v:Value}{l:List T}{aS:List (Nat×Obj)}(h:aO r ro e v l aS)(c:Ext ro aM)(d:aD aM aS):aO r aM e v l aS:=by
 obtain ⟨ls,hg,f,hm,g⟩:=h;refine ⟨ls,?_,f,hm,fun i x hi=>?_⟩
 ·rcases hg with h|⟨b,arr,cap,h1,a,j,k,m,n,o⟩
  ·exact .inl h
  ·exact .inr ⟨b,arr,cap,h1,a,j,k,m,n,d b (by rw[a];simp[keys])⟩
 ·obtain ⟨cs,h1,a⟩:=g i x hi;exact ⟨cs,h1,r.mono c a⟩
theorem Apart.fresh {pre aS:List (Nat×Obj)}{ks:List Nat}(h:Apart ks aS)(a:keys pre=ks):∀k∈keys aS,au pre k:=fun k b=>l6 (by rw[a];exact h k b)
theorem o3 {n:Nat}:∀(ls:List (List Value)) (i:Nat) (cs:List Value),(∀x∈ls,x.length=n)->ls[i]?=some cs->∀j v,cs[j]?=some v->ls.flatten[i*n+j]?=some v
 |[],i,cs,_,h,_,_,_=>by simp at h
 |y::ls,0,cs,b,h,j,v,a=>by
  simp at h;subst h
  have:j<y.length:=(List.getElem?_eq_some_iff.1 a).1
  simp only[Nat.zero_mul,Nat.zero_add,List.flatten_cons]
  rw[List.getElem?_append_left this]
  exact a
 |y::ls,i+1,cs,b,h,j,v,a=>by
  simp at h
  have ih:=o3 ls i cs (fun x d=>b x (by simp[d])) h j v a
  have c:=b y (by simp)
  simp only[List.flatten_cons]
  rw[List.getElem?_append_right (by rw[c,Nat.add_mul];omega)]
  rw[show (i+1)*n+j - y.length=i*n+j by rw[c,Nat.add_mul];omega]
  exact ih
theorem aO.zE {T:Type}{r:b6 T}{ro:Addr->Option Value}{e:TypeId}{v:Value}{l:List T}{aS:List (Nat×Obj)}{ks:List Nat}(h:aO r ro e v l aS)(pre:List (Nat×Obj))(m:Apart ks aS)(o:keys pre=ks)(d:aD ro pre):
  ∃aM,Ext ro aM/\aD aM pre/\aB r aM v l/\Le ⟨aM,pre⟩ ⟨ro,pre++aS⟩:=by
 obtain ⟨ls,hg,f,hm,p⟩:=h
 rcases hg with ⟨rfl,rfl,rfl⟩|⟨b,arr,cap,rfl,rfl,hs,hle,ht,g,q⟩
 ·have:l=[]:=List.eq_nil_of_length_eq_zero (by simpa using f.symm)
  subst this
  exact ⟨ro,Ext.refl ro,d,aB.nil r ro,by rw[List.append_nil];exact Le.refl _⟩
 ·have hb:b∉keys pre:=by rw[o];exact m b (by simp[keys])
  refine ⟨bR ro b (.cells arr e),fY _ _ _,fun c k off sp=>?_,⟨some ⟨b,0,none⟩,cap,by rw[f],by omega,by omega,fun i x hi=>?_⟩,jV ?_ (List.sublist_append_left _ _) (l6 hb)⟩
  ·have aF:¬c=b:=fun e=>hb (e▸k)
   simp[bR,d c k,aF]
  ·obtain ⟨cs,h1,s⟩:=p i x hi
   refine ⟨_,cs,rfl,r.mono (fY _ _ _) s,fun j v t=>?_⟩
   have a:=o3 ls i cs g h1 j v t
   rw[kR,kS,Nat.zero_add,iQ q]
   have u:i*r.n+j<ls.length*r.n:=by
    have:=(List.getElem?_eq_some_iff.1 a).1
    rw[g8 g] at this
    exact this
   rw[<-ht,List.getElem?_take_of_lt u] at a
   simpa [cellOf] using a
  ·have:∀(pre:List (Nat×Obj)),b∉keys pre->lk (pre++[(b,Obj.cells arr e)]) b=some (.cells arr e):=fun pre h=>uI (l6 h)
   exact this pre hb
theorem aO.elem {T:Type}{r:b6 T}{ro:Addr->Option Value}{e:TypeId}{v:Value}{l:List T}{aS:List (Nat×Obj)}(h:aO r ro e v l aS){i:Nat}{x:T}(hi:l[i]?=some x):
  ∃b arr cap cs,v= .slice (some ⟨b,0,none⟩) l.length cap/\aS=[(b,.cells arr e)]/\(∀off sp,ro ⟨b,off,sp⟩=none)/\r.rel ro x cs/\∀j v,cs[j]?=some v->arr[i*r.n+j]?=some v:=by
 obtain ⟨ls,hg,d,hm,f⟩:=h
 obtain ⟨cs,h1,g⟩:=f i x hi
 rcases hg with ⟨rfl,rfl,rfl⟩|⟨b,arr,cap,rfl,rfl,hs,hle,ht,c,k⟩
 ·simp at h1
 ·refine ⟨b,arr,cap,cs,by rw[d],rfl,k,g,fun j v m=>?_⟩
  have a:=o3 ls i cs c h1 j v m
  have o:i*r.n+j<ls.length*r.n:=by
   have:=(List.getElem?_eq_some_iff.1 a).1
   rw[g8 c] at this
   exact this
  rw[<-ht,List.getElem?_take_of_lt o] at a
  simpa using a
theorem aR {ro:Addr->Option Value}{own:List (Nat×Obj)}:Ext ro (aa.cq ⟨ro,own⟩).ro:=fun a v h=>by simp[aa.cq,aa.get,h]
theorem cg {ro:Addr->Option Value}{own:List (Nat×Obj)}{F:aa}(h:Knows ⟨ro,own⟩ F):Ext ro F.cq.ro:=fun a v b=>by
 have:F.ro a=some v:=h.1 a v b
 simp[aa.cq,aa.get,this]
theorem aB.o5 {T:Type}{r:b6 T}{ro:Addr->Option Value}{ad:Option Addr}{cap:Nat}{l x:List T}(h:aB r ro (.slice ad l.length cap) l)(lo hi:Nat)(h1:lo<=hi)(b:hi<=l.length)(c:x=(l.take hi).drop lo):
  ∃a,(if cap=lo then ad else ad.map (·.add (lo*r.n)))=a/\hi - lo=x.length/\aB r ro (.slice a x.length (cap - lo)) x:=by
 subst c
 have hlen:((l.take hi).drop lo).length=hi - lo:=by simp;omega
 refine ⟨_,rfl,hlen.symm,?_⟩
 rw[hlen]
 exact h.part lo hi h1 b
theorem aB.one {T:Type}{r:b6 T}{ro:Addr->Option Value}{own:List (Nat×Obj)}{b:Nat}{x:T}{cs:Array Value}{e:TypeId}(a:∀off sp,ro ⟨b,off,sp⟩=none)(d:lk own b=some (.cells cs e))(h:r.rel ro x cs.toList):
  aB r (bR ro b (.cells cs e)) (.slice (some ⟨b,0,none⟩) 1 1) [x]:=by
 refine ⟨some ⟨b,0,none⟩,1,rfl,Nat.le_refl _,by simp,fun i y hi=>?_⟩
 have:i=0/\y=x:=by
  cases i with
  |zero=>simp at hi;exact ⟨rfl,hi.symm⟩
  |succ i=>simp at hi
 obtain ⟨rfl,rfl⟩:=this
 refine ⟨_,_,rfl,r.mono (fY _ _ _) h,fun j v c=>?_⟩
 rw[Nat.zero_mul,add_zero',kS,Nat.zero_add,iQ a]
 simpa [cellOf] using c
theorem aB.flat {T:Type}{r:b6 T}{ro:Addr->Option Value}{b:Nat}{cs:Array Value}{e:TypeId}(c:T->List Value)(l:List T)(a:∀x,r.rel ro x (c x))(d:∀off sp,ro ⟨b,off,sp⟩=none)(f:cs.toList=(l.map c).flatten)(hlen:l.length<=1000000000000000):
  aB r (bR ro b (.cells cs e)) (.slice (some ⟨b,0,none⟩) l.length l.length) l:=by
 refine ⟨some ⟨b,0,none⟩,l.length,rfl,Nat.le_refl _,hlen,fun i x hi=>⟨_,c x,rfl,r.mono (fY _ _ _) (a x),fun j v g=>?_⟩⟩
 have h1:(l.map c)[i]?=some (c x):=by rw[List.getElem?_map,hi];rfl
 have h:∀y∈l.map c,y.length=r.n:=fun y k=>by
  obtain ⟨z,_,rfl⟩:=List.mem_map.1 k
  exact r.len (a z)
 have:=o3 (l.map c) i (c x) h h1 j v g
 rw[kS,kS,Nat.zero_add,iQ d]
 rw[<-f] at this
 simpa [cellOf] using this
theorem jX {ro:Addr->Option Value}{own:List (Nat×Obj)}{b:Nat}{o:Obj}(e:lk own b=some o):Ext (bR ro b o) (aa.cq ⟨ro,own⟩).ro:=fun a v h=>by
 unfold bR at h
 simp only[aa.cq,aa.get]
 split at h
 ·rename_i x c;rw[c];exact h
 ·rename_i c
  split at h
  ·rename_i d
   rw[c]
   simp only
   rw[if_pos d.2,d.1,e]
   exact h
  ·cases h
section
variable {P : Program} {main : Bool} {J : Goroutine → aa → Prop}
theorem gO (hJ:Closed P main J){f:FuncId}{args:Array Value}{F F':aa}{K:Value->aa->Prop}(hle:Le F F')(h:cP P J f args F K):cP P J f args F' K:=fun c cs k=>hJ.mono hle (h c cs k)
end
theorem aO.bd {T:Type}{r:b6 T}{ro:Addr->Option Value}{e:TypeId}{v:Value}{l:List T}{aS:List (Nat×Obj)}(h:aO r ro e v l aS):l.length<=1000000:=by
 obtain ⟨ls,_,_,hm,_⟩:=h;exact hm
theorem aC.zE {P:Program}{f:FuncId}{args:Array Value}{ro:Addr->Option Value}{R:Value->Prop}(h:aC P f args ⟨ro,[]⟩ (fun v _=>R v)):aC P f args ⟨ro,[]⟩ (fun v G=>R v/\G=⟨ro,[]⟩):=by
 intro main J hJ c cs b
 exact um (F:=⟨ro,[]⟩) (R:=R) (by
  have e:aa.cq ⟨ro,[]⟩=⟨ro,[]⟩:=by
   simp only[aa.cq,aa.mk.injEq,and_true];funext a;simp only[aa.get];cases ro a with
   |none=>simp[lk]
   |some v=>rfl
  rw[e];exact h) main J hJ c cs b
end Go.Sep
end
section
namespace Go.Sep
open Go Go.Conc Go.ConcM
open Go.ConcN (sumTo upd sumTo_upd upd_ne upd_same)
def dX (P:Program)(Φ:Goroutine->aa->Prop)(g:Goroutine)(F:aa):Prop:=
 ∀(bx:Loc->Prop) (gs:Array Goroutine) (w:World) (sl:Option (Nat×Nat)) (t:Trace) (q:Nat->Nat),js P bx g F gs w t q->
  ∃(N:Nat) (bT:Array Goroutine) (w':World) (c:Option (Nat×Nat)) (a:Trace) (d:Nat->Nat) (g':Goroutine) (F':aa) (b:Loc->Prop),
   runNT P N (crowd gs w sl) t=(.next (crowd bT w' c),a)/\js P b g' F' bT w' a d/\e6 F F' w w'/\(∀l,b l->bx l\/¬l.low w.heap.size)/\Φ g' F'
theorem dX.done {P:Program}{Φ:Goroutine->aa->Prop}{g:Goroutine}{F:aa}(h:Φ g F):dX P Φ g F:=
 fun bx gs w sl t q a=>⟨0,gs,w,sl,t,q,g,F,bx,rfl,a,.refl _ _,fun _ h=>.inl h,h⟩
theorem o6 (P:Program)(Φ:Goroutine->aa->Prop):Closed P true (dX P Φ) where
 mono hle h bx gs w sl t q b:=by
  obtain ⟨N,bT,w',v,z,A,g',F',B,g,C,hu,D,E⟩:=h bx gs w sl t q ⟨b.g0,b.lv,b.fD,hle.has w b.has,fun l hs H=>b.apart l hs (hle.gr H),b.low⟩
  exact ⟨N,bT,w',v,z,A,g',F',B,g,C,hu.le hle,D,E⟩
 step {fr cs F} h bx gs w sl t q b:=by
  obtain ⟨N,k,d,m,a2,n,t1,I,g,a3,h0,p,J,K⟩:=qI (P:=P) (a:=G fr cs) rfl _ gs w sl t q (Nat.le_refl _) b.g0 b.lv b.fD
  obtain ⟨g',w',es,F',hgo,hu,L,M,hJ⟩:=h (w.at m) (b.has.at m)
  have c:dO F F' w w':=⟨hu.os,hu.tape,hu.output,hu.size,hu.frame,hu.ro,hu.own⟩
  have O:=runT_crowd_go (P:=P) (sl:=n) (i:=0) h0 (show stepG P (0==0) (G fr cs) (w.at m)=_ from hgo)
  have Q:0<k.size:=(Array.getElem?_eq_some_iff.1 h0).1
  have r:=js.next (P:=P) b.apart b.low c
  obtain ⟨R,S,w2,T,t2,U,V,W,X,Y,Z,ab,ad,ae⟩:=hJ bx ((k.map (woken P (G fr cs) g' w')).setIfInBounds 0 g') w' n (t1++MemOp.ofEvents 0 (G fr cs).frame.fn (G fr cs).frame.place es) I
   {g0:=by simp[Q]
    lv:=⟨fun j x f s=>by
     have aF:0≠j:=by omega
     rw[Array.getElem?_setIfInBounds_ne aF,Array.getElem?_map] at s
     obtain ⟨y,al,rfl⟩:=Option.map_eq_some_iff.1 s
     have u:=p.old j y f al
     rw[woken_quitsD u,Deaf_other t1 (by omega) _ (fun op o=>by obtain ⟨e,_,rfl⟩:=Go.Conc.mem_ofEvents o;rfl)]
     exact u,fun j f=>by
     rw[Deaf_other t1 (g':=0) (by simp at f;omega) _ (fun op o=>by obtain ⟨e,_,rfl⟩:=Go.Conc.mem_ofEvents o;rfl)]
     exact p.above j (by simpa using f)⟩
    fD:=(J.mono c.size).own fun e he=>y4 b.has c.size b.apart b.low (M e he)
    has:=L
    apart:=r.1
    low:=r.2}
  refine ⟨N+1+R,S,w2,T,t2,U,V,W,X,?_,Z,(e6.oK c).trans ab,fun l ao=>(ad l ao).imp id fun ar a0=>ar (Loc.low_mono c.size a0),ae⟩
  have:runNT P (N+1) (crowd gs w sl) t=(.next (crowd ((k.map (woken P (G fr cs) g' w')).setIfInBounds 0 g') w' n),t1++MemOp.ofEvents 0 (G fr cs).frame.fn (G fr cs).frame.place es):=by
   rw[runNT_add,g]
   simp only[runNT,K,O]
  rw[ju this]
  exact Y
def fG (P:Program)(f:FuncId)(args:Array Value)(F:aa)(R:Value->aa->Prop):Prop:=∀Φ,cP P (dX P Φ) f args F R
theorem zF {P:Program}{f:FuncId}{args:Array Value}{ro:Addr->Option Value}{own:List (Nat×Obj)}{R:Value->aa->Prop}(h:fG P f args ⟨ro,[]⟩ R):
  fG P f args ⟨ro,own⟩ (fun v F'=>∃G,R v G/\F'=G.star ⟨ro,own⟩/\Fits ⟨ro,own⟩ G/\l5 ⟨ro,own⟩ G):=by
 intro Φ c cs F bx gs w sl t q d
 let Fr:aa:=⟨ro,own⟩
 have H:js P bx (G (Frame.enter P f args .normal) (c::cs)) ⟨ro,[]⟩ gs w t q:=
  ⟨d.g0,d.lv,d.fD,⟨d.has.ro,fun b o hb=>(by cases hb),List.nodup_nil,fun a v j hm=>(by cases hm)⟩,fun l hs i=>d.apart l hs (by
   cases l with
   |cell a=>exact i.elim (fun x=>by cases x) .inr
   |obj r=>cases i
   |_=>exact i),d.low⟩
 obtain ⟨N,bT,w',I,s,u,g',F',A,j,g,hu,n,v,rfl,p⟩:=h (fun g' F'=>∃v,g'=G (c.finish v) cs/\R v F') c cs (fun v F' p=>dX.done ⟨v,rfl,p⟩) bx gs w sl t q H
 have B:Has Fr w':=⟨fun a v j=>by
  have h0:=d.has.ro a v j
  have J:=d.has.gK (a:=a) (by rw[j];rfl)
  unfold World.cell? at h0 ⊢
  rw[hu.frame _ J (fun hm=>by cases hm)]
  exact h0,fun b o hb=>by
  rw[hu.frame b (d.has.lt (eK hb)) (fun hm=>by cases hm)]
  exact d.has.own b o hb,d.has.nodup,d.has.apart⟩
 have C:Fits Fr F':=⟨⟨w',g.has,B⟩,fun b hb hm=>by
  rcases hu.own b hb with x|x
  ·cases x
  ·have:=d.has.lt (b:=b) hm;omega,fun a k hm=>by
  rcases hu.own _ hm with x|x
  ·cases x
  ·have:=d.has.gK (a:=a) k;omega⟩
 have K:l5 Fr F':=fun a k hm=>by
  rcases hu.ro a k with x|x|x
  ·obtain ⟨y,L⟩:=Option.isSome_iff_exists.1 x
   exact d.has.apart a y L hm
  ·cases x
  ·have:=d.has.lt (b:=a.block) hm;omega
 have M:js P A (G (c.finish v) cs) (F'.star Fr) bT w' s u:=by
  refine ⟨g.g0,g.lv,g.fD,C.both g.has B,fun l hs i=>?_,g.low⟩
  have D:∀b,b∈keys own->(l= .obj b\/∃a,l= .cell a/\a.block=b)->False:=fun b hb m=>by
   rcases n l hs with x|x
   ·refine d.apart l x ?_
    rcases m with rfl|⟨a,rfl,e⟩
    ·exact hb
    ·exact .inl (e▸hb)
   ·refine x ?_
    have:=d.has.lt (b:=b) hb
    rcases m with rfl|⟨a,rfl,e⟩
    ·exact this
    ·show a.block<_;rw[e];exact this
  cases l with
  |cell a=>
   rcases i with x|x
   ·simp only[aa.star,cj,List.mem_append] at x
    rcases x with x|x
    ·exact g.apart _ hs (.inl x)
    ·exact D _ x (.inr ⟨a,rfl,rfl⟩)
   ·rcases jP x with y|y
    ·rcases n _ hs with z|z
     ·exact d.apart _ z (.inr y)
     ·exact z (d.has.gK (a:=a) y)
    ·exact g.apart _ hs (.inr y)
  |obj r=>
   simp only[aa.gr,aa.star,cj,List.mem_append] at i
   rcases i with x|x
   ·exact g.apart _ hs x
   ·exact D _ x (.inl rfl)
  |_=>exact i
 obtain ⟨O,Q,w2,S,t2,T,U,V,W,X,Y,Z,ab,ad⟩:=F v (F'.star Fr) ⟨F',p,rfl,C,K⟩ A bT w' I s u M
 have ae:e6 ⟨ro,own⟩ (F'.star Fr) w w':=⟨hu.os,hu.tape,hu.output,hu.size,fun b hb E=>hu.frame b hb (fun x=>by cases x),fun a k=>by
  rcases jP k with y|y
  ·exact .inl y
  ·rcases hu.ro a y with z|z|z
   ·exact .inl z
   ·cases z
   ·exact .inr (.inr z),fun b hb=>by
  simp only[aa.star,cj,List.mem_append] at hb
  rcases hb with x|x
  ·rcases hu.own b x with y|y
   ·cases y
   ·exact .inr y
  ·exact .inl x⟩
 exact ⟨N+O,Q,w2,S,t2,T,U,V,W,by rw[ju j];exact X,Y,ae.trans Z,fun l m=>(ab l m).elim (n l) fun E=>.inr fun al=>E (Loc.low_mono hu.size al),ad⟩
theorem fG.go {P:Program}{f:FuncId}{fn:Func}{c:Code}{n:Nat}{rs:List ResultVar}{args:Array Value}{F:aa}{R:Value->aa->Prop}(j:P.funcs[f]?=some fn)(hb:fn.body=some c)(d:fn.ntmps=n)(k:fn.results=rs.toArray)(m:args.size<=n)
  (h:∀Φ,Closed P true (dX P Φ)->∀A:Act,sz A=n->A.defers=[]->(∀i,slot A i=args.getD i undef)->Wp (dX P Φ) c (iN P rs R) A F):fG P f args F R:=fun Φ=>by
 refine cP.of_wp (o6 P Φ) j hb ?_
 refine (h Φ (o6 P Φ) _ (by simp[sz,d];omega) rfl fun i=>?_).mono fun e a F g=>?_
 ·simp only[slot,d,Array.getD_eq_getD_getElem?]
  rcases Nat.lt_or_ge i args.size with hi|hi
  ·rw[Array.getElem?_append_left hi]
  ·rw[Array.getElem?_append_right hi,Array.getElem?_replicate,Array.getElem?_eq_none hi]
   split<;>rfl
 ·cases e with
  |exit i=>exact g
  |_=>
   obtain ⟨hd,b⟩:=g
   split at b
   ·rename_i v l
    show g7 P a.defers _ F
    rw[hd]
    exact qX k l b
   ·exact b.elim
def o7 (P:Program)(f:FuncId)(args:Array Value)(ro:Addr->Option Value)(R:Value->(Addr->Option Value)->Prop):Prop:=
 fG P f args ⟨ro,[]⟩ (fun v G=>∃aM,Ext ro aM/\Le ⟨aM,[]⟩ G/\R v aM)
theorem Er {P:Program}{Φ:Goroutine->aa->Prop}{f:FuncId}{args:Array Value}{ro:Addr->Option Value}{own:List (Nat×Obj)}{K:Value->aa->Prop}(R:Value->(Addr->Option Value)->Prop)
  (h:o7 P f args ro R) (k:∀v aM,Ext ro aM->(∀b∈keys own,∀off sp,aM ⟨b,off,sp⟩=none)->R v aM->K v ⟨aM,own⟩):cP P (dX P Φ) f args ⟨ro,own⟩ K:=by
 intro c cs l
 refine zF (own:=own) h Φ c cs fun v F' m=>?_
 obtain ⟨G,⟨aM,n,hle,o⟩,rfl,e,p⟩:=m
 have i:∀a,(aM a).isSome=true->a.block∉keys own:=fun a g=>(hle.ro a g).elim (p a) (e.own _)
 refine (o6 P Φ).mono (F:=⟨aM,own⟩) ⟨fun w hw=>?_,fun b hb=>?_,fun a g=>?_⟩ (l v ⟨aM,own⟩ (k v aM n (fun b hb off sp=>?_) o))
 ·have q:=hle.has w (e.right hw)
  have j:=e.left hw
  exact ⟨q.ro,j.own,j.nodup,fun a v d=>i a (by simp only at d;simp[d])⟩
 ·simp only[aa.star,cj,List.mem_append];exact .inr hb
 ·rcases hle.ro a g with x|x
  ·exact (gu (.inr x)).imp id (fun z=>by simp only[aa.star,cj,List.mem_append];exact .inr z)
  ·exact .inr (by simp only[aa.star,cj,List.mem_append];exact .inl x)
 ·cases d:aM ⟨b,off,sp⟩ with
  |none=>rfl
  |some v=>exact absurd hb (i ⟨b,off,sp⟩ (by simp[d]))
theorem uW {P:Program}{Φ:Goroutine->aa->Prop}{f:FuncId}{args:Array Value}{ro:Addr->Option Value}{own:List (Nat×Obj)}{K:Value->aa->Prop}(v:Value)
  (h:fG P f args ⟨ro,[]⟩ (fun d _=>d=v)) (e:K v ⟨ro,own⟩):cP P (dX P Φ) f args ⟨ro,own⟩ K:=by
 intro c cs g
 refine zF (own:=own) h Φ c cs fun d F' i=>?_
 obtain ⟨G,rfl,rfl,j,l⟩:=i
 refine (o6 P Φ).mono (F:=⟨ro,own⟩) ⟨fun w hw=>j.left hw,fun b hb=>?_,fun a k=>?_⟩ (g d ⟨ro,own⟩ e)
 ·simp only[aa.star,cj,List.mem_append];exact .inr hb
 ·exact (gu (.inl k)).imp id (fun z=>by simp only[aa.star,cj,List.mem_append];exact .inr z)
end Go.Sep
end
section
namespace Go.Sep
open Go Go.Conc Go.ConcM
def zG (P:Program)(R:Value->aa->Prop)(g:Goroutine)(F:aa):Prop:=
 ∃(fr:Frame) (fn:Func) (t:Nat) (v:Value),g=G fr []/\fr.kind= .normal/\P.inits.idxOf? fr.fn=none/\fr.mode= .returning/\fr.defers=[]/\P.funcs[fr.fn]?=some fn/\fn.results=#[.tmp t]/\fr.tmps.getD t undef=v/\R v F
def l7 (P:Program)(f:FuncId)(args:Array Value)(F:aa)(R:Value->aa->Prop):Prop:=
 ∀Φ:Goroutine->aa->Prop,(∀g F',zG P R g F'->Φ g F')->dX P Φ (G (Frame.enter P f args .normal) []) F
theorem l7.go {P:Program}{f:FuncId}{fn:Func}{c:Code}{n t:Nat}{args:Array Value}{F:aa}{R:Value->aa->Prop}(g:P.funcs[f]?=some fn)(hb:fn.body=some c)(j:fn.ntmps=n)(o:fn.results=[.tmp t].toArray)(v:args.size<=n)(hi:P.inits.idxOf? f=none)
  (h:∀Φ,Closed P true (dX P Φ)->∀A:Act,sz A=n->A.defers=[]->(∀i,slot A i=args.getD i undef)->Wp (dX P Φ) c (iN P [.tmp t] R) A F):l7 P f args F R:=by
 intro Φ p
 have hJ:=o6 P Φ
 let b:Frame:={(default:Frame) with fn:=f,kind:=.normal}
 have q:Frame.enter P f args .normal=on b {tmps:=args++Array.replicate (fn.ntmps - args.size) undef,defers:=[]} [.code c]:=by
  simp[Frame.enter,on,g,hb,b]
  rfl
 rw[q]
 have k:∀(a:Act) (F':aa) (fr:Frame),fr.kind= .normal->fr.mode= .returning->fr.defers=a.defers->fr.fn=f->fr.tmps=a.tmps->iN P [.tmp t] R .normal a F'->dX P Φ (G fr []) F':=by
  intro a F' fr h0 h1 r l s d
  obtain ⟨hd,u⟩:=d
  refine dX.done (p _ _ ⟨fr,fn,t,_,rfl,h0,by rw[l];exact hi,h1,by rw[r,hd],by rw[l];exact g,o,rfl,?_⟩)
  rw[s]
  simpa [lY,lX,oU,slot] using u
 refine h Φ hJ _ (by simp[sz,j];omega) rfl (fun i=>?_) b [] [] ⟨by simp[b],.inl rfl⟩ fun e m F' d=>?_
 ·simp only[slot,j,Array.getD_eq_getD_getElem?]
  rcases Nat.lt_or_ge i args.size with hi|hi
  ·rw[Array.getElem?_append_left hi]
  ·rw[Array.getElem?_append_right hi,Array.getElem?_replicate,Array.getElem?_eq_none hi]
   split<;>rfl
 ·cases e with
  |normal=>exact hJ.move (fun _=>lO rfl) (k m F' _ rfl rfl rfl rfl rfl d)
  |exit i=>exact d.elim
  |ret=>exact fun w=>hJ.move (fun _=>stepG_ret' rfl) (k m F' _ rfl rfl rfl rfl rfl d)
theorem l7.ends {P:Program}{f:FuncId}{args:Array Value}{F:aa}{R:Value->aa->Prop}(h:l7 P f args F R){W:World}(i:Has F W){a:Value->World->Prop}
  (j:∀v F' w',R v F'->e6 F F' W w'->a v w'):
  ∃M last o w' b,runNT P (M+1) (solo (G (Frame.enter P f args .normal) []) W) #[]=(.ended o w',b)/\runN P M (solo (G (Frame.enter P f args .normal) []) W)= .next last/\step P last= .ended o w'/\Go.Conc.Good P a last o w' b:=by
 obtain ⟨N,bT,w',k,b,A,g',F',l,g,c,hu,_,fr,fn,t,v,rfl,m,hi,h1,n,p,q,r,s⟩:=h (zG P R) (fun _ _ x=>x) (fun _=>False) #[G (Frame.enter P f args .normal) []] W none #[] (fun _=>0)
  ⟨rfl,leavers_one P _,past_nil.mono (Nat.zero_le _),i,fun _ x=>x.elim,fun _ x=>x.elim⟩
 have hg:Goes P true AtRel (fun _ _ _=>False) (AtEnd P l w'.heap.size a) 0 (G fr []) w':=by
  refine Goes.stop fun B ⟨d,hd⟩=>?_
  subst hd
  refine ⟨rfl,v,seen P fr.fn #[],?_,fun e he=>?_,j v F' _ s ⟨hu.os,hu.tape,hu.output,hu.size,hu.frame,hu.ro,hu.own⟩⟩
  ·have u:fr.tmps[t]?.getD undef=v:=by rw[<-r,Array.getD_eq_getD_getElem?]
   simp[G,stepG,unwind,h1,n,p,results,q,u,doReturn,GStep.after,Sem.runT,m,hi]
  ·exact absurd (mem_seen he) (by simp)
 obtain ⟨w,last,o,w2,t2,e1,e2,y,z⟩:=beside_ends (sl:=k) (fun _ _ _ x=>x.elim) c.g0 c.lv c.fD hg
 refine ⟨N+w,last,o,w2,t2,?_,?_,y,z⟩
 ·rw[solo_eq_crowd,Nat.add_assoc,ju g,e1]
 ·rw[solo_eq_crowd,runN_add]
  have:=runNT_fst P N (crowd #[G (Frame.enter P f args .normal) []] W none) #[]
  rw[g] at this
  rw[<-this]
  exact e2
end Go.Sep
end
section
namespace Go.Proofs.YtpgcmoanfifglaaGreatDoor
open Go Go.Sep Go.Proofs
set_option maxRecDepth 100000
theorem mixed:Tryz.prog.follows .mixedOrders=true:=by kernel_rfl
@[go_sem] theorem LS:cx Tryz.prog 3=some false:=by kernel_rfl
@[go_sem] theorem kU:bW Tryz.prog 3=some 1:=by kernel_rfl
theorem kV:bytesOf Tryz.prog 3=some 8:=by kernel_rfl
@[go_sem] theorem kW:zeroOf Tryz.prog 3=some (.int .i64 0):=by kernel_rfl
@[go_sem] theorem LU:cx Tryz.prog 4=some false:=by kernel_rfl
@[go_sem] theorem zH:bW Tryz.prog 4=some 1:=by kernel_rfl
@[go_sem] theorem Es:zeroOf Tryz.prog 4=some (.bool false):=by kernel_rfl
@[go_sem] theorem LV:uD Tryz.prog 4=true:=by kernel_rfl
@[go_sem] theorem LW:cx Tryz.prog 23=some true:=by kernel_rfl
@[go_sem] theorem Et:bW Tryz.prog 23=some 2:=by kernel_rfl
theorem Eu:bytesOf Tryz.prog 23=some 16:=by kernel_rfl
@[go_sem] theorem zI:zeroOf Tryz.prog 23=some (.agg #[.int .i64 0,.int .i64 0]):=by kernel_rfl
@[go_sem] theorem LX:m7 Tryz.prog 23=some [true,true]:=by kernel_rfl
@[go_sem] theorem LY:cM Tryz.prog 23 0=some 0:=by kernel_rfl
@[go_sem] theorem LZ:cM Tryz.prog 23 1=some 1:=by kernel_rfl
@[go_sem] theorem L0:placesOf Tryz.prog 23=some [(0,1),(1,1)]:=by kernel_rfl
@[go_sem] theorem L1:cx Tryz.prog 24=some false:=by kernel_rfl
@[go_sem] theorem L2:bW Tryz.prog 24=some 1:=by kernel_rfl
@[go_sem] theorem L3:jS Tryz.prog 24=true:=by kernel_rfl
@[go_sem] theorem zJ:cZ Tryz.prog 24=some 85:=by kernel_rfl
@[go_sem] theorem L4:cx Tryz.prog 25=some false:=by kernel_rfl
@[go_sem] theorem L5:bW Tryz.prog 25=some 1:=by kernel_rfl
@[go_sem] theorem L6:jS Tryz.prog 25=true:=by kernel_rfl
@[go_sem] theorem kX:cZ Tryz.prog 25=some 96:=by kernel_rfl
@[go_sem] theorem L7:cx Tryz.prog 26=some false:=by kernel_rfl
@[go_sem] theorem L8:bW Tryz.prog 26=some 1:=by kernel_rfl
@[go_sem] theorem L9:jS Tryz.prog 26=true:=by kernel_rfl
@[go_sem] theorem zK:cZ Tryz.prog 26=some 41:=by kernel_rfl
@[go_sem] theorem Ma:cx Tryz.prog 27=some false:=by kernel_rfl
@[go_sem] theorem Mb:bW Tryz.prog 27=some 1:=by kernel_rfl
@[go_sem] theorem Mc:jS Tryz.prog 27=true:=by kernel_rfl
@[go_sem] theorem ek:cZ Tryz.prog 27=some 76:=by kernel_rfl
@[go_sem] theorem Md:cx Tryz.prog 29=some true:=by kernel_rfl
@[go_sem] theorem Me:bW Tryz.prog 29=some 8:=by kernel_rfl
@[go_sem] theorem Mf:zeroOf Tryz.prog 29=some (.agg #[.int .i64 0,.int .i64 0,.int .i64 0,.int .i64 0,.slice none 0 0,.slice none 0 0,.slice none 0 0,.slice none 0 0]):=by kernel_rfl
@[go_sem] theorem Mg:cM Tryz.prog 29 0=some 0:=by kernel_rfl
@[go_sem] theorem Mh:cM Tryz.prog 29 1=some 1:=by kernel_rfl
@[go_sem] theorem Mi:cM Tryz.prog 29 2=some 2:=by kernel_rfl
@[go_sem] theorem Mj:cM Tryz.prog 29 3=some 4:=by kernel_rfl
@[go_sem] theorem Mk:cM Tryz.prog 29 4=some 5:=by kernel_rfl
@[go_sem] theorem Ml:cM Tryz.prog 29 5=some 6:=by kernel_rfl
@[go_sem] theorem Mm:cM Tryz.prog 29 6=some 7:=by kernel_rfl
@[go_sem] theorem Mn:placesOf Tryz.prog 29=some [(0,1),(1,1),(2,2),(4,1),(5,1),(6,1),(7,1)]:=by kernel_rfl
@[go_sem] theorem Mo:cx Tryz.prog 35=some false:=by kernel_rfl
@[go_sem] theorem q5:bW Tryz.prog 35=some 1:=by kernel_rfl
theorem q6:bytesOf Tryz.prog 35=some 24:=by kernel_rfl
@[go_sem] theorem q7:zeroOf Tryz.prog 35=some (.slice none 0 0):=by kernel_rfl
@[go_sem] theorem Mq:jS Tryz.prog 35=true:=by kernel_rfl
@[go_sem] theorem fN:cZ Tryz.prog 35=some 3:=by kernel_rfl
@[go_sem] theorem Mr:cx Tryz.prog 39=some true:=by kernel_rfl
@[go_sem] theorem Ms:bW Tryz.prog 39=some 2:=by kernel_rfl
@[go_sem] theorem Mt:zeroOf Tryz.prog 39=some (.agg #[.int .i64 0,.int .i64 0]):=by kernel_rfl
@[go_sem] theorem Mv:cM Tryz.prog 39 0=some 0:=by kernel_rfl
@[go_sem] theorem Mw:cM Tryz.prog 39 1=some 1:=by kernel_rfl
@[go_sem] theorem Mx:placesOf Tryz.prog 39=some [(0,1),(1,1)]:=by kernel_rfl
@[go_sem] theorem My:cx Tryz.prog 41=some true:=by kernel_rfl
@[go_sem] theorem Ev:bW Tryz.prog 41=some 3:=by kernel_rfl
theorem Ew:bytesOf Tryz.prog 41=some 24:=by kernel_rfl
@[go_sem] theorem Ey:zeroOf Tryz.prog 41=some (.agg #[.int .i64 0,.int .i64 0,.int .i64 0]):=by kernel_rfl
@[go_sem] theorem Mz:cM Tryz.prog 41 0=some 0:=by kernel_rfl
@[go_sem] theorem MA:cM Tryz.prog 41 1=some 1:=by kernel_rfl
@[go_sem] theorem MB:placesOf Tryz.prog 41=some [(0,1),(1,2)]:=by kernel_rfl
@[go_sem] theorem MC:cx Tryz.prog 53=some true:=by kernel_rfl
@[go_sem] theorem MD:bW Tryz.prog 53=some 2:=by kernel_rfl
@[go_sem] theorem ME:zeroOf Tryz.prog 53=some (.agg #[.int .i64 0,.int .i64 0]):=by kernel_rfl
@[go_sem] theorem MF:placesOf Tryz.prog 53=some [(0,1),(1,1)]:=by kernel_rfl
@[go_sem] theorem zL:cZ Tryz.prog 72=some 23:=by kernel_rfl
@[go_sem] theorem MG:cx Tryz.prog 76=some true:=by kernel_rfl
@[go_sem] theorem hU:bW Tryz.prog 76=some 2:=by kernel_rfl
theorem ia:bytesOf Tryz.prog 76=some 16:=by kernel_rfl
@[go_sem] theorem ie:zeroOf Tryz.prog 76=some (.agg #[.int .i64 0,.bool false]):=by kernel_rfl
@[go_sem] theorem MH:cM Tryz.prog 76 0=some 0:=by kernel_rfl
@[go_sem] theorem MI:cM Tryz.prog 76 1=some 1:=by kernel_rfl
@[go_sem] theorem MJ:placesOf Tryz.prog 76=some [(0,1),(1,1)]:=by kernel_rfl
@[go_sem] theorem MK:cx Tryz.prog 85=some true:=by kernel_rfl
@[go_sem] theorem Ez:bW Tryz.prog 85=some 2:=by kernel_rfl
theorem EA:bytesOf Tryz.prog 85=some 16:=by kernel_rfl
@[go_sem] theorem zM:zeroOf Tryz.prog 85=some (.agg #[.int .i64 0,.int .i64 0]):=by kernel_rfl
@[go_sem] theorem ML:cM Tryz.prog 85 0=some 0:=by kernel_rfl
@[go_sem] theorem MM:cM Tryz.prog 85 1=some 1:=by kernel_rfl
@[go_sem] theorem MN:placesOf Tryz.prog 85=some [(0,1),(1,1)]:=by kernel_rfl
@[go_sem] theorem MO:cx Tryz.prog 96=some true:=by kernel_rfl
@[go_sem] theorem q8:bW Tryz.prog 96=some 2:=by kernel_rfl
theorem q9:bytesOf Tryz.prog 96=some 16:=by kernel_rfl
@[go_sem] theorem rf:zeroOf Tryz.prog 96=some (.agg #[.int .i64 0,.int .i64 0]):=by kernel_rfl
@[go_sem] theorem MP:cM Tryz.prog 96 0=some 0:=by kernel_rfl
@[go_sem] theorem MQ:cM Tryz.prog 96 1=some 1:=by kernel_rfl
@[go_sem] theorem MR:placesOf Tryz.prog 96=some [(0,1),(1,1)]:=by kernel_rfl
@[go_sem] theorem MS:cx Tryz.prog 115=some true:=by kernel_rfl
@[go_sem] theorem MT:bW Tryz.prog 115=some 8:=by kernel_rfl
@[go_sem] theorem MU:zeroOf Tryz.prog 115=some (.agg #[.int .i64 0,.int .i64 0,.int .i64 0,.int .i64 0,.slice none 0 0,.slice none 0 0,.slice none 0 0,.slice none 0 0]):=by kernel_rfl
@[go_sem] theorem MV:cM Tryz.prog 115 0=some 0:=by kernel_rfl
@[go_sem] theorem MW:placesOf Tryz.prog 115=some [(0,8)]:=by kernel_rfl
@[go_sem] theorem MX:cx Tryz.prog 118=some false:=by kernel_rfl
@[go_sem] theorem MY:bW Tryz.prog 118=some 1:=by kernel_rfl
@[go_sem] theorem MZ:zeroOf Tryz.prog 118=some (.map none):=by kernel_rfl
@[go_sem] theorem M0:cx Tryz.prog 121=some true:=by kernel_rfl
@[go_sem] theorem EB:bW Tryz.prog 121=some 3:=by kernel_rfl
theorem EC:bytesOf Tryz.prog 121=some 24:=by kernel_rfl
@[go_sem] theorem ED:zeroOf Tryz.prog 121=some (.agg #[.int .i64 0,.int .i64 0,.int .i64 0]):=by kernel_rfl
@[go_sem] theorem M1:m4 Tryz.prog 121=some (3,3):=by kernel_rfl
@[go_sem] theorem M3:cx Tryz.prog 122=some false:=by kernel_rfl
@[go_sem] theorem M4:bW Tryz.prog 122=some 1:=by kernel_rfl
@[go_sem] theorem zN:cZ Tryz.prog 122=some 121:=by kernel_rfl
@[go_sem] theorem M5:cx Tryz.prog 124=some true:=by kernel_rfl
@[go_sem] theorem M6:bW Tryz.prog 124=some 9:=by kernel_rfl
@[go_sem] theorem M7:zeroOf Tryz.prog 124=some (.agg #[.int .i64 0,.int .i64 0,.int .i64 0,.int .i64 0,.slice none 0 0,.slice none 0 0,.slice none 0 0,.slice none 0 0,.slice none 0 0]):=by kernel_rfl
@[go_sem] theorem M8:cM Tryz.prog 124 0=some 0:=by kernel_rfl
@[go_sem] theorem M9:cM Tryz.prog 124 1=some 8:=by kernel_rfl
@[go_sem] theorem Na:placesOf Tryz.prog 124=some [(0,8),(8,1)]:=by kernel_rfl
@[go_sem] theorem Nb:cx Tryz.prog 127=some false:=by kernel_rfl
@[go_sem] theorem Nc:bW Tryz.prog 127=some 1:=by kernel_rfl
@[go_sem] theorem Nf:zeroOf Tryz.prog 127=some .nilFunc:=by kernel_rfl
@[go_sem] theorem Ng:cx Tryz.prog 134=some true:=by kernel_rfl
@[go_sem] theorem EE:bW Tryz.prog 134=some 2:=by kernel_rfl
theorem EF:bytesOf Tryz.prog 134=some 16:=by kernel_rfl
@[go_sem] theorem EG:zeroOf Tryz.prog 134=some (.agg #[.int .i64 0,.int .i64 0]):=by kernel_rfl
@[go_sem] theorem Nh:m7 Tryz.prog 134=some [true,true]:=by kernel_rfl
@[go_sem] theorem Ni:cM Tryz.prog 134 0=some 0:=by kernel_rfl
@[go_sem] theorem Nj:cM Tryz.prog 134 1=some 1:=by kernel_rfl
@[go_sem] theorem Nk:placesOf Tryz.prog 134=some [(0,1),(1,1)]:=by kernel_rfl
@[go_sem] theorem Nl:cx Tryz.prog 139=some false:=by kernel_rfl
@[go_sem] theorem ng:cZ Tryz.prog 141=some 147:=by kernel_rfl
@[go_sem] theorem Nm:cx Tryz.prog 142=some false:=by kernel_rfl
@[go_sem] theorem Nn:bW Tryz.prog 142=some 1:=by kernel_rfl
@[go_sem] theorem No:zeroOf Tryz.prog 142=some (.slice none 0 0):=by kernel_rfl
@[go_sem] theorem zO:cZ Tryz.prog 142=some 134:=by kernel_rfl
@[go_sem] theorem Np:cx Tryz.prog 145=some true:=by kernel_rfl
@[go_sem] theorem Nq:bW Tryz.prog 145=some 3:=by kernel_rfl
@[go_sem] theorem Nr:zeroOf Tryz.prog 145=some (.agg #[.int .i64 0,.int .i64 0,.int .i64 0]):=by kernel_rfl
@[go_sem] theorem Ns:m7 Tryz.prog 145=some [true,true,true]:=by kernel_rfl
@[go_sem] theorem Nt:cM Tryz.prog 145 0=some 0:=by kernel_rfl
@[go_sem] theorem Nu:cM Tryz.prog 145 1=some 1:=by kernel_rfl
@[go_sem] theorem Nv:placesOf Tryz.prog 145=some [(0,1),(1,2)]:=by kernel_rfl
@[go_sem] theorem Ny:cx Tryz.prog 147=some true:=by kernel_rfl
@[go_sem] theorem uX:bW Tryz.prog 147=some 6:=by kernel_rfl
theorem uY:bytesOf Tryz.prog 147=some 48:=by kernel_rfl
@[go_sem] theorem uZ:zeroOf Tryz.prog 147=some (.agg #[.int .i64 0,.int .i64 0,.int .i64 0,.int .i64 0,.int .i64 0,.int .i64 0]):=by kernel_rfl
@[go_sem] theorem Nz:cM Tryz.prog 147 0=some 0:=by kernel_rfl
@[go_sem] theorem NA:cM Tryz.prog 147 1=some 3:=by kernel_rfl
@[go_sem] theorem NB:cM Tryz.prog 147 2=some 4:=by kernel_rfl
@[go_sem] theorem NC:uv Tryz.prog 147 2=some (4,2,true):=by kernel_rfl
@[go_sem] theorem ND:placesOf Tryz.prog 147=some [(0,3),(3,1),(4,2)]:=by kernel_rfl
@[go_sem] theorem kY:cZ Tryz.prog 154=some 35:=by kernel_rfl
@[go_sem] theorem NF:cx Tryz.prog 165=some false:=by kernel_rfl
@[go_sem] theorem NG:bW Tryz.prog 165=some 1:=by kernel_rfl
@[go_sem] theorem NH:zeroOf Tryz.prog 165=some .nilFunc:=by kernel_rfl
@[go_sem] theorem NI:cZ Tryz.prog 167=some 127:=by kernel_rfl
@[go_sem] theorem NJ:cx Tryz.prog 174=some true:=by kernel_rfl
@[go_sem] theorem NK:bW Tryz.prog 174=some 5:=by kernel_rfl
@[go_sem] theorem NL:m4 Tryz.prog 174=some (5,127):=by kernel_rfl
@[go_sem] theorem NM:cx Tryz.prog 177=some false:=by kernel_rfl
@[go_sem] theorem NN:bW Tryz.prog 177=some 1:=by kernel_rfl
@[go_sem] theorem NO:zeroOf Tryz.prog 177=some (.slice none 0 0):=by kernel_rfl
@[go_sem] theorem NP:cZ Tryz.prog 177=some 4:=by kernel_rfl
@[go_sem] theorem NQ:cM Tryz.prog 182 0=some 0:=by kernel_rfl
@[go_sem] theorem NR:cM Tryz.prog 182 1=some 1:=by kernel_rfl
@[go_sem] theorem NS:zeroOf Tryz.prog 184=some (.agg #[.int .i32 0,.int .u32 0]):=by kernel_rfl
@[go_sem] theorem NT:cM Tryz.prog 184 1=some 0:=by kernel_rfl
@[go_sem] theorem NU:cM Tryz.prog 189 2=some 0:=by kernel_rfl
@[go_sem] theorem NV:zeroOf Tryz.prog 191=some (.agg #[.int .u64 0,.int .u32 0]):=by kernel_rfl
@[go_sem] theorem NW:cM Tryz.prog 191 1=some 0:=by kernel_rfl
@[go_sem] theorem NX:cM Tryz.prog 191 2=some 1:=by kernel_rfl
@[go_sem] theorem NY:cx Tryz.prog 254=some false:=by kernel_rfl
@[go_sem] theorem NZ:bW Tryz.prog 254=some 1:=by kernel_rfl
@[go_sem] theorem N0:zeroOf Tryz.prog 254=some (.int .u64 0):=by kernel_rfl
@[go_sem] theorem N1:aH Tryz.prog 2=true:=by kernel_rfl
@[go_sem] theorem N2:aH Tryz.prog 3=true:=by kernel_rfl
@[go_sem] theorem N3:aH Tryz.prog 4=true:=by kernel_rfl
@[go_sem] theorem N4:aH Tryz.prog 5=true:=by kernel_rfl
@[go_sem] theorem N5:aH Tryz.prog 6=true:=by kernel_rfl
@[go_sem] theorem N6:aH Tryz.prog 7=true:=by kernel_rfl
@[go_sem] theorem N7:aH Tryz.prog 8=true:=by kernel_rfl
@[go_sem] theorem N8:aH Tryz.prog 9=true:=by kernel_rfl
@[go_sem] theorem N9:aH Tryz.prog 10=true:=by kernel_rfl
@[go_sem] theorem Oa:aH Tryz.prog 11=true:=by kernel_rfl
@[go_sem] theorem Ob:aH Tryz.prog 12=true:=by kernel_rfl
@[go_sem] theorem Oc:aH Tryz.prog 13=true:=by kernel_rfl
@[go_sem] theorem Od:aH Tryz.prog 14=true:=by kernel_rfl
@[go_sem] theorem Oe:aH Tryz.prog 15=true:=by kernel_rfl
@[go_sem] theorem Of:aH Tryz.prog 16=true:=by kernel_rfl
@[go_sem] theorem Og:aH Tryz.prog 17=true:=by kernel_rfl
@[go_sem] theorem Oh:aH Tryz.prog 18=true:=by kernel_rfl
@[go_sem] theorem Oi:aH Tryz.prog 19=true:=by kernel_rfl
@[go_sem] theorem Oj:aH Tryz.prog 20=true:=by kernel_rfl
@[go_sem] theorem Ok:aH Tryz.prog 21=true:=by kernel_rfl
@[go_sem] theorem Ol:aH Tryz.prog 22=true:=by kernel_rfl
@[go_sem] theorem Om:aH Tryz.prog 23=true:=by kernel_rfl
@[go_sem] theorem On:aH Tryz.prog 24=true:=by kernel_rfl
@[go_sem] theorem Oo:aH Tryz.prog 25=true:=by kernel_rfl
@[go_sem] theorem Oq:aH Tryz.prog 26=true:=by kernel_rfl
@[go_sem] theorem Ot:aH Tryz.prog 27=true:=by kernel_rfl
@[go_sem] theorem Ou:aH Tryz.prog 28=true:=by kernel_rfl
@[go_sem] theorem Ov:aH Tryz.prog 29=true:=by kernel_rfl
@[go_sem] theorem Ow:aH Tryz.prog 30=true:=by kernel_rfl
@[go_sem] theorem Ox:aH Tryz.prog 31=true:=by kernel_rfl
@[go_sem] theorem Oy:aH Tryz.prog 32=true:=by kernel_rfl
@[go_sem] theorem Oz:aH Tryz.prog 33=true:=by kernel_rfl
@[go_sem] theorem OA:aH Tryz.prog 34=true:=by kernel_rfl
@[go_sem] theorem OB:aH Tryz.prog 35=true:=by kernel_rfl
@[go_sem] theorem OC:aH Tryz.prog 36=true:=by kernel_rfl
@[go_sem] theorem OD:aH Tryz.prog 37=true:=by kernel_rfl
@[go_sem] theorem OE:aH Tryz.prog 38=true:=by kernel_rfl
@[go_sem] theorem OF:aH Tryz.prog 39=true:=by kernel_rfl
@[go_sem] theorem OG:aH Tryz.prog 40=true:=by kernel_rfl
@[go_sem] theorem OH:aH Tryz.prog 41=true:=by kernel_rfl
@[go_sem] theorem OI:aH Tryz.prog 42=true:=by kernel_rfl
@[go_sem] theorem OJ:aH Tryz.prog 43=true:=by kernel_rfl
@[go_sem] theorem OK:aH Tryz.prog 44=true:=by kernel_rfl
@[go_sem] theorem OL:aH Tryz.prog 45=true:=by kernel_rfl
@[go_sem] theorem OM:aH Tryz.prog 46=true:=by kernel_rfl
@[go_sem] theorem ON:aH Tryz.prog 47=true:=by kernel_rfl
@[go_sem] theorem OO:aH Tryz.prog 48=true:=by kernel_rfl
@[go_sem] theorem OP:aH Tryz.prog 49=true:=by kernel_rfl
@[go_sem] theorem OQ:aH Tryz.prog 50=true:=by kernel_rfl
@[go_sem] theorem OR:aH Tryz.prog 51=true:=by kernel_rfl
@[go_sem] theorem OS:aH Tryz.prog 52=true:=by kernel_rfl
@[go_sem] theorem OT:aH Tryz.prog 53=true:=by kernel_rfl
@[go_sem] theorem OU:aH Tryz.prog 54=true:=by kernel_rfl
@[go_sem] theorem OV:aH Tryz.prog 55=true:=by kernel_rfl
@[go_sem] theorem OW:aH Tryz.prog 56=true:=by kernel_rfl
@[go_sem] theorem OX:aH Tryz.prog 57=true:=by kernel_rfl
@[go_sem] theorem OY:aH Tryz.prog 58=true:=by kernel_rfl
@[go_sem] theorem OZ:aH Tryz.prog 59=true:=by kernel_rfl
@[go_sem] theorem O0:aH Tryz.prog 60=true:=by kernel_rfl
@[go_sem] theorem O1:aH Tryz.prog 61=true:=by kernel_rfl
@[go_sem] theorem O2:aH Tryz.prog 62=true:=by kernel_rfl
@[go_sem] theorem O3:aH Tryz.prog 63=true:=by kernel_rfl
@[go_sem] theorem O4:aH Tryz.prog 64=true:=by kernel_rfl
@[go_sem] theorem O5:aH Tryz.prog 65=true:=by kernel_rfl
@[go_sem] theorem O6:aH Tryz.prog 66=true:=by kernel_rfl
@[go_sem] theorem O7:aH Tryz.prog 67=true:=by kernel_rfl
@[go_sem] theorem O8:aH Tryz.prog 68=true:=by kernel_rfl
@[go_sem] theorem O9:aH Tryz.prog 69=true:=by kernel_rfl
@[go_sem] theorem Pa:aH Tryz.prog 70=true:=by kernel_rfl
@[go_sem] theorem Pb:aH Tryz.prog 71=true:=by kernel_rfl
@[go_sem] theorem Pd:aH Tryz.prog 72=true:=by kernel_rfl
@[go_sem] theorem Pe:aH Tryz.prog 73=true:=by kernel_rfl
@[go_sem] theorem Pf:aH Tryz.prog 74=true:=by kernel_rfl
@[go_sem] theorem Pg:aH Tryz.prog 75=true:=by kernel_rfl
@[go_sem] theorem Pj:aH Tryz.prog 76=true:=by kernel_rfl
@[go_sem] theorem Pk:aH Tryz.prog 77=true:=by kernel_rfl
@[go_sem] theorem Pm:aH Tryz.prog 78=true:=by kernel_rfl
@[go_sem] theorem Pn:aH Tryz.prog 79=true:=by kernel_rfl
@[go_sem] theorem Po:aH Tryz.prog 80=true:=by kernel_rfl
@[go_sem] theorem Pp:aH Tryz.prog 81=true:=by kernel_rfl
@[go_sem] theorem Pq:aH Tryz.prog 82=true:=by kernel_rfl
@[go_sem] theorem Pt:aH Tryz.prog 83=true:=by kernel_rfl
@[go_sem] theorem Pu:aH Tryz.prog 84=true:=by kernel_rfl
@[go_sem] theorem Pv:aH Tryz.prog 85=true:=by kernel_rfl
@[go_sem] theorem Pw:aH Tryz.prog 86=true:=by kernel_rfl
@[go_sem] theorem Px:aH Tryz.prog 87=true:=by kernel_rfl
@[go_sem] theorem Py:aH Tryz.prog 88=true:=by kernel_rfl
@[go_sem] theorem Pz:aH Tryz.prog 89=true:=by kernel_rfl
@[go_sem] theorem PA:aH Tryz.prog 90=true:=by kernel_rfl
@[go_sem] theorem PB:aH Tryz.prog 91=true:=by kernel_rfl
@[go_sem] theorem PC:aH Tryz.prog 92=true:=by kernel_rfl
@[go_sem] theorem PD:aH Tryz.prog 93=true:=by kernel_rfl
@[go_sem] theorem PE:aH Tryz.prog 94=true:=by kernel_rfl
@[go_sem] theorem PF:aH Tryz.prog 95=true:=by kernel_rfl
@[go_sem] theorem PG:aH Tryz.prog 96=true:=by kernel_rfl
@[go_sem] theorem PI:aH Tryz.prog 97=true:=by kernel_rfl
@[go_sem] theorem PJ:aH Tryz.prog 98=true:=by kernel_rfl
@[go_sem] theorem PK:aH Tryz.prog 99=true:=by kernel_rfl
@[go_sem] theorem PL:aH Tryz.prog 100=true:=by kernel_rfl
@[go_sem] theorem PM:aH Tryz.prog 101=true:=by kernel_rfl
@[go_sem] theorem PN:aH Tryz.prog 102=true:=by kernel_rfl
@[go_sem] theorem PO:aH Tryz.prog 103=true:=by kernel_rfl
@[go_sem] theorem PR:aH Tryz.prog 104=true:=by kernel_rfl
@[go_sem] theorem PS:aH Tryz.prog 105=true:=by kernel_rfl
@[go_sem] theorem PU:aH Tryz.prog 106=true:=by kernel_rfl
@[go_sem] theorem PV:aH Tryz.prog 107=true:=by kernel_rfl
@[go_sem] theorem PW:aH Tryz.prog 108=true:=by kernel_rfl
@[go_sem] theorem PX:aH Tryz.prog 109=true:=by kernel_rfl
@[go_sem] theorem PY:aH Tryz.prog 110=true:=by kernel_rfl
@[go_sem] theorem PZ:aH Tryz.prog 111=true:=by kernel_rfl
@[go_sem] theorem P1:aH Tryz.prog 112=true:=by kernel_rfl
@[go_sem] theorem P2:aH Tryz.prog 113=true:=by kernel_rfl
@[go_sem] theorem P3:aH Tryz.prog 114=true:=by kernel_rfl
@[go_sem] theorem P4:aH Tryz.prog 115=true:=by kernel_rfl
@[go_sem] theorem P5:aH Tryz.prog 116=true:=by kernel_rfl
@[go_sem] theorem P6:aH Tryz.prog 117=true:=by kernel_rfl
@[go_sem] theorem P7:aH Tryz.prog 118=true:=by kernel_rfl
@[go_sem] theorem P8:aH Tryz.prog 119=true:=by kernel_rfl
@[go_sem] theorem P9:aH Tryz.prog 120=true:=by kernel_rfl
@[go_sem] theorem Qa:aH Tryz.prog 121=true:=by kernel_rfl
@[go_sem] theorem Qb:aH Tryz.prog 122=true:=by kernel_rfl
@[go_sem] theorem Qc:aH Tryz.prog 123=true:=by kernel_rfl
@[go_sem] theorem Qd:aH Tryz.prog 124=true:=by kernel_rfl
@[go_sem] theorem Qe:aH Tryz.prog 125=true:=by kernel_rfl
@[go_sem] theorem Qf:aH Tryz.prog 126=true:=by kernel_rfl
@[go_sem] theorem Qg:aH Tryz.prog 127=true:=by kernel_rfl
@[go_sem] theorem Qh:aH Tryz.prog 128=true:=by kernel_rfl
@[go_sem] theorem Qi:aH Tryz.prog 129=true:=by kernel_rfl
@[go_sem] theorem Qj:aH Tryz.prog 130=true:=by kernel_rfl
@[go_sem] theorem Qk:aH Tryz.prog 131=true:=by kernel_rfl
@[go_sem] theorem zP:aH Tryz.prog 132=true:=by kernel_rfl
@[go_sem] theorem Ql:aH Tryz.prog 133=true:=by kernel_rfl
@[go_sem] theorem Qm:aH Tryz.prog 134=true:=by kernel_rfl
@[go_sem] theorem Qo:aH Tryz.prog 135=true:=by kernel_rfl
@[go_sem] theorem Qp:aH Tryz.prog 136=true:=by kernel_rfl
@[go_sem] theorem EH:aH Tryz.prog 137=true:=by kernel_rfl
@[go_sem] theorem EI:aH Tryz.prog 138=true:=by kernel_rfl
@[go_sem] theorem EJ:aH Tryz.prog 139=true:=by kernel_rfl
@[go_sem] theorem Qq:aH Tryz.prog 140=true:=by kernel_rfl
@[go_sem] theorem Qr:aH Tryz.prog 141=true:=by kernel_rfl
@[go_sem] theorem Qs:aH Tryz.prog 142=true:=by kernel_rfl
@[go_sem] theorem Qt:aH Tryz.prog 143=true:=by kernel_rfl
@[go_sem] theorem Qu:aH Tryz.prog 144=true:=by kernel_rfl
@[go_sem] theorem Qv:aH Tryz.prog 145=true:=by kernel_rfl
@[go_sem] theorem Qw:aH Tryz.prog 146=true:=by kernel_rfl
@[go_sem] theorem Qx:aH Tryz.prog 147=true:=by kernel_rfl
@[go_sem] theorem Qy:aH Tryz.prog 148=true:=by kernel_rfl
@[go_sem] theorem Qz:aH Tryz.prog 149=true:=by kernel_rfl
@[go_sem] theorem QA:aH Tryz.prog 150=true:=by kernel_rfl
@[go_sem] theorem QB:aH Tryz.prog 157=true:=by kernel_rfl
@[go_sem] theorem zQ:aH Tryz.prog 158=true:=by kernel_rfl
@[go_sem] theorem u5:aH Tryz.prog 160=true:=by kernel_rfl
@[go_sem] theorem EK:aH Tryz.prog 161=true:=by kernel_rfl
@[go_sem] theorem QC:aH Tryz.prog 164=true:=by kernel_rfl
@[go_sem] theorem EL:aH Tryz.prog 165=true:=by kernel_rfl
@[go_sem] theorem EM:aH Tryz.prog 166=true:=by kernel_rfl
@[go_sem] theorem EN:aH Tryz.prog 169=true:=by kernel_rfl
@[go_sem] theorem QD:aH Tryz.prog 172=true:=by kernel_rfl
@[go_sem] theorem QE:aH Tryz.prog 173=true:=by kernel_rfl
@[go_sem] theorem QF:aH Tryz.prog 174=true:=by kernel_rfl
@[go_sem] theorem QG:aH Tryz.prog 175=true:=by kernel_rfl
@[go_sem] theorem QH:aH Tryz.prog 176=true:=by kernel_rfl
@[go_sem] theorem QI:aH Tryz.prog 177=true:=by kernel_rfl
@[go_sem] theorem QJ:aH Tryz.prog 178=true:=by kernel_rfl
@[go_sem] theorem QK:aH Tryz.prog 179=true:=by kernel_rfl
@[go_sem] theorem QL:aH Tryz.prog 180=true:=by kernel_rfl
@[go_sem] theorem QM:aH Tryz.prog 181=true:=by kernel_rfl
@[go_sem] theorem QN:aH Tryz.prog 182=true:=by kernel_rfl
@[go_sem] theorem QO:aH Tryz.prog 183=true:=by kernel_rfl
@[go_sem] theorem QS:aH Tryz.prog 184=true:=by kernel_rfl
@[go_sem] theorem QT:aH Tryz.prog 185=true:=by kernel_rfl
@[go_sem] theorem QU:aH Tryz.prog 186=true:=by kernel_rfl
@[go_sem] theorem QV:aH Tryz.prog 187=true:=by kernel_rfl
@[go_sem] theorem QW:aH Tryz.prog 192=true:=by kernel_rfl
@[go_sem] theorem EO:aH Tryz.prog 194=true:=by kernel_rfl
@[go_sem] theorem EP:aH Tryz.prog 196=true:=by kernel_rfl
@[go_sem] theorem QX:aH Tryz.prog 198=true:=by kernel_rfl
@[go_sem] theorem QY:aH Tryz.prog 199=true:=by kernel_rfl
@[go_sem] theorem QZ:aH Tryz.prog 200=true:=by kernel_rfl
@[go_sem] theorem Q0:aH Tryz.prog 201=true:=by kernel_rfl
@[go_sem] theorem Q1:aH Tryz.prog 202=true:=by kernel_rfl
@[go_sem] theorem Q2:aH Tryz.prog 203=true:=by kernel_rfl
@[go_sem] theorem Q3:aH Tryz.prog 204=true:=by kernel_rfl
@[go_sem] theorem Q4:aH Tryz.prog 212=true:=by kernel_rfl
@[go_sem] theorem Q5:aH Tryz.prog 229=true:=by kernel_rfl
@[go_sem] theorem Q6:aH Tryz.prog 230=true:=by kernel_rfl
@[go_sem] theorem Q7:aH Tryz.prog 231=true:=by kernel_rfl
@[go_sem] theorem Q8:aH Tryz.prog 232=true:=by kernel_rfl
@[go_sem] theorem Q9:aH Tryz.prog 233=true:=by kernel_rfl
@[go_sem] theorem Ra:aH Tryz.prog 237=true:=by kernel_rfl
end Go.Proofs.YtpgcmoanfifglaaGreatDoor
end
section
namespace Go.Sep
open Go Go.Conc
def jY (o:Oper):Option (TypeId×Nat):=match o.op,o.dst,o.guard with
 | .alloc t,some d,none=>some (t,d)
 |_,_,_=>none
def zR (ops:Array Oper)(m:Nat):Bool:=
 nc ops (m+1)&&decide (m+2<=ops.size)&&
 (match (ops[m]?).bind jY,(ops[m+1]?).bind jY with|some (_,d),some (_,a)=>!(d==a)|_,_=>false)&&
 decide (Region.ready .any ops (cQ ops.size m)=[m,m+1])&&decide (Region.ready .any ops ((cQ ops.size m).setIfInBounds (m+1) true)=[m])
theorem zS {ro:Addr->Option Value}{x y:Nat×Obj}{l:List (Nat×Obj)}:Le ⟨ro,x::y::l⟩ ⟨ro,y::x::l⟩:=by
 have c:∀b,b∈keys (x::y::l)↔b∈keys (y::x::l):=fun b=>by
  simp only[keys,List.map_cons,List.mem_cons];exact ⟨fun h=>by rcases h with h|h|h;exact .inr (.inl h);exact .inl h;exact .inr (.inr h),fun h=>by rcases h with h|h|h;exact .inr (.inl h);exact .inl h;exact .inr (.inr h)⟩
 refine ⟨fun w hw=>⟨hw.ro,fun b o hb=>hw.own b o ?_,?_,fun a v h hm=>hw.apart a v h ((c _).1 hm)⟩,fun b hb=>(c b).1 hb,fun a d=>.inl d⟩
 ·rcases List.mem_cons.1 hb with h|h
  ·exact List.mem_cons_of_mem _ (h▸List.mem_cons_self)
  ·rcases List.mem_cons.1 h with h|h
   ·exact h▸List.mem_cons_self
   ·exact List.mem_cons_of_mem _ (List.mem_cons_of_mem _ h)
 ·have:=hw.nodup;simp only[keys,List.map_cons,List.nodup_cons,List.mem_cons,not_or] at this ⊢;exact ⟨⟨fun e=>this.1.1 e.symm,this.2.1⟩,this.1.2,this.2.2⟩
section
variable {P : Program} {main : Bool} {J : Goroutine → aa → Prop} {ops : Array Oper} {Q : Act → aa → Prop} {F0 : aa}
theorem zT {o:Oper}{t:TypeId}{d:Nat}(h:jY o=some (t,d)):o.op= .alloc t/\o.dst=some d/\o.guard=none:=by
 unfold jY at h;split at h
 ·rename_i h1 a b;cases h;exact ⟨h1,a,b⟩
 ·cases h
theorem o8 {o:Oper}{a:Act}(h:o.guard=none):cz ops o a=some true:=by unfold cz;rw[h]
theorem u6 {o:Oper}{t:TypeId}{a:Act}{F:aa}{z:Value}{R:Value->aa->Prop}{D:Deferred->aa->Prop}(d:o.op= .alloc t)(e:zeroOf P t=some z)
  (h:∀b,dP F b->∃c,Le c (F.push b (.cells z.cells t))/\R (.pointer (some ⟨b,0,none⟩)) c):aT P (execOp a.eval o) (jO P J R D) F:=by
 have:Oper.m8 o=false:=by unfold Oper.m8;rw[d]
 refine zo (R:=fun v F=>∃c,Le c F/\R v c) this ?_
 unfold cJ
 rw[d]
 simp only[e]
 exact h
theorem ER (m:Nat){o1 o2:Oper}{rest:List Oper}{t1 t2 d1 d2:Nat}(hm:m+2<=ops.size)(v:ops[m]?=some o1)(w:ops[m+1]?=some o2)(K:jY o1=some (t1,d1))(L:jY o2=some (t2,d2)){p:Value}(y:zeroOf P t2=some p)(hd:¬d1=d2)
  (A:ops.toList.drop (m+2)=rest) (B:Region.ready .any ops (cQ ops.size m)=[m,m+1]) (C:Region.ready .any ops ((cQ ops.size m).setIfInBounds (m+1) true)=[m])
  (D:∀j,j<ops.size - (m+1)->Region.ready .any ops (cQ ops.size (m+1+j))=[m+1+j]) (E:Region.ready .any ops (cQ ops.size ops.size)=[])
  {a:Act} {F:aa} (q:Knows F0 F) (h:eC P J ops F0 Q (o1::o2::rest) true a F):dI P J ops Q (Knows F0) (ops.size - m) (cQ ops.size m) a F:=by
 obtain ⟨e1,r,s⟩:=zT K
 obtain ⟨e2,G,H⟩:=zT L
 have M:ops.size - m=(ops.size - (m+1))+1:=by omega
 have N:ops.size - (m+1)=(ops.size - (m+2))+1:=by omega
 unfold eC at h
 rw[o8 s] at h
 simp only at h
 have k:∃z,zeroOf P t1=some z:=by
  unfold cJ at h
  rw[e1] at h
  simp only at h
  split at h
  ·rename_i z O;exact ⟨z,O⟩
  ·exact h.elim
 obtain ⟨g,k⟩:=k
 have h1:∀b,dP F b->Knows F0 (F.push b (.cells g.cells t1))/\eC P J ops F0 Q (o2::rest) (!Oper.calls o1) (aZ a (some d1) (.pointer (some ⟨b,0,none⟩))) (F.push b (.cells g.cells t1)):=by
  unfold cJ at h
  rw[e1] at h
  simp only[k,r] at h
  exact h
 have R:∀b,dP F b->∀f,dP (F.push b (.cells g.cells t1)) f->Knows F0 ((F.push b (.cells g.cells t1)).push f (.cells p.cells t2))/\
   eC P J ops F0 Q rest (!Oper.calls o2) (aZ (aZ a (some d1) (.pointer (some ⟨b,0,none⟩))) (some d2) (.pointer (some ⟨f,0,none⟩))) ((F.push b (.cells g.cells t1)).push f (.cells p.cells t2)):=by
  intro b hb
  have:=(h1 b hb).2
  unfold eC at this
  rw[o8 H] at this
  simp only at this
  unfold cJ at this
  rw[e2] at this
  simp only[y,G] at this
  exact this
 have I:=qZ (n:=ops.size) (m:=m) (by omega)
 have S:=qZ (n:=ops.size) (m:=m+1) (by omega)
 rw[M]
 refine ⟨fun h0=>(by rw[B] at h0;cases h0),fun i hi=>?_⟩
 rw[B] at hi
 simp only[List.mem_cons,List.not_mem_nil,or_false] at hi
 rcases hi with hi|hi
 ·subst hi
  unfold dH
  simp only[v]
  rw[if_pos (b9 (o8 s))]
  refine u6 e1 k fun b hb=>⟨_,Le.refl _,(h1 b hb).1,?_⟩
  rw[I,r]
  exact lZ (i+1) D E (o2::rest) (i+1) _ _ _ (Nat.le_refl _) (by omega) (by
   have:=List.drop_eq_getElem_cons (l:=ops.toList) (i:=i+1) (by simp;omega)
   rw[this,A]
   obtain ⟨_,he⟩:=Array.getElem?_eq_some_iff.1 w
   simp[he]) (h1 b hb).2
 ·subst hi
  unfold dH
  simp only[w]
  rw[if_pos (b9 (o8 H))]
  refine u6 e2 y fun f t=>⟨_,Le.refl _,?_,?_⟩
  ·refine ⟨q.1,q.2.1,?_⟩
   have T:∀(l own:List (Nat×Obj)),au own f->iO l own->iO l ((f,.cells p.cells t2)::own):=fun l own U u=>by
    induction l with
    |nil=>trivial
    |cons x l ih=>
     obtain ⟨c,o⟩:=x
     refine ⟨?_,ih u.2⟩
     have V:¬f=c:=fun e=>kT U (e▸eK (gI u.1))
     simp only[lk,if_neg V]
     exact u.1
   exact T _ _ t.own q.2.2
  ·rw[N]
   refine ⟨fun h0=>(by rw[C] at h0;cases h0),fun i hi=>?_⟩
   rw[C] at hi
   simp only[List.mem_cons,List.not_mem_nil,or_false] at hi
   subst hi
   unfold dH
   simp only[v]
   rw[if_pos (b9 (o8 s))]
   refine u6 e1 k fun b hb=>?_
   have W:dP F b:=⟨hb.ro,hb.own.2⟩
   have aF:¬f=b:=fun e=>hb.own.1 e.symm
   have X:dP (F.push b (.cells g.cells t1)) f:=⟨t.ro,⟨aF,t.own⟩⟩
   obtain ⟨Y,Z⟩:=R b W f X
   refine ⟨_,zS,Y,?_⟩
   have ab:aZ (aZ a o2.dst (.pointer (some ⟨f,0,none⟩))) o1.dst (.pointer (some ⟨b,0,none⟩))=aZ (aZ a (some d1) (.pointer (some ⟨b,0,none⟩))) (some d2) (.pointer (some ⟨f,0,none⟩)):=by
    rw[r,G]
    exact Act.put_comm a _ _ (fun d ad=>by cases ad;intro e;cases e;exact hd rfl)
   have hs:((cQ ops.size i).setIfInBounds (i+1) true).setIfInBounds i true=cQ ops.size (i+2):=by
    rw[Array.setIfInBounds_comm _ _ (by omega:i+1≠i),I,S]
   show dI P J ops Q (Knows F0) (ops.size - (i+2)) _ (aZ (aZ a o2.dst _) o1.dst _) _
   rw[hs,ab]
   exact lZ (i+1) D E rest (i+2) _ _ _ (by omega) hm A Z
theorem zU {Q:Ex->Act->aa->Prop}(hJ:Closed P main J)(o:P.follows .mixedOrders=true)(m:Nat){id:Nat}{a:Act}{F:aa}(F0:aa)(e:Knows F0 F)(f:zR ops m=true)(t2:TypeId){p:Value}(g:((ops[m+1]?).bind jY).map (·.1)=some t2)(q:zeroOf P t2=some p)
  (h:dW P J ops F0 (fun j=>eC P J ops F0 (Q .normal) (ops.toList.drop m) true j F) (ops.toList.take m) true a):Wp J (.region id ops true) Q a F:=by
 simp only[zR,Bool.and_eq_true,decide_eq_true_eq] at f
 obtain ⟨⟨⟨⟨r,hm⟩,b⟩,s⟩,t⟩:=f
 have k:=zz r
 simp only[oV,Bool.and_eq_true,decide_eq_true_eq,List.all_eq_true,List.mem_range] at k
 obtain ⟨⟨⟨⟨h1,C⟩,u⟩,v⟩,w⟩:=k
 cases c:(ops[m]?).bind jY with
 |none=>rw[c] at b;cases b
 |some x=>
  cases d:(ops[m+1]?).bind jY with
  |none=>rw[c,d] at b;cases b
  |some y=>
   obtain ⟨t1,d1⟩:=x
   obtain ⟨z,d2⟩:=y
   rw[d] at g
   obtain rfl:z=t2:=by simpa using g
   rw[c,d] at b
   obtain ⟨o1,e1,a1⟩:=Option.bind_eq_some_iff.1 c
   obtain ⟨o2,e2,a2⟩:=Option.bind_eq_some_iff.1 d
   have hd:¬d1=d2:=by simpa using b
   have A:ops.toList.drop m=o1::o2::ops.toList.drop (m+2):=by
    obtain ⟨B,c1⟩:=Array.getElem?_eq_some_iff.1 e1
    obtain ⟨b2,c2⟩:=Array.getElem?_eq_some_iff.1 e2
    rw[List.drop_eq_getElem_cons (l:=ops.toList) (i:=m) (by simpa using B),List.drop_eq_getElem_cons (l:=ops.toList) (i:=m+1) (by simpa using b2)]
    simp[c1,c2]
   refine uh hJ (Knows F0) o ?_
   rw[<-zA]
   have:=q2 (P:=P) (J:=J) (Q:=Q .normal) m (by omega) h1 (fun i hi=>by have:=u i (by omega);simpa using this) e (fun j n=>by
    rw[A] at n
    exact ER (F0:=F0) m hm e1 e2 a1 a2 q hd rfl s t v w e n) _ 0 true a (by simp) (Nat.zero_le _) h
   simpa using this
end
def pick (ops:Array Oper):List Nat->List Oper
 |[]=>[]
 |i::is=>match ops[i]? with
  |some o=>o::pick ops is
  |none=>pick ops is
def u7:List Nat->Array Bool->Array Bool
 |[],L=>L
 |i::is,L=>u7 is (L.setIfInBounds i true)
def ri (ops:Array Oper):List Nat->Array Bool->Bool
 |[],_=>true
 |i::is,L=>Region.free .any ops L i&&(Region.ready .any ops L).contains i&&(ops[i]?).isSome&&ri ops is (L.setIfInBounds i true)
def o9 (ops:Array Oper):List Nat->Array Bool->Bool
 |[],L=>decide (Region.ready .any ops L=[])
 |i::is,L=>decide (Region.ready .any ops L=[i])&&(ops[i]?).isSome&&o9 ops is (L.setIfInBounds i true)
def zV (ops:Array Oper)(is a:List Nat):Bool:=
 Region.noSelect ops&&ri ops is (Array.replicate ops.size false)&&o9 ops a (u7 is (Array.replicate ops.size false))&&decide (is.length+a.length=ops.size)
section
variable {P : Program} {main : Bool} {J : Goroutine → aa → Prop} {ops : Array Oper} {Q : Act → aa → Prop} {F0 : aa}
theorem zW {K:Act->Prop}(m:Region.noSelect ops=true){F:aa}(b:Knows F0 F)(fuel:Nat):
  ∀(is:List Nat) (L:Array Bool) (go:Bool) (a:Act),ri ops is L=true->dW P J ops F0 K (pick ops is) go a->(∀n,K n->dI P J ops Q (Knows F0) fuel (u7 is L) n F)->
   dI P J ops Q (Knows F0) (fuel+is.length) L a F
 |[],L,go,a,_,h,k=>by unfold pick dW at h;exact k a h
 |i::is,L,go,a,p,h,k=>by
  simp only[ri,Bool.and_eq_true] at p
  obtain ⟨⟨⟨c1,c2⟩,c3⟩,c4⟩:=p
  obtain ⟨o,c⟩:=Option.isSome_iff_exists.1 c3
  have g:(Region.noSelect ops&&Region.free .any ops L i&&(Region.ready .any ops L).contains i)=true:=by rw[m,c1,c2];rfl
  have q:pick ops (i::is)=o::pick ops is:=by simp only[pick,c]
  rw[q] at h
  have e:fuel+(i::is).length=(fuel+is.length)+1:=by simp only[List.length_cons];omega
  rw[e]
  have next:∀go v,dW P J ops F0 K (pick ops is) go (aZ a o.dst v)->dI P J ops Q (Knows F0) (fuel+is.length) (L.setIfInBounds i true) (aZ a o.dst v) F:=fun go v d=>
   zW m b fuel is _ go _ c4 d k
  unfold dW at h
  split at h
  ·rename_i hg
   exact zu i c g hg b (next true undef h)
  ·rename_i hg
   split at h
   ·rename_i t x l
    split at h
    case h_2=>exact h.elim
    rename_i ad r
    split at h
    case h_2=>exact h.elim
    rename_i v d
    refine m9 i v c g hg (fun F R j f=>?_) b (next _ v h)
    unfold cJ
    simp only[l,r,j.e7 d]
    exact f
   ·rename_i x args argTypes l
    split at h
    case h_2=>exact h.elim
    rename_i fn first captured s
    obtain ⟨u,v,w,h⟩:=h
    refine m9 i v c g hg (fun F R j f=>?_) b (next _ v h)
    unfold cJ
    simp only[l,s]
    exact ⟨u,(w F j).mono fun z F' y=>by obtain ⟨rfl,rfl⟩:=y;exact f⟩
   ·split at h
    case h_2=>exact h.elim
    rename_i v d
    exact m9 i v c g hg (fun F R j f=>qY d f) b (next _ v h)
  ·exact h.elim
theorem zX:∀(b:List Nat) (L:Array Bool) (go:Bool) (a:Act) (F:aa),o9 ops b L=true->eC P J ops F0 Q (pick ops b) go a F->dI P J ops Q (Knows F0) b.length L a F
 |[],L,go,a,F,c,h=>by
  simp only[o9,decide_eq_true_eq] at c
  unfold pick eC at h
  exact yY c h _
 |j::b,L,go,a,F,c,h=>by
  simp only[o9,Bool.and_eq_true,decide_eq_true_eq] at c
  obtain ⟨⟨c1,c3⟩,c4⟩:=c
  obtain ⟨o,d⟩:=Option.isSome_iff_exists.1 c3
  have e:pick ops (j::b)=o::pick ops b:=by simp only[pick,d]
  rw[e] at h
  unfold eC at h
  split at h
  ·rename_i hg
   refine zv j d c1 hg ?_
   refine lZ.q3 ?_ h
   rintro v F' ⟨h1,f⟩
   exact ⟨h1,zX b _ _ _ F' c4 f⟩
  ·exact h.elim
theorem ES {Q:Ex->Act->aa->Prop}(hJ:Closed P main J)(e:P.follows .mixedOrders=true)(is b:List Nat){id:Nat}{a:Act}{F:aa}(F0:aa)(f:Knows F0 F)(d:zV ops is b=true)
  (h:dW P J ops F0 (fun c=>eC P J ops F0 (Q .normal) (pick ops b) true c F) (pick ops is) true a):Wp J (.region id ops true) Q a F:=by
 simp only[zV,Bool.and_eq_true,decide_eq_true_eq] at d
 obtain ⟨⟨⟨h1,g⟩,i⟩,k⟩:=d
 refine uh hJ (Knows F0) e ?_
 have:=zW (P:=P) (J:=J) (Q:=Q .normal) h1 f b.length is _ true a g h (fun c j=>zX b _ true c F i j)
 rwa [show b.length+is.length=ops.size by omega] at this
end
attribute [go_sem] pick
inductive jZ where
 |done
 |rd (i:Nat) (p:jZ)
 |one (i:Nat) (p:jZ)
 |two (i:Nat) (p:jZ) (j:Nat) (q:jZ)
inductive kZ where
 |done
 |rd (o:Oper) (p:kZ)
 |one (o:Oper) (p:kZ)
 |two (o:Oper) (p:kZ) (o':Oper) (q:kZ)
 |bad
def jZ.opers (ops:Array Oper):jZ->kZ
 | .done=>.done
 | .rd i p=>match ops[i]? with
  |some o=>.rd o (p.opers ops)
  |none=>.bad
 | .one i p=>match ops[i]? with
  |some o=>.one o (p.opers ops)
  |none=>.bad
 | .two i p j q=>match ops[i]?,ops[j]? with
  |some o,some o'=>.two o (p.opers ops) o' (q.opers ops)
  |_,_=>.bad
def jZ.len:jZ->Nat
 | .done=>0
 | .rd _ p=>p.len+1
 | .one _ p=>p.len+1
 | .two _ p _ q=>max p.len q.len+1
def fO (P:Program)(J:Goroutine->aa->Prop)(ops:Array Oper)(F0:aa)(Q:Act->aa->Prop):kZ->Bool->Act->aa->Prop
 | .done,_,a,F=>Q a F
 | .bad,_,_,_=>False
 | .rd o p,_,a,F=>match cz ops o a with
  |some false=>fO P J ops F0 Q p true (aZ a o.dst undef) F
  |some true=>match o.op with
   | .load t x=>match ev a x with
    | .pointer (some ad)=>match e7 P F0 t ad with
     |some v=>fO P J ops F0 Q p true (aZ a o.dst v) F
     |none=>False
    |_=>False
   | .call {callee:=.value x,args, ..}=>match ev a x with
    | .func (.func fn) first captured=>aH P fn=true/\∃v,Plain P J F0 fn (first++args.map (ev a)++captured) v/\fO P J ops F0 Q p false (aZ a o.dst v) F
    |_=>False
   |_=>match iP P o a with
    |some v=>fO P J ops F0 Q p true (aZ a o.dst v) F
    |none=>False
  |none=>False
 | .one o p,_,a,F=>match cz ops o a with
  |some true=>cJ P J o (fun v F'=>Knows F0 F'/\fO P J ops F0 Q p (!Oper.calls o) (aZ a o.dst v) F') a F
  |_=>False
 | .two o p o' q,_,a,F=>(match cz ops o a with
  |some true=>cJ P J o (fun v F'=>Knows F0 F'/\fO P J ops F0 Q p (!Oper.calls o) (aZ a o.dst v) F') a F
  |_=>False)/\(match cz ops o' a with
  |some true=>cJ P J o' (fun v F'=>Knows F0 F'/\fO P J ops F0 Q q (!Oper.calls o') (aZ a o'.dst v) F') a F
  |_=>False)
theorem ET {P:Program}{J:Goroutine->aa->Prop}{ops:Array Oper}{F0:aa}{Q:Act->aa->Prop}{go:Bool}{a:Act}{F:aa}:fO P J ops F0 Q .done go a F=Q a F:=rfl
theorem EU {P:Program}{J:Goroutine->aa->Prop}{ops:Array Oper}{F0:aa}{Q:Act->aa->Prop}{o:Oper}{p:kZ}{a:Act}{F:aa}:fO P J ops F0 Q (.rd o p) true a F=match cz ops o a with
  |some false=>fO P J ops F0 Q p true (aZ a o.dst undef) F
  |some true=>match o.op with
   | .load t x=>match ev a x with
    | .pointer (some ad)=>match e7 P F0 t ad with
     |some v=>fO P J ops F0 Q p true (aZ a o.dst v) F
     |none=>False
    |_=>False
   | .call {callee:=.value x,args, ..}=>match ev a x with
    | .func (.func fn) first captured=>aH P fn=true/\∃v,Plain P J F0 fn (first++args.map (ev a)++captured) v/\fO P J ops F0 Q p false (aZ a o.dst v) F
    |_=>False
   |_=>match iP P o a with
    |some v=>fO P J ops F0 Q p true (aZ a o.dst v) F
    |none=>False
  |none=>False:=(Eq.refl _).trans (Eq.refl _)
theorem EV {P:Program}{J:Goroutine->aa->Prop}{ops:Array Oper}{F0:aa}{Q:Act->aa->Prop}{o:Oper}{p:kZ}{a:Act}{F:aa}:fO P J ops F0 Q (.one o p) true a F=match cz ops o a with
  |some true=>cJ P J o (fun v F'=>Knows F0 F'/\fO P J ops F0 Q p (!Oper.calls o) (aZ a o.dst v) F') a F
  |_=>False:=(Eq.refl _).trans (Eq.refl _)
attribute [irreducible] fO
attribute [go_sem] ET EU EV jZ.opers
theorem zY {F:aa}{a:Addr}:∀(cs:List Value) (i:Nat),(∀j v,cs[j]?=some v->F.get (a.add (i+j))=some v)->F.dj a i cs.length=some cs
 |[],i,_=>rfl
 |v::cs,i,h=>by
  have h0:=h 0 v rfl
  rw[Nat.add_zero] at h0
  have ih:=zY cs (i+1) (fun j w hw=>by
   have:=h (j+1) w (by simpa using hw)
   rwa [show i+(j+1)=i+1+j by omega] at this)
  simp only[List.length_cons,aa.dj,h0,ih]
theorem zZ {F:aa}{a:Addr}:∀(m i k:Nat) (c b:List Value),F.dj a i m=some c->F.dj a (i+m) k=some b->F.dj a i (m+k)=some (c++b)
 |0,i,k,c,b,h1,d=>by
  simp only[aa.dj,Option.some.injEq] at h1
  subst h1
  rw[Nat.zero_add]
  simpa using d
 |m+1,i,k,c,b,h1,d=>by
  unfold aa.dj at h1
  split at h1
  case h_2=>cases h1
  rename_i v e
  split at h1
  case h_2=>cases h1
  rename_i f g
  cases h1
  have ih:=zZ m (i+1) k f b g (by rwa [show i+1+m=i+(m+1) by omega])
  rw[show m+1+k=(m+k)+1 by omega]
  simp only[aa.dj,e,ih,List.cons_append]
theorem aB.cells {T:Type}{r:b6 T}{ro:Addr->Option Value}{ad:Option Addr}{c:Nat}{l:List T}(h:aB r ro (.slice ad l.length c) l)(F:aa)(w:∀a v,ro a=some v->F.get a=some v):
  ∃b:List (List Value),b.length=l.length/\(∀x∈b,x.length=r.n/\∀v∈x,bH v=true)/\(∀(i:Nat) (x:T),l[i]?=some x->∃cs,b[i]?=some cs/\r.rel ro x cs)/\fW F r.n (.slice ad l.length c)=some b.flatten:=by
 obtain ⟨E,G,e,_,_,he⟩:=h
 cases e
 cases f:l with
 |nil=>subst f;refine ⟨[],rfl,by simp,by simp,?_⟩;cases ad<;>simp[fW,aa.dj]
 |cons z l0=>
  obtain ⟨p,H,A,-,-⟩:=he 0 z (by rw[f];rfl)
  subst A
  rw[<-f]
  have key:∀k,k<=l.length->∃b:List (List Value),b.length=k/\(∀x∈b,x.length=r.n/\∀v∈x,bH v=true)/\(∀(i:Nat) (x:T),i<k->l[i]?=some x->∃cs,b[i]?=some cs/\r.rel ro x cs)/\F.dj p 0 (k*r.n)=some b.flatten:=by
   intro k
   induction k with
   |zero=>intro _;exact ⟨[],rfl,by simp,by simp,by simp[aa.dj]⟩
   |succ k ih=>
    intro I
    obtain ⟨b,h1,m,o,q⟩:=ih (by omega)
    have d:l[k]?=some l[k]:=List.getElem?_eq_getElem (by omega)
    obtain ⟨J,cs,B,s,hm⟩:=he k _ d
    cases B
    have u:=r.len s
    refine ⟨b++[cs],by simp[h1],fun y C=>?_,fun i x hi t=>?_,?_⟩
    ·rcases List.mem_append.1 C with h|h
     ·exact m y h
     ·simp only[List.mem_singleton] at h;subst h;exact ⟨u,r.one s⟩
    ·rcases Nat.lt_or_ge i k with h|h
     ·obtain ⟨cs',a1,a2⟩:=o i x h t
      exact ⟨cs',by rw[List.getElem?_append_left (by omega)];exact a1,a2⟩
     ·have:i=k:=by omega
      subst this
      rw[d] at t
      obtain rfl:=Option.some.inj t
      exact ⟨cs,by rw[List.getElem?_append_right (by omega)];simp[h1],s⟩
    ·rw[Nat.succ_mul]
     have g:=zY (F:=F) (a:=p) cs (k*r.n) (fun j v D=>w _ _ (by have:=hm j v D;rwa [kR] at this))
     rw[u] at g
     have:=zZ (k*r.n) 0 r.n b.flatten cs q (by rw[Nat.zero_add];exact g)
     rw[this]
     simp
  obtain ⟨b,h1,m,o,q⟩:=key l.length (Nat.le_refl _)
  exact ⟨b,h1,m,fun i x d=>o i x (List.getElem?_eq_some_iff.1 d).1 d,q⟩
theorem aO.empty {T:Type}{r:b6 T}{ro:Addr->Option Value}{e:TypeId}{b:Nat}(a:∀off sp,ro ⟨b,off,sp⟩=none):aO r ro e (.slice (some ⟨b,0,none⟩) 0 0) [] [(b,.cells #[] e)]:=
 ⟨[],.inr ⟨b,#[],0,rfl,rfl,by simp,Nat.le_refl _,by simp,by simp,a⟩,rfl,by simp,fun i x h=>by simp at h⟩
theorem z0 {ro:Addr->Option Value}{x:Nat×Obj}{l:List (Nat×Obj)}:Le ⟨ro,l++[x]⟩ ⟨ro,x::l⟩:=by
 have d:∀b,b∈keys (l++[x])↔b∈keys (x::l):=fun b=>by
  simp only[keys,List.map_append,List.map_cons,List.map_nil,List.mem_append,List.mem_cons,List.not_mem_nil,or_false];exact Or.comm
 refine ⟨fun w hw=>⟨hw.ro,fun b o hb=>hw.own b o ?_,?_,fun a v h hm=>hw.apart a v h ((d _).1 hm)⟩,fun b hb=>(d b).1 hb,fun a c=>.inl c⟩
 ·rcases List.mem_append.1 hb with h|h
  ·exact List.mem_cons_of_mem _ h
  ·simp only[List.mem_singleton] at h;rw[h];exact List.mem_cons_self
 ·have:=hw.nodup;simp only[keys,List.map_cons,List.nodup_cons] at this;simp only[keys,List.map_append,List.map_cons,List.map_nil];rw[List.nodup_append];refine ⟨this.2,by simp,fun a c b hb e=>?_⟩;simp only[List.mem_singleton] at hb;subst hb;exact this.1 (e▸c)
theorem pe {P:Program}{T:Type}{r:b6 T}{ro:Addr->Option Value}{rest:List (Nat×Obj)}{ks:List Nat}{R:Value->aa->Prop}{argTypes:Array TypeId}{m o e y:TypeId}{f b c:Nat}{ad:Option Addr}{z:Value}{xs:List T}
  (A:∀off sp,ro ⟨b,off,sp⟩=none) (B:au rest b) (p:keys rest=ks) (hlen:xs.length<=1000000) (C:aB r ro (.slice ad xs.length c) xs)
  (h0:argTypes[0]?=some m) (h1:argTypes[1]?=some o) (he:cZ P m=some e) (D:cZ P o=some y) (hs:bW P e=some r.n) (E:zeroOf P e=some z) (F:z.cells.size=r.n) (hb:bytesOf P e=some f)
  (G:0<f) (H:f<=10000)
  (q:∀v g,aO r ro e v xs g->Apart ks g->R v ⟨ro,rest++g⟩):lW P argTypes (.slice (some ⟨b,0,none⟩) 0 0) (.slice ad xs.length c) R ⟨ro,(b,.cells #[] e)::rest⟩:=by
 intro ty
 obtain ⟨d,k1,I,J,K⟩:=C.cells ⟨ro,(b,.cells #[] e)::rest⟩ (fun a v h=>by simp[aa.get,h])
 have s:∀x∈d,x.length=r.n:=fun x h=>(I x h).1
 have i:=g8 s
 refine uH (old:=[]) h0 h1 he D hs E hb G H (by simpa using hlen) (by simp[fW,aa.dj]) K (fun L=>?_) (fun L k t l u=>?_)
 ·have M:xs.length=0:=by omega
  have N:xs=[]:=List.eq_nil_of_length_eq_zero M
  have O:d=[]:=List.eq_nil_of_length_eq_zero (by omega)
  subst N O
  refine .inl ⟨_,_,rfl,rfl,⟨ro,rest++[(b,.cells #[] e)]⟩,z0,q _ _ (aO.empty A) fun k l=>?_⟩
  simp only[keys,List.map_cons,List.map_nil,List.mem_singleton] at l
  subst l
  rw[<-p]
  exact kT B
 ·refine ⟨⟨ro,rest++[(t,.cells (([]:List Value).toArray++d.flatten.toArray++Builtin.zeroCells z.cells (k - (0+xs.length))) e)]⟩,z0.trans (Le.sub (.cons₂ _ (.cons _ (List.Sublist.refl _)))),q _ _ ?_ fun j w=>?_⟩
  ·refine ⟨d,.inr ⟨t,_,k,by rw[k1,Nat.zero_add],rfl,?_,by omega,?_,s,u.ro⟩,k1,hlen,J⟩
   ·simp only[List.nil_append,Array.size_append,List.size_toArray,List.length_nil,Builtin.zeroCells,Array.size_map,Array.size_range,i,F,k1]
    rw[Nat.zero_add,<-Nat.add_mul]
    congr 1;omega
   ·simp only[Array.toList_append,List.nil_append]
    rw[List.take_append_of_le_length (by simp[i])]
    rw[List.take_of_length_le (by simp[i])]
  ·simp only[keys,List.map_cons,List.map_nil,List.mem_singleton] at w
   subst w
   rw[<-p]
   exact kT u.own.2
theorem rj:∀{pre bf:List (Nat×Obj)} {b:Nat} {o:Obj},au pre b->lk (pre++((b,o)::bf)) b=some o
 |[],bf,b,o,_=>by simp[lk]
 |(c,x)::pre,bf,b,o,h=>by
  have a:¬c=b:=fun e=>h.1 e.symm
  simp[lk,a,rj h.2]
theorem z1:∀{pre bf:List (Nat×Obj)} {b:Nat} {o x:Obj},au pre b->iJ (pre++((b,o)::bf)) b x=pre++((b,x)::bf)
 |[],bf,b,o,x,_=>by simp[iJ]
 |(c,y)::pre,bf,b,o,x,h=>by
  have a:¬c=b:=fun e=>h.1 e.symm
  simp[iJ,a,z1 h.2]
theorem u9 {ro:Addr->Option Value}{pre bf:List (Nat×Obj)}{b:Nat}{e:TypeId}(c:au pre b)(o:Nat):∀(a:List Value) (arr:Array Value) (i:Nat),(∀v∈a,bH v=true)->o+i+a.length<=arr.size->
  aa.jv ⟨ro,pre++((b,.cells arr e)::bf)⟩ ⟨b,o,none⟩ i a=some ⟨ro,pre++((b,.cells (cI arr (o+i) a) e)::bf)⟩
 |[],arr,i,_,_=>rfl
 |v::a,arr,i,h1,h=>by
  simp only[List.length_cons] at h
  have d:(⟨b,o,none⟩:Addr).add i=⟨b,o+i,none⟩:=by
   unfold Addr.add
   split
   ·rename_i hi;subst hi;rfl
   ·rfl
  unfold aa.jv
  have:aa.lM ⟨ro,pre++((b,.cells arr e)::bf)⟩ ((⟨b,o,none⟩:Addr).add i) v=some ⟨ro,pre++((b,.cells (arr.setIfInBounds (o+i) v) e)::bf)⟩:=by
   have f:o+i<arr.size:=by omega
   simp[aa.lM,d,rj c,h1 v (by simp),f,frozenAt,aa.put,z1 c]
  rw[this]
  simp only
  rw[u9 c o a _ (i+1) (fun x g=>h1 x (by simp[g])) (by simp;omega)]
  rw[cI]
  congr 1
theorem z2 {ro:Addr->Option Value}{pre bf:List (Nat×Obj)}{b:Nat}{e:TypeId}{arr:Array Value}(a:au pre b)(c:∀off sp,ro ⟨b,off,sp⟩=none):∀(n i:Nat),i+n<=arr.size->
  aa.dj ⟨ro,pre++((b,.cells arr e)::bf)⟩ ⟨b,0,none⟩ i n=some ((arr.toList.drop i).take n)
 |0,i,_=>by simp[aa.dj]
 |n+1,i,h=>by
  have f:(⟨b,0,none⟩:Addr).add i=⟨b,i,none⟩:=by
   unfold Addr.add
   split
   ·rename_i hi;subst hi;rfl
   ·simp
  have d:i<arr.size:=by omega
  unfold aa.dj
  have ih:=z2 (e:=e) (arr:=arr) (bf:=bf) a c n (i+1) (by omega)
  simp only[aa.get,f,c,if_true,rj a,Option.bind_some,cellOf,Array.getElem?_eq_getElem d,ih]
  have g:i<arr.toList.length:=by simpa using d
  rw[List.drop_eq_getElem_cons g,List.take_succ_cons]
  simp
theorem Gr.EW {ro:Addr->Option Value}{e:TypeId}{size:Nat}{v:Value}{l:List (List Value)}{aS pre bf:List (Nat×Obj)}(h:Gr ro e size v l aS)(a:∀k∈keys aS,au pre k):
  Go.Sep.fW ⟨ro,pre++(aS++bf)⟩ size v=some l.flatten:=by
 rcases h with ⟨rfl,rfl,rfl⟩|⟨b,arr,cap,rfl,rfl,hs,c,ht,f,d⟩
 ·rfl
 ·simp only[Go.Sep.fW,List.cons_append,List.nil_append]
  have hle:l.length*size<=arr.size:=by rw[hs];exact Nat.mul_le_mul_right _ c
  rw[z2 (a b (by simp[keys])) d _ _ (by omega)]
  simp[ht]
theorem Le.ps {ro:Addr->Option Value}{l m l':List (Nat×Obj)}(e:l.Perm m)(hs:m.Sublist l'):Le ⟨ro,l⟩ ⟨ro,l'⟩:=by
 have c:(keys m).Sublist (keys l'):=hs.map _;have d:(keys l).Perm (keys m):=e.map _;exact ⟨fun w hw=>⟨hw.ro,fun b o hb=>hw.own b o (hs.subset (e.subset hb)),d.nodup_iff.2 (c.nodup hw.nodup),fun a v f hm=>hw.apart a v f (c.subset (d.subset hm))⟩,fun b hb=>c.subset (d.subset hb),fun a g=>.inl g⟩
structure aP (ks:List Nat):Prop where
 nd:ks.Nodup
abbrev Nd (l:List (Nat×Obj)):Prop:=(keys l).Nodup
theorem Nd.fresh {pre aS bf:List (Nat×Obj)}(h:Nd (pre++(aS++bf))):∀k∈keys aS,au pre k:=fun k a=>by
 refine l6 fun hm=>?_
 simp only[Nd,cj] at h
 exact (List.nodup_append.1 h).2.2 k hm k (List.mem_append_left _ a) rfl
theorem Nd.push {l:List (Nat×Obj)}{b:Nat}{o:Obj}(h:Nd l)(hb:au l b):Nd ((b,o)::l):=by
 simp only[Nd,keys,List.map_cons,List.nodup_cons];exact ⟨kT hb,h⟩
theorem Nd.drop {pre aS bf:List (Nat×Obj)}(h:Nd (pre++(aS++bf))):Nd (pre++bf):=
 ((List.Sublist.append_left (List.sublist_append_right aS bf) pre).map _).nodup h
theorem Nd.ins {pre aS bf:List (Nat×Obj)}{b:Nat}{o:Obj}(h:Nd (pre++(aS++bf)))(hb:au (pre++(aS++bf)) b):Nd (pre++([(b,o)]++bf)):=by
 have a:Nd ((b,o)::(pre++bf)):=h.drop.push (l6 fun hm=>kT hb (((List.Sublist.append_left (List.sublist_append_right aS bf) pre).map _).subset hm));have:(pre++([(b,o)]++bf)).Perm ((b,o)::(pre++bf)):=List.perm_middle;exact (this.map _).nodup_iff.2 a
section
variable {P : Program}
theorem z3 {ro:Addr->Option Value}{pre aS bf:List (Nat×Obj)}{R:Value->aa->Prop}{argTypes:Array TypeId}{ty B C e N:TypeId}{size p n c:Nat}{D:Option Addr}{s z:Value}{l xs:List (List Value)}
  (h0:argTypes[0]?=some B) (h1:argTypes[1]?=some C) (he:cZ P B=some e) (d:cZ P C=some N) (hs:bW P e=some size) (E:zeroOf P e=some z) (O:z.cells.size=size) (hb:bytesOf P e=some p)
  (G:0<p) (H:p<=10000) (hg:Gr ro e size s l aS) (j:Nd (pre++(aS++bf))) (Q:n=xs.length) (I:∀x∈xs,x.length=size/\∀v∈x,bH v=true) (J:fW ⟨ro,pre++(aS++bf)⟩ size (.slice D n c)=some xs.flatten)
  (K:l.length+xs.length<=1000000)
  (q:∀v r,Gr ro e size v (l++xs) r->Nd (pre++(r++bf))->∃F0,Le F0 ⟨ro,pre++(r++bf)⟩/\R v F0):
  aT P (Builtin.append_ argTypes ty #[s,.slice D n c]) (fun v F=>∃F0,Le F0 F/\R v F0) ⟨ro,pre++(aS++bf)⟩:=by
 subst Q
 have L:=j.fresh
 have hold:=hg.EW (bf:=bf) L
 have t:∀x∈xs,x.length=size:=fun x h=>(I x h).1
 have a:=g8 t
 have out:∀(k b:Nat) (old:List Value),old=l.flatten->(∀x∈l,x.length=size)->l.length+xs.length<=k->dP ⟨ro,pre++(aS++bf)⟩ b->
   ∃F0,Le F0 (aa.push ⟨ro,pre++(aS++bf)⟩ b (.cells (old.toArray++xs.flatten.toArray++Builtin.zeroCells z.cells (k - (l.length+xs.length))) e))/\R (.slice (some ⟨b,0,none⟩) (l.length+xs.length) k) F0:=by
  intro k b old S u i f
  subst S
  have w:=g8 u
  have y:=q (.slice (some ⟨b,0,none⟩) (l.length+xs.length) k) [(b,.cells (l.flatten.toArray++xs.flatten.toArray++Builtin.zeroCells z.cells (k - (l.length+xs.length))) e)] (.inr ⟨b,_,k,by simp,rfl,?_,by simpa using i,?_,?_,f.ro⟩) (j.ins f.own)
  ·obtain ⟨F0,hle,y⟩:=y
   refine ⟨F0,hle.trans ?_,y⟩
   exact Le.ps (m:=(b,.cells (l.flatten.toArray++xs.flatten.toArray++Builtin.zeroCells z.cells (k - (l.length+xs.length))) e)::(pre++bf)) List.perm_middle (.cons₂ _ (List.Sublist.append_left (List.sublist_append_right aS bf) pre))
  ·simp only[Array.size_append,List.size_toArray,Builtin.zeroCells,Array.size_map,Array.size_range,w,a,O]
   rw[<-Nat.add_mul,<-Nat.add_mul]
   congr 1;omega
  ·simp only[Array.toList_append,List.length_append,List.flatten_append]
   rw[List.take_append_of_le_length (by simp[w,a,Nat.add_mul])]
   rw[List.take_of_length_le (by simp[w,a,Nat.add_mul])]
  ·intro x d
   rcases List.mem_append.1 d with h|h
   ·exact u x h
   ·exact t x h
 rcases id hg with ⟨rfl,rfl,rfl⟩|⟨b,arr,cap,rfl,rfl,A,u,ht,o,T⟩
 ·refine uH h0 h1 he d hs E hb G H (by simpa using K) hold J (fun g=>.inr ⟨rfl,?_⟩) (fun g k b i f=>?_)
  ·have:xs=[]:=List.eq_nil_of_length_eq_zero (by omega)
   subst this
   exact q _ _ (.inl ⟨rfl,rfl,rfl⟩) j
  ·have:=out k b [] rfl (by simp) (by simpa using i) f
   simpa using this
 ·refine uH h0 h1 he d hs E hb G H K hold J (fun g=>.inl ⟨_,⟨ro,pre++([(b,.cells (cI arr (l.length*size) xs.flatten) e)]++bf)⟩,rfl,?_,?_⟩) (fun g k U i f=>out k U _ rfl o i f)
  ·have V:(⟨b,0,none⟩:Addr).add (l.length*size)=⟨b,l.length*size,none⟩:=by
    unfold Addr.add
    split
    ·rename_i hi;rw[hi]
    ·simp
   rw[V]
   have M:l.length*size+xs.length*size<=arr.size:=by rw[A,<-Nat.add_mul];exact Nat.mul_le_mul_right _ g
   have:=u9 (ro:=ro) (e:=e) (bf:=bf) (L b (by simp[keys])) (l.length*size) xs.flatten arr 0 (fun v W=>by
    obtain ⟨x,X,Y⟩:=List.mem_flatten.1 W
    exact (I x X).2 v Y) (by rw[a];omega)
   simpa using this
  ·refine q _ _ (.inr ⟨b,_,cap,by simp,rfl,by rw[qS];exact A,by simpa using g,?_,?_,T⟩) (by simpa [Nd,keys] using j)
   ·have M:l.length*size+xs.length*size<=arr.size:=by rw[A,<-Nat.add_mul];exact Nat.mul_le_mul_right _ g
    rw[qT _ _ _ (by rw[a];exact M),ht,List.length_append,List.flatten_append,a]
    rw[List.take_append_of_le_length (by simp[g8 o,a,Nat.add_mul])]
    rw[List.take_of_length_le (by simp[g8 o,a,Nat.add_mul])]
   ·intro x d
    rcases List.mem_append.1 d with h|h
    ·exact o x h
    ·exact t x h
theorem z4:∀{pre own:List (Nat×Obj)} {b:Nat} {o:Obj},lk pre b=some o->lk (pre++own) b=some o
 |(c,x)::pre,own,b,o,h=>by
  simp only[List.cons_append,lk] at h ⊢
  split
  ·rename_i a;rw[if_pos a] at h;exact h
  ·rename_i a;rw[if_neg a] at h;exact z4 h
theorem z5 {ro:Addr->Option Value}{own:List (Nat×Obj)}{b:Nat}{cs:Array Value}{e:TypeId}(a:lk own b=some (.cells cs e))(c:∀off sp,ro ⟨b,off,sp⟩=none):∀n i,i+n<=cs.toList.length->aa.dj ⟨ro,own⟩ ⟨b,0,none⟩ i n=some ((cs.toList.drop i).take n)
 |0,i,_=>by simp[aa.dj]
 |n+1,i,hi=>by
  have d:i<cs.toList.length:=by omega
  unfold aa.dj
  have f:(⟨b,0,none⟩:Addr).add i=⟨b,i,none⟩:=by
   unfold Addr.add
   split
   ·rename_i hi;subst hi;rfl
   ·simp
  have g:i<cs.size:=by simpa using d
  simp only[aa.get,f,c,if_true,a,Option.bind_some,cellOf,Array.getElem?_eq_getElem g,z5 a c n (i+1) (by omega)]
  rw[List.drop_eq_getElem_cons d,List.take_succ_cons]
  simp
theorem aO.more {T:Type}{r:b6 T}{ro:Addr->Option Value}{e:TypeId}{l xs:List T}{ls ys:List (List Value)}{v:Value}{a:List (Nat×Obj)}(hg:Gr ro e r.n v (ls++ys) a)(b:ls.length=l.length)(c:ys.length=xs.length)
  (d:∀(i:Nat) (x:T),l[i]?=some x->∃cs:List Value,ls[i]?=some cs/\r.rel ro x cs) (f:∀(i:Nat) (x:T),xs[i]?=some x->∃cs:List Value,ys[i]?=some cs/\r.rel ro x cs) (g:l.length+xs.length<=1000000):aO r ro e v (l++xs) a:=by
 refine ⟨_,hg,by simp[b,c],by simpa using g,fun i y hi=>?_⟩
 rcases Nat.lt_or_ge i l.length with h|h
 ·rw[List.getElem?_append_left h] at hi
  rw[List.getElem?_append_left (by omega)]
  exact d i y hi
 ·rw[List.getElem?_append_right h] at hi
  rw[List.getElem?_append_right (by omega),b]
  exact f _ y hi
theorem z6 {T:Type}{r:b6 T}{ro:Addr->Option Value}{aS:List (Nat×Obj)}{R:Value->aa->Prop}{argTypes:Array TypeId}{g h e p e2:TypeId}{b c:Nat}{s z:Value}{l:List T}{x:T}{cs:Array Value}{own:List (Nat×Obj)}(pre bf:List (Nat×Obj))(q:own=pre++(aS++bf))
  (hg:aO r ro e s l aS) (t:aP (keys own)) (j:l.length+[x].length<=1000000) (d:r.rel ro x cs.toList) (u:lk pre c=some (.cells cs e2)) (w:∀off sp,ro ⟨c,off,sp⟩=none)
  (h0:argTypes[0]?=some g) (h1:argTypes[1]?=some h) (he:cZ P g=some e) (A:cZ P h=some p) (hs:bW P e=some r.n) (B:zeroOf P e=some z) (C:z.cells.size=r.n) (hb:bytesOf P e=some b)
  (D:0<b) (E:b<=10000)
  (F:∀v a,aO r ro e v (l++[x]) a->∀f,f=pre++(a++bf)->aP (keys f)->∃F0,Le F0 ⟨ro,f⟩/\R v F0):lW P argTypes s (.slice (some ⟨c,0,none⟩) 1 1) R ⟨ro,own⟩:=by
 subst q
 obtain ⟨ls,G,k,hm,H⟩:=hg
 have I:=t.nd
 intro ty
 have hlen:cs.toList.length=r.n:=r.len d
 refine z3 (xs:=[cs.toList]) (e:=e) (size:=r.n) (z:=z) (l:=ls) h0 h1 he A hs B C hb D E G I rfl (fun y o=>?_) ?_ (by simpa [k] using j) (fun v a J K=>F v a (aO.more J k rfl H (fun i y hi=>?_) j) _ rfl ⟨K⟩)
 ·simp only[List.mem_singleton] at o;subst o;exact ⟨hlen,r.one d⟩
 ·simp only[fW,Nat.one_mul]
  rw[z5 (z4 u) w _ _ (by omega)]
  rw[List.drop_zero,List.take_of_length_le (by omega)]
  simp
 ·cases i with
  |zero=>simp at hi;subst hi;exact ⟨cs.toList,rfl,d⟩
  |succ m=>simp at hi
theorem EX {T:Type}{r:b6 T}{ro:Addr->Option Value}{aS:List (Nat×Obj)}{R:Value->aa->Prop}{argTypes:Array TypeId}{g i e m:TypeId}{d c:Nat}{ad:Option Addr}{s z:Value}{l xs:List T}{own:List (Nat×Obj)}(pre bf:List (Nat×Obj))(o:own=pre++(aS++bf))
  (hg:aO r ro e s l aS) (p:aP (keys own)) (j:l.length+xs.length<=1000000) (q:aB r ro (.slice ad xs.length c) xs)
  (h0:argTypes[0]?=some g) (h1:argTypes[1]?=some i) (he:cZ P g=some e) (t:cZ P i=some m) (hs:bW P e=some r.n) (u:zeroOf P e=some z) (w:z.cells.size=r.n) (hb:bytesOf P e=some d)
  (x:0<d) (y:d<=10000)
  (A:∀v b,aO r ro e v (l++xs) b->∀f,f=pre++(b++bf)->aP (keys f)->∃F0,Le F0 ⟨ro,f⟩/\R v F0):lW P argTypes s (.slice ad xs.length c) R ⟨ro,own⟩:=by
 subst o
 obtain ⟨ls,B,k,hm,C⟩:=hg
 have D:=p.nd
 intro ty
 obtain ⟨E,k1,F,G,H⟩:=q.cells ⟨ro,pre++(aS++bf)⟩ (fun a v h=>by simp[aa.get,h])
 exact z3 (xs:=E) (e:=e) (size:=r.n) (z:=z) (l:=ls) h0 h1 he t hs u w hb x y B D k1.symm F H (by rw[k,k1];exact j) (fun v b I J=>A v b (aO.more I k k1 C G j) _ rfl ⟨J⟩)
theorem aO.k3 {T:Type}{r:b6 T}{ro:Addr->Option Value}{e:TypeId}{v:Value}{l:List T}{aS:List (Nat×Obj)}(h:aO r ro e v l aS){own:List (Nat×Obj)}(a pre bf:List (Nat×Obj))(f:own=pre++(aS++bf))(g:a=pre++bf)(i:aP (keys own))(j:aD ro a):
  ∃aM,Ext ro aM/\aD aM a/\aB r aM v l/\Le ⟨aM,a⟩ ⟨ro,own⟩:=by
 subst f g
 have c:Nd (pre++(aS++bf)):=i.nd
 have m:Apart (keys (pre++bf)) aS:=fun k d hm=>by
  simp only[Nd,cj] at c
  have b:=List.nodup_append.1 c
  simp only[cj,List.mem_append] at hm
  rcases hm with hm|hm
  ·exact b.2.2 k hm k (List.mem_append_left _ d) rfl
  ·exact (List.nodup_append.1 b.2.1).2.2 k d k hm rfl
 obtain ⟨aM,h1,b,n,o⟩:=h.zE (pre++bf) m rfl j
 refine ⟨aM,h1,b,n,o.trans ?_⟩
 have p:((pre++bf)++aS).Perm (pre++(aS++bf)):=by
  rw[List.append_assoc]
  exact List.Perm.append_left pre List.perm_append_comm
 exact Le.ps p (List.Sublist.refl _)
theorem aO.setAt {T:Type}{r:b6 T}{ro:Addr->Option Value}{e:TypeId}{l:List T}{b n cap:Nat}{arr:Array Value}(h:aO r ro e (.slice (some ⟨b,0,none⟩) n cap) l [(b,.cells arr e)]){i:Nat}{x y:T}(hi:l[i]?=some x){cs:List Value}(m:r.rel ro y cs):
  aO r ro e (.slice (some ⟨b,0,none⟩) n cap) (l.set i y) [(b,.cells (cI arr (i*r.n) cs) e)]:=by
 obtain ⟨ls,hg,o,hm,p⟩:=h
 have C:i<l.length:=(List.getElem?_eq_some_iff.1 hi).1
 have a:=r.len m
 rcases hg with ⟨k,_,_⟩|⟨D,E,q,k,s,hs,hle,ht,c,t⟩
 ·cases k
 ·cases s
  obtain ⟨rfl,rfl⟩:n=ls.length/\cap=q:=by cases k;exact ⟨rfl,rfl⟩
  have u:i*r.n+cs.length<=arr.size:=by
   rw[hs,a,<-Nat.succ_mul]
   exact Nat.mul_le_mul_right _ (by omega)
  refine ⟨ls.set i cs,.inr ⟨b,_,cap,by simp,rfl,by rw[qS];exact hs,by simpa using hle,?_,?_,t⟩,by simp[o],by simpa using hm,fun j z d=>?_⟩
  ·rw[qT _ _ _ u]
   have F:=g8 c
   have f:i<ls.length:=by omega
   have e1:(ls.set i cs).flatten=(ls.take i).flatten++cs++(ls.drop (i+1)).flatten:=by
    rw[List.set_eq_take_append_cons_drop,if_pos f]
    simp
   have e2:ls.flatten=(ls.take i).flatten++(ls.drop i).flatten:=by rw[<-List.flatten_append,List.take_append_drop]
   have t1:((ls.take i).flatten).length=i*r.n:=by rw[g8 (fun x h=>c x (List.mem_of_mem_take h)),List.length_take,Nat.min_eq_left (by omega)]
   have v:(ls.drop i).flatten=ls[i]++(ls.drop (i+1)).flatten:=by rw[List.drop_eq_getElem_cons f,List.flatten_cons]
   have t2:ls[i].length=r.n:=c _ (List.getElem_mem f)
   have a1:arr.toList.take (i*r.n)=(ls.take i).flatten:=by
    have:=congrArg (List.take (i*r.n)) ht
    rw[List.take_take,Nat.min_eq_left (Nat.mul_le_mul_right _ (by omega)),e2,List.take_append_of_le_length (Nat.le_of_eq t1.symm),List.take_of_length_le (Nat.le_of_eq t1)] at this
    exact this
   have a2:(arr.toList.take (ls.length*r.n)).drop (i*r.n+cs.length)=(ls.drop (i+1)).flatten:=by
    have t3:((ls.take i).flatten++ls[i]).length=i*r.n+cs.length:=by rw[List.length_append,t1,t2,a]
    rw[ht,e2,v,<-List.append_assoc,List.drop_append_of_le_length (Nat.le_of_eq t3.symm),List.drop_eq_nil_of_le (Nat.le_of_eq t3),List.nil_append]
   rw[a1,e1]
   simp only[List.length_set]
   have w:ls.length*r.n=(i*r.n+cs.length)+(ls.length*r.n - (i*r.n+cs.length)):=by
    have:i*r.n+cs.length<=ls.length*r.n:=by rw[a,<-Nat.succ_mul];exact Nat.mul_le_mul_right _ f
    omega
   rw[w,List.take_append]
   rw[List.take_of_length_le (by rw[List.length_append,t1];omega)]
   congr 1
   have:i*r.n+cs.length+(ls.length*r.n - (i*r.n+cs.length)) - ((ls.take i).flatten++cs).length=ls.length*r.n - (i*r.n+cs.length):=by simp only[List.length_append,t1];omega
   rw[this,<-a2,List.drop_take]
  ·intro z A
   rcases List.mem_or_eq_of_mem_set A with h|h
   ·exact c z h
   ·rw[h];exact a
  ·rcases Nat.decEq i j with g|g
   ·rw[List.getElem?_set_ne g] at d
    obtain ⟨cs',h1,B⟩:=p j z d
    exact ⟨cs',by rw[List.getElem?_set_ne g];exact h1,B⟩
   ·subst g
    rw[List.getElem?_set_self (by omega)] at d
    obtain rfl:=Option.some.inj d
    exact ⟨cs,List.getElem?_set_self (by omega),m⟩
end
section
variable {P : Program} {main : Bool} {J : Goroutine → aa → Prop}
theorem aA (hJ:Closed P main J){c:Code}{Q:Ex->Act->aa->Prop}{a:Act}{F:aa}(h:aP (keys F.own)->Wp J c Q a F):Wp J c Q a F:=by
 intro b k cs hb d;by_cases hw:∃w,Has F w
 ·obtain ⟨w,hw⟩:=hw;exact h ⟨hw.nodup⟩ b k cs hb d
 ·exact hJ.step fun w e=>absurd ⟨w,e⟩ hw
end
theorem aP.cons {l:List (Nat×Obj)}{b:Nat}(hb:au l b)(h:aP (keys l)):aP (b::keys l):=⟨List.nodup_cons.2 ⟨kT hb,h.nd⟩⟩
theorem aD.nil (ro:Addr->Option Value):aD ro []:=fun b h=>by cases h
theorem aD.cons {ro:Addr->Option Value}{b:Nat}{o:Obj}{l:List (Nat×Obj)}(hb:∀off sp,ro ⟨b,off,sp⟩=none)(h:aD ro l):aD ro ((b,o)::l):=fun c a=>by
 simp only[keys,List.map_cons,List.mem_cons] at a
 rcases a with rfl|a
 ·exact hb
 ·exact h c a
theorem aD.app {ro:Addr->Option Value}{l l':List (Nat×Obj)}(h:aD ro l)(b:aD ro l'):aD ro (l++l'):=fun c a=>by
 rw[cj] at a
 exact (List.mem_append.1 a).elim (h c) (b c)
theorem aD.hd {ro:Addr->Option Value}{b:Nat}{o:Obj}{l:List (Nat×Obj)}(h:aD ro ((b,o)::l)):∀off sp,ro ⟨b,off,sp⟩=none:=h b (by simp[keys])
theorem aD.tl {ro:Addr->Option Value}{x:Nat×Obj}{l:List (Nat×Obj)}(h:aD ro (x::l)):aD ro l:=fun c a=>h c (by simp only[keys,List.map_cons,List.mem_cons];exact .inr a)
theorem aD.l {ro:Addr->Option Value}{l l':List (Nat×Obj)}(h:aD ro (l++l')):aD ro l:=fun c a=>h c (by rw[cj];exact List.mem_append_left _ a)
theorem aD.r {ro:Addr->Option Value}{l l':List (Nat×Obj)}(h:aD ro (l++l')):aD ro l':=fun c a=>h c (by rw[cj];exact List.mem_append_right _ a)
theorem aO.jw {T:Type}{r:b6 T}{ro:Addr->Option Value}{e:TypeId}{v:Value}{l:List T}{aS:List (Nat×Obj)}(h:aO r ro e v l aS):aD ro aS:=by
 obtain ⟨ls,hg,-⟩:=h;rcases hg with ⟨_,_,rfl⟩|⟨b,arr,cap,_,rfl,_,_,_,_,a⟩
 ·exact aD.nil _
 ·exact aD.cons a (aD.nil _)
theorem Le.back {ro:Addr->Option Value}{l l':List (Nat×Obj)}(A B O S:List (Nat×Obj))(h1:l=A++(B++(O++S)))(a:l'=A++(O++(B++S))):Le ⟨ro,l⟩ ⟨ro,l'⟩:=by
 subst h1 a;refine Le.ps (m:=A++(O++(B++S))) (List.Perm.append_left A ?_) (List.Sublist.refl _);rw[<-List.append_assoc,<-List.append_assoc];exact List.Perm.append_right S List.perm_append_comm
section
variable {P : Program} {main : Bool} {J : Goroutine → aa → Prop}
def rm (J:Goroutine->aa->Prop)(jx:Frame)(F:aa)(R:Value->aa->Prop):Prop:=
 ∀(c:Frame) (cs:List Frame),(∀v F',R v F'->J (G (c.finish v) cs) F')->J (G jx (c::cs)) F
theorem z7 (hJ:Closed P main J){jx:Frame}{ro:Addr->Option Value}{aS:List (Nat×Obj)}{K:Value->aa->Prop}{own:List (Nat×Obj)}(pre bf:List (Nat×Obj))(q:own=pre++(aS++bf))(R:Value->List (Nat×Obj)->Prop)(h:∀(main:Bool) (J:Goroutine->aa->Prop),Closed P main J->rm J jx ⟨ro,aS⟩ (fun v G=>∃d,R v d/\Le ⟨ro,d⟩ G))
  (M:∀v d,R v d->∀r,r=pre++(d++bf)->aP (keys r)->∃F0,Le F0 ⟨ro,r⟩/\K v F0):rm J jx ⟨ro,own⟩ K:=by
 subst q
 intro c cs N
 by_cases hw:∃w,Has ⟨ro,pre++(aS++bf)⟩ w
 ·obtain ⟨s,k⟩:=hw
  let F:aa:=⟨fun _=>none,pre++bf⟩
  have t:(pre++bf).Sublist (pre++(aS++bf)):=List.Sublist.append_left (List.sublist_append_right aS bf) pre
  have u:aS.Sublist (pre++(aS++bf)):=(List.sublist_append_left aS bf).trans (List.sublist_append_right pre _)
  have B:∀w,Has ⟨ro,pre++(aS++bf)⟩ w->Has F w:=fun w hw=>⟨fun a v h=>(by cases h),fun b o hb=>hw.own b o (t.subset hb),(t.map _).nodup hw.nodup,fun a v h=>(by cases h)⟩
  have C:∀w,Has ⟨ro,pre++(aS++bf)⟩ w->Has ⟨ro,aS⟩ w:=fun w hw=>⟨hw.ro,fun b o hb=>hw.own b o (u.subset hb),(u.map _).nodup hw.nodup,fun a v i hm=>hw.apart a v i ((u.map _).subset hm)⟩
  have hd:∀b,b∈keys aS->b∉keys (pre++bf):=fun b hb hm=>by
   have l:=k.nodup
   simp only[cj] at l
   have D:=List.nodup_append.1 l
   simp only[cj,List.mem_append] at hm
   rcases hm with hm|hm
   ·exact D.2.2 b hm b (List.mem_append_left _ hb) rfl
   ·exact (List.nodup_append.1 D.2.1).2.2 b hb b hm rfl
  have E:Fits F ⟨ro,aS⟩:=⟨⟨s,C s k,B s k⟩,hd,fun a f hm=>(by cases f)⟩
  have O:l5 F ⟨ro,aS⟩:=fun a f hm=>by
   obtain ⟨v,Q⟩:=Option.isSome_iff_exists.1 f
   exact k.apart a v Q ((t.map _).subset hm)
  have q:uQ J F (G jx (c::cs)) ⟨ro,aS⟩:=by
   refine h main _ (zC hJ F) c cs fun v H A m l=>?_
   obtain ⟨d,A,hle⟩:=A
   have I:Le ⟨ro,pre++(d++bf)⟩ (H.star F):=by
    refine ⟨fun w hw=>?_,fun b hb=>?_,fun a f=>?_⟩
    ·have n:=hle.has w (m.right hw)
     have g:=m.left hw
     have S:∀b,b∈keys d->b∉keys (pre++bf):=fun b hb=>m.own b (hle.own b hb)
     have j:(pre++(d++bf)).Perm (d++(pre++bf)):=by
      rw[<-List.append_assoc,<-List.append_assoc]
      exact List.Perm.append_right bf List.perm_append_comm
     refine ⟨n.ro,fun b o hb=>?_,?_,fun a v i hm=>?_⟩
     ·rcases List.mem_append.1 (j.subset hb) with x|x
      ·exact n.own b o x
      ·exact g.own b o x
     ·refine (j.map _).nodup_iff.2 ?_
      rw[List.map_append]
      exact List.nodup_append.2 ⟨n.nodup,g.nodup,fun a f b hb e=>S a f (e▸hb)⟩
     ·have L:=(j.map (·.1)).subset hm
      rw[List.map_append] at L
      rcases List.mem_append.1 L with x|x
      ·exact n.apart a v i x
      ·rcases hle.ro a (by simp only at i;simp[i]) with y|y
       ·exact l a y x
       ·exact m.own _ y x
    ·simp only[aa.star,cj,List.mem_append] at hb ⊢
     rcases hb with x|x|x
     ·exact .inr (show b∈keys (pre++bf) by rw[cj];exact List.mem_append_left _ x)
     ·exact .inl (hle.own b x)
     ·exact .inr (show b∈keys (pre++bf) by rw[cj];exact List.mem_append_right _ x)
    ·rcases hle.ro a f with x|x
     ·exact (gu (.inr x)).imp id (fun z=>by simp only[aa.star,cj,List.mem_append];exact .inr z)
     ·exact .inr (by simp only[aa.star,cj,List.mem_append];exact .inl x)
   have T:∃fr cs',G (c.finish v) cs=G fr cs':=⟨_,_,rfl⟩
   obtain ⟨fr,cs',U⟩:=T
   by_cases p:∃w,Has (H.star F) w
   ·obtain ⟨w1,p⟩:=p
    obtain ⟨F0,V,W⟩:=M v d A _ rfl ⟨(I.has w1 p).nodup⟩
    exact hJ.mono (V.trans I) (N v F0 W)
   ·rw[U]
    exact hJ.step fun w g=>absurd ⟨w,g⟩ p
  refine hJ.mono ⟨fun w hw=>E.both (C w hw) (B w hw),fun b hb=>?_,fun a f=>?_⟩ (q E O)
  ·have j:(aS++(pre++bf)).Perm (pre++(aS++bf)):=by
    rw[<-List.append_assoc,<-List.append_assoc]
    exact List.Perm.append_right bf List.perm_append_comm
   exact (j.map _).subset hb
  ·rcases jP f with x|x
   ·cases x
   ·exact .inl x
 ·exact hJ.step fun w g=>absurd ⟨w,g⟩ hw
theorem EY (hJ:Closed P main J){f:FuncId}{args:Array Value}{ro:Addr->Option Value}{aS:List (Nat×Obj)}{K:Value->aa->Prop}{own:List (Nat×Obj)}(pre bf:List (Nat×Obj))(c:own=pre++(aS++bf))(R:Value->List (Nat×Obj)->Prop)(h:aC P f args ⟨ro,aS⟩ (fun v G=>∃a,R v a/\Le ⟨ro,a⟩ G))
  (d:∀v a,R v a->∀b,b=pre++(a++bf)->aP (keys b)->∃F0,Le F0 ⟨ro,b⟩/\K v F0):cP P J f args ⟨ro,own⟩ K:=
 z7 hJ (jx:=Frame.enter P f args .normal) pre bf c R h d
end
attribute [go_sem] Array.size_setIfInBounds
theorem aB.op {T:Type}{r:b6 T}{ro:Addr->Option Value}{ad:Option Addr}{n cap:Nat}{l:List T}(h:aB r ro (.slice ad n cap) l):
  l.length<=cap/\l.length<=1000000000000000/\∀i x,l[i]?=some x->∃p cs,ad=some p/\r.rel ro x cs/\∀j v,cs[j]?=some v->ro ((p.add (i*r.n)).add j)=some v:=by
 obtain ⟨c,d,e,h1,a,b⟩:=h
 cases e
 exact ⟨h1,a,b⟩
theorem aP.sub {l l':List (Nat×Obj)}(A O S:List (Nat×Obj))(h1:l=A++S)(a:l'=A++(O++S))(h:aP (keys l')):aP (keys l):=by
 subst h1 a;exact
 ⟨((List.Sublist.append_left (List.sublist_append_right O S) A).map _).nodup h.nd⟩
theorem aP.back {l l':List (Nat×Obj)}(A B O S:List (Nat×Obj))(h1:l=A++(B++(O++S)))(a:l'=A++(O++(B++S)))(h:aP (keys l')):aP (keys l):=by
 subst h1 a;refine ⟨(List.Perm.map _ (List.Perm.append_left A ?_)).nodup_iff.2 h.nd⟩;rw[<-List.append_assoc,<-List.append_assoc];exact List.Perm.append_right S List.perm_append_comm
theorem fP {ro:Addr->Option Value}{b:Nat}{o:Obj}(pre bf:List (Nat×Obj))(f:aP (keys (pre++((b,o)::bf))))(_hr:∀off sp,ro ⟨b,off,sp⟩=none)(g:aD ro (pre++bf)):
  Ext ro (bR ro b o)/\aD (bR ro b o) (pre++bf)/\Le ⟨bR ro b o,pre++bf⟩ ⟨ro,pre++((b,o)::bf)⟩:=by
 have a:(pre++((b,o)::bf)).Perm ((b,o)::(pre++bf)):=List.perm_middle
 have h:Nd ((b,o)::(pre++bf)):=(a.map _).nodup_iff.1 f.nd
 have hb:b∉keys (pre++bf):=(List.nodup_cons.1 h).1
 refine ⟨fY _ _ _,fun c d off sp=>?_,?_⟩
 ·have aF:¬c=b:=fun e=>hb (e▸d)
  simp[bR,g c d,aF]
 ·have i:Le ⟨bR ro b o,pre++bf⟩ ⟨ro,(b,o)::(pre++bf)⟩:=jV (by simp[lk]) (.cons _ (List.Sublist.refl _)) (l6 hb)
  exact i.trans (Le.ps a.symm (List.Sublist.refl _))
section
variable {P : Program} {main : Bool} {J : Goroutine → aa → Prop}
theorem fZ (hJ:Closed P main J){c:Code}{Q:Ex->Act->aa->Prop}{a:Act}{F:aa}(h:aP (keys F.own)->aD F.ro F.own->Wp J c Q a F):Wp J c Q a F:=by
 intro b k cs hb d;by_cases hw:∃w,Has F w
 ·obtain ⟨w,hw⟩:=hw;refine h ⟨hw.nodup⟩ (fun b hb off sp=>?_) b k cs hb d;cases e:F.ro ⟨b,off,sp⟩ with
  |none=>rfl
  |some v=>exact absurd hb (hw.apart _ v e)
 ·exact hJ.step fun w f=>absurd ⟨w,f⟩ hw
end
theorem vb:∀(a:List Value) (arr:Array Value) (k:Nat),k+a.length<=arr.size->∀q,(cI arr k a)[q]?=if k<=q/\q<k+a.length then a[q - k]? else arr[q]?
 |[],arr,k,h,q=>by
  have:¬(k<=q/\q<k+([]:List Value).length):=by simp
  rw[if_neg this];rfl
 |v::a,arr,k,h,q=>by
  simp only[List.length_cons] at h
  rw[cI,vb a _ (k+1) (by simp;omega)]
  simp only[List.length_cons]
  by_cases h1:k=q
  ·subst h1
   rw[if_neg (by omega),if_pos (by omega),Array.getElem?_setIfInBounds_self_of_lt (by omega)]
   simp
  ·by_cases b:k+1<=q/\q<k+1+a.length
   ·rw[if_pos b,if_pos (by omega)]
    rw[show q - k=(q - (k+1))+1 by omega]
    simp
   ·rw[if_neg b,if_neg (by omega),Array.getElem?_setIfInBounds_ne h1]
theorem aO.part {T:Type}{r:b6 T}{ro:Addr->Option Value}{e:TypeId}{l:List T}{b n cap:Nat}{arr:Array Value}(h:aO r ro e (.slice (some ⟨b,0,none⟩) n cap) l [(b,.cells arr e)]){i:Nat}{x y:T}(hi:l[i]?=some x)(o:Nat)(a cs cs':List Value)
  (hm:∀j v,cs[j]?=some v->arr[i*r.n+j]?=some v) (hlen:cs.length=r.n) (g:cs'=cs.take o++a++cs.drop (o+a.length)) (u:o+a.length<=cs.length) (k:r.rel ro y cs'):
  aO r ro e (.slice (some ⟨b,0,none⟩) n cap) (l.set i y) [(b,.cells (cI arr (i*r.n+o) a) e)]:=by
 have m:=h.setAt hi k
 have d:=r.len k
 have s:i*r.n+r.n<=arr.size:=by
  rcases Nat.eq_zero_or_pos r.n with h0|w
  ·rw[h0];omega
  ·have c:r.n - 1<cs.length:=by omega
   have:=hm (r.n - 1) cs[r.n - 1] (List.getElem?_eq_getElem c)
   have:=(Array.getElem?_eq_some_iff.1 this).1
   omega
 have e1:cI arr (i*r.n) cs'=cI arr (i*r.n+o) a:=by
  apply Array.ext_getElem?
  intro q
  rw[vb cs' arr _ (by rw[d];exact s),vb a arr _ (by omega)]
  by_cases h1:i*r.n+o<=q/\q<i*r.n+o+a.length
  ·rw[if_pos h1,if_pos (by rw[d];omega),g]
   rw[List.append_assoc,List.getElem?_append_right (by simp;omega),List.getElem?_append_left (by simp;omega)]
   congr 1
   simp;omega
  ·rw[if_neg h1]
   by_cases f:i*r.n<=q/\q<i*r.n+cs'.length
   ·rw[if_pos f]
    rw[d] at f
    have t:arr[q]?=cs[q - i*r.n]?:=by
     have c:q - i*r.n<cs.length:=by omega
     have:=hm (q - i*r.n) _ (List.getElem?_eq_getElem c)
     rw[show i*r.n+(q - i*r.n)=q by omega] at this
     rw[this,List.getElem?_eq_getElem c]
    rw[t,g]
    rcases Nat.lt_or_ge (q - i*r.n) o with p|p
    ·rw[List.append_assoc,List.getElem?_append_left (by simp;omega),List.getElem?_take_of_lt p]
    ·have z:o+a.length<=q - i*r.n:=by omega
     rw[List.getElem?_append_right (by simp;omega),List.getElem?_drop]
     congr 1
     simp;omega
   ·rw[if_neg f]
 rw[e1] at m
 exact m
theorem aO.elemAt {T:Type}{r:b6 T}{ro:Addr->Option Value}{e:TypeId}{b n cap:Nat}{l:List T}{aS:List (Nat×Obj)}(h:aO r ro e (.slice (some ⟨b,0,none⟩) n cap) l aS){i:Nat}{x:T}(hi:l[i]?=some x):
  ∃arr cs,aS=[(b,.cells arr e)]/\(∀off sp,ro ⟨b,off,sp⟩=none)/\r.rel ro x cs/\∀j v,cs[j]?=some v->arr[i*r.n+j]?=some v:=by
 obtain ⟨g,arr,k,cs,a,c,d,f,hm⟩:=h.elem hi
 cases a
 exact ⟨arr,cs,c,d,f,hm⟩
theorem aO.z8 {T:Type}{r:b6 T}{ro:Addr->Option Value}{e:TypeId}{ad:Option Addr}{n cap:Nat}{l:List T}{aS:List (Nat×Obj)}(h:aO r ro e (.slice ad n cap) l aS){i:Nat}{x:T}(hi:l[i]?=some x):
  ∃b arr cs,ad=some ⟨b,0,none⟩/\aS=[(b,.cells arr e)]/\(∀off sp,ro ⟨b,off,sp⟩=none)/\r.rel ro x cs/\∀j v,cs[j]?=some v->arr[i*r.n+j]?=some v:=by
 obtain ⟨a,arr,k,cs,c,d,f,g,hm⟩:=h.elem hi
 injection c with h1 m o
 exact ⟨a,arr,cs,h1,d,f,g,hm⟩
theorem aO.iT {T:Type}{r:b6 T}{ro:Addr->Option Value}{e:TypeId}{b n cap:Nat}{l:List T}{arr:Array Value}(h:aO r ro e (.slice (some ⟨b,0,none⟩) n cap) l [(b,.cells arr e)]){i:Nat}{x:T}(hi:l[i]?=some x):
  ∃cs,r.rel ro x cs/\∀j v,cs[j]?=some v->arr[i*r.n+j]?=some v:=by
 obtain ⟨d,cs,a,f,c,hm⟩:=h.elemAt hi
 simp only[List.cons.injEq,Prod.mk.injEq,Obj.cells.injEq,true_and,and_true] at a
 subst a
 exact ⟨cs,c,hm⟩
theorem aO.rq {T:Type}{r:b6 T}{ro:Addr->Option Value}{e:TypeId}{l:List T}{b n cap:Nat}{arr:Array Value}(h:aO r ro e (.slice (some ⟨b,0,none⟩) n cap) l [(b,.cells arr e)]){i:Nat}{y:T}(hi:i<l.length){cs:List Value}(a:r.rel ro y cs):
  aO r ro e (.slice (some ⟨b,0,none⟩) n cap) (l.set i y) [(b,.cells (cI arr (i*r.n) cs) e)]:=h.setAt (List.getElem?_eq_getElem hi) a
theorem aO.ig {T:Type}{r:b6 T}{ro:Addr->Option Value}{e:TypeId}{ad:Option Addr}{n cap:Nat}{l:List T}{aS:List (Nat×Obj)}(h:aO r ro e (.slice ad n cap) l aS)(a:l.isEmpty=false):
  ∃b arr,ad=some ⟨b,0,none⟩/\aS=[(b,.cells arr e)]/\(∀off sp,ro ⟨b,off,sp⟩=none):=by
 cases l with
 |nil=>cases a
 |cons x l=>
  obtain ⟨b,arr,cs,h1,c,d,_⟩:=h.z8 (i:=0) rfl
  exact ⟨b,arr,h1,c,d⟩
theorem aO.gx {T:Type}{r:b6 T}{ro:Addr->Option Value}{e:TypeId}{b n cap:Nat}{l:List T}{aS:List (Nat×Obj)}(h:aO r ro e (.slice (some ⟨b,0,none⟩) n cap) l aS):∃arr,aS=[(b,.cells arr e)]:=by
 obtain ⟨ls,hg,-⟩:=h;rcases hg with ⟨a,_,_⟩|⟨d,arr,f,a,c,_⟩
 ·cases a
 ·cases a;exact ⟨arr,c⟩
theorem aO.count {T:Type}{r:b6 T}{ro:Addr->Option Value}{e:TypeId}{ad:Option Addr}{n cap:Nat}{l:List T}{aS:List (Nat×Obj)}(h:aO r ro e (.slice ad n cap) l aS):l.length=n:=by
 obtain ⟨b,c,a,_⟩:=h.len;cases a;rfl
def pg (ops:Array Oper)(bV:List Nat)(i:Nat):Bool:=bV.all fun j=>match ops[j]? with
 |some o=>o.after.any fun e=>Region.binds .any e&&e.on==i
 |none=>true
section
variable {P : Program} {main : Bool} {J : Goroutine → aa → Prop} {ops : Array Oper} {Q : Act → aa → Prop} {S : aa → Prop} {bV : List Nat}
def dS (P:Program)(J:Goroutine->aa->Prop)(ops:Array Oper)(Q:Act->aa->Prop)(S:aa->Prop)(bV:List Nat):Nat->Array Bool->Act->aa->Prop
 |0,listed,a,F=>Region.ready .any ops listed=[]/\Q a F
 |fuel+1,listed,a,F=>(Region.ready .any ops listed=[]->Q a F)/\
  ∀i∈Region.ready .any ops listed,dH P J ops i (fun b F'=>(¬i∈bV->S F->S F')/\dS P J ops Q S bV fuel (listed.setIfInBounds i true) b F') a F
theorem EZ:∀(fuel t:Nat) (listed:Array Bool) (a:Act) (F:aa),dS P J ops Q S bV fuel listed a F->
  fL P J ops Q (Region.linearise.go .any ops fuel t listed []) a F:=by
 intro fuel
 induction fuel with
 |zero=>intro t listed a F h;simpa [Region.linearise.go,fL] using h.2
 |succ fuel ih=>
  intro t listed a F h
  obtain ⟨b,c⟩:=h
  simp only[Region.linearise.go]
  change fL P J ops Q (match (Region.ready .any ops listed)[t % (Region.ready .any ops listed).length]? with
   |some i=>Region.linearise.go .any ops fuel (t/(Region.ready .any ops listed).length) (listed.setIfInBounds i true) [i]
   |none=>[].reverse) a F
  cases hi:(Region.ready .any ops listed)[t % (Region.ready .any ops listed).length]? with
  |none=>
   have d:Region.ready .any ops listed=[]:=by
    cases e:Region.ready .any ops listed with
    |nil=>rfl
    |cons x xs=>
     rw[e] at hi
     have f:t % (x::xs).length<(x::xs).length:=Nat.mod_lt _ (by simp)
     simp at hi
     simp at f
     omega
   simpa [fL] using b d
  |some i=>
   simp only[]
   rw[linearise_go_acc,List.reverse_singleton,List.singleton_append]
   exact oJ (fun a F h=>ih _ _ a F h.2) (c i (List.mem_of_getElem? hi))
theorem E0 {i:Nat}{g:Oper}{v:Value}(hi:ops[i]?=some g)(l:pg ops bV i=true)(u:∀(j:Nat) (o:Oper) cs b,ops[j]?=some o->o.op≠ .select cs b):
  ∀(fuel:Nat) (listed:Array Bool) (a:Act) (F:aa),
   (∀j d,ops[j]?=some d->j≠i->listed.getD j true=false->(∀e∈d.after,Region.binds .any e=true->e.on≠i)->g.apart ops d=true)->
   i∈Region.ready .any ops listed->fB P J ops S g v a->S F->
   dS P J ops Q S bV fuel (listed.setIfInBounds i true) (a.put g.dst v) F->dS P J ops Q S bV (fuel+1) listed a F:=by
 intro fuel
 induction fuel with
 |zero=>
  intro listed a F _ f m n H
  refine ⟨fun h=>(by rw[h] at f;cases f),fun j p=>?_⟩
  by_cases c:j=i
  ·subst c;exact m.m0 hi n ⟨fun _ h=>h,H⟩
  ·have:=ready_mono p c
   rw[H.1] at this
   cases this
 |succ fuel ih=>
  intro listed a F w f m n H
  refine ⟨fun h=>(by rw[h] at f;cases f),fun j p=>?_⟩
  by_cases c:j=i
  ·subst c;exact m.m0 hi n ⟨fun _ h=>h,H⟩
  ·have h1:=H.2 j (ready_mono p c)
   obtain ⟨y,d,q,C⟩:=mem_ready.1 p
   have z:∀e∈d.after,Region.binds .any e=true->e.on≠i:=fun e he hb heq=>by
    have h1:=C e he hb
    have h0:=(mem_ready.1 f).1
    rw[heq] at h1
    rcases Nat.lt_or_ge i listed.size with s|s
    ·simp[s] at h0 h1;rw[h0] at h1;cases h1
    ·simp[Array.getElem?_eq_none s] at h1
   have D:¬j∈bV:=fun e=>by
    have l:=List.all_eq_true.1 l j e
    simp only[q,Array.any_eq_true,Bool.and_eq_true,beq_iff_eq] at l
    obtain ⟨x,E,h1,t⟩:=l
    exact z _ (Array.getElem_mem E) h1 t
   have t:=tY q (w j d q c y z) (fun cs b=>u i g cs b hi) (fun cs b=>u j d cs b q) m h1
   have G:∀k ok,ops[k]?=some ok->k≠i->(listed.setIfInBounds j true).getD k true=false->
     (∀e∈ok.after,Region.binds .any e=true->e.on≠i)->g.apart ops ok=true:=fun k ok I K A L=>by
    refine w k ok I K ?_ L
    by_cases B:j=k
    ·subst B;exact y
    ·rw[getD_set_ne true B] at A;exact A
   refine oJ (fun M F' r=>⟨r.2.1,ih (listed.setIfInBounds j true) M F' G (ready_mono f (Ne.symm c)) r.1 (r.2.1 D n) ?_⟩) t
   rw[Array.setIfInBounds_comm _ _ c]
   exact r.2.2
theorem E1 {i:Nat}{g:Oper}{v:Value}(hi:ops[i]?=some g)(r:∀(j:Nat) (o:Oper) cs b,ops[j]?=some o->o.op≠ .select cs b):
  ∀(fuel:Nat) (listed:Array Bool) (a:Act) (F:aa),
   (∀j d,ops[j]?=some d->j≠i->listed.getD j true=false->(∀e∈d.after,Region.binds .any e=true->e.on≠i)->g.apart ops d=true)->
   i∈Region.ready .any ops listed->fB P J ops (fun _=>True) g v a->
   dS P J ops Q S bV fuel (listed.setIfInBounds i true) (a.put g.dst v) F->dS P J ops Q S bV (fuel+1) listed a F:=by
 intro fuel
 induction fuel with
 |zero=>
  intro listed a F _ f l H
  refine ⟨fun h=>(by rw[h] at f;cases f),fun j m=>?_⟩
  by_cases c:j=i
  ·subst c;exact l.m0 hi trivial ⟨fun _ h=>h,H⟩
  ·have:=ready_mono m c
   rw[H.1] at this
   cases this
 |succ fuel ih=>
  intro listed a F s f l H
  refine ⟨fun h=>(by rw[h] at f;cases f),fun j m=>?_⟩
  by_cases c:j=i
  ·subst c;exact l.m0 hi trivial ⟨fun _ h=>h,H⟩
  ·have h1:=H.2 j (ready_mono m c)
   obtain ⟨t,d,n,x⟩:=mem_ready.1 m
   have y:∀e∈d.after,Region.binds .any e=true->e.on≠i:=fun e he hb heq=>by
    have h1:=x e he hb
    have h0:=(mem_ready.1 f).1
    rw[heq] at h1
    rcases Nat.lt_or_ge i listed.size with p|p
    ·simp[p] at h0 h1;rw[h0] at h1;cases h1
    ·simp[Array.getElem?_eq_none p] at h1
   have z:=tY n (s j d n c t y) (fun cs b=>r i g cs b hi) (fun cs b=>r j d cs b n) l h1
   have A:∀k ok,ops[k]?=some ok->k≠i->(listed.setIfInBounds j true).getD k true=false->
     (∀e∈ok.after,Region.binds .any e=true->e.on≠i)->g.apart ops ok=true:=fun k ok B C u D=>by
    refine s k ok B C ?_ D
    by_cases w:j=k
    ·subst w;exact t
    ·rw[getD_set_ne true w] at u;exact u
   refine oJ (fun E F' q=>⟨q.2.1,ih (listed.setIfInBounds j true) E F' A (ready_mono f (Ne.symm c)) q.1 ?_⟩) z
   rw[Array.setIfInBounds_comm _ _ c]
   exact q.2.2
theorem z9 (i:Nat){c:Oper}(v:Value){fuel:Nat}{listed:Array Bool}{a:Act}{F:aa}(hi:ops[i]?=some c)
  (b:(Region.noSelect ops&&Region.free .any ops listed i&&(Region.ready .any ops listed).contains i)=true)
  (d:pg ops bV i=true) (e:fB P J ops S c v a) (f:S F)
  (h:dS P J ops Q S bV fuel (listed.setIfInBounds i true) (a.put c.dst v) F):dS P J ops Q S bV (fuel+1) listed a F:=by
 simp only[Bool.and_eq_true] at b
 exact E0 hi d (Region.noSelect_spec b.1.1) fuel listed a F (Region.free_spec hi b.1.2) (by simpa using b.2) e f h
theorem vc {rs:List Nat}{fuel:Nat}{listed:Array Bool}{a:Act}{F:aa}(b:Region.ready .any ops listed=rs)(aF:rs≠[])
  (h:∀i∈rs,dH P J ops i (fun c F'=>(¬i∈bV->S F->S F')/\dS P J ops Q S bV fuel (listed.setIfInBounds i true) c F') a F):dS P J ops Q S bV (fuel+1) listed a F:=
 ⟨fun h0=>absurd (b▸h0) aF,b▸h⟩
theorem Aa (i:Nat){fuel:Nat}{listed:Array Bool}{a:Act}{F:aa}(b:Region.ready .any ops listed=[i])
  (h:dH P J ops i (fun c F'=>(¬i∈bV->S F->S F')/\dS P J ops Q S bV fuel (listed.setIfInBounds i true) c F') a F):dS P J ops Q S bV (fuel+1) listed a F:=
 vc b (by simp) (by simpa using h)
theorem Ab {listed:Array Bool}{a:Act}{F:aa}(b:Region.ready .any ops listed=[])(h:Q a F):∀fuel,dS P J ops Q S bV fuel listed a F
 |0=>⟨b,h⟩
 |_+1=>⟨fun _=>h,by rw[b];simp⟩
end
theorem ve {P:Program}{J:Goroutine->aa->Prop}{ops:Array Oper}{Q:Act->aa->Prop}{S:aa->Prop}{bV:List Nat}(i:Nat){b:Oper}(v:Value){fuel:Nat}{listed:Array Bool}{a:Act}{F:aa}(hi:ops[i]?=some b)
  (d:(Region.noSelect ops&&Region.free .any ops listed i&&(Region.ready .any ops listed).contains i)=true)
  (e:pg ops bV i=true) (hg:cz ops b a=some true) (f:∀F R,S F->R v F->cJ P J b R a F) (c:S F)
  (h:dS P J ops Q S bV fuel (listed.setIfInBounds i true) (aZ a b.dst v) F):dS P J ops Q S bV (fuel+1) listed a F:=
 z9 i v hi d e (.inl ⟨b9 hg,fun F R c g=>kQ (f F R c g)⟩) c h
theorem E2 {P:Program}{J:Goroutine->aa->Prop}{ops:Array Oper}{Q:Act->aa->Prop}{S:aa->Prop}{bV:List Nat}(i:Nat){b:Oper}{fuel:Nat}{listed:Array Bool}{a:Act}{F:aa}(hi:ops[i]?=some b)
  (c:(Region.noSelect ops&&Region.free .any ops listed i&&(Region.ready .any ops listed).contains i)=true)
  (d:pg ops bV i=true) (hg:cz ops b a=some false) (e:S F)
  (h:dS P J ops Q S bV fuel (listed.setIfInBounds i true) (aZ a b.dst undef) F):dS P J ops Q S bV (fuel+1) listed a F:=
 z9 i undef hi c d (.inr ⟨b9 hg,rfl⟩) e h
theorem Ac {P:Program}{J:Goroutine->aa->Prop}{ops:Array Oper}{Q:Act->aa->Prop}{S:aa->Prop}{bV:List Nat}(i:Nat){c:Oper}(v:Value){fuel:Nat}{listed:Array Bool}{a:Act}{F:aa}(hi:ops[i]?=some c)
  (b:(Region.noSelect ops&&Region.free .any ops listed i&&(Region.ready .any ops listed).contains i)=true)
  (d:fB P J ops (fun _=>True) c v a)
  (h:dS P J ops Q S bV fuel (listed.setIfInBounds i true) (aZ a c.dst v) F):dS P J ops Q S bV (fuel+1) listed a F:=by
 simp only[Bool.and_eq_true] at b
 exact E1 hi (Region.noSelect_spec b.1.1) fuel listed a F (Region.free_spec hi b.1.2) (by simpa using b.2) d h
inductive cc where
 |done
 |rd (i:Nat) (p:cc)
 |one (i:Nat) (p:cc)
 |two (i:Nat) (p:cc) (j:Nat) (q:cc)
 |three (i:Nat) (p:cc) (j:Nat) (q:cc) (k:Nat) (r:cc)
 |last (i:Nat) (p:cc)
 |pure (i:Nat) (p:cc)
inductive fH where
 |done
 |rd (o:Oper) (p:fH)
 |one (o:Oper) (p:fH)
 |two (o:Oper) (p:fH) (o':Oper) (q:fH)
 |three (o:Oper) (p:fH) (o':Oper) (q:fH) (j0:Oper) (r:fH)
 |last (o:Oper) (p:fH)
 |pure (o:Oper) (p:fH)
 |bad
def cc.opers (ops:Array Oper):cc->fH
 | .done=>.done
 | .rd i p=>match ops[i]? with
  |some o=>.rd o (p.opers ops)
  |none=>.bad
 | .one i p=>match ops[i]? with
  |some o=>.one o (p.opers ops)
  |none=>.bad
 | .two i p j q=>match ops[i]?,ops[j]? with
  |some o,some o'=>.two o (p.opers ops) o' (q.opers ops)
  |_,_=>.bad
 | .three i p j q k r=>match ops[i]?,ops[j]?,ops[k]? with
  |some o,some o',some j0=>.three o (p.opers ops) o' (q.opers ops) j0 (r.opers ops)
  |_,_,_=>.bad
 | .last i p=>match ops[i]? with
  |some o=>.last o (p.opers ops)
  |none=>.bad
 | .pure i p=>match ops[i]? with
  |some o=>.pure o (p.opers ops)
  |none=>.bad
def cc.tl:cc->Bool
 | .done=>true
 | .last _ p=>p.tl
 | .pure _ p=>p.tl
 |_=>false
def cc.ok (ops:Array Oper)(bV:List Nat):cc->Array Bool->Bool
 | .done,L=>decide (Region.ready .any ops L=[])
 | .rd i p,L=>Region.free .any ops L i&&(Region.ready .any ops L).contains i&&(ops[i]?).isSome&&pg ops bV i&&p.ok ops bV (L.setIfInBounds i true)
 | .one i p,L=>decide (Region.ready .any ops L=[i])&&(ops[i]?).isSome&&p.ok ops bV (L.setIfInBounds i true)
 | .two i p j q,L=>decide (Region.ready .any ops L=[i,j])&&(ops[i]?).isSome&&(ops[j]?).isSome&&p.ok ops bV (L.setIfInBounds i true)&&q.ok ops bV (L.setIfInBounds j true)
 | .three i p j q k r,L=>decide (Region.ready .any ops L=[i,j,k])&&(ops[i]?).isSome&&(ops[j]?).isSome&&(ops[k]?).isSome&&p.ok ops bV (L.setIfInBounds i true)&&q.ok ops bV (L.setIfInBounds j true)&&r.ok ops bV (L.setIfInBounds k true)
 | .pure i p,L=>Region.free .any ops L i&&(Region.ready .any ops L).contains i&&(ops[i]?).isSome&&p.ok ops bV (L.setIfInBounds i true)
 | .last i p,L=>bV.contains i&&decide (Region.ready .any ops L=[i])&&p.tl&&(ops[i]?).isSome&&p.ok ops bV (L.setIfInBounds i true)
def cc.len:cc->Nat
 | .done=>0
 | .rd _ p=>p.len+1
 | .one _ p=>p.len+1
 | .two _ p _ q=>max p.len q.len+1
 | .three _ p _ q _ r=>max p.len (max q.len r.len)+1
 | .last _ p=>p.len+1
 | .pure _ p=>p.len+1
def cr (P:Program)(J:Goroutine->aa->Prop)(ops:Array Oper)(F0:aa)(Q:Act->aa->Prop):fH->Bool->Act->aa->Prop
 | .done,_,a,F=>Q a F
 | .bad,_,_,_=>False
 | .rd o p,_,a,F=>match cz ops o a with
  |some false=>cr P J ops F0 Q p true (aZ a o.dst undef) F
  |some true=>match o.op with
   | .load t x=>match ev a x with
    | .pointer (some ad)=>match e7 P F0 t ad with
     |some v=>cr P J ops F0 Q p true (aZ a o.dst v) F
     |none=>False
    |_=>False
   | .call {callee:=.value x,args, ..}=>match ev a x with
    | .func (.func fn) first captured=>aH P fn=true/\∃v,Plain P J F0 fn (first++args.map (ev a)++captured) v/\cr P J ops F0 Q p false (aZ a o.dst v) F
    |_=>False
   |_=>match iP P o a with
    |some v=>cr P J ops F0 Q p true (aZ a o.dst v) F
    |none=>False
  |none=>False
 | .one o p,_,a,F=>match cz ops o a with
  |some true=>cJ P J o (fun v F'=>Knows F0 F'/\cr P J ops F0 Q p (!Oper.calls o) (aZ a o.dst v) F') a F
  |_=>False
 | .two o p o' q,_,a,F=>(match cz ops o a with
  |some true=>cJ P J o (fun v F'=>Knows F0 F'/\cr P J ops F0 Q p (!Oper.calls o) (aZ a o.dst v) F') a F
  |_=>False)/\(match cz ops o' a with
  |some true=>cJ P J o' (fun v F'=>Knows F0 F'/\cr P J ops F0 Q q (!Oper.calls o') (aZ a o'.dst v) F') a F
  |_=>False)
 | .three o p o' q j0 r,_,a,F=>(match cz ops o a with
  |some true=>cJ P J o (fun v F'=>Knows F0 F'/\cr P J ops F0 Q p (!Oper.calls o) (aZ a o.dst v) F') a F
  |_=>False)/\(match cz ops o' a with
  |some true=>cJ P J o' (fun v F'=>Knows F0 F'/\cr P J ops F0 Q q (!Oper.calls o') (aZ a o'.dst v) F') a F
  |_=>False)/\(match cz ops j0 a with
  |some true=>cJ P J j0 (fun v F'=>Knows F0 F'/\cr P J ops F0 Q r (!Oper.calls j0) (aZ a j0.dst v) F') a F
  |_=>False)
 | .pure o p,_,a,F=>match cz ops o a with
  |some false=>cr P J ops F0 Q p true (aZ a o.dst undef) F
  |some true=>match iP P o a with
   |some v=>cr P J ops F0 Q p true (aZ a o.dst v) F
   |none=>False
  |none=>False
 | .last o p,_,a,F=>match cz ops o a with
  |some true=>cJ P J o (fun v F'=>cr P J ops F0 Q p (!Oper.calls o) (aZ a o.dst v) F') a F
  |_=>False
section
variable {P : Program} {main : Bool} {J : Goroutine → aa → Prop} {ops : Array Oper} {Q : Act → aa → Prop} {F0 : aa} {bV : List Nat}
theorem nh {p:cc}{i:Nat}{o:Oper}{fuel:Nat}{L:Array Bool}{a:Act}{F:aa}(b:ops[i]?=some o)
  (ih:∀go a F,Knows F0 F->cr P J ops F0 Q (p.opers ops) go a F->dS P J ops Q (Knows F0) bV fuel (L.setIfInBounds i true) a F)
  (h:match cz ops o a with
   |some true=>cJ P J o (fun v F'=>Knows F0 F'/\cr P J ops F0 Q (p.opers ops) (!Oper.calls o) (aZ a o.dst v) F') a F
   |_=>False):dH P J ops i (fun c F'=>(¬i∈bV->Knows F0 F->Knows F0 F')/\dS P J ops Q (Knows F0) bV fuel (L.setIfInBounds i true) c F') a F:=by
 split at h
 ·rename_i hg
  unfold dH
  simp only[b]
  rw[if_pos (b9 hg)]
  refine kQ (lZ.q3 ?_ h)
  rintro v F' ⟨h1,d⟩
  exact ⟨fun _ _=>h1,ih _ _ F' h1 d⟩
 ·exact h.elim
theorem Ad {p:cc}{i:Nat}{fuel:Nat}{L:Array Bool}{go:Bool}{a:Act}{F:aa}(e:Region.noSelect ops=true)(c:(cc.pure i p).ok ops bV L=true)
  (ih:∀go v a,p.ok ops bV (L.setIfInBounds i true)=true->cr P J ops F0 Q (p.opers ops) go (aZ a ((ops[i]?).bind (·.dst)) v) F->dS P J ops Q (Knows F0) bV fuel (L.setIfInBounds i true) (aZ a ((ops[i]?).bind (·.dst)) v) F)
  (h:cr P J ops F0 Q ((cc.pure i p).opers ops) go a F):dS P J ops Q (Knows F0) bV (fuel+1) L a F:=by
 simp only[cc.ok,Bool.and_eq_true] at c
 obtain ⟨⟨⟨c1,c2⟩,c3⟩,c4⟩:=c
 obtain ⟨o,b⟩:=Option.isSome_iff_exists.1 c3
 have d:(Region.noSelect ops&&Region.free .any ops L i&&(Region.ready .any ops L).contains i)=true:=by rw[e,c1,c2];rfl
 have f:cc.opers ops (.pure i p)= .pure o (p.opers ops):=by simp only[cc.opers,b]
 rw[f] at h
 have hd:(ops[i]?).bind (·.dst)=o.dst:=by rw[b];rfl
 rw[hd] at ih
 unfold cr at h
 split at h
 ·rename_i hg
  exact Ac i undef b d (.inr ⟨b9 hg,rfl⟩) (ih _ _ _ c4 h)
 ·rename_i hg
  split at h
  ·rename_i v g
   exact Ac i v b d (.inl ⟨b9 hg,fun F R _ j=>kQ (qY g j)⟩) (ih _ _ _ c4 h)
  ·exact h.elim
 ·exact h.elim
theorem vf (d:Region.noSelect ops=true):∀(p:cc) (fuel:Nat) (L:Array Bool) (go:Bool) (a:Act) (F:aa),p.tl=true->p.len<=fuel->p.ok ops bV L=true->cr P J ops F0 Q (p.opers ops) go a F->dS P J ops Q (Knows F0) bV fuel L a F
 | .done,fuel,L,go,a,F,_,c,b,h=>by
  simp only[cc.ok,decide_eq_true_eq] at b
  unfold cc.opers cr at h
  exact Ab b h _
 | .last i p,fuel,L,go,a,F,ht,c,b,h=>by
  simp only[cc.ok,Bool.and_eq_true,decide_eq_true_eq] at b
  obtain ⟨⟨⟨⟨c1,c2⟩,c3⟩,c4⟩,g⟩:=b
  obtain ⟨o,e⟩:=Option.isSome_iff_exists.1 c4
  have j:cc.opers ops (.last i p)= .last o (p.opers ops):=by simp only[cc.opers,e]
  rw[j] at h
  simp only[cc.len] at c
  obtain ⟨fuel,rfl⟩:∃f,fuel=f+1:=⟨fuel - 1,by omega⟩
  unfold cr at h
  refine Aa i c2 ?_
  split at h
  ·rename_i hg
   unfold dH
   simp only[e]
   rw[if_pos (b9 hg)]
   refine kQ (lZ.q3 ?_ h)
   exact fun v F' k=>⟨fun aF _=>absurd (by simpa using c1) aF,vf d p fuel _ _ _ F' c3 (by omega) g k⟩
  ·exact h.elim
 | .pure i p,fuel,L,go,a,F,ht,c,b,h=>by
  simp only[cc.len] at c
  obtain ⟨fuel,rfl⟩:∃f,fuel=f+1:=⟨fuel - 1,by omega⟩
  exact Ad d b (fun go v a c4 l=>vf d p fuel _ go _ F ht (by omega) c4 l) h
 | .rd _ _,_,_,_,_,_,ht,_,_,_=>by cases ht
 | .one _ _,_,_,_,_,_,ht,_,_,_=>by cases ht
 | .two ..,_,_,_,_,_,ht,_,_,_=>by cases ht
 | .three ..,_,_,_,_,_,ht,_,_,_=>by cases ht
theorem j3 (g:Region.noSelect ops=true):∀(p:cc) (fuel:Nat) (L:Array Bool) (go:Bool) (a:Act) (F:aa),Knows F0 F->p.len<=fuel->p.ok ops bV L=true->cr P J ops F0 Q (p.opers ops) go a F->dS P J ops Q (Knows F0) bV fuel L a F
 | .done,fuel,L,go,a,F,b,e,c,h=>by
  simp only[cc.ok,decide_eq_true_eq] at c
  unfold cc.opers cr at h
  exact Ab c h _
 | .rd i p,fuel,L,go,a,F,b,e,c,h=>by
  simp only[cc.ok,Bool.and_eq_true] at c
  obtain ⟨⟨⟨⟨c1,c2⟩,c3⟩,l⟩,c4⟩:=c
  obtain ⟨o,d⟩:=Option.isSome_iff_exists.1 c3
  have y:(Region.noSelect ops&&Region.free .any ops L i&&(Region.ready .any ops L).contains i)=true:=by rw[g,c1,c2];rfl
  have m:cc.opers ops (.rd i p)= .rd o (p.opers ops):=by simp only[cc.opers,d]
  rw[m] at h
  simp only[cc.len] at e
  obtain ⟨fuel,rfl⟩:∃f,fuel=f+1:=⟨fuel - 1,by omega⟩
  have next:∀go v,cr P J ops F0 Q (p.opers ops) go (aZ a o.dst v) F->dS P J ops Q (Knows F0) bV fuel (L.setIfInBounds i true) (aZ a o.dst v) F:=fun go v n=>
   j3 g p fuel _ go _ F b (by omega) c4 n
  unfold cr at h
  split at h
  ·rename_i hg
   exact E2 i d y l hg b (next true undef h)
  ·rename_i hg
   split at h
   ·rename_i t x A
    split at h
    case h_2=>exact h.elim
    rename_i ad C
    split at h
    case h_2=>exact h.elim
    rename_i v n
    refine ve i v d y l hg (fun F R z u=>?_) b (next _ v h)
    unfold cJ
    simp only[A,C,z.e7 n]
    exact u
   ·rename_i x args argTypes A
    split at h
    case h_2=>exact h.elim
    rename_i fn first captured s
    obtain ⟨D,v,E,h⟩:=h
    refine ve i v d y l hg (fun F R z u=>?_) b (next _ v h)
    unfold cJ
    simp only[A,s]
    exact ⟨D,(E F z).mono fun K F' G=>by obtain ⟨rfl,rfl⟩:=G;exact u⟩
   ·split at h
    case h_2=>exact h.elim
    rename_i v n
    exact ve i v d y l hg (fun F R z u=>qY n u) b (next _ v h)
  ·exact h.elim
 | .one i p,fuel,L,go,a,F,b,e,c,h=>by
  simp only[cc.ok,Bool.and_eq_true,decide_eq_true_eq] at c
  obtain ⟨⟨c1,c3⟩,c4⟩:=c
  obtain ⟨o,d⟩:=Option.isSome_iff_exists.1 c3
  have m:cc.opers ops (.one i p)= .one o (p.opers ops):=by simp only[cc.opers,d]
  rw[m] at h
  simp only[cc.len] at e
  obtain ⟨fuel,rfl⟩:∃f,fuel=f+1:=⟨fuel - 1,by omega⟩
  unfold cr at h
  exact Aa i c1 (nh d (fun go a F b h=>j3 g p fuel _ go a F b (by omega) c4 h) h)
 | .two i p j q,fuel,L,go,a,F,b,e,c,h=>by
  simp only[cc.ok,Bool.and_eq_true,decide_eq_true_eq] at c
  obtain ⟨⟨⟨⟨c1,c2⟩,c3⟩,c4⟩,l⟩:=c
  obtain ⟨o,d⟩:=Option.isSome_iff_exists.1 c2
  obtain ⟨o',w⟩:=Option.isSome_iff_exists.1 c3
  have m:cc.opers ops (.two i p j q)= .two o (p.opers ops) o' (q.opers ops):=by simp only[cc.opers,d,w]
  rw[m] at h
  simp only[cc.len] at e
  obtain ⟨fuel,rfl⟩:∃f,fuel=f+1:=⟨fuel - 1,by omega⟩
  unfold cr at h
  refine vc c1 (by simp) fun x s=>?_
  simp only[List.mem_cons,List.not_mem_nil,or_false] at s
  rcases s with rfl|rfl
  ·exact nh d (fun go a F b h=>j3 g p fuel _ go a F b (by omega) c4 h) h.1
  ·exact nh w (fun go a F b h=>j3 g q fuel _ go a F b (by omega) l h) h.2
 | .three i p j q k r,fuel,L,go,a,F,b,e,c,h=>by
  simp only[cc.ok,Bool.and_eq_true,decide_eq_true_eq] at c
  obtain ⟨⟨⟨⟨⟨⟨c1,c2⟩,c3⟩,c4⟩,l⟩,H⟩,I⟩:=c
  obtain ⟨o,d⟩:=Option.isSome_iff_exists.1 c2
  obtain ⟨o',w⟩:=Option.isSome_iff_exists.1 c3
  obtain ⟨j0,B⟩:=Option.isSome_iff_exists.1 c4
  have m:cc.opers ops (.three i p j q k r)= .three o (p.opers ops) o' (q.opers ops) j0 (r.opers ops):=by simp only[cc.opers,d,w,B]
  rw[m] at h
  simp only[cc.len] at e
  obtain ⟨fuel,rfl⟩:∃f,fuel=f+1:=⟨fuel - 1,by omega⟩
  unfold cr at h
  refine vc c1 (by simp) fun x s=>?_
  simp only[List.mem_cons,List.not_mem_nil,or_false] at s
  rcases s with rfl|rfl|rfl
  ·exact nh d (fun go a F b h=>j3 g p fuel _ go a F b (by omega) l h) h.1
  ·exact nh w (fun go a F b h=>j3 g q fuel _ go a F b (by omega) H h) h.2.1
  ·exact nh B (fun go a F b h=>j3 g r fuel _ go a F b (by omega) I h) h.2.2
 | .last i p,fuel,L,go,a,F,b,e,c,h=>vf g (.last i p) fuel L go a F (by simp only[cc.ok,Bool.and_eq_true] at c;exact c.1.1.2) e c h
 | .pure i p,fuel,L,go,a,F,b,e,c,h=>by
  simp only[cc.len] at e
  obtain ⟨fuel,rfl⟩:∃f,fuel=f+1:=⟨fuel - 1,by omega⟩
  exact Ad g c (fun go v a c4 n=>j3 g p fuel _ go _ F b (by omega) c4 n) h
theorem eF {Q:Ex->Act->aa->Prop}(hJ:Closed P main J)(d:P.follows .mixedOrders=true)(bV:List Nat)(p:cc){id:Nat}{a:Act}{F:aa}(F0:aa)(e:Knows F0 F)
  (c:(Region.noSelect ops&&decide (p.len<=ops.size)&&p.ok ops bV (Array.replicate ops.size false))=true)
  (h:cr P J ops F0 (Q .normal) (p.opers ops) true a F):Wp J (.region id ops true) Q a F:=by
 simp only[Bool.and_eq_true,decide_eq_true_eq] at c
 obtain ⟨⟨h1,f⟩,g⟩:=c
 intro b k cs hb i
 refine hJ.step fun w hw=>?_
 refine ⟨_,_,_,F,yS,.drawn _ _ _,hw.drawn _,by simp,?_⟩
 refine qF (K:=Q .normal) hJ (ug hb) (fun j F' l=>i .normal j F' l) _ _ _ ?_
 simp only[Region.schedule,d,Bool.true_or,if_true]
 exact EZ ops.size _ _ a F (j3 (bV:=bV) h1 p ops.size _ true a F e f g h)
end
theorem E3 {P:Program}{J:Goroutine->aa->Prop}{ops:Array Oper}{F0:aa}{Q:Act->aa->Prop}{go:Bool}{a:Act}{F:aa}:cr P J ops F0 Q .done go a F=Q a F:=rfl
theorem E4 {P:Program}{J:Goroutine->aa->Prop}{ops:Array Oper}{F0:aa}{Q:Act->aa->Prop}{o:Oper}{p:fH}{a:Act}{F:aa}:cr P J ops F0 Q (.rd o p) true a F=match cz ops o a with
  |some false=>cr P J ops F0 Q p true (aZ a o.dst undef) F
  |some true=>match o.op with
   | .load t x=>match ev a x with
    | .pointer (some ad)=>match e7 P F0 t ad with
     |some v=>cr P J ops F0 Q p true (aZ a o.dst v) F
     |none=>False
    |_=>False
   | .call {callee:=.value x,args, ..}=>match ev a x with
    | .func (.func fn) first captured=>aH P fn=true/\∃v,Plain P J F0 fn (first++args.map (ev a)++captured) v/\cr P J ops F0 Q p false (aZ a o.dst v) F
    |_=>False
   |_=>match iP P o a with
    |some v=>cr P J ops F0 Q p true (aZ a o.dst v) F
    |none=>False
  |none=>False:=(Eq.refl _).trans (Eq.refl _)
theorem Ae {P:Program}{J:Goroutine->aa->Prop}{ops:Array Oper}{F0:aa}{Q:Act->aa->Prop}{o:Oper}{p:fH}{a:Act}{F:aa}:cr P J ops F0 Q (.one o p) true a F=match cz ops o a with
  |some true=>cJ P J o (fun v F'=>Knows F0 F'/\cr P J ops F0 Q p (!Oper.calls o) (aZ a o.dst v) F') a F
  |_=>False:=(Eq.refl _).trans (Eq.refl _)
theorem j4 {P:Program}{J:Goroutine->aa->Prop}{ops:Array Oper}{F0:aa}{Q:Act->aa->Prop}{o o':Oper}{p q:fH}{go:Bool}{a:Act}{F:aa}(h1:cr P J ops F0 Q (.one o p) true a F)(b:cr P J ops F0 Q (.one o' q) true a F):cr P J ops F0 Q (.two o p o' q) go a F:=by
 rw[Ae] at h1 b;unfold cr;exact ⟨h1,b⟩
theorem E5 {P:Program}{J:Goroutine->aa->Prop}{ops:Array Oper}{F0:aa}{Q:Act->aa->Prop}{o:Oper}{p:fH}{a:Act}{F:aa}:cr P J ops F0 Q (.last o p) true a F=match cz ops o a with
  |some true=>cJ P J o (fun v F'=>cr P J ops F0 Q p (!Oper.calls o) (aZ a o.dst v) F') a F
  |_=>False:=(Eq.refl _).trans (Eq.refl _)
theorem E6 {P:Program}{J:Goroutine->aa->Prop}{ops:Array Oper}{F0:aa}{Q:Act->aa->Prop}{o:Oper}{p:fH}{a:Act}{F:aa}:cr P J ops F0 Q (.pure o p) true a F=match cz ops o a with
  |some false=>cr P J ops F0 Q p true (aZ a o.dst undef) F
  |some true=>match iP P o a with
   |some v=>cr P J ops F0 Q p true (aZ a o.dst v) F
   |none=>False
  |none=>False:=(Eq.refl _).trans (Eq.refl _)
theorem bX {P:Program}{J:Goroutine->aa->Prop}{ops:Array Oper}{F0:aa}{Q:Act->aa->Prop}:∀{p:fH} {go:Bool} {a:Act} {F:aa},cr P J ops F0 Q p true a F->cr P J ops F0 Q p go a F
 | .done,_,_,_,h=>h
 | .bad,_,_,_,h=>h
 | .rd ..,_,_,_,h=>h
 | .one ..,_,_,_,h=>h
 | .two ..,_,_,_,h=>h
 | .three ..,_,_,_,h=>h
 | .last ..,_,_,_,h=>h
 | .pure ..,_,_,_,h=>h
attribute [irreducible] cr
attribute [go_sem] E3 E4 Ae E5 E6 cc.opers
theorem eM {ro aM:Addr->Option Value}{l:List (Nat×Obj)}(a:Ext ro aM)(b:aD aM l)(own:List (Nat×Obj)):Knows ⟨ro,l⟩ ⟨aM,own⟩=iO l own:=
 propext ⟨fun h=>h.2.2,D9 a b⟩
section
variable {P : Program} {main : Bool} {J : Goroutine → aa → Prop} {a : Act} {F : aa}
def l8 (l:Nat)(R:Value->aa->Prop)(st:LoopState)(jump:Option Code)(F:aa):Prop:=
 ∃lo,F.eR l=some (.loop lo)/\R (.bool jump.isNone) (F.put l (.loop {lo with state:=st,pending:=jump}))
def ru (l:Nat)(R:Value->aa->Prop):Ex->Act->aa->Prop
 | .normal,_,F=>l8 l R .ready none F
 | .exit id,_,F=>l8 l R .done (some (.exit id)) F
 | .ret,_,F=>l8 l R .done (some .ret) F
def pn (J:Goroutine->aa->Prop)(l:Nat)(body:Code)(R:Value->aa->Prop):Ex->Act->aa->Prop
 | .normal,a,F=>∃lo,F.eR l=some (.loop lo)/\lo.state= .ready/\Wp J body (ru l R) a (F.put l (.loop {lo with state:=.busy}))
 |_,_,_=>False
theorem vg {l:Nat}{R:Value->aa->Prop}{st:LoopState}{jump:Option Code}(b:st=if jump.isNone then .ready else .done)(h:l8 l R st jump F):aT P (Instr.endRound l jump) R F:=by
 obtain ⟨lo,h1,a⟩:=h;simp only[Instr.endRound,Instr.getLoop,bq,m3];refine ⟨_,h1,?_⟩;simp only[bG,bq,lP,h1,Option.isSome_some,Obj.isChan,true_and];rw[b] at a;exact a
theorem vh (hJ:Closed P main J){l:Nat}{b:Frame}{a:Act}{todo:List Item}{jump:Option Code}{c:Frame}{cs:List Frame}(f:b.kind= .normal)
  (hs:∀w,stepG P main (G (on b a todo) (c::cs)) w=GStep.after (seen P b.fn ((Instr.endRound l jump).runT P w #[]).2) (match ((Instr.endRound l jump).runT P w #[]).1 with
    | .ok v w=>doReturn P main (on b a todo) (c::cs) none v w
    | .halt _ w=>.ended (.stuck "range over a function: no such loop" ((on b a todo).pos P)) w))
  (h:aT P (Instr.endRound l jump) (fun v F'=>J (G (c.finish v) cs) F') F):J (G (on b a todo) (c::cs)) F:=by
 refine hJ.step fun w hw=>?_
 obtain ⟨v,w',F',es,H⟩:=kO _ F w #[] h hw
 have d:=H.run
 rw[Array.empty_append] at d
 refine ⟨G (c.finish v) cs,w',seen P b.fn es,F',?_,H.upd,H.has,fun e he=>H.g6 e (mem_seen he),H.post⟩
 rw[hs w,d]
 have g:(on b a todo).kind= .normal:=f
 simp only[doReturn,g,GStep.after,G]
 simp
theorem jr.of_wp (hJ:Closed P main J){l:Nat}{f:FuncId}{tmps:Array Value}{assign body:Code}{R:Value->aa->Prop}(hd:fC assign=true)(p:fC body=true)
  (h:Wp J assign (pn J l body R) {tmps:=tmps,defers:=[]} F):jr J l f tmps assign body F R:=by
 intro c cs g
 let b:Frame:={(default:Frame) with fn:=f,kind:=.normal,roundOf:=some l}
 have he:Frame.round l f tmps assign body .normal=on b {tmps:=tmps,defers:=[]} (.code assign::[.beginRound,.code body]):=rfl
 rw[he]
 refine h b [.beginRound,.code body] (c::cs) ⟨by simp[b],.inr hd⟩ fun e k F' a=>?_
 cases e with
 |exit i=>exact a.elim
 |ret=>exact a.elim
 |normal=>
  obtain ⟨lo,h1,d,q⟩:=a
  show J (G (on b k [.beginRound,.code body]) (c::cs)) F'
  have r:aT P (do Instr.beginRound l;pure Next.skip:Sem Next) (fun n j=>n= .skip/\j=F'.put l (.loop {lo with state:=.busy})) F':=by
   simp only[Instr.beginRound,Instr.getLoop,bq,m3]
   refine ⟨_,h1,?_⟩
   simp only[bG,bq,lP,h1,Option.isSome_some,Obj.isChan,true_and,d]
   all_goals first|trivial|exact ⟨rfl,rfl⟩
  refine hJ.step fun w hw=>?_
  obtain ⟨n,w',j,es,H⟩:=kO _ F' w #[] r hw
  have m:=H.run
  rw[Array.empty_append] at m
  obtain ⟨rfl,rfl⟩:=H.post
  refine ⟨G (on b k [.code body]) (c::cs),w',seen P b.fn es,_,?_,H.upd,H.has,fun e he=>H.g6 e (mem_seen he),?_⟩
  ·have s:b.roundOf=some l:=rfl
   simp only[G,stepG,stepG.exec,on,s,Option.elim,stepG.apply,if_true]
   have t:(b.kind==CallKind.early)=false:=rfl
   simp only[m,t,Bool.false_eq_true,if_false,GStep.after]
   simp[Frame.finish,undef]
  ·refine q b [] (c::cs) ⟨by simp[b],.inr p⟩ fun e a2 j a=>?_
   cases e with
   |normal=>
    refine vh hJ (l:=l) (jump:=none) rfl (fun w=>?_) (vg rfl (R:=fun v F'=>J (G (c.finish v) cs) F') ?_)
    ·simp only[G,stepG,stepG.exec,on]
     rfl
    ·obtain ⟨lo,h1,d⟩:=a
     exact ⟨lo,h1,g _ _ d⟩
   |exit i=>
    intro o u
    refine vh hJ (l:=l) (jump:=some (.exit i)) rfl (fun w=>?_) (vg rfl (R:=fun v F'=>J (G (c.finish v) cs) F') ?_)
    ·have x:exitTo i o=none:=u
     simp only[G,stepG,stepG.exec,on,x,Option.elim]
     rfl
    ·obtain ⟨lo,h1,d⟩:=a
     exact ⟨lo,h1,g _ _ d⟩
   |ret=>
    intro o
    refine vh hJ (l:=l) (jump:=some .ret) rfl (fun w=>?_) (vg rfl (R:=fun v F'=>J (G (c.finish v) cs) F') ?_)
    ·simp only[G,stepG,stepG.exec,on]
     rfl
    ·obtain ⟨lo,h1,d⟩:=a
     exact ⟨lo,h1,g _ _ d⟩
def ry (Q:Ex->Act->aa->Prop)(a:Act)(F:aa):Option Code->Prop
 |none=>Q .normal a F
 |some (.exit id)=>Q (.exit id) a F
 |some .ret=>Q .ret a F
 |_=>False
def ni (b:FuncId)(a:Act)(params:Array Tmp)(assign body:Code)(d:Nat):Loop:={state:=.ready,pending:=none,fn:=b,tmps:=a.tmps,params:=params,assign:=assign,body:=body,defers:=d}
theorem E7 (hJ:Closed P main J){x:Operand}{params:Array Tmp}{assign body:Code}{Q:Ex->Act->aa->Prop}{fn:FuncId}{first captured:Array Value}
  (E:ev a x= .func (.func fn) first captured) (I:aH P fn=true)
  (L:∀M d l,dP F d->dP (F.push d (.deferred (some []))) l->
   cP P J fn (first++#[.func (.yield l) #[] #[]]++captured) ((F.push d (.deferred (some []))).push l (.loop (ni M a params assign body d)))
    (fun _ F'=>∃lo,F'.eR l=some (.loop lo)/\lo.state≠ .busy/\ry Q {a with defers:=⟨.collected d,#[]⟩::a.defers} (F'.put l (.loop {lo with state:=.exhausted})) lo.pending)):
  Wp J (.rangeFunc x params assign body) Q a F:=by
 intro b k cs hb p
 have t:b.roundOf=none:=hb.round.elim id fun h=>by simp[fC] at h
 obtain ⟨u,N,O,R,S,q,a3⟩:=b
 simp only at t
 subst t
 let b:Frame:=⟨u,N,O,R,S,q,none⟩
 have T:a.eval x= .func (.func fn) first captured:=E
 have i:=I
 unfold aH at i
 split at i
 case h_2=>cases i
 rename_i a4 U
 simp only[Bool.not_eq_true',Bool.or_eq_false_iff] at i
 let K:Nat×List Deferred->aa->Prop:=fun r F'=>∃d l,r=(l,[⟨.collected d,#[]⟩])/\dP F d/\dP (F.push d (.deferred (some []))) l/\F'=(F.push d (.deferred (some []))).push l (.loop (ni b.fn a params assign body d))
 have h1:aT P (Instr.enterLoop b.fn a.tmps params assign body none) K F:=by
  simp only[Instr.enterLoop,bq,oL,bG]
  exact ⟨rfl,fun d hd=>⟨rfl,fun l s=>⟨d,l,rfl,hd,s,rfl⟩⟩⟩
 refine hJ.step fun w hw=>?_
 obtain ⟨r,w1,a5,z,H1⟩:=kO _ F w #[] h1 hw
 have A:=H1.run
 rw[Array.empty_append] at A
 obtain ⟨d,l,rfl,hd,s,rfl⟩:=H1.post
 let fr':Frame:={on b a (.inRangeFunc l::k) with defers:=[⟨.collected d,#[]⟩]++a.defers}
 have V:fr'=on b {a with defers:=⟨.collected d,#[]⟩::a.defers} (.inRangeFunc l::k):=rfl
 have W:fr'.eval x= .func (.func fn) first captured:=by rw[V,tT];exact T
 have X:aT P (do let m<-resolve fr'.eval {callee:=.value x,args:=#[.const (.func (.yield l) #[] #[])],argTypes:=#[]} 0;invoke m.target m.args:Sem Next)
   (fun n o=>n= .enter fn (first++#[.func (.yield l) #[] #[]]++captured)/\o=(F.push d (.deferred (some []))).push l (.loop (ni b.fn a params assign body d))) ((F.push d (.deferred (some []))).push l (.loop (ni b.fn a params assign body d))):=by
  have Y:fr'.eval (.const (.func (.yield l) #[] #[]))= .func (.yield l) #[] #[]:=rfl
  simp only[resolve,W,Deferred.ofValue,bq,bG,invoke,callFunc,jQ,U,i.1,i.2,Bool.false_eq_true,if_false,List.map_toArray,List.map_cons,List.map_nil,Y]
  simp
 obtain ⟨n,w2,o,Z,g⟩:=kO _ _ w1 #[] X H1.has
 have B:=g.run
 rw[Array.empty_append] at B
 obtain ⟨rfl,rfl⟩:=g.post
 refine ⟨G (Frame.enter P fn (first++#[.func (.yield l) #[] #[]]++captured) .normal) (fr'::cs),w2,seen P b.fn z++seen P b.fn Z,_,?_,H1.upd.trans g.upd,g.has,fun e he=>?_,?_⟩
 ·have ab:(q==CallKind.early)=false:=by have:=hb.kind;cases q<;>simp_all
  have hs:∀e:Array Event,stepG P main (G (on b a (.code (.rangeFunc x params assign body)::k)) cs) w=GStep.after (seen P u z) (stepG.apply P true fr' cs none (do let m<-resolve fr'.eval {callee:=.value x,args:=#[.const (.func (.yield l) #[] #[])],argTypes:=#[]} 0;invoke m.target m.args) w1):=fun _=>by
   simp only[G,stepG,stepG.exec,on,b]
   rw[A]
   rfl
  show stepG P main (G (on b a (.code (.rangeFunc x params assign body)::k)) cs) w=_
  rw[hs #[]]
  unfold stepG.apply
  simp only[if_true,B]
  have ad:(fr'.kind==CallKind.early)=false:=ab
  simp only[ad,Bool.false_eq_true,if_false,GStep.after]
  rfl
 ·rcases Array.mem_append.1 he with h|h
  ·refine (H1.g6 e (mem_seen h)).mono (fun _ x=>x) fun b hb=>hb.imp id fun y=>⟨y.1,Nat.lt_of_lt_of_le y.2 g.upd.size⟩
  ·refine (g.g6 e (mem_seen h)).mono (fun a ae=>ae) fun b hb=>?_
   rcases hb with hb|hb
   ·rcases H1.upd.own b hb with x|x
    ·exact .inl x
    ·exact .inr ⟨x,Nat.lt_of_lt_of_le (H1.has.lt hb) g.upd.size⟩
   ·exact .inr ⟨Nat.le_trans H1.upd.size hb.1,hb.2⟩
 ·refine L b.fn d l hd s fr' cs fun v F' al=>?_
  obtain ⟨lo,C,ao,f⟩:=al
  have ar:fr'.finish v=on b {a with defers:=⟨.collected d,#[]⟩::a.defers} (.endRangeFunc l::k):=rfl
  rw[ar]
  have a0:aT P (Instr.endLoop l) (fun j o=>j=lo.pending/\o=F'.put l (.loop {lo with state:=.exhausted})) F':=by
   simp only[Instr.endLoop,Instr.getLoop,bq,m3]
   refine ⟨_,C,?_⟩
   have a2:¬(lo.state== .busy)=true:=by simpa using ao
   simp only[bG,bq,lP,C,Option.isSome_some,Obj.isChan,true_and,dh,a2]
   all_goals first|trivial|exact ⟨rfl,rfl⟩
  refine hJ.step fun w hw=>?_
  obtain ⟨j,w',a6,es,H⟩:=kO _ F' w #[] a0 hw
  have D:=H.run
  rw[Array.empty_append] at D
  obtain ⟨rfl,rfl⟩:=H.post
  refine ⟨G (on b {a with defers:=⟨.collected d,#[]⟩::a.defers} ((lo.pending.map Item.code).toList++k)) cs,w',seen P b.fn es,_,?_,H.upd,H.has,fun e he=>H.g6 e (mem_seen he),?_⟩
  ·simp only[G,stepG,stepG.exec,on,D,GStep.after]
   simp
  ·revert f
   cases lo.pending with
   |none=>exact fun f=>p .normal _ _ f
   |some c=>
    intro f
    cases c<;>simp only[ry] at f<;>first
     |exact f.elim
     |exact p (.exit _) _ _ f k rfl
     |exact p .ret _ _ f k
end
def eT {H σ:Type}(step:σ->H->Option (Bool×σ)):List (Option H)->σ->Option (Bool×σ)
 |[],s=>some (true,s)
 |none::_,_=>none
 |some x::l,s=>match step s x with
  |some (true,s')=>eT step l s'
  |some (false,s')=>some (false,s')
  |none=>none
theorem Af {H σ:Type}(step:σ->H->Option (Bool×σ)):∀(l l':List (Option H)) (s:σ),eT step (l++l') s=match eT step l s with
  |some (true,s')=>eT step l' s'
  |some (false,s')=>some (false,s')
  |none=>none
 |[],l',s=>rfl
 |none::l,l',s=>rfl
 |some x::l,l',s=>by
  simp only[List.cons_append,eT]
  split<;>first|rfl|exact Af step l l' _
def iU {H σ ρ:Type}(f:H->σ->Option (Fl σ ρ)):List (Option H)->σ->Option (Fl σ ρ)
 |[],s=>some (.nx s)
 |none::_,_=>none
 |some x::l,s=>ag (f x s) fun o=>match o with
  | .nx s'=>iU f l s'
  | .bk s'=>some (.nx s')
  | .br k s'=>some (.br k s')
  | .rt _=>none
def vi {H σ:Type}(P:Program)(y:Value)(enc:H->Value)(step:σ->H->Option (Bool×σ))(ro:Addr->Option Value)(I:σ->List (Nat×Obj)->Prop):Prop:=
 ∀s x b s',step s x=some (b,s')->∀(main:Bool) (J:Goroutine->aa->Prop),Closed P main J->∀own,I s own->
  gw P J y #[enc x] ⟨ro,own⟩ (fun v F'=>∃a,Le ⟨ro,a⟩ F'/\v= .bool b/\I s' a)
def l9 {H:Type}(P:Program)(f:FuncId)(first cap:Array Value)(enc:H->Value)(L:List (Option H))(ro:Addr->Option Value):Prop:=
 aH P f=true/\∀(aM:Addr->Option Value),Ext ro aM->∀(σ:Type) (step:σ->H->Option (Bool×σ)) (I:σ->List (Nat×Obj)->Prop) (a:Fn) (c d:Array Value),vi P (.func a c d) enc step aM I->
  ∀s b s',eT step L s=some (b,s')->∀(main:Bool) (J:Goroutine->aa->Prop),Closed P main J->∀own,I s own->
   cP P J f (first++#[.func a c d]++cap) ⟨aM,own⟩ (fun _ F'=>∃e,Le ⟨aM,e⟩ F'/\I s' e)
theorem l9.mono {H:Type}{P:Program}{f:FuncId}{first cap:Array Value}{enc:H->Value}{L:List (Option H)}{ro a:Addr->Option Value}(h:l9 P f first cap enc L ro)(b:Ext ro a):l9 P f first cap enc L a:=
 ⟨h.1,fun aM c=>h.2 aM (b.trans c)⟩
def rz:Nat:=1000000000
def mb (k:Nat):Code:=if k=rz then .ret else .exit k
def vj (Q:Ex->Act->aa->Prop)(k:Nat):Act->aa->Prop:=if k=rz then Q .ret else Q (.exit k)
def Ah {σ ρ:Type}(c:Nat)(ro:Addr->Option Value)(l d:Nat)(S:σ->List (Nat×Obj)->Prop)(lo:Loop)(b:Fl σ ρ)(v:Value)(F:aa):Prop:=
 ∃a,Le ⟨ro,(l,.loop {lo with state:=(match b with| .nx _=>.ready|_=>.done),pending:=(match b with| .nx _=>none| .bk _=>some (mb c)| .br k _=>some (mb k)| .rt _=>none)})::(d,.deferred (some []))::a⟩ F/\
  match b with
  | .nx s'=>v= .bool true/\S s' a
  | .bk s'=>v= .bool false/\S s' a
  | .br _ s'=>v= .bool false/\S s' a
  | .rt _=>False
section
variable {P : Program} {main : Bool} {J : Goroutine → aa → Prop} {a : Act}
theorem Ai {H σ ρ:Type}{f:H->σ->Option (Fl σ ρ)}(a:Nat):∀(L:List (Option H)) (s:σ) (o:Fl σ ρ),iU f L s=some o->
  ∃b s' pend,eT (σ:=σ×Option Nat) (fun st x=>match st with
   |(s,none)=>match f x s with
    |some (.nx s')=>some (true,(s',none))
    |some (.bk s')=>some (false,(s',some a))
    |some (.br k s')=>some (false,(s',some k))
    |_=>none
   |_=>none) L (s,none)=some (b,(s',pend))/\((o= .nx s'/\(pend=none\/pend=some a))\/∃k,o= .br k s'/\pend=some k)
 |[],s,o,h=>by
  cases h
  exact ⟨true,s,none,rfl,.inl ⟨rfl,.inl rfl⟩⟩
 |none::L,s,o,h=>by cases h
 |some x::L,s,o,h=>by
  unfold iU at h
  obtain ⟨d,h1,c⟩:=fM h
  cases d with
  |nx s'=>
   obtain ⟨b,s2,pend,e,g⟩:=Ai a L s' o c
   refine ⟨b,s2,pend,?_,g⟩
   unfold eT
   simp only[h1]
   exact e
  |bk s'=>
   cases c
   refine ⟨false,s',some a,?_,.inl ⟨rfl,.inr rfl⟩⟩
   unfold eT
   simp only[h1]
  |br k s'=>
   cases c
   refine ⟨false,s',some k,?_,.inr ⟨k,rfl,rfl⟩⟩
   unfold eT
   simp only[h1]
  |rt r=>cases c
theorem Aj {ro:Addr->Option Value}{l:Nat}{o:Obj}{own:List (Nat×Obj)}(h1:Obj.oH o=false)(a:o.isChan=false):aa.eR ⟨ro,(l,o)::own⟩ l=some o:=by
 simp[aa.eR,lk,h1,a]
def pq (a:Act)(d:Nat):Act:={a with defers:=⟨.collected d,#[]⟩::a.defers}
theorem E8 (a:Act)(d i:Nat):slot (pq a d) i=slot a i:=rfl
theorem E9 (a:Act)(d:Nat):sz (pq a d)=sz a:=rfl
theorem Fa (a:Act)(d:Nat):(pq a d).defers=⟨.collected d,#[]⟩::a.defers:=rfl
def mc (a:Act)(p:Tmp)(v:Value):Act:={tmps:=a.tmps.setIfInBounds p v,defers:=[]}
theorem nj (a:Act)(p:Tmp)(v:Value)(i:Nat):slot (mc a p v) i=slot (aZ a (some p) v) i:=rfl
theorem vk (a:Act)(p:Tmp)(v:Value):sz (mc a p v)=sz a:=by simp[sz,mc]
theorem vl {H σ ρ:Type}(hJ:Closed P main J){x:Operand}{p:Tmp}{assign body:Code}{Q:Ex->Act->aa->Prop}{fn:FuncId}{first captured:Array Value}{ro:Addr->Option Value}{own:List (Nat×Obj)}{g:Nat}
  (enc:H->Value) {L:List (Option H)} (U:ev a x= .func (.func fn) first captured) (K:l9 P fn first captured enc L ro)
  (V:fC assign=true) (W:fC body=true)
  (S:σ->List (Nat×Obj)->Prop) {f:H->σ->Option (Fl σ ρ)} {z:σ} {o:Fl σ ρ} (X:iU f L z=some o) (Y:S z own)
  (Z:∀(d l:Nat) (lo:Loop),lo.state= .ready->∀(s:σ) (y:H) (q:Fl σ ρ),f y s=some q->∀(main:Bool) (J:Goroutine->aa->Prop),Closed P main J->∀own,S s own->
   Wp J assign (pn J l body (Ah g ro l d S lo q)) (mc a p (enc y)) ⟨ro,(l,.loop lo)::(d,.deferred (some []))::own⟩)
  (ab:¬g=rz)
  (ad:∀d l lo j s',S s' j->aP (keys ((l,.loop lo)::(d,.deferred (some []))::j))->aD ro ((l,.loop lo)::(d,.deferred (some []))::j)->(o= .nx s'->Q .normal (pq a d) ⟨ro,(l,.loop lo)::(d,.deferred (some []))::j⟩)/\
   (∀k,o= .br k s'->vj Q k (pq a d) ⟨ro,(l,.loop lo)::(d,.deferred (some []))::j⟩))
  (ae:∀k s',o= .br k s'->¬k=g):Wp J (.block g (.rangeFunc x #[p] assign body)) Q a ⟨ro,own⟩:=by
 refine aQ hJ (Wp.mono (Q:=fun e A F'=>match e with| .exit i=>if i=g then Q .normal A F' else Q (.exit i) A F'|e=>Q e A F') ?_ fun e a F h=>by cases e<;>exact h)
 obtain ⟨b,s',pend,al,ao⟩:=Ai g L z o X
 refine E7 hJ U K.1 fun B d l hd bc=>?_
 let lo:Loop:=ni B a #[p] assign body d
 let n:Option Nat->Loop:=fun pend=>{lo with state:=(match pend with|none=>.ready|some _=>.done),pending:=pend.map mb}
 let I:σ×Option Nat->List (Nat×Obj)->Prop:=fun st ar=>∃aS,ar=(l,.loop (n st.2))::(d,.deferred (some []))::aS/\S st.1 aS
 have a0:vi P (.func (.yield l) #[] #[]) enc (fun (st:σ×Option Nat) x=>match st with
   |(s,none)=>match f x s with
    |some (.nx s')=>some (true,(s',none))
    |some (.bk s')=>some (false,(s',some g))
    |some (.br k s')=>some (false,(s',some k))
    |_=>none
   |_=>none) ro I:=by
  rintro ⟨s,pend⟩ y bd ⟨s1,bj⟩ m a2 M N a3 ⟨aS,rfl,a4⟩
  cases pend with
  |some k=>cases m
  |none=>
   simp only at m
   refine ⟨rfl,rfl,lo,Aj rfl rfl,rfl,?_⟩
   cases C:f y s with
   |none=>rw[C] at m;cases m
   |some q=>
    have D:=jr.of_wp N (R:=Ah g ro l d S lo q) (f:=B) V W (Z d l lo rfl s y q C a2 M N aS a4)
    rw[C] at m
    have a5:(lo.params.zip #[enc y]).foldl (fun tmps (t,a)=>tmps.setIfInBounds t a) lo.tmps=a.tmps.setIfInBounds p (enc y):=by simp[lo,ni]
    show jr M l B ((lo.params.zip #[enc y]).foldl (fun tmps (t,a)=>tmps.setIfInBounds t a) lo.tmps) assign body _ _
    rw[a5]
    refine D.mono fun v F' E=>?_
    obtain ⟨j,hle,hm⟩:=E
    cases q with
    |nx s2=>
     simp only[Option.some.injEq,Prod.mk.injEq] at m
     obtain ⟨rfl,rfl,rfl⟩:=m
     exact ⟨_,hle,hm.1,j,rfl,hm.2⟩
    |bk s2=>
     simp only[Option.some.injEq,Prod.mk.injEq] at m
     obtain ⟨rfl,rfl,rfl⟩:=m
     exact ⟨_,hle,hm.1,j,rfl,hm.2⟩
    |br k s2=>
     simp only[Option.some.injEq,Prod.mk.injEq] at m
     obtain ⟨rfl,rfl,rfl⟩:=m
     exact ⟨_,hle,hm.1,j,rfl,hm.2⟩
    |rt r=>exact hm.elim
 have a6:=K.2 ro (Ext.refl ro) _ _ I _ _ _ a0 (z,none) b (s',pend) al main J hJ ((l,.loop lo)::(d,.deferred (some []))::own) ⟨own,rfl,Y⟩
 intro c cs a7
 refine a6 c cs fun v F' E=>?_
 obtain ⟨a3,hle,j,rfl,a8⟩:=E
 by_cases hw:∃w,Has F' w
 case neg=>exact hJ.step fun w a9=>absurd ⟨w,a9⟩ hw
 obtain ⟨w,hw⟩:=hw
 have O:=hle.has w hw
 refine hJ.mono hle (a7 v _ ⟨n pend,Aj rfl rfl,?_,?_⟩)
 ·cases pend<;>simp[n]
 ·obtain ⟨T,ba⟩:=ad d l {n pend with state:=.exhausted} j s' a8 ⟨O.nodup⟩ (fun b hb off sp=>by
   cases D:ro ⟨b,off,sp⟩ with
   |none=>rfl
   |some v=>exact absurd hb (O.apart _ v D))
  have bb:aa.put ⟨ro,(l,.loop (n pend))::(d,.deferred (some []))::j⟩ l (.loop {n pend with state:=.exhausted})=⟨ro,(l,.loop {n pend with state:=.exhausted})::(d,.deferred (some []))::j⟩:=by simp[aa.put,iJ]
  rw[bb]
  rcases ao with ⟨rfl,rfl|rfl⟩|⟨k,rfl,rfl⟩
  ·exact T rfl
  ·show ry _ _ _ (some (mb g))
   have:mb g= .exit g:=if_neg ab
   rw[this]
   show (if g=g then Q .normal _ _ else Q (.exit g) _ _)
   rw[if_pos rfl]
   exact T rfl
  ·have u:=ba k rfl
   show ry _ _ _ (some (mb k))
   unfold vj at u
   unfold mb
   split
   ·rename_i G
    rw[if_pos G] at u
    exact u
   ·rename_i G
    rw[if_neg G] at u
    show (if k=g then Q .normal _ _ else Q (.exit k) _ _)
    rw[if_neg (ae k s' rfl)]
    exact u
theorem Fb {R:List Deferred->aa->Prop}{r:Nat}{F:aa}:aT P (Instr.takeDeferred r) R F=match F.eR r with
  |some (.deferred (some a))=>R a (F.put r (.deferred none))
  |_=>False:=by
 unfold Instr.takeDeferred
 rw[bq,m3]
 refine propext ⟨fun ⟨o,h1,b⟩=>?_,fun h=>?_⟩
 ·rw[h1]
  cases o<;>first|exact (show False from b).elim|skip
  rename_i a
  cases a with
  |none=>exact (show False from b).elim
  |some a=>
   simp only[bq,lP,bG] at b
   exact b.2.2
 ·split at h
  ·rename_i a c
   refine ⟨_,c,?_⟩
   simp only[bq,lP,bG]
   exact ⟨rfl,by rw[c];rfl,h⟩
  ·exact h.elim
theorem Fc (hJ:Closed P main J){y:Value}{args:Array Value}{ro:Addr->Option Value}{own:List (Nat×Obj)}{R:Value->List (Nat×Obj)->Prop}(pre:List (Nat×Obj))
  (h:∀(main:Bool) (J:Goroutine->aa->Prop),Closed P main J->gw P J y args ⟨ro,own⟩ (fun v F'=>∃a,Le ⟨ro,a⟩ F'/\R v a)) (k:aP (keys (pre++own))) {K:Value->aa->Prop}
  (n:∀v a,R v a->aP (keys (pre++a))->K v ⟨ro,pre++a⟩):gw P J y args ⟨ro,pre++own⟩ K:=by
 have key:∀jx:Frame,(∀(main:Bool) (J:Goroutine->aa->Prop),Closed P main J->rm J jx ⟨ro,own⟩ (fun v F'=>∃a,Le ⟨ro,a⟩ F'/\R v a))->rm J jx ⟨ro,pre++own⟩ K:=fun jx h0=>
  z7 hJ pre [] (by simp) R (fun m b d c cs p=>h0 m b d c cs fun v F' s=>p v F' (by obtain ⟨o,h1,e⟩:=s;exact ⟨o,e,h1⟩)) fun v t u a i f=>by
   rw[List.append_nil] at i
   subst i
   exact ⟨_,Le.refl _,n v t u f⟩
 have h0:=h main J hJ
 unfold gw at h0 ⊢
 split at h0
 ·rename_i fn first captured
  refine ⟨h0.1,key _ fun m b d=>?_⟩
  have:=h m b d
  unfold gw at this
  exact this.2
 ·rename_i l first captured
  obtain ⟨e1,e2,r,h1,e,_⟩:=h0
  refine ⟨e1,e2,r,?_,e,key _ fun m b d=>?_⟩
  ·have hm:l∈keys own:=by
    unfold aa.eR at h1
    split at h1
    ·rename_i o w;exact eK (gI w)
    ·cases h1
   have f:l∉keys pre:=fun x=>by
    have:=k.nd
    rw[cj] at this
    exact (List.nodup_append.1 this).2.2 l x l hm rfl
   have z:∀(pre:List (Nat×Obj)),l∉keys pre->lk (pre++own) l=lk own l:=fun pre=>by
    induction pre with
    |nil=>intro _;rfl
    |cons q pre ih=>
     intro g
     simp only[keys,List.map_cons,List.mem_cons,not_or] at g
     simp only[List.cons_append,lk,if_neg (Ne.symm g.1)]
     exact ih g.2
   unfold aa.eR at h1 ⊢
   simp only at h1 ⊢
   rw[z pre f]
   exact h1
  ·have:=h m b d
   unfold gw at this
   obtain ⟨_,_,B,j,C,A⟩:=this
   rw[h1] at j
   cases j
   exact A
 ·exact h0.elim
theorem cP.less (hJ:Closed P main J){f:FuncId}{args:Array Value}{F:aa}{R:Value->aa->Prop}(h:cP P J f args F (fun v F'=>∃F0,Le F0 F'/\R v F0)):cP P J f args F R:=
 fun c cs a=>h c cs fun v F' ⟨F0,hle,b⟩=>hJ.mono hle (a v F0 b)
def Ak (P:Program)(rs:List ResultVar)(R:Value->aa->Prop):Ex->Act->aa->Prop
 | .exit _,_,_=>False
 |_,a,F=>g7 P a.defers (fun F=>match lY P F a rs with|some v=>R v F|none=>False) F
theorem Al {K b:aa->Prop}(h:∀F,K F->b F):∀(a:List Deferred) (F:aa),g7 P a K F->g7 P a b F
 |[],F,x=>h F x
 |d::a,F,⟨r,h1,e⟩=>⟨r,h1,gL (fun calls F' c=>⟨c.1,Al h a F' c.2⟩) _ _ e⟩
theorem aC.vm {f:FuncId}{fn:Func}{c:Code}{n:Nat}{rs:List ResultVar}{args:Array Value}{F:aa}{R:Value->aa->Prop}(g:P.funcs[f]?=some fn)(hb:fn.body=some c)(j:fn.ntmps=n)(k:fn.results=rs.toArray)(l:args.size<=n)
  (h:∀main J,Closed P main J->∀A:Act,sz A=n->A.defers=[]->(∀i,slot A i=args.getD i undef)->Wp J c (Ak P rs R) A F):aC P f args F R:=
 aC.start g hb j l fun main J hJ A h1 m o=>(h main J hJ A h1 m o).mono fun e a F b=>by
  have key:g7 P a.defers (fun F=>match lY P F a rs with|some v=>R v F|none=>False) F->g7 P a.defers (fun F=>aT P (results fn a.tmps) R F) F:=Al (fun F d=>by
   split at d
   ·rename_i v p;exact qX k p d
   ·exact d.elim) _ _
  cases e with
  |exit i=>exact b
  |normal=>exact key b
  |ret=>exact key b
theorem cP.go (hJ:Closed P main J){f:FuncId}{fn:Func}{c:Code}{n:Nat}{rs:List ResultVar}{args:Array Value}{F:aa}{R:Value->aa->Prop}(j:P.funcs[f]?=some fn)(hb:fn.body=some c)(d:fn.ntmps=n)(k:fn.results=rs.toArray)(m:args.size<=n)
  (h:∀A:Act,sz A=n->A.defers=[]->(∀i,slot A i=args.getD i undef)->Wp J c (iN P rs R) A F):cP P J f args F R:=by
 refine cP.of_wp hJ j hb ?_
 refine (h _ (by simp[sz,d];omega) rfl fun i=>?_).mono fun e a F g=>?_
 ·simp only[slot,d,Array.getD_eq_getD_getElem?]
  rcases Nat.lt_or_ge i args.size with hi|hi
  ·rw[Array.getElem?_append_left hi]
  ·rw[Array.getElem?_append_right hi,Array.getElem?_replicate,Array.getElem?_eq_none hi]
   split<;>rfl
 ·cases e with
  |exit i=>exact g
  |_=>
   obtain ⟨hd,b⟩:=g
   split at b
   ·rename_i v l
    show g7 P a.defers _ F
    rw[hd]
    exact qX k l b
   ·exact b.elim
theorem Fe {d:Nat}{X:Nat->Prop}:(∃r,Target.collected d=Target.collected r/\X r)=X d:=propext ⟨fun ⟨r,h1,a⟩=>by cases h1;exact a,fun h=>⟨d,rfl,h⟩⟩
attribute [go_sem] Fe E8 E9 Fa Ak Fb aa.eR Obj.oH Obj.isChan
end
section
variable {P : Program}
theorem Am {argTypes:Array TypeId}{t e ty:TypeId}{R:Value->aa->Prop}{F:aa}{ad:Option Addr}{n c:Nat}(ht:argTypes[0]?=some t)(hu:P.underlying t=some (.slice e))(h:R (.int .i64 c) F):eL P (Builtin.cap_ argTypes ty #[.slice ad n c]) R F:=by
 unfold eL;simp only[Builtin.cap_,ht,List.getElem?_toArray,List.getElem?_cons_zero,bq,dn,hu,bG];exact h
theorem Ff (z:Value)(n:Nat):(Builtin.zeroCells #[z] n).toList=List.replicate n z:=by
 simp only[Builtin.zeroCells,List.size_toArray,List.length_cons,List.length_nil,Nat.zero_add,Nat.mul_one,Nat.mod_one];rw[Array.toList_map,Array.toList_range];apply List.ext_getElem
 ·simp
 ·intro i h1 a;simp
theorem Fg {ro:Addr->Option Value}{pre bf:List (Nat×Obj)}{argTypes:Array TypeId}{t e ty:TypeId}{R:Value->aa->Prop}{b off n c:Nat}{arr:Array Value}{z zc:Value}(ht:argTypes[0]?=some t)(hu:P.underlying t=some (.slice e))(a:zeroOf P e=some z)(d:z.cells=#[zc])(f:bH zc=true)
  (l:0<n) (g:au pre b) (i:off+n<=arr.size)
  (h:R (.tuple #[]) ⟨ro,pre++((b,.cells (cI arr off (List.replicate n zc)) e)::bf)⟩):
  eL P (Builtin.clear_ argTypes ty #[.slice (some ⟨b,off,none⟩) n c]) R ⟨ro,pre++((b,.cells arr e)::bf)⟩:=by
 unfold eL
 have m:n≠0:=by omega
 obtain ⟨k,rfl⟩:∃k,n=k+1:=⟨n - 1,by omega⟩
 simp only[Builtin.clear_,ht,List.getElem?_toArray,List.getElem?_cons_zero,bq,dn,hu,lQ,a,d]
 refine qK _ _ 0 _ ⟨ro,pre++((b,.cells (cI arr off (List.replicate (k+1) zc)) e)::bf)⟩ ?_ ?_
 ·rw[Ff]
  have:=u9 (ro:=ro) (bf:=bf) (e:=e) g off (List.replicate (k+1) zc) arr 0 (fun v j=>by rw[List.eq_of_mem_replicate j];exact f) (by simpa using i)
  simpa using this
 ·simp only[bG]
  exact h
end
theorem aO.An {T:Type}{r:b6 T}{ro:Addr->Option Value}{e:TypeId}{v:Value}{l:List T}{aS:List (Nat×Obj)}(h:aO r ro e v l aS){own:List (Nat×Obj)}(pre bf:List (Nat×Obj))(f:own=pre++(aS++bf))(g:aP (keys own)):aB r (aa.cq ⟨ro,own⟩).ro v l:=by
 subst f;obtain ⟨ls,hg,c,hm,k⟩:=h;rcases hg with ⟨rfl,rfl,rfl⟩|⟨b,arr,cap,rfl,rfl,hs,hle,ht,d,m⟩
 ·have:l=[]:=List.eq_nil_of_length_eq_zero (by simpa using c.symm);subst this;exact aB.nil r _
 ·have o:au pre b:=Nd.fresh g.nd b (by simp[keys]);refine ⟨some ⟨b,0,none⟩,cap,by rw[c],by omega,by omega,fun i x hi=>?_⟩;obtain ⟨cs,h1,p⟩:=k i x hi;refine ⟨_,cs,rfl,r.mono aR p,fun j v q=>?_⟩;have a:=o3 ls i cs d h1 j v q;rw[kR,kS,Nat.zero_add];have s:i*r.n+j<ls.length*r.n:=by
   have:=(List.getElem?_eq_some_iff.1 a).1;rw[g8 d] at this;exact this
  rw[<-ht,List.getElem?_take_of_lt s] at a;show aa.get ⟨ro,pre++([(b,Obj.cells arr e)]++bf)⟩ ⟨b,i*r.n+j,none⟩=some v;simp only[aa.get,m,if_true,List.cons_append,List.nil_append,rj o,Option.bind_some,cellOf];simpa using a
theorem aB.two {T:Type}{r:b6 T}{ro:Addr->Option Value}{own:List (Nat×Obj)}{b:Nat}{x y:T}{v u:Value}{e:TypeId}(c:∀off sp,ro ⟨b,off,sp⟩=none)(d:lk own b=some (.cells #[v,u] e))(h1:r.n=1)(h:r.rel ro x [v])(k:r.rel ro y [u]):
  aB r (bR ro b (.cells #[v,u] e)) (.slice (some ⟨b,0,none⟩) 2 2) [x,y]:=by
 refine ⟨some ⟨b,0,none⟩,2,rfl,Nat.le_refl _,by simp,fun i z hi=>?_⟩
 have:(i=0/\z=x)\/(i=1/\z=y):=by
  cases i with
  |zero=>simp at hi;exact .inl ⟨rfl,hi.symm⟩
  |succ i=>cases i with
   |zero=>simp at hi;exact .inr ⟨rfl,hi.symm⟩
   |succ i=>simp at hi
 rcases this with ⟨rfl,rfl⟩|⟨rfl,rfl⟩
 ·refine ⟨_,_,rfl,r.mono (fY _ _ _) h,fun j w a=>?_⟩
  cases j with
  |zero=>
   rw[Nat.zero_mul,add_zero',kS,Nat.zero_add,iQ c]
   simpa [cellOf] using a
  |succ j=>simp at a
 ·refine ⟨_,_,rfl,r.mono (fY _ _ _) k,fun j w a=>?_⟩
  cases j with
  |zero=>
   rw[h1,kR,kS,iQ c]
   simpa [cellOf] using a
  |succ j=>simp at a
theorem aO.clear {ro:Addr->Option Value}{e:TypeId}{b n cap k:Nat}{x:List Int}{arr:Array Value}(h:aO rI ro e (.slice (some ⟨b,0,none⟩) n cap) x [(b,.cells arr e)])(s:k<=x.length):
  aO rI ro e (.slice (some ⟨b,0,none⟩) k cap) (x.take k) [(b,.cells (cI arr k (List.replicate (n - k) (.int .i64 0))) e)]:=by
 obtain ⟨ls,hg,t,hm,l⟩:=h
 rcases hg with ⟨a,_,_⟩|⟨u,w,m,a,o,hs,hle,ht,f,p⟩
 ·cases a
 ·cases o
  obtain ⟨rfl,rfl⟩:n=ls.length/\cap=m:=by cases a;exact ⟨rfl,rfl⟩
  have d:rI.n=1:=rfl
  rw[d] at hs ht f
  simp only[Nat.mul_one] at hs ht
  have c:(ls.take k).length=k:=by rw[List.length_take];omega
  refine ⟨ls.take k,.inr ⟨b,_,cap,by rw[c],rfl,by rw[qS];rw[d,Nat.mul_one];exact hs,by rw[c];omega,?_,?_,p⟩,by rw[c,List.length_take];omega,by rw[List.length_take];omega,?_⟩
  ·rw[qT _ _ _ (by simp;omega),c,d,Nat.mul_one,List.append_assoc,List.take_append_of_le_length (by rw[List.length_take,Array.length_toList];omega),List.take_take,Nat.min_self]
   have e1:arr.toList.take k=(arr.toList.take ls.length).take k:=by rw[List.take_take,Nat.min_eq_left (by omega)]
   rw[e1,ht]
   have e2:ls.flatten=(ls.take k).flatten++(ls.drop k).flatten:=by rw[<-List.flatten_append,List.take_append_drop]
   have j:(ls.take k).flatten.length=k:=by rw[g8 (size:=1) (fun z g=>f z (List.mem_of_mem_take g)),c,Nat.mul_one]
   rw[e2,List.take_append_of_le_length (Nat.le_of_eq j.symm),List.take_of_length_le (Nat.le_of_eq j)]
  ·intro z g
   rw[d];exact f z (List.mem_of_mem_take g)
  ·intro i v a
   obtain ⟨hi,q⟩:i<k/\x[i]?=some v:=by
    rw[List.getElem?_take] at a
    split at a
    ·exact ⟨‹_›,a⟩
    ·cases a
   obtain ⟨cs,h1,r⟩:=l i v q
   exact ⟨cs,by rw[List.getElem?_take,if_pos hi];exact h1,r⟩
section
variable {P : Program}
theorem Fh {t:TypeId}{R:Value->aa->Prop}{F:aa}(h:∀b,dP F b->R (.map (some b)) (F.push b (.map #[] 0))):eL P (Instr.makeMap t none) R F:=by
 unfold eL;simp only[Instr.makeMap,bq,oL,bG];exact ⟨rfl,h⟩
theorem Fi {argTypes:Array TypeId}{t a b ty:TypeId}{r:Nat}{es:Array MapEntry}{clock:Nat}{R:Value->aa->Prop}{F:aa}(ht:argTypes[0]?=some t)(hu:P.underlying t=some (.map a b))(c:F.eR r=some (.map es clock))(h:R (.int .i64 (es.size:Int)) F):
  eL P (Builtin.len_ argTypes ty #[.map (some r)]) R F:=by
 unfold eL
 simp only[Builtin.len_,ht,List.getElem?_toArray,List.getElem?_cons_zero,bq,dn,hu,m3]
 exact ⟨_,c,h⟩
theorem Ao {d:TypeId}{key:Value}{F:aa}{Q:Option (Nat×Value)->aa->Prop}:∀(l:List MapEntry) (i:Nat),
  (∀e∈l,∃b,(∀(Q:Bool->aa->Prop),Q b F->aT P (Op.equal d key e.key) Q F)/\(b=true↔e.key=key))->
  (∀j e,l[j]?=some e->e.key=key->Q (some (i+j,e.val)) F)->((∀e∈l,¬e.key=key)->Q none F)->aT P (Instr.findAsking d key l i) Q F
 |[],i,_,_,a=>a (by simp)
 |e::l,i,f,h1,a=>by
  obtain ⟨b,hb,g⟩:=f e (by simp)
  simp only[Instr.findAsking,bq]
  refine hb _ ?_
  cases b with
  |true=>exact h1 0 e rfl (g.1 rfl)
  |false=>
   have aF:¬e.key=key:=fun x=>by have:=g.2 x;cases this
   refine Ao l (i+1) (fun x c=>f x (by simp[c])) (fun j x c he=>?_) (fun h=>a (by simpa [aF] using h))
   have:=h1 (j+1) x (by simpa using c) he
   rwa [show i+1+j=i+(j+1) by omega]
theorem modify_keys {es:Array MapEntry}{i:Nat}{key val:Value}{e:MapEntry}(hi:es[i]?=some e)(he:e.key=key):(es.modify i fun e=>{e with key:=key,val:=val}).toList.map (·.key)=es.toList.map (·.key):=by
 apply List.ext_getElem?;intro j;simp only[List.getElem?_map,Array.toList_modify,List.getElem?_modify];by_cases a:i=j
 ·subst a;have:es.toList[i]?=some e:=by simpa using hi
  simp[this,he]
 ·simp[a]
theorem Fj {t c q f n:TypeId}{r:Nat}{es:Array MapEntry}{clock:Nat}{key val:Value}{R:Value->aa->Prop}{F:aa}(hu:P.underlying t=some (.map c q))(g:F.eR r=some (.map es clock))
  (s:∀Q:Unit->aa->Prop,Q () F->aT P (Instr.checkKey false 10000 c key) Q F) (u:P.underlying c=some (.array n f))
  (v:∀e∈es.toList,∃b,(∀(Q:Bool->aa->Prop),Q b F->aT P (Op.equal c key e.key) Q F)/\(b=true↔e.key=key))
  (h:∀d w,((key∈es.toList.map (·.key)/\d.toList.map (·.key)=es.toList.map (·.key))\/(key∉es.toList.map (·.key)/\d.toList.map (·.key)=es.toList.map (·.key)++[key]))->R undef (F.put r (.map d w))):
  eL P (Instr.mapUpdate t (.map (some r)) key val>>= fun _=>pure undef) R F:=by
 unfold eL
 simp only[Instr.mapUpdate,bq,dn,hu,m3]
 refine ⟨_,g,?_⟩
 simp only[bq]
 refine s _ ?_
 have k:(F.eR r).isSome=true:=by rw[g];rfl
 have step:aT P (Instr.findAsking c key es.toList) (fun a G=>aT P (match a with
   |some (i,_)=>do
    let key<-Instr.keyThatStays (((es[i]?).map (·.key)).getD key) key
    setObj r (.map (es.modify i fun e=>{e with key,val}) clock)
   |none=>setObj r (.map (es.push {key,val,born:=clock}) (clock+1))) (fun _ G=>aT P (pure undef) R G) G) F:=by
  refine Ao _ 0 v (fun j e m he=>?_) (fun x=>?_)
  ·simp only[Nat.zero_add,bq]
   have o:es[j]?=some e:=by simpa using m
   rw[o]
   simp only[Option.map_some,Option.getD_some,he]
   have fin:aT P (setObj r (.map (es.modify j fun e=>{e with key:=key,val:=val}) clock)) (fun _ G=>aT P (pure undef) R G) F:=by
    simp only[lP,bG]
    refine ⟨rfl,k,h _ _ (.inl ⟨?_,modify_keys o he⟩)⟩
    rw[<-he]
    exact List.mem_map_of_mem (List.mem_of_getElem? m)
   unfold Instr.keyThatStays
   rw[dh]
   split
   ·exact fin
   ·simp only[bq,uo]
    split
    ·simp only[bG,ite_self];exact fin
    ·intro t;simp only[bG,ite_self];exact fin
  ·simp only[lP,bG]
   refine ⟨rfl,k,h _ _ (.inr ⟨?_,by simp⟩)⟩
   intro hm
   obtain ⟨e,he,y⟩:=List.mem_map.1 hm
   exact x e he y
 unfold Instr.findKey
 simp only[bq,dn,u]
 cases p:es.toList with
 |nil=>
  rw[p] at step
  exact step
 |cons e l=>
  have:Instr.findNow (.array n f) key (e::l) 0=none:=rfl
  rw[this]
  rw[p] at step
  exact step
end
theorem bS {α β:Type}{x:Option α}{f:α->Option β}{r:β}{G:Prop}(k:∀a,x=some a->f a=some r->G)(h:ag x f=some r):G:=by
 obtain ⟨a,h1,b⟩:=fM h;exact k a h1 b
def bC:Code->Code
 | .seq _ b=>b
 |c=>c
theorem sI {α:Type}{x r:α}(h:some x=some r):x=r:=Option.some.inj h
theorem ax {ro:Addr->Option Value}{own:List (Nat×Obj)}{G:Nat->Prop}(h:∀b,(∀off sp,ro ⟨b,off,sp⟩=none)->au own b->G b):∀b,dP ⟨ro,own⟩ b->G b:=fun b f=>h b (eB f) (fE f)
theorem bu:(∀(ro:Addr->Option Value) (b:Nat) (o:Obj) (l:List (Nat×Obj)),aD ro ((b,o)::l)=((∀off sp,ro ⟨b,off,sp⟩=none)/\aD ro l))/\(∀l:List (Nat×Obj),[]++l=l)/\(∀l:List (Nat×Obj),l++[]=l)/\
  (∀(x:Nat×Obj) (l m:List (Nat×Obj)),x::l++m=x::(l++m))/\∀l m n:List (Nat×Obj),l++m++n=l++(m++n):=
 ⟨fun _ _ _ _=>propext ⟨fun h=>⟨h.hd,h.tl⟩,fun h=>aD.cons h.1 h.2⟩,fun _=>rfl,List.append_nil,fun _ _ _=>rfl,List.append_assoc⟩
theorem aB.el {T:Type}{r:b6 T}{ro:Addr->Option Value}{ad:Option Addr}{n cap:Nat}{l:List T}(h:aB r ro (.slice ad n cap) l):
  ∀i x,l[i]?=some x->∃p cs,ad=some p/\r.rel ro x cs/\∀j v,cs[j]?=some v->ro ((p.add (i*r.n)).add j)=some v:=by
 obtain ⟨a,b,e,_,_,h⟩:=h
 cases e
 exact h
theorem aP.tl {b:Nat}{ks:List Nat}(h:aP (b::ks)):aP ks:=⟨(List.nodup_cons.1 h.nd).2⟩
theorem aP.cut {l:List (Nat×Obj)}(h:aP (keys l))(i n:Nat):aP (keys (l.take i++l.drop (i+n))):=
 ⟨(((List.Sublist.append_left (show (l.drop (i+n)).Sublist (l.drop i) by rw[<-List.drop_drop];exact List.drop_sublist _ _) (l.take i)).trans (by rw[List.take_append_drop];exact List.Sublist.refl _)).map _).nodup h.nd⟩
theorem aO.eU {T:Type}{r:b6 T}{ro:Addr->Option Value}{e:TypeId}{v:Value}{l:List T}{aS:List (Nat×Obj)}(h:aO r ro e v l aS){own:List (Nat×Obj)}(pre bf:List (Nat×Obj))(a:aP (keys own))(b:aD ro (pre++bf))
  (c:own=pre++(aS++bf):=by first|rfl|simp only[aV]|(simp only[aV];rfl)):
  ∃aM,Ext ro aM/\aD aM (pre++bf)/\aB r aM v l/\Le ⟨aM,pre++bf⟩ ⟨ro,own⟩:=h.k3 _ pre bf c rfl a b
theorem aB.oc {T:Type}{r:b6 T}{ro:Addr->Option Value}{s:Value}{l:List T}(h:aB r ro s l):bH s=true:=by
 obtain ⟨_,_,e,_⟩:=h;rw[e];rfl
theorem Fo {p:Nat->Prop}{a:Nat}{l:List Nat}:(∀i,i∈a::l->p i)=(p a/\∀i,i∈l->p i):=propext List.forall_mem_cons
theorem Fp {p:Nat->Prop}:(∀i,i∈([]:List Nat)->p i)=True:=propext ⟨fun _=>trivial,fun _ _ h=>(by cases h)⟩
section
variable {P : Program} {main : Bool} {J : Goroutine → aa → Prop} {Q : Ex → Act → aa → Prop} {a : Act} {F : aa}
theorem b8 (hJ:Closed P main J){f:FuncId}{args:Array Value}{ro:Addr->Option Value}{own:List (Nat×Obj)}{K:Value->aa->Prop}(R:Value->(Addr->Option Value)->Prop)(h:eD P f args ro R)
  (a:∀v aM,Ext ro aM->aD aM own->R v aM->K v ⟨aM,own⟩):cP P J f args ⟨ro,own⟩ K:=uR hJ R h a
theorem rA {Φ:Goroutine->aa->Prop}{f:FuncId}{args:Array Value}{ro:Addr->Option Value}{own:List (Nat×Obj)}{K:Value->aa->Prop}(R:Value->(Addr->Option Value)->Prop)(h:o7 P f args ro R)
  (a:∀v aM,Ext ro aM->aD aM own->R v aM->K v ⟨aM,own⟩):cP P (dX P Φ) f args ⟨ro,own⟩ K:=Er R h a
theorem cS {α:Type}{b:Bool}{e1 e2:Option α}{r:α}{G:Prop}(h1:b=true->e1=some r->G)(c:b=false->e2=some r->G)(h:cond b e1 e2=some r):G:=by
 rcases iR h with ⟨a,b⟩|⟨a,b⟩
 ·exact h1 a b
 ·exact c a b
theorem jC {α:Type}(hJ:Closed P main J){c:Operand}{x y:Code}{b:Bool}{e1 e2:Option α}{r:α}(d:ev a c= .bool b)(h1:b=true->e1=some r->Wp J x Q a F)(f:b=false->e2=some r->Wp J y Q a F)(h:cond b e1 e2=some r):Wp J (.cond c x y) Q a F:=by
 refine Ee hJ b d (fun e=>h1 e ?_) fun e=>f e ?_
 ·rw[e] at h;exact h
 ·rw[e] at h;exact h
structure vn (Q:Ex->Act->aa->Prop)(K:Act->aa->Prop):Prop where
 go:∀{a F},Q .normal a F->K a F
theorem cR (hJ:Closed P main J)(b:P.follows .mixedOrders=true)(m n:Nat){id:Nat}{ops:Array Oper}(c:Knows ⟨F.ro,F.own.take n⟩ F)(d:nc ops m=true)
  (h:dW P J ops ⟨F.ro,F.own.take n⟩ (fun e=>eC P J ops ⟨F.ro,F.own.take n⟩ (Q .normal) (ops.toList.drop m) true e F) (ops.toList.take m) true a):Wp J (.region id ops true) Q a F:=e9 hJ b m _ c d h
theorem pz (hJ:Closed P main J)(b:P.follows .mixedOrders=true)(m n:Nat){id:Nat}{ops:Array Oper}(c:Knows ⟨F.ro,F.own.take n⟩ F)(d:nc ops m=true)
  (h:∀K,vn Q K->dW P J ops ⟨F.ro,F.own.take n⟩ (fun e=>eC P J ops ⟨F.ro,F.own.take n⟩ K (ops.toList.drop m) true e F) (ops.toList.take m) true a):Wp J (.region id ops true) Q a F:=e9 hJ b m _ c d (h _ ⟨fun h=>h⟩)
theorem en (hJ:Closed P main J){id:Nat}{ops:Array Oper}(h:∀K,vn Q K->e8 P J ops K ops.toList true a F):Wp J (.region id ops false) Q a F:=aj hJ (h _ ⟨fun h=>h⟩)
theorem j5 (hJ:Closed P main J)(b:P.follows .mixedOrders=true)(bV:List Nat)(p:cc){id:Nat}{ops:Array Oper}(F0:aa)(c:Knows F0 F)
  (d:(Region.noSelect ops&&decide (p.len<=ops.size)&&p.ok ops bV (Array.replicate ops.size false))=true)
  (h:∀K,vn Q K->cr P J ops F0 K (p.opers ops) true a F):Wp J (.region id ops true) Q a F:=eF hJ b bV p F0 c d (h _ ⟨fun h=>h⟩)
theorem eV {c:Code}(L:List Nat){a:Act}(h:∀A,sz A=sz a->A.defers=a.defers->(∀i∈L,slot A i=slot a i)->Wp J c Q A F):Wp J c Q a F:=h a rfl rfl fun _ _=>rfl
theorem cG.pick {ws:List Nat}{A a:Act}(h:cG ws A a)(L:List Nat)(b:(L.all fun i=>!jU ws i)=true):sz A=sz a/\A.defers=a.defers/\∀i∈L,slot A i=slot a i:=
 ⟨h.size,h.defers,fun i hi=>h.fc i fun x=>by
  have h1:=List.all_eq_true.1 b i hi
  have c:jU ws i=true:=by
   unfold In at x
   exact x
  simp[c] at h1⟩
theorem dY {T:Type}{r:b6 T}{ro:Addr->Option Value}{aS:List (Nat×Obj)}{R:Value->aa->Prop}{argTypes:Array TypeId}{d f e h e2:TypeId}{a b:Nat}{s z:Value}{l:List T}{x:T}{cs:Array Value}{own:List (Nat×Obj)}(pre bf:List (Nat×Obj))
  (hg:aO r ro e s l aS) (i:aP (keys own)) (j:l.length+[x].length<=1000000) (k:r.rel ro x cs.toList) (m:lk pre b=some (.cells cs e2)) (o:∀off sp,ro ⟨b,off,sp⟩=none)
  (h0:argTypes[0]?=some d) (h1:argTypes[1]?=some f) (he:cZ P d=some e) (p:cZ P f=some h) (hs:bW P e=some r.n) (q:zeroOf P e=some z) (t:z.cells.size=r.n) (hb:bytesOf P e=some a)
  (u:0<a) (w:a<=10000)
  (y:∀v g,aO r ro e v (l++[x]) g->∀c,c=pre++(g++bf)->aP (keys c)->∃F0,Le F0 ⟨ro,c⟩/\R v F0)
  (A:own=pre++(aS++bf):=by first|rfl|simp only[aV]|(simp only[aV];rfl)):lW P argTypes s (.slice (some ⟨b,0,none⟩) 1 1) R ⟨ro,own⟩:=
 z6 pre bf A hg i j k m o h0 h1 he p hs q t hb u w y
theorem pE {T:Type}{r:b6 T}{ro:Addr->Option Value}{aS:List (Nat×Obj)}{R:Value->aa->Prop}{argTypes:Array TypeId}{d f e h:TypeId}{a c:Nat}{ad:Option Addr}{s z:Value}{l xs:List T}{own:List (Nat×Obj)}(pre bf:List (Nat×Obj))
  (hg:aO r ro e s l aS) (i:aP (keys own)) (j:l.length+xs.length<=1000000) (k:aB r ro (.slice ad xs.length c) xs)
  (h0:argTypes[0]?=some d) (h1:argTypes[1]?=some f) (he:cZ P d=some e) (m:cZ P f=some h) (hs:bW P e=some r.n) (o:zeroOf P e=some z) (p:z.cells.size=r.n) (hb:bytesOf P e=some a)
  (q:0<a) (t:a<=10000)
  (u:∀v g,aO r ro e v (l++xs) g->∀b,b=pre++(g++bf)->aP (keys b)->∃F0,Le F0 ⟨ro,b⟩/\R v F0)
  (w:own=pre++(aS++bf):=by first|rfl|simp only[aV]|(simp only[aV];rfl)):lW P argTypes s (.slice ad xs.length c) R ⟨ro,own⟩:=
 EX pre bf w hg i j k h0 h1 he m hs o p hb q t u
theorem dJ (hJ:Closed P main J){f:FuncId}{args:Array Value}{ro:Addr->Option Value}{aS:List (Nat×Obj)}{K:Value->aa->Prop}{own:List (Nat×Obj)}(pre bf:List (Nat×Obj))(R:Value->List (Nat×Obj)->Prop)(h:aC P f args ⟨ro,aS⟩ (fun v G=>∃a,R v a/\Le ⟨ro,a⟩ G))
  (c:∀v a,R v a->∀b,b=pre++(a++bf)->aP (keys b)->∃F0,Le F0 ⟨ro,b⟩/\K v F0)
  (d:own=pre++(aS++bf):=by first|rfl|simp only[aV]|(simp only[aV];rfl)):cP P J f args ⟨ro,own⟩ K:=EY hJ pre bf d R h c
end
end Go.Sep
end
section
namespace Go.Proofs.YtpgcmoanfifglaaGreatDoor
open Go Go.Sep Go.Proofs
set_option maxRecDepth 100000
attribute [go_sem] aB.nil
theorem rC:rI.n=1:=rfl
theorem vo:rB.n=1:=rfl
theorem Fq {T:Type}(r:b6 T):(rL r).n=1:=rfl
attribute [go_sem] rC vo Fq
structure an where
 num:Int
 den:Int
 deriving DecidableEq
def an.v (x:an):Value:=.agg #[.int .i64 x.num,.int .i64 x.den]
def an.cells (x:an):List Value:=[.int .i64 x.num,.int .i64 x.den]
def k4:b6 an:=hO 2 an.cells (fun _=>rfl) (fun _ v a=>by simp only[an.cells,List.mem_cons,List.not_mem_nil,or_false] at a;rcases a with rfl|rfl<;>rfl)
theorem Fs:k4.n=2:=rfl
attribute [go_sem] an.v an.cells Fs
structure b7 where
 aL:Int
 high:Int
 deriving DecidableEq
def b7.cells (x:b7):List Value:=[.int .i64 x.aL,.int .i64 x.high]
def eW:b6 b7:=hO 2 b7.cells (fun _=>rfl) (fun _ v a=>by simp only[b7.cells,List.mem_cons,List.not_mem_nil,or_false] at a;rcases a with rfl|rfl<;>rfl)
theorem Ft:eW.n=2:=rfl
attribute [go_sem] b7.cells Ft
structure ck where
 place:Int
 dD:Int
 deriving DecidableEq
def ck.cells (x:ck):List Value:=[.int .i64 x.place,.int .i64 x.dD]
def er:b6 ck:=hO 2 ck.cells (fun _=>rfl) (fun _ v a=>by simp only[ck.cells,List.mem_cons,List.not_mem_nil,or_false] at a;rcases a with rfl|rfl<;>rfl)
theorem Fu:er.n=2:=rfl
attribute [go_sem] ck.cells Fu
structure c9 where
 low:Int
 high:Int
 deriving DecidableEq
def c9.v (x:c9):Value:=.agg #[.int .i64 x.low,.int .i64 x.high]
def c9.cells (x:c9):List Value:=[.int .i64 x.low,.int .i64 x.high]
def Fv:b6 c9:=hO 2 c9.cells (fun _=>rfl) (fun _ v a=>by simp only[c9.cells,List.mem_cons,List.not_mem_nil,or_false] at a;rcases a with rfl|rfl<;>rfl)
theorem Fw:Fv.n=2:=rfl
attribute [go_sem] c9.v c9.cells Fw
structure bY where
 back:Int
 high:c9
 deriving DecidableEq
def bY.cells (x:bY):List Value:=[.int .i64 x.back,.int .i64 x.high.low,.int .i64 x.high.high]
def eN:b6 bY:=hO 3 bY.cells (fun _=>rfl) (fun _ v a=>by simp only[bY.cells,List.mem_cons,List.not_mem_nil,or_false] at a;rcases a with rfl|rfl|rfl<;>rfl)
theorem Fx:eN.n=3:=rfl
attribute [go_sem] bY.cells Fx
structure bO where
 aW:Int
 bw:Bool
 deriving DecidableEq
def bO.v (x:bO):Value:=.agg #[.int .i64 x.aW,.bool x.bw]
def bO.cells (x:bO):List Value:=[.int .i64 x.aW,.bool x.bw]
def dc:b6 bO:=hO 2 bO.cells (fun _=>rfl) (fun _ v a=>by simp only[bO.cells,List.mem_cons,List.not_mem_nil,or_false] at a;rcases a with rfl|rfl<;>rfl)
theorem Fy:dc.n=2:=rfl
attribute [go_sem] bO.v bO.cells Fy
structure ak where
 bE:Int
 bI:Int
 aN:an
 ay:(List b7)
 props:(List ck)
 aE:(List bY)
 told:(List bO)
 deriving DecidableEq
def ak.rel (ro:Addr->Option Value)(x:ak)(cs:List Value):Prop:=∃a b c d,cs=[.int .i64 x.bE,.int .i64 x.bI,.int .i64 x.aN.num,.int .i64 x.aN.den,a,b,c,d]/\aB eW ro a x.ay/\aB er ro b x.props/\aB eN ro c x.aE/\aB dc ro d x.told
theorem ak.pF {ro:Addr->Option Value}{x:ak}{cs:List Value}(h:ak.rel ro x cs):∀v∈cs,bH v=true:=by
 obtain ⟨b,c,d,e,rfl,⟨_,_,rfl,_⟩,⟨_,_,rfl,_⟩,⟨_,_,rfl,_⟩,⟨_,_,rfl,_⟩⟩:=h;intro v a;simp only[List.mem_cons,List.not_mem_nil,or_false] at a;rcases a with rfl|rfl|rfl|rfl|rfl|rfl|rfl|rfl<;>rfl
def Fz:b6 ak:=⟨8,ak.rel,fun a ⟨b,c,d,f,e,g,h,i,j⟩=>⟨b,c,d,f,e,g.mono a,h.mono a,i.mono a,j.mono a⟩,fun ⟨b,c,d,f,e,_⟩=>by rw[e];rfl,ak.pF⟩
theorem FA:Fz.n=8:=rfl
attribute [go_sem] FA
structure aU where
 back:Int
 high:Int
 deriving DecidableEq
def aU.v (x:aU):Value:=.agg #[.int .i64 x.back,.int .i64 x.high]
def aU.cells (x:aU):List Value:=[.int .i64 x.back,.int .i64 x.high]
def iV:b6 aU:=hO 2 aU.cells (fun _=>rfl) (fun _ v a=>by simp only[aU.cells,List.mem_cons,List.not_mem_nil,or_false] at a;rcases a with rfl|rfl<;>rfl)
theorem FB:iV.n=2:=rfl
attribute [go_sem] aU.v aU.cells FB
structure aX where
 e0:Int
 e1:Int
 e2:Int
 deriving DecidableEq
def aX.v (x:aX):Value:=.agg #[.int .i64 x.e0,.int .i64 x.e1,.int .i64 x.e2]
def aX.cells (x:aX):List Value:=[.int .i64 x.e0,.int .i64 x.e1,.int .i64 x.e2]
def gP:b6 aX:=hO 3 aX.cells (fun _=>rfl) (fun _ v a=>by simp only[aX.cells,List.mem_cons,List.not_mem_nil,or_false] at a;rcases a with rfl|rfl|rfl<;>rfl)
theorem FC:gP.n=3:=rfl
attribute [go_sem] aX.v aX.cells FC
def aX.get (x:aX)(i:Int):Option Int:=if i=0 then some x.e0 else if i=1 then some x.e1 else if i=2 then some x.e2 else none
theorem aX.get_some {x:aX}{i:Int}{y:Int}(h:aX.get x i=some y):0<=i/\i<((3:Nat):Int)/\([.int .i64 x.e0,.int .i64 x.e1,.int .i64 x.e2]:List Value)[i.toNat]?=some (.int .i64 y):=by
 unfold aX.get at h;by_cases h0:i=0
 ·subst h0;simp at h;subst h;exact ⟨by omega,by omega,rfl⟩
 by_cases h1:i=1
 ·subst h1;simp at h;subst h;exact ⟨by omega,by omega,rfl⟩
 by_cases a:i=2
 ·subst a;simp at h;subst h;exact ⟨by omega,by omega,rfl⟩
 simp[h0,h1,a] at h
theorem aX.FD {ro:Addr->Option Value}{b:Nat}{x:aX}{i:Int}{y:Int}(h:aX.get x i=some y)(g0:ro ⟨b,0,none⟩=some (.int .i64 x.e0))(c:ro ⟨b,1,none⟩=some (.int .i64 x.e1))(d:ro ⟨b,2,none⟩=some (.int .i64 x.e2)):ro ⟨b,i.toNat,none⟩=some (.int .i64 y):=by
 unfold aX.get at h;by_cases h0:i=0
 ·subst h0;simp at h;subst h;exact g0
 by_cases h1:i=1
 ·subst h1;simp at h;subst h;exact c
 by_cases a:i=2
 ·subst a;simp at h;subst h;exact d
 simp[h0,h1,a] at h
structure cL where
 book:ak
 all:(List aX)
 deriving DecidableEq
def cL.rel (ro:Addr->Option Value)(x:cL)(cs:List Value):Prop:=∃a b c d e,cs=[.int .i64 x.book.bE,.int .i64 x.book.bI,.int .i64 x.book.aN.num,.int .i64 x.book.aN.den,a,b,c,d,e]/\aB eW ro a x.book.ay/\aB er ro b x.book.props/\aB eN ro c x.book.aE/\aB dc ro d x.book.told/\aB gP ro e x.all
theorem cL.pF {ro:Addr->Option Value}{x:cL}{cs:List Value}(h:cL.rel ro x cs):∀v∈cs,bH v=true:=by
 obtain ⟨b,c,d,e,f,rfl,⟨_,_,rfl,_⟩,⟨_,_,rfl,_⟩,⟨_,_,rfl,_⟩,⟨_,_,rfl,_⟩,⟨_,_,rfl,_⟩⟩:=h;intro v a;simp only[List.mem_cons,List.not_mem_nil,or_false] at a;rcases a with rfl|rfl|rfl|rfl|rfl|rfl|rfl|rfl|rfl<;>rfl
def FE:b6 cL:=⟨9,cL.rel,fun a ⟨b,c,d,f,g,e,h,i,j,k,l⟩=>⟨b,c,d,f,g,e,h.mono a,i.mono a,j.mono a,k.mono a,l.mono a⟩,fun ⟨b,c,d,f,g,e,_⟩=>by rw[e];rfl,cL.pF⟩
theorem FF:FE.n=9:=rfl
attribute [go_sem] FF
structure gQ where
 aL:Int
 high:an
 deriving DecidableEq
def gQ.cells (x:gQ):List Value:=[.int .i64 x.aL,.int .i64 x.high.num,.int .i64 x.high.den]
def FG:b6 gQ:=hO 3 gQ.cells (fun _=>rfl) (fun _ v a=>by simp only[gQ.cells,List.mem_cons,List.not_mem_nil,or_false] at a;rcases a with rfl|rfl|rfl<;>rfl)
theorem FH:FG.n=3:=rfl
attribute [go_sem] gQ.cells FH
structure bt where
 spot:gQ
 at_:Int
 high:an
 deriving DecidableEq
def bt.v (x:bt):Value:=.agg #[.int .i64 x.spot.aL,.int .i64 x.spot.high.num,.int .i64 x.spot.high.den,.int .i64 x.at_,.int .i64 x.high.num,.int .i64 x.high.den]
def bt.cells (x:bt):List Value:=[.int .i64 x.spot.aL,.int .i64 x.spot.high.num,.int .i64 x.spot.high.den,.int .i64 x.at_,.int .i64 x.high.num,.int .i64 x.high.den]
def j6:b6 bt:=hO 6 bt.cells (fun _=>rfl) (fun _ v a=>by simp only[bt.cells,List.mem_cons,List.not_mem_nil,or_false] at a;rcases a with rfl|rfl|rfl|rfl|rfl|rfl<;>rfl)
theorem FI:j6.n=6:=rfl
attribute [go_sem] bt.v bt.cells FI
def cY.rel (ro:Addr->Option Value)(g:(ak->Option Int))(cs:List Value):Prop:=∃(b:FuncId) (c d:Array Value),cs=[.func (.func b) c d]/\aH Tryz.prog b=true/\∀(aM:Addr->Option Value),Ext ro aM->∀(a:ak) (e:Value) (f:Value) (h:Value) (i:Value) (z:Int),aB eW aM e a.ay->aB er aM f a.props->aB eN aM h a.aE->aB dc aM i a.told->g a=some z->aC Tryz.prog b (c++#[.agg #[.int .i64 a.bE,.int .i64 a.bI,.int .i64 a.aN.num,.int .i64 a.aN.den,e,f,h,i]]++d) ⟨aM,[]⟩ (fun v _=>v= .int .i64 z)
theorem cY.FJ {ro aM:Addr->Option Value}{g:(ak->Option Int)}{cs:List Value}(b:Ext ro aM)(h:cY.rel ro g cs):cY.rel aM g cs:=by
 obtain ⟨f,a,c,e,h1,d⟩:=h;exact ⟨f,a,c,e,h1,fun i j=>d i (b.trans j)⟩
theorem cY.FK {ro:Addr->Option Value}{g:(ak->Option Int)}{cs:List Value}(h:cY.rel ro g cs):cs.length=1:=by
 obtain ⟨f,a,c,e,_⟩:=h;rw[e];rfl
theorem cY.pF {ro:Addr->Option Value}{g:(ak->Option Int)}{cs:List Value}(h:cY.rel ro g cs):∀v∈cs,bH v=true:=by
 obtain ⟨f,a,c,e,_⟩:=h;intro v b;rw[e] at b;simp at b;subst b;rfl
def cY:b6 (ak->Option Int):=⟨1,cY.rel,cY.FJ,cY.FK,cY.pF⟩
theorem FL:cY.n=1:=rfl
attribute [go_sem] FL
abbrev sl {T:Type}(d:Option Addr)(l:List T)(c:Nat):Value:=.slice d l.length c
abbrev bk (x:ak)(a b c d:Value):Obj:=.cells #[.int .i64 x.bE,.int .i64 x.bI,.int .i64 x.aN.num,.int .i64 x.aN.den,a,b,c,d] 29
abbrev bl (x:ak)(a b c d:Value):Obj:=.cells #[.int .i64 x.bE,.int .i64 x.bI,.int .i64 x.aN.num,.int .i64 x.aN.den,a,b,c,d] 115
abbrev bz (t:Nat):Obj:=.cells #[.int .i64 0,.int .i64 0,.int .i64 0,.int .i64 0,.slice none 0 0,.slice none 0 0,.slice none 0 0,.slice none 0 0] t
abbrev kn (x:cL)(a b c d e:Value):Obj:=.cells #[.int .i64 x.book.bE,.int .i64 x.book.bI,.int .i64 x.book.aN.num,.int .i64 x.book.aN.den,a,b,c,d,e] 124
abbrev rt (a b:Int):Obj:=.cells #[.int .i64 a,.int .i64 b] 23
abbrev ic (a:Int):Obj:=.cells #[.int .i64 a] 3
abbrev bv (x:ak)(a b c d:Value):Value:=.agg #[.int .i64 x.bE,.int .i64 x.bI,.int .i64 x.aN.num,.int .i64 x.aN.den,a,b,c,d]
attribute [go_sem] sl bk bl bz kn rt ic bv Fo Fp List.cons_append List.nil_append List.append_nil List.append_assoc
structure bJ (ro:Addr->Option Value)(u:ak)(a b c d:Value):Prop where
 e:aB eW ro a u.ay
 p:aB er ro b u.props
 y:aB eN ro c u.aE
 t:aB dc ro d u.told
theorem bJ.oc {ro:Addr->Option Value}{u:ak}{a b c d:Value}(h:bJ ro u a b c d):bH a=true/\bH b=true/\bH c=true/\bH d=true:=⟨h.e.oc,h.p.oc,h.y.oc,h.t.oc⟩
theorem bJ.mono {ro aM:Addr->Option Value}{u:ak}{a b c d:Value}(h:bJ ro u a b c d)(f:Ext ro aM):bJ aM u a b c d:=⟨h.e.mono f,h.p.mono f,h.y.mono f,h.t.mono f⟩
end Go.Proofs.YtpgcmoanfifglaaGreatDoor
end

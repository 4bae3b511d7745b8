/- A part of the proof: QT10. -/
import Derived.Test.YtcoalekambhghaaGreatDoorQT9
import Derived.Conc.WgArith
set_option linter.all false
section
namespace Go.Proofs.YtcoalekambhghaaGreatDoor
open Go Go.Sep Go.Proofs
set_option maxRecDepth 100000
set_option maxHeartbeats 4000000
def vJ (a:Int)(st:Int):Option (Fl Int Unit):=
 cond (decide (a<st)) (none) (some (.bk st))
def vK (a:Int)(b:Int)(st:Int):Option (Fl Int Unit):=
 cond (decide (st<b)) (ax (bg (vJ a) fu st) fun o=>aH o (fun c=>some (.nx (IntKind.i64.wrap (st+1)))) (fun _ _=>none) (fun r=>some (.rt r))) (some (.bk st))
def vL (a:Int)(b:Int)(c:(aU->aU->Option Int)):Option Unit:=
 ax (bg (vK a b) fu (IntKind.i64.wrap (a+1))) fun o=>aH o (fun d=>some ()) (fun _ _=>none) (fun r=>some r)
theorem Gi {ro:Addr->Option Value}(c:Int)(f:Int)(q:(aU->aU->Option Int)){gV:FuncId}{iX iY:Array Value}(N:aO Tryz.prog gV=true/\∀(aK:Addr->Option Value),Ext ro aK->∀(y0:aU) (s:aU) (z:Int),q y0 s=some z->aF Tryz.prog gV (iX++#[y0.v,s.v]++iY) ⟨aK,[]⟩ (fun v _=>v= .int .i64 z)){r:Unit}(h:vL c f q=some r):aF Tryz.prog 162 #[.slice none 0 0,.int .i64 c,.int .i64 f,.func (.func gV) iX iY] ⟨ro,[]⟩ (fun v _=>v= .tuple #[]):=by
 unfold vL at h;refine aF.go Tryz.func162 rfl Tryz.ntmps162 Tryz.results162 aB fun main J hJ A u hd hs=>?_;have w:=hs 0;have k1:=hs 1;have x:=hs 2;have y:=hs 3;clear hs;refine af hJ ?_;refine ah hJ ?_;apply aa _;refine aY hJ ?_;have h':=an h;clear h;obtain ⟨B,g,C⟩:=h';have h:=True.intro;refine bO hJ [8,9,12,13,14,15,16,17,18,19,20,21,22,23,24,25,26,27,28,29,30,31,32,33,34,35,36,37,38,39,40,41,42,43,44,45,46,47,48,49,50,51,52] (fun m j F'=>∃(v1:Int),bg (vK c f) m v1=some B/\F'=⟨ro,[]⟩/\slot j 8= .int .i64 v1) fu ?_ ?_
 .refine ⟨(IntKind.i64.wrap (c+1)),g,rfl,?_⟩;simp only[*,go_sem,-h]
 rintro k d F' e ⟨v1,g,rfl,D⟩;have h:=True.intro;have E:sz d=53:=by rw[e.size];simp only[*,go_sem,-h]
 have F:d.defers=[]:=by rw[e.defers];simp only[*,go_sem,-h]
 have G:slot d 0= .slice none 0 0:=by rw[e.ay 0 av];simp only[*,go_sem,-h]
 have H:slot d 1= .int .i64 c:=by rw[e.ay 1 av];simp only[*,go_sem,-h]
 have I:slot d 2= .int .i64 f:=by rw[e.ay 2 av];simp only[*,go_sem,-h]
 have K:slot d 3= .func (.func gV) iX iY:=by rw[e.ay 3 av];simp only[*,go_sem,-h]
 clear e u hd w k1 x y;obtain _|k:=k
 .exact absurd g (by simp only[bg,reduceCtorEq,not_false_eq_true])
 have h':=an g;clear g h;obtain ⟨O,h,l⟩:=h';unfold vK at h;try dsimp only at h
 refine af hJ ?_;refine af hJ ?_;refine ah hJ ?_;apply aa _;have h':=aD h;clear h;rcases h' with ⟨n,h⟩|⟨n,h⟩
 .try simp only[Int.ofNat_lt] at n
  refine aN hJ ak ?_;refine aR hJ ?_;refine af hJ ?_;refine aY hJ ?_;refine af hJ ?_;refine ah hJ ?_;apply aa _;refine aY hJ ?_;have h':=an h;clear h;obtain ⟨L,i,M⟩:=h';have h:=True.intro;refine bO hJ [9,18,19,20,21,22,23,24,25,26,27,28,29,30,31,32,33,34,35,36,37,38,39,40,41,42,43,44,45,46,47,48,49,50,51,52] (fun m j F'=>∃(o:Int),bg (vJ c) m o=some L/\F'=⟨ro,[]⟩/\slot j 9= .int .i64 o) fu ?_ ?_
  .refine ⟨v1,i,rfl,?_⟩;simp only[*,go_sem,-h]
  rintro m2 b F' a ⟨o,i,rfl,P⟩;have h:=True.intro;have Q:sz b=53:=by rw[a.size];simp only[*,go_sem,-h]
  have R:b.defers=[]:=by rw[a.defers];simp only[*,go_sem,-h]
  have S:slot b 0= .slice none 0 0:=by rw[a.ay 0 av];simp only[*,go_sem,-h]
  have T:slot b 1= .int .i64 c:=by rw[a.ay 1 av];simp only[*,go_sem,-h]
  have U:slot b 2= .int .i64 f:=by rw[a.ay 2 av];simp only[*,go_sem,-h]
  have V:slot b 3= .func (.func gV) iX iY:=by rw[a.ay 3 av];simp only[*,go_sem,-h]
  have W:slot b 8= .int .i64 v1:=by rw[a.ay 8 av];simp only[*,go_sem,-h]
  have X:slot b 12= .int .i64 v1:=by rw[a.ay 12 av];simp only[*,go_sem,-h]
  have Y:slot b 13= .int .i64 f:=by rw[a.ay 13 av];simp only[*,go_sem,-h]
  have Z:slot b 14= .bool true:=by rw[a.ay 14 av];simp only[*,go_sem,-h]
  have ab:slot b 17= .int .i64 v1:=by rw[a.ay 17 av];simp only[*,go_sem,-h]
  have ad:cq [8,9,12,13,14,15,16,17,18,19,20,21,22,23,24,25,26,27,28,29,30,31,32,33,34,35,36,37,38,39,40,41,42,43,44,45,46,47,48,49,50,51,52] b d:=(a.cR av).trans ak;clear a E F G H I K D;obtain _|m2:=m2
  .exact absurd i (by simp only[bg,reduceCtorEq,not_false_eq_true])
  have h':=an i;clear i h;obtain ⟨ae,h,t⟩:=h';unfold vJ at h;try dsimp only at h
  refine af hJ ?_;refine af hJ ?_;refine cu hJ mixed 17 ⟨ro,[]⟩ ak aT ?_;have h':=aD h;clear h;rcases h' with ⟨p,h⟩|⟨p,h⟩
  ·(try simp only[Int.ofNat_lt] at p);cases h
  try simp only[Int.ofNat_lt] at p
  try apply aa _
  refine aM hJ ak ?_;refine bI ?_;simp only[go_sem];have h':=Option.some.inj h;clear h;subst h';have h':=Option.some.inj t;clear t;subst h';have h:=M;dsimp only[aH] at h;refine ah hJ ?_;apply aa _;have h':=Option.some.inj h;clear h;subst h';have h:=True.intro;try apply aa _
  refine ⟨k,Nat.lt_succ_self _,_,Le.sub (List.Sublist.refl _),(IntKind.i64.wrap (v1+1)),l,rfl,?_⟩;simp only[*,go_sem,-h]
 try simp only[Int.ofNat_lt] at n
 refine aM hJ ak ?_;refine bI ?_;simp only[go_sem];have h':=Option.some.inj h;clear h;subst h';have h':=Option.some.inj l;clear l;subst h';have h:=C;dsimp only[aH] at h;try (have h':=Option.some.inj h;clear h;subst h')
 try simp only[*,go_sem]
def vM (a:(aU->aU->Option Int))(st:(Int×Int×Int×Bool×Bool)):Option (Fl (Int×Int×Int×Bool×Bool) Unit):=
 cond (decide ((IntKind.i64.wrap (st.2.1 - st.1))<=12)) (ax (vL st.1 st.2.1 a) fun b=>some (.rt ())) (none)
def qZ (a:Int)(b:Int)(c:Int)(d:(aU->aU->Option Int)):Option Unit:=
 ax (bg (vM d) fu (a,b,c,true,true)) fun o=>aH o (fun e=>some ()) (fun _ _=>none) (fun r=>some r)
theorem Gj {ro:Addr->Option Value}(f:Int)(g:Int)(i:Int)(d:(aU->aU->Option Int)){ij:FuncId}{jv jw:Array Value}(n:aO Tryz.prog ij=true/\∀(aK:Addr->Option Value),Ext ro aK->∀(y0:aU) (o:aU) (z:Int),d y0 o=some z->aF Tryz.prog ij (jv++#[y0.v,o.v]++jw) ⟨aK,[]⟩ (fun v _=>v= .int .i64 z)){r:Unit}(h:qZ f g i d=some r):aF Tryz.prog 135 #[.slice none 0 0,.int .i64 f,.int .i64 g,.int .i64 i,.func (.func ij) jv jw] ⟨ro,[]⟩ (fun v _=>v= .tuple #[]):=by
 unfold qZ at h;refine aF.go Tryz.func135 rfl Tryz.ntmps135 Tryz.results135 aB fun main J hJ A s hd hs=>?_;have t:=hs 0;have k1:=hs 1;have u:=hs 2;have w:=hs 3;have x:=hs 4;clear hs;refine af hJ ?_;refine ah hJ ?_;apply aa _;refine af hJ ?_;refine ah hJ ?_;apply aa _;refine aY hJ ?_;have h':=an h;clear h;obtain ⟨y,a,B⟩:=h';have h:=True.intro;refine bO hJ [1,2,3,10,11,12,13,14,15,16,17,18,19,20,21,22,23,24,25,26,27,28,29,30,31,32,33,34,35,36,37,38,39,40,41,42,43,44,45,46,47,48,49,50,51,52,53,54,55,56,57,58,59,60,61,62,63,64,65,66,67,68,69,70,71,72,73,74,75,76,77,78,79,80,81,82,83,84,85,86,87,88,89,90,91,92,93,94,95,96,97,98,99,100,101,102,103,104,105,106,107,108,109,110,111,112,113,114,115,116,117,118,119,120,121,122,123,124,125,126,127,128,129,130,131,132,133,134,135,136,137,138,139,140,141,142,143,144,145,146,147] (fun m b F'=>∃(v1:Int) (v2:Int) (j:Int) (v4:Bool) (k:Bool),bg (vM d) m (v1,v2,j,v4,k)=some y/\F'=⟨ro,[]⟩/\slot b 1= .int .i64 v1/\slot b 2= .int .i64 v2/\slot b 3= .int .i64 j/\slot b 10= .bool v4/\slot b 11= .bool k) fu ?_ ?_
 .refine ⟨f,g,i,true,true,a,rfl,?_⟩;simp only[*,go_sem,-h]
 rintro p e F' c ⟨v1,v2,j,v4,k,a,rfl,E,F,G,H,I⟩;have h:=True.intro;have K:sz e=148:=by rw[c.size];simp only[*,go_sem,-h]
 have L:e.defers=[]:=by rw[c.defers];simp only[*,go_sem,-h]
 have M:slot e 0= .slice none 0 0:=by rw[c.ay 0 av];simp only[*,go_sem,-h]
 have N:slot e 4= .func (.func ij) jv jw:=by rw[c.ay 4 av];simp only[*,go_sem,-h]
 clear c s hd t k1 u w x;obtain _|p:=p
 .exact absurd a (by simp only[bg,reduceCtorEq,not_false_eq_true])
 have h':=an a;clear a h;obtain ⟨O,h,q⟩:=h';unfold vM at h;try dsimp only at h
 refine aY hJ ?_;refine af hJ ?_;refine ah hJ ?_;apply aa _;refine af hJ ?_;refine af hJ ?_;refine ah hJ ?_;apply aa _;have h':=aD h;clear h;rcases h' with ⟨l,h⟩|⟨l,h⟩
 .try simp only[Int.ofNat_lt] at l
  refine aN hJ ak ?_;refine af hJ ?_;refine ah hJ ?_;have h':=an h;clear h;obtain ⟨P,C,h⟩:=h';apply aa _;refine bp hJ _ (Gi (gV:=ij) (iX:=jv) (iY:=jw) v1 v2 d ⟨n.1,fun _ D=>n.2 _ (Ext.trans aZ D)⟩ C) ?_;try apply aa _
  have h':=Option.some.inj h;clear h;subst h';have h':=Option.some.inj q;clear q;subst h';have h:=B;dsimp only[aH] at h;try (have h':=Option.some.inj h;clear h;subst h')
  try (refine aG ?_)
  try simp only[*,go_sem]
 try simp only[Int.ofNat_lt] at l
 refine aM hJ ak ?_;cases h
def q2 (a:(aU->aU->Option Int)):Option Unit:=
 ax (jP (IntKind.u64.wrap 0)) fun x1=>ax (qZ 0 0 x1 a) fun x3=>some ()
theorem Gk {ro:Addr->Option Value}(a:(aU->aU->Option Int)){bL:FuncId}{bQ bR:Array Value}(b:aO Tryz.prog bL=true/\∀(aK:Addr->Option Value),Ext ro aK->∀(y0:aU) (c:aU) (z:Int),a y0 c=some z->aF Tryz.prog bL (bQ++#[y0.v,c.v]++bR) ⟨aK,[]⟩ (fun v _=>v= .int .i64 z)){r:Unit}(h:q2 a=some r):aF Tryz.prog 111 #[.slice none 0 0,.func (.func bL) bQ bR] ⟨ro,[]⟩ (fun v _=>v= .tuple #[]):=by
 unfold q2 at h;refine aF.go Tryz.func111 rfl Tryz.ntmps111 Tryz.results111 aB fun main J hJ A g hd hs=>?_;have i:=hs 0;have k1:=hs 1;clear hs;refine af hJ ?_;refine ah hJ ?_;apply aa _;refine ah hJ ?_;have h':=an h;clear h;obtain ⟨x1,d,h⟩:=h';apply aa _;refine bp hJ _ (qs (IntKind.u64.wrap 0) d) (aS ?_);have h':=an h;clear h;obtain ⟨x3,e,h⟩:=h';try apply aa _
 refine bp hJ _ (Gj (ij:=bL) (jv:=bQ) (jw:=bR) 0 0 x1 a ⟨b.1,fun _ f=>b.2 _ (Ext.trans aZ f)⟩ e) ?_;try apply aa _
 try (have h':=Option.some.inj h;clear h;subst h')
 try simp only[*,go_sem]
end Go.Proofs.YtcoalekambhghaaGreatDoor
end
section
namespace Go.Sep
open Go Go.Conc
open Go.ConcN (sumTo upd upd_ne upd_same)
def gi (P:Program):Frame:={(default:Frame) with fn:=P.funcs.size,defers:=[],mode:=.panicking [goexitEntry]}
section
variable {P:Program}{f:FuncId}{fn:Func}{cd:Code}{w:World}{caps args:Array Value}
theorem Aj (a:P.funcs[f]?=some fn)(b:(fn.name== "runtime.NumGoroutine")=false)(hb:fn.body=some cd):
  stepG P false (born P {target:=.fn (.func f) caps,args:=args}) w= .go (G ((baseD f).at {tmps:=args++caps++Array.replicate (fn.ntmps - (args++caps).size) undef,defers:=[]} [.code cd]) [gi P]) w #[]:=by
 have c:¬fn.name= "runtime.NumGoroutine":=by simpa using b
 rw[<-enter_atD (args++caps) a hb]
 simp[born,G,stepG,unwind,callDeferred,invoke,callFunc,a,c,hb,GStep.after,seen_none,gi]
theorem Ak {b:Frame}{a:Act}{todo:List Item}(hn:b.kind= .deferred)(hd:a.defers=[])(d:P.funcs[b.fn]?=some fn)(c:fn.results=#[]):
  stepG P false (G {b.at a todo with mode:=.returning} [gi P]) w= .go (G (gi P) []) w #[]:=by
 have he:(results fn a.tmps).events P w #[]=#[]:=events_results_none c _ _
 have hv:(results fn a.tmps).run P w= .ok (.tuple #[]) w:=results_none c _ P w
 simp[G,stepG,unwind,doReturn,Frame.at,hn,hd,d,hv,he,gi,goexitEntry,seen_none,GStep.after]
theorem Al:stepG P false (G (gi P) []) w= .go {frame:=gi P,callers:=[],status:=.finished,dying:=none} w #[]:=by
 have e:(default:Frame).todo=[]:=rfl;simp[G,stepG,unwind,gi,goexitEntry,Frame.catches,e]
end
section
variable {c:Cy}{i:Nat}{F:ag}{f fd:FuncId}
def Gl (c:Cy)(i:Nat)(fd:FuncId)(v:Value):Ex->Act->ag->Ph->Prop
 | .exit _,_,_,_=>False
 |_,a,_,ph=>a.defers=[dcall fd #[v]]/\(ph.mp= .idle\/ph.mp= .fin)/\ph.gp= .cnt/\ph.stored=c.bs i/\ph.deaf=0
end
attribute [go_sem] Gl
end Go.Sep
end
section
namespace Go.Sep
open Go Go.Conc
def vN {S:Type}(b:Act->ag->S->Prop)(Q:Ex->Act->ag->S->Prop):Ex->Act->ag->S->Prop
 | .normal,a,F,ph=>b a F ph
 |e,a,F,ph=>Q e a F ph
attribute [go_sem] vN
theorem Gm {P:Program}{main:Bool}{S:Type}{JF:S->Goroutine->ag->Prop}{fi:FuncId}{Q:Ex->Act->ag->S->Prop}{a:Act}{F:ag}{ph:S}(hM:∀ph,dN P main (JF ph)){x:Code}(b:Act->ag->S->Prop)
  (c:cH JF fi x (vN b Q) a F ph) (d:∀a F ph,b a F ph->Q .normal a F ph):cH JF fi x Q a F ph:=
 c.mono fun e a F ph h=>by
  cases e with
  |normal=>exact d a F ph h
  |exit i=>exact h
  |ret=>exact h
theorem bG {P:Program}{main:Bool}{S:Type}{JF:S->Goroutine->ag->Prop}{fi:FuncId}{Q:Ex->Act->ag->S->Prop}{a:Act}{F:ag}{ph:S}(hM:∀ph,dN P main (JF ph)){id:Nat}{ops:Array Oper}
  (h:∀K:Act->ag->S->Prop,(∀a F ph,Q .normal a F ph->K a F ph)->aE JF fi ops 0 ops.size K a F ph):cH JF fi (.region id ops false) Q a F ph:=mB hM (h _ fun _ _ _ h=>h)
theorem Am {S:Type}{b:Act->ag->S->Prop}{Q:Ex->Act->ag->S->Prop}{a:Act}{F:ag}{ph:S}(h:b a F ph):vN b Q .normal a F ph:=h
def jx (x y:Int):Int:=IntKind.u64.wrap ((BitVec.ofInt 64 x&&& BitVec.ofInt 64 y).toNat:Int)
@[go_sem] theorem Oj (x y:Int):IntKind.u64.wrap ((@HAnd.hAnd (BitVec 64) (BitVec 64) (BitVec 64) (@instHAndOfAndOp (BitVec IntKind.u64.bits) (@BitVec.instAndOp IntKind.u64.bits)) (BitVec.ofInt 64 x) (BitVec.ofInt 64 y)).toNat:Int)=jx x y:=rfl
theorem vO (v t:Nat)(hv:v<2147483648)(ht:t<=1):jx ((v:Int)*4294967296+(t:Int)) 2147483648=0:=Go.ConcN.st_flag v t hv ht
theorem vQ (v t:Nat)(hv:v<2147483648)(ht:t<=1):jx ((v:Int)*4294967296+(t:Int)) 2147483647=(t:Int):=Go.ConcN.st_waiters v t hv ht
theorem vR (v t:Nat)(ht:t<=1):((v:Int)*4294967296+(t:Int)).fdiv 4294967296=v:=by
 rw[Int.fdiv_eq_ediv_of_nonneg _ av];omega
end Go.Sep
end
section
namespace Go.Proofs.YtcoalekambhghaaGreatDoor
open Go Go.Sep Go.Proofs
set_option maxRecDepth 100000
set_option maxHeartbeats 4000000
def v0 (w:Nat):bw:=⟨⟨0,0,0,0⟩,⟨0,0,0,0⟩,(w:Int)⟩
def oG (b:aL)(v:bw):Bool:=(g9 b v).getD false
def vP (b:aL)(w:Nat):List bw:=(fR b.aj 0 (v0 w)).filter (oG b)
theorem An {b:aL}(h:dw b){w:Nat}{u:bw}(hu:u∈fR b.aj 0 (v0 w)):u.au=(w:Int)/\mj b u.az.at u.aA.at:=by
 obtain ⟨c,-,d⟩:=(ov b.aj 0 (v0 w) u (by have:=h.many;omega)).1 hu;refine ⟨c,fun i hi=>?_⟩;have a:b.aj[i]?=some b.aj[i]:=List.getElem?_eq_getElem hi;have:=d i _ a;rw[Nat.zero_add] at this;obtain ⟨⟨a1,e,f,g⟩,c1,c2,c3,c4⟩:=mw h a;omega
theorem vS {b:aL}(h:dw b){w:Nat}(hw:w<16){u:bw}(hu:u∈fR b.aj 0 (v0 w)):∃r,g9 b u=some r/\(r=true↔ot b u.az.at u.aA.at (Nat.testBit w)):=by
 obtain ⟨a,c⟩:=An h hu;exact E7 h c (fun _ _=>rfl) (fun _ _=>rfl) fun i hi=>E1 a hw (by have:=h.many;omega)
theorem Ao {b:aL}:∀l:List bw,(∀u∈l,∃r,g9 b u=some r)->l.flatMap (leaf b)=(l.filter (oG b)).map some
 |[],_=>rfl
 |u::l,h=>by
  obtain ⟨r,a⟩:=h u aB
  rw[List.flatMap_cons,Ao l fun x c=>h x (by simp[c])]
  unfold leaf oG
  rw[a]
  cases r
  .rw[List.filter_cons_of_neg (by simp[a])];rfl
  .rw[List.filter_cons_of_pos (by simp[a])];rfl
theorem Ap {b:aL}(h:dw b){w:Nat}(hw:w<16):n7 b (w:Int)=(vP b w).map some:=by
 rw[E9 h];exact Ao _ fun u hu=>(vS h hw hu).imp fun _ x=>x.1
theorem Gn:∀(l acc:List bw),acc.length+l.length<=1000000->oB acc (l.map some)=some (acc++l):=by
 have key:∀(l acc:List bw),acc.length+l.length<=1000000->jl mD (l.map some) acc=some (.nx (acc++l)):=by
  intro l
  induction l with
  |nil=>intro acc _;simp[jl]
  |cons x l ih=>
   intro acc a;simp only[List.length_cons] at a;rw[List.map_cons];have hb:mD x acc=some (.nx (acc++[x])):=by
    unfold mD;rw[zq _ _ (by simp;omega)];rfl
   unfold jl;rw[hb];simp only[ax];rw[ih (acc++[x]) (by simp;omega),List.append_assoc];rfl
 intro l acc a;unfold oB;rw[key l acc a];rfl
def pop (w:Nat):Nat:=((List.range 4).filter (Nat.testBit w)).length
theorem Gq:∀w:Nat,w<16->nJ (w:Int)=some ((pop w:Nat):Int):=by decide+kernel
theorem Aq:∀n:Nat,n<5->ji 1 (n:Int)=some ((2 ^ n:Nat):Int):=by decide+kernel
def j0 (b:aL)(k:Nat):List bw:=(List.range k).flatMap fun w=>if ((pop w:Nat):Int)<=b.au then vP b w else []
def iZ (b:aL):List bw:=j0 b (2 ^ b.aj.length)
theorem Ar (b:aL)(k:Nat):j0 b (k+1)=j0 b k++if ((pop k:Nat):Int)<=b.au then vP b k else []:=by
 unfold j0;rw[List.range_succ,List.flatMap_append,List.flatMap_cons,List.flatMap_nil,List.append_nil]
theorem As {st:Int}:∀r:List bf,(∀s∈r,Bd st s)->jS r<=9 ^ r.length
 |[],_=>Nat.le_refl _
 |s::r,h=>by
  have ih:=As r fun x a=>h x (by simp[a])
  obtain ⟨⟨a1,b,c,d⟩,c1,c2,c3,c4⟩:=h s aB
  have e1:eA s.from_<=3:=by unfold eA;omega
  have e2:eA s.aC<=3:=by unfold eA;omega
  rw[jS,List.length_cons,Nat.pow_succ]
  calc eA s.from_*(eA s.aC*jS r)<=3*(3*9 ^ r.length):=Nat.mul_le_mul e1 (Nat.mul_le_mul e2 ih)
   _=9 ^ r.length*9:=ai
theorem Au {b:aL}(h:dw b)(w:Nat):(vP b w).length<=6561:=by
 have a:(vP b w).length<=(fR b.aj 0 (v0 w)).length:=List.length_filter_le _ _;rw[zL] at a;have c:=As b.aj fun s hs=>by
  obtain ⟨i,hi,rfl⟩:=List.getElem_of_mem hs;exact mw h (List.getElem?_eq_getElem hi)
 have d:9 ^ b.aj.length<=9 ^ 4:=Nat.pow_le_pow_right ai h.many.2;have:(9:Nat) ^ 4=6561:=av;omega
theorem Av {b:aL}(h:dw b):∀k,(j0 b k).length<=k*6561
 |0=>by simp[j0]
 |k+1=>by
  have ih:=Av h k
  have a:=Au h k
  rw[Ar,List.length_append,Nat.add_mul]
  split
  .omega
  .simp;omega
theorem j3 {b:aL}(h:dw b):2 ^ b.aj.length<=16:=Nat.le_trans (Nat.pow_le_pow_right ai h.many.2) av
theorem Gs {b:aL}(h:dw b):mF b=some (iZ b):=by
 unfold mF;rw[Aq _ (by have:=h.many;omega)];simp only[ax];have c:=j3 h;have key:bg (mE b ((2 ^ b.aj.length:Nat):Int)) fu (([]:List bw),0)=some (c5 (cF (fun _=>none) (2 ^ b.aj.length)) (iZ b,((2 ^ b.aj.length:Nat):Int))):=by
  refine gQ (fun _=>none) (fun i=>(j0 b i,(i:Int))) _ ai (fun i hi=>?_) ?_
  .unfold mE;rw[hO hi,Gq _ ai];simp only[cond,ax];rw[zo ai,Ar];by_cases a:((pop i:Nat):Int)<=b.au
   .rw[decide_eq_true a];simp only[if_pos a];unfold n8;simp only;rw[Ap h ai,Gn _ _ (by have:=Av h i;have:=Au h i;omega)];rfl
   .rw[decide_eq_false a];simp only[if_neg a,List.append_nil];rfl
  .unfold mE;rw[hU];rfl
 rw[key,gf.2 (fun _ _=>rfl)];rfl
theorem Gt {b:aL}(h:dw b){v:bw}(hv:v∈iZ b):∃w:Nat,w<16/\w<2 ^ b.aj.length/\((pop w:Nat):Int)<=b.au/\v.au=(w:Int)/\mj b v.az.at v.aA.at/\v∈vP b w:=by
 unfold iZ j0 at hv;obtain ⟨w,hw,a⟩:=List.mem_flatMap.1 hv;have:=j3 h;have c:=List.mem_range.1 hw;split at a
 .rename_i d;obtain ⟨e,f⟩:=An h (List.mem_filter.1 a).1;exact ⟨w,ai,c,d,e,f,a⟩
 .cases a
theorem Aw (b:aL):∃g,me b=some g/\(g=true->iR b/\dw b/\fN b=some 0/\mb b=some 0):=by
 unfold me;obtain ⟨g,hg,hs⟩:=E8 b;rw[hg];cases g
 .have hb:=hs rfl;obtain ⟨r,e1,e2,e3,_⟩:=zA hb;simp only[ax,Bool.not_false,cond_true];rw[e2];refine ⟨r==0,rfl,fun h=>?_⟩;obtain rfl:r=0:=by simpa using h
  exact ⟨hb,e3.1 rfl,e1,rfl⟩
 .exact ⟨false,rfl,fun h=>by cases h⟩
def cZ (b:aL)(w:Nat):Bool:=!(vP b w).isEmpty
theorem oH {b:aL}(h:dw b){w:Nat}(hw:w<16):iW b (w:Int)=some (cZ b w):=by
 unfold iW n8 cZ;rw[Ap h hw];cases vP b w<;>rfl
def Gu (b:aL)(f s:Nat->Int):Prop:=∀i x,b.aj[i]?=some x->(x.from_.low<=f i/\f i<=x.from_.high)/\x.aC.low<=s i/\s i<=x.aC.high
theorem Gv {b:aL}{f s a s':Nat->Int}{W c:Nat->Bool}(h:∀i,i<b.aj.length->a i=f i/\s' i=s i/\c i=W i)(ht:ot b f s W):ot b a s' c:=by
 intro i j x y d g hi k m hm l n e;obtain ⟨a1,o,p⟩:=h i (List.getElem?_eq_some_iff.1 d).1;obtain ⟨c1,c2,c3⟩:=h j (List.getElem?_eq_some_iff.1 g).1;have:=ht i j x y d g (p▸hi) (c3▸k) m hm l n e;unfold eu at this ⊢;rw[a1,o,c1,c2];exact this
theorem oI {b:aL}(h:dw b){w:Nat}(hw:w<16):cZ b w=true↔∃f s,Gu b f s/\ot b f s (Nat.testBit w):=by
 have t:=h.many;constructor
 .intro m;obtain ⟨v,hv⟩:∃v,v∈vP b w:=by
   unfold cZ at m;cases e:vP b w with
   |nil=>rw[e] at m;cases m
   |cons v l=>exact ⟨v,aB⟩
  obtain ⟨d,n⟩:=List.mem_filter.1 hv;obtain ⟨r,o,ht⟩:=vS h hw d;obtain ⟨-,-,p⟩:=(ov b.aj 0 (v0 w) v ai).1 d;refine ⟨v.az.at,v.aA.at,fun i x k=>by have:=p i x k;rwa [Nat.zero_add] at this,ht.1 ?_⟩;unfold oG at n;rw[o] at n;exact n
 .rintro ⟨f,s,hb,ht⟩
  let g:(Nat->Int)->Nat->Int:=fun f i=>if i<b.aj.length then f i else 0
  let v:bw:=⟨⟨g f 0,g f 1,g f 2,g f 3⟩,⟨g s 0,g s 1,g s 2,g s 3⟩,(w:Int)⟩
  have c:∀j,j<4->v.az.at j=g f j/\v.aA.at j=g s j:=by
   intro j a;rcases four a with rfl|rfl|rfl|rfl<;>exact ⟨rfl,rfl⟩
  have hg:∀f i,i<b.aj.length->g f i=f i:=fun f i hi=>if_pos hi;have d:v∈fR b.aj 0 (v0 w):=by
   refine (ov b.aj 0 (v0 w) v ai).2 ⟨rfl,fun j a u=>?_,fun j x k=>?_⟩
   .rw[(c j a).1,(c j a).2];have:¬j<b.aj.length:=ai;show (if j<b.aj.length then f j else 0)=_/\(if j<b.aj.length then s j else 0)=_;rw[if_neg this,if_neg this];rcases four a with rfl|rfl|rfl|rfl<;>exact ⟨rfl,rfl⟩
   .have a:=(List.getElem?_eq_some_iff.1 k).1;rw[Nat.zero_add,(c j ai).1,(c j ai).2,hg f j a,hg s j a];exact hb j x k
  obtain ⟨r,o,q⟩:=vS h hw d;have:r=true:=q.2 (Gv (fun i hi=>by rw[(c i ai).1,(c i ai).2,hg f i hi,hg s i hi];exact ⟨rfl,rfl,rfl⟩) ht);have hv:v∈vP b w:=List.mem_filter.2 ⟨d,by unfold oG;rw[o,this];rfl⟩;unfold cZ;cases e:vP b w with
  |nil=>rw[e] at hv;cases hv
  |cons _ _=>rfl
def ew (l:List bf)(N:List Nat):List bf:=N.filterMap fun j=>l[j]?
def cR (b:aL)(N:List Nat):aL:=⟨b.steps,b.au,ew b.aj N⟩
theorem vT {l:List bf}:∀{N:List Nat},(∀j∈N,j<l.length)->∀k:Nat,(ew l N)[k]?=N[k]?.bind fun j=>l[j]?
 |[],_,k=>by simp[ew]
 |j::N,h,k=>by
  have a:l[j]?=some (l[j]'(h j aB)):=List.getElem?_eq_getElem _
  unfold ew
  rw[List.filterMap_cons_some a]
  cases k with
  |zero=>simp[a]
  |succ k=>
   have:=vT (N:=N) (fun i hi=>h i (by simp[hi])) k
   simpa [ew] using this
theorem vU {l:List bf}{N:List Nat}(h:∀j∈N,j<l.length):(ew l N).length=N.length:=by
 induction N with
 |nil=>rfl
 |cons j N ih=>
  unfold ew;rw[List.filterMap_cons_some (List.getElem?_eq_getElem (h j aB))];have:=ih fun i hi=>h i (by simp[hi]);unfold ew at this;simp[this]
theorem Ax {l:List bf}:∀{N:List Nat} (i:Nat),N.Pairwise (· <·)->(∀j∈N,i<=j/\j<l.length)->(ew l N).Sublist (l.drop i)
 |[],i,_,_=>by simp[ew]
 |j::N,i,c,h=>by
  obtain ⟨g,a⟩:=h j aB
  obtain ⟨d,p2⟩:=List.pairwise_cons.1 c
  have ih:=Ax (N:=N) (j+1) p2 fun k b=>⟨d k b,(h k (by simp[b])).2⟩
  unfold ew at ih ⊢
  rw[List.filterMap_cons_some (List.getElem?_eq_getElem a)]
  have e:l.drop j=l[j]::l.drop (j+1):=List.drop_eq_getElem_cons a
  have f:(l.drop j).Sublist (l.drop i):=by
   rw[show j=i+(j - i) by omega,<-List.drop_drop]
   exact List.drop_sublist _ _
  exact (e▸List.Sublist.cons₂ _ ih).trans f
def oJ (s:bf):Int:=(s.from_.high - s.from_.low+1)*(s.aC.high - s.aC.low+1)
theorem q3:∀(l:List bf) (c:Int),l.foldl (fun n s=>n*((s.from_.high - s.from_.low+1)*(s.aC.high - s.aC.low+1))) c=c*wn l
 |[],c=>by simp[wn]
 |s::l,c=>by
  unfold wn
  simp only[List.foldl_cons]
  rw[q3 l,q3 l,Int.one_mul,Int.mul_assoc]
theorem vV (s:bf)(l:List bf):wn (s::l)=oJ s*wn l:=by
 have:=q3 (s::l) 1;unfold wn oJ;rw[List.foldl_cons,q3,Int.one_mul];rfl
theorem Gw {st:Int}{l' l:List bf}(h:l'.Sublist l):(∀s∈l,Bd st s)->1<=wn l'/\wn l'<=wn l:=by
 induction h with
 |slnil=>intro _;simp[wn]
 |cons s _ ih=>
  intro hb;obtain ⟨i1,i2⟩:=ih fun x b=>hb x (by simp[b]);have a:=qE (hb s aB);rw[vV];refine ⟨i1,Int.le_trans i2 ?_⟩;have:1*wn _<=oJ s*wn _:=Int.mul_le_mul_of_nonneg_right a.1 (Int.le_trans ai (Int.le_trans i1 i2))
  rwa [Int.one_mul] at this
 |cons_cons s _ ih=>
  intro hb;obtain ⟨i1,i2⟩:=ih fun x b=>hb x (by simp[b]);have a:=qE (hb s aB);rw[vV,vV];have c:0<=oJ s:=Int.le_trans ai a.1;refine ⟨?_,Int.mul_le_mul_of_nonneg_left i2 c⟩;have:1*1<=oJ s*wn _:=Int.mul_le_mul a.1 i1 ai c;simpa using this
theorem q4 {b:aL}{N:List Nat}(c:∀j∈N,j<b.aj.length){k:Nat}{x:bf}(a:(cR b N).aj[k]?=some x):∃j,N[k]?=some j/\b.aj[j]?=some x:=by
 have:=vT c k;unfold cR at a;simp only at a;rw[this] at a;cases e:N[k]? with
 |none=>rw[e] at a;cases a
 |some j=>rw[e] at a;exact ⟨j,rfl,a⟩
theorem Ay {b:aL}(h:dw b){N:List Nat}(d:N.Pairwise (· <·))(c:∀j∈N,j<b.aj.length)(t:N≠[]):dw (cR b N):=by
 have hlen:(cR b N).aj.length=N.length:=vU c;have E:N.length<=b.aj.length:=qB _ _ (d.imp fun h=>ai) c;have F:1<=N.length:=by
  cases N with
  |nil=>exact absurd rfl t
  |cons _ _=>simp
 have u:∀s∈b.aj,Bd b.steps s:=fun s hs=>by
  obtain ⟨i,hi,rfl⟩:=List.getElem_of_mem hs;exact mw h (List.getElem?_eq_getElem hi)
 refine ⟨h.steps,h.au,by have:=h.many;omega,fun k v=>?_,?_⟩
 .have f:(cR b N).aj[k]?=some ((cR b N).aj[k]):=List.getElem?_eq_getElem v;generalize (cR b N).aj[k]=x at f;obtain ⟨j,g,n⟩:=q4 c f;have w:=(List.getElem?_eq_some_iff.1 n).1;have a:=h.each j w;unfold fF at a ⊢;rw[n] at a;rw[f];simp only at a ⊢;have y:((cR b N).aj.take k).any (fun o=>o.name==x.name)=false:=by
   cases m:((cR b N).aj.take k).any (fun o=>o.name==x.name)
   .rfl
   .exfalso;obtain ⟨o,ho,hn⟩:=List.any_eq_true.1 m;obtain ⟨p,G,e⟩:=List.mem_take_iff_getElem.1 ho;have z:(cR b N).aj[p]?=some o:=by rw[<-e];exact List.getElem?_eq_getElem _
    obtain ⟨q,A,B⟩:=q4 c z;have H:q<j:=by
     obtain ⟨C,e1⟩:=List.getElem?_eq_some_iff.1 g;obtain ⟨r,e2⟩:=List.getElem?_eq_some_iff.1 A;rw[<-e1,<-e2];exact List.pairwise_iff_getElem.1 d p k r C ai
    have:(b.aj.take j).any (fun o=>o.name==x.name)=true:=List.any_eq_true.2 ⟨o,by
     obtain ⟨r,e2⟩:=List.getElem?_eq_some_iff.1 B
     exact List.mem_take_iff_getElem.2 ⟨q,ai,e2⟩,hn⟩
    rw[this] at a;simp only[if_true] at a;split at a<;>cases a
  rw[y];have D:(b.aj.take j).any (fun o=>o.name==x.name)=false:=by
   cases m:(b.aj.take j).any (fun o=>o.name==x.name)
   .rfl
   .rw[m] at a;simp only[if_true] at a;split at a<;>cases a
  rw[D] at a;exact a
 .have:=(Gw (Ax (l:=b.aj) 0 d fun j g=>⟨Nat.zero_le _,c j g⟩) (st:=b.steps) (by simpa using u)).2;simp only[List.drop_zero] at this;exact Int.le_trans this h.ways
theorem Gx {b:aL}(h:dw b){N:List Nat}(v:N.Pairwise (· <·))(o:∀j∈N,j<b.aj.length)(C:N≠[]){w:Nat}(hw:w<16)(c:∀i,i<b.aj.length->(Nat.testBit w i=false↔i∈N)):cZ (cR b N) 0=cZ b w:=by
 have H:N.Nodup:=v.imp fun h=>ai;rw[Bool.eq_iff_iff,oI (Ay h v o C) ai,oI h hw];constructor
 .rintro ⟨f,s,hb,ht⟩
  let lo:(bf->Int)->Nat->Int:=fun g i=>match b.aj[i]? with|some x=>g x|none=>0
  let F:(Nat->Int)->(bf->Int)->Nat->Int:=fun f g i=>if i∈N then f (N.idxOf i) else lo g i
  have p:∀i,i∈N->N[N.idxOf i]?=some i/\(cR b N).aj[N.idxOf i]?=b.aj[i]?:=by
   intro i hi;have z:N[N.idxOf i]?=some i:=by
    rw[List.getElem?_eq_getElem (List.idxOf_lt_length_of_mem hi)];simp
   refine ⟨z,?_⟩;have:=vT o (N.idxOf i);rw[z] at this;exact this
  have hF:∀f g i,i∈N->F f g i=f (N.idxOf i):=fun f g i hi=>if_pos hi;refine ⟨F f fun x=>x.from_.low,F s fun x=>x.aC.low,fun i x a=>?_,fun i j x y a d hi n m hm q r e=>?_⟩
  .by_cases hi:i∈N
   .rw[hF _ _ i hi,hF _ _ i hi];exact hb _ x (((p i hi).2).trans a)
   .have e1:∀f g,F f g i=g x:=fun f g=>by
     show (if i∈N then f (N.idxOf i) else lo g i)=g x;rw[if_neg hi];show (match b.aj[i]? with|some x=>g x|none=>0)=g x;rw[a]
    rw[e1,e1];obtain ⟨⟨a1,I,J,K⟩,c1,c2,c3,c4⟩:=mw h a;omega
  .have t:=(c i (List.getElem?_eq_some_iff.1 a).1).1 hi;have u:=(c j (List.getElem?_eq_some_iff.1 d).1).1 n;have:=ht _ _ x y (((p i t).2).trans a) (((p j u).2).trans d) (Nat.zero_testBit _) (Nat.zero_testBit _) m hm q r e;unfold eu at this ⊢;rw[hF _ _ i t,hF _ _ i t,hF _ _ j u,hF _ _ j u];exact this
 .rintro ⟨f,s,hb,ht⟩;have hg:∀k x,(cR b N).aj[k]?=some x->∃j,N.getD k 0=j/\j∈N/\b.aj[j]?=some x:=by
   intro k x a;obtain ⟨j,n,D⟩:=q4 o a;exact ⟨j,by rw[List.getD_eq_getElem?_getD,n];rfl,List.mem_of_getElem? n,D⟩
  refine ⟨fun k=>f (N.getD k 0),fun k=>s (N.getD k 0),fun k x a=>?_,fun k l x y a d _ _ m hm q r e=>?_⟩
  .obtain ⟨j,e1,_,e2⟩:=hg k x a;simp only;rw[e1];exact hb j x e2
  .obtain ⟨j,e1,n1,e2⟩:=hg k x a;obtain ⟨A,E,G,B⟩:=hg l y d;have:=ht j A x y e2 B ((c j (List.getElem?_eq_some_iff.1 e2).1).2 n1) ((c A (List.getElem?_eq_some_iff.1 B).1).2 G) m hm q r e;unfold eu at this ⊢;simp only;rw[e1,E];exact this
end Go.Proofs.YtcoalekambhghaaGreatDoor
end

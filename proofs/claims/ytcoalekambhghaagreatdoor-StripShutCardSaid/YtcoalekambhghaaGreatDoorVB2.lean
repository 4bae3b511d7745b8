/- A part of the proof: VB2. -/
import Derived.Test.YtcoalekambhghaaGreatDoorQS10
import Derived.Test.YtcoalekambhghaaGreatDoorVB1
set_option linter.all false
section
namespace Go.Proofs.YtcoalekambhghaaGreatDoor
open Go Go.Sep Go.Proofs
set_option maxRecDepth 100000
set_option maxHeartbeats 4000000
def v0 (w:Nat):bg:=⟨⟨0,0,0,0⟩,⟨0,0,0,0⟩,(w:Int)⟩
def wh (b:aH)(v:bg):Bool:=(iy b v).getD false
def vP (b:aH)(w:Nat):List bg:=(gw b.aj 0 (v0 w)).filter (wh b)
theorem AK {b:aH}(h:c8 b){w:Nat}{u:bg}(hu:u∈gw b.aj 0 (v0 w)):u.an=(w:Int)/\g6 b u.ax.at u.az.at:=by
 obtain ⟨c,-,d⟩:=(vj b.aj 0 (v0 w) u (by have:=h.many;omega)).1 hu;refine ⟨c,fun i hi=>?_⟩;have a:b.aj[i]?=some b.aj[i]:=List.getElem?_eq_getElem hi;have:=d i _ a;rw[Nat.zero_add] at this;obtain ⟨⟨a1,e,f,g⟩,c1,c2,c3,c4⟩:=vi h a;omega
theorem GY {b:aH}(h:c8 b){w:Nat}(hw:w<16){u:bg}(hu:u∈gw b.aj 0 (v0 w)):∃r,iy b u=some r/\(r=true↔ve b u.ax.at u.az.at (Nat.testBit w)):=by
 obtain ⟨a,c⟩:=AK h hu;exact zR h c (fun _ _=>rfl) (fun _ _=>rfl) fun i hi=>u9 a hw (by have:=h.many;omega)
theorem AL {b:aH}:∀l:List bg,(∀u∈l,∃r,iy b u=some r)->l.flatMap (leaf b)=(l.filter (wh b)).map some
 |[],_=>rfl
 |u::l,h=>by
  obtain ⟨r,a⟩:=h u aB
  rw[List.flatMap_cons,AL l fun x c=>h x (by simp[c])]
  unfold leaf wh
  rw[a]
  cases r
  .rw[List.filter_cons_of_neg (by simp[a])];rfl
  .rw[List.filter_cons_of_pos (by simp[a])];rfl
theorem GZ {b:aH}(h:c8 b){w:Nat}(hw:w<16):oM b (w:Int)=(vP b w).map some:=by
 rw[Fz h];exact AL _ fun u hu=>(GY h hw hu).imp fun _ x=>x.1
theorem G0:∀(l acc:List bg),acc.length+l.length<=1000000->o5 acc (l.map some)=some (acc++l):=by
 have key:∀(l acc:List bg),acc.length+l.length<=1000000->js mT (l.map some) acc=some (.nx (acc++l)):=by
  intro l
  induction l with
  |nil=>intro acc _;simp[js]
  |cons x l ih=>
   intro acc a;simp only[List.length_cons] at a;rw[List.map_cons];have hb:mT x acc=some (.nx (acc++[x])):=by
    unfold mT;rw[zD _ _ (by simp;omega)];rfl
   unfold js;rw[hb];simp only[ak];rw[ih (acc++[x]) (by simp;omega),List.append_assoc];rfl
 intro l acc a;unfold o5;rw[key l acc a];rfl
def pop (w:Nat):Nat:=((List.range 4).filter (Nat.testBit w)).length
theorem G1:∀w:Nat,w<16->jU (w:Int)=some ((pop w:Nat):Int):=by decide+kernel
theorem G2:∀n:Nat,n<5->jl 1 (n:Int)=some ((2 ^ n:Nat):Int):=by decide+kernel
def ki (b:aH)(k:Nat):List bg:=(List.range k).flatMap fun w=>if ((pop w:Nat):Int)<=b.an then vP b w else []
def cD (b:aH):List bg:=ki b (2 ^ b.aj.length)
theorem AM (b:aH)(k:Nat):ki b (k+1)=ki b k++if ((pop k:Nat):Int)<=b.an then vP b k else []:=by
 unfold ki;rw[List.range_succ,List.flatMap_append,List.flatMap_cons,List.flatMap_nil,List.append_nil]
theorem AN {st:Int}:∀r:List bp,(∀s∈r,Bd st s)->j0 r<=9 ^ r.length
 |[],_=>Nat.le_refl _
 |s::r,h=>by
  have ih:=AN r fun x a=>h x (by simp[a])
  obtain ⟨⟨a1,b,c,d⟩,c1,c2,c3,c4⟩:=h s aB
  have e1:eG s.from_<=3:=by unfold eG;omega
  have e2:eG s.aC<=3:=by unfold eG;omega
  rw[j0,List.length_cons,Nat.pow_succ]
  calc eG s.from_*(eG s.aC*j0 r)<=3*(3*9 ^ r.length):=Nat.mul_le_mul e1 (Nat.mul_le_mul e2 ih)
   _=9 ^ r.length*9:=ai
theorem AO {b:aH}(h:c8 b)(w:Nat):(vP b w).length<=6561:=by
 have a:(vP b w).length<=(gw b.aj 0 (v0 w)).length:=List.length_filter_le _ _;rw[zZ] at a;have c:=AN b.aj fun s hs=>by
  obtain ⟨i,hi,rfl⟩:=List.getElem_of_mem hs;exact vi h (List.getElem?_eq_getElem hi)
 have d:9 ^ b.aj.length<=9 ^ 4:=Nat.pow_le_pow_right ai h.many.2;have:(9:Nat) ^ 4=6561:=ay;omega
theorem wj {b:aH}(h:c8 b):∀k,(ki b k).length<=k*6561
 |0=>by simp[ki]
 |k+1=>by
  have ih:=wj h k
  have a:=AO h k
  rw[AM,List.length_append,Nat.add_mul]
  split
  .omega
  .simp;omega
theorem wm {b:aH}(h:c8 b):2 ^ b.aj.length<=16:=Nat.le_trans (Nat.pow_le_pow_right ai h.many.2) ay
theorem AP {b:aH}(h:c8 b):(cD b).length<=104976:=by
 have c:=wj h (2 ^ b.aj.length);have a:=wm h;have d:2 ^ b.aj.length*6561<=16*6561:=Nat.mul_le_mul_right _ a;unfold cD;omega
theorem G3 {b:aH}(h:c8 b):mV b=some (cD b):=by
 unfold mV;rw[G2 _ (by have:=h.many;omega)];simp only[ak];have c:=wm h;have key:aZ (mU b ((2 ^ b.aj.length:Nat):Int)) fu (([]:List bg),0)=some (cg (b6 (fun _=>none) (2 ^ b.aj.length)) (cD b,((2 ^ b.aj.length:Nat):Int))):=by
  refine eF (fun _=>none) (fun i=>(ki b i,(i:Int))) _ ai (fun i hi=>?_) ?_
  .unfold mU;rw[fG hi,G1 _ ai];simp only[cond,ak];rw[Ff ai,AM];by_cases a:((pop i:Nat):Int)<=b.an
   .rw[decide_eq_true a];simp only[if_pos a];unfold qL;simp only;rw[GZ h ai,G0 _ _ (by have:=wj h i;have:=AO h i;omega)];rfl
   .rw[decide_eq_false a];simp only[if_neg a,List.append_nil];rfl
  .unfold mU;rw[fH];rfl
 rw[key,eE.2 (fun _ _=>rfl)];rfl
theorem wo {b:aH}(h:c8 b)(a:fE b=some 0){f:aH->Option Bool}(c:f b=some true):gP b f=some (if (cD b).length=0 then ((⟨⟨0,0,[]⟩,[]⟩:dF),9) else ((⟨b,cD b⟩:dF),0)):=by
 unfold gP;rw[a];simp only[ak];rw[c,G3 h];simp only;by_cases e:(cD b).length=0
 .rw[if_pos e,e];rfl
 .rw[if_neg e];have:(((cD b).length:Int)==0)=false:=by simp;intro x;exact e (by rw[x];rfl)
  rw[this];rfl
def gR (n len:Nat):Int:=if n=len then 1 else if n=0 then 2 else 0
theorem AQ {x:dF}{p:bg->Bool}{is:bg->Option Bool}(h:∀v∈x.bG,is v=some (p v))(f:x.bG.length<=1000000):kO x is=some (gR (x.bG.countP p) x.bG.length):=by
 have key:∀(l:List bg) (i c:Nat),(∀v∈l,is v=some (p v))->c+l.length<=1000000->bX (l9 is) i l (c:Int)=some (.nx ((c+l.countP p:Nat):Int)):=by
  intro l
  induction l with
  |nil=>intro i c _ _;rfl
  |cons v l ih=>
   intro i c hv d;simp only[List.length_cons] at d;rw[oV];have e1:IntKind.i64.wrap ((c:Int)+1)=((c+1:Nat):Int):=ez ai;have hb:l9 is i v (c:Int)=some (.nx (if p v then ((c+1:Nat):Int) else (c:Int))):=by
    unfold l9;rw[hv v aB,e1];cases p v<;>rfl
   rw[hb];cases b:p v
   .simp only[ak,Bool.false_eq_true,if_false];rw[ih (i+1) c (fun x a=>hv x (by simp[a])) ai,List.countP_cons_of_neg (by simp[b])]
   .simp only[ak,if_true];rw[ih (i+1) (c+1) (fun x a=>hv x (by simp[a])) ai,List.countP_cons_of_pos b,show c+1+l.countP p=c+(l.countP p+1) by omega]
 unfold kO;have:=key x.bG 0 0 h ai;rw[Nat.zero_add] at this;rw[show ((0:Nat):Int)=0 from rfl] at this;rw[this];simp only[ak,aJ];unfold gR;by_cases e:x.bG.countP p=x.bG.length
 .rw[if_pos e,e];simp
 .rw[if_neg e];have:((((x.bG.countP p:Nat):Int))==(x.bG.length:Int))=false:=by simp;omega
  rw[this];by_cases e0:x.bG.countP p=0
  .rw[if_pos e0,e0];rfl
  .rw[if_neg e0];have:((((x.bG.countP p:Nat):Int))==0)=false:=by simp at e0 ⊢;omega
   rw[this];rfl
def pg (b:aH)(v:bg)(w:Nat)(step:Int)(i:Nat):Option Bool:=match b.aj[i]? with
 |none=>none
 |some x=>if !Nat.testBit w i&&decide ((step - v.ax.at i+b.steps) % b.steps<x.wide) then some true else none
def ia (b:aH)(v:bg)(w:Nat)(step:Int):Bool:=(b6 (pg b v w step) b.aj.length).getD false
theorem AR {b:aH}(h:c8 b){v:bg}{w:Nat}(hw:w<16)(hv:v.an=(w:Int))(d:g6 b v.ax.at v.az.at){step:Int}(hs:0<=step/\step<b.steps):ju b v step=some (ia b v w step):=by
 have key:bX (oD b v step) 0 b.aj false=some (cg (b6 (pg b v w step) b.aj.length) false):=by
  refine kX b.aj (pg b v w step) (fun _=>false) fun i x a=>?_;have hi:=(List.getElem?_eq_some_iff.1 a).1;have c:i<4:=by have:=h.many;omega
  have f:=h.steps;have g:=d i hi;unfold oD pg;rw[u9 hv hw c,a];simp only[ak];cases Nat.testBit w i
  .simp only[Bool.not_false,cond_true,Bool.true_and];rw[bh.get_at _ c];simp only[ak];unfold jP;rw[if_neg (show ¬b.steps=0 by omega),wr (show -9223372036854775808<=step - v.ax.at i/\step - v.ax.at i<9223372036854775808 by omega),wr ai,vb ai];simp only;by_cases e:(step - v.ax.at i+b.steps) % b.steps<x.wide
   .rw[decide_eq_true e];rfl
   .rw[decide_eq_false e];rfl
  .rfl
 unfold ju;rw[key];unfold ia;cases j:b6 (pg b v w step) b.aj.length<;>rfl
def rG (b:aH)(v:bg)(w:Nat):Bool:=(List.range b.steps.toNat).all fun (j:Nat)=>ia b v w (j:Int)
theorem G4 {b:aH}(h:c8 b){v:bg}{w:Nat}(hw:w<16)(hv:v.an=(w:Int))(a:g6 b v.ax.at v.az.at):kP b v=some (rG b v w):=by
 have f:=h.steps;have hn:((b.steps.toNat:Nat):Int)=b.steps:=ai;have key:aZ (mb b v) fu (false,0)=some (cg (b6 (fun (j:Nat)=>if ia b v w (j:Int) then none else some false) b.steps.toNat) (false,(b.steps.toNat:Int))):=by
  refine eF _ (fun i=>(false,(i:Int))) b.steps.toNat ai (fun i hi=>?_) ?_
  .unfold mb;rw[decide_eq_true (p:=(i:Int)<b.steps) ai,AR h hw hv a ai];simp only[cond,ak];rw[ez ai];cases ia b v w (i:Int)<;>rfl
  .unfold mb;rw[decide_eq_false (p:=((b.steps.toNat:Nat):Int)<b.steps) ai];rfl
 unfold kP;rw[key];unfold rG;cases e:b6 (fun (j:Nat)=>if ia b v w (j:Int) then (none:Option Bool) else some false) b.steps.toNat with
 |none=>
  have:(List.range b.steps.toNat).all (fun (j:Nat)=>ia b v w (j:Int))=true:=by
   rw[List.all_eq_true];intro j d;have:=eE.1 e j (List.mem_range.1 d);cases c:ia b v w (j:Int)
   .rw[c] at this;simp at this
   .rfl
  rw[this];rfl
 |some r=>
  obtain ⟨j,d,a,_⟩:=gv e;have c:ia b v w (j:Int)=false/\r=false:=by
   cases c:ia b v w (j:Int)
   .rw[c] at a;simp at a;exact ⟨rfl,a⟩
   .rw[c] at a;simp at a
  have:(List.range b.steps.toNat).all (fun (j:Nat)=>ia b v w (j:Int))=false:=by
   rw[List.all_eq_false];exact ⟨j,List.mem_range.2 d,by simp[c.1]⟩
  rw[this,c.2];rfl
theorem AS {b:aH}(h:c8 b){v:bg}(hv:v∈cD b):∃w:Nat,w<16/\w<2 ^ b.aj.length/\((pop w:Nat):Int)<=b.an/\v.an=(w:Int)/\g6 b v.ax.at v.az.at/\v∈vP b w:=by
 unfold cD ki at hv;obtain ⟨w,hw,a⟩:=List.mem_flatMap.1 hv;have:=wm h;have c:=List.mem_range.1 hw;split at a
 .rename_i d;obtain ⟨e,f⟩:=AK h (List.mem_filter.1 a).1;exact ⟨w,ai,c,d,e,f,a⟩
 .cases a
theorem G5 (b:aH):∃g,oU b=some g/\(g=true->kY b/\c8 b/\fE b=some 0/\jw b=some 0):=by
 unfold oU;obtain ⟨g,hg,hs⟩:=zT b;rw[hg];cases g
 .have hb:=hs rfl;obtain ⟨r,e1,e2,e3,_⟩:=qY hb;simp only[ak,Bool.not_false,cond_true];rw[e2];refine ⟨r==0,rfl,fun h=>?_⟩;obtain rfl:r=0:=by simpa using h
  exact ⟨hb,e3.1 rfl,e1,rfl⟩
 .exact ⟨false,rfl,fun h=>by cases h⟩
def wv (v:bg):Nat:=v.an.toNat
theorem AT {v:bg}{w:Nat}(h:v.an=(w:Int)):wv v=w:=by unfold wv;rw[h];rfl
def cv (b:aH)(v:bg)(j:Nat):Bool:=ia b v (wv v) (j:Int)
def cl (b:aH)(v:bg):Bool:=rG b v (wv v)
theorem AU {b:aH}(h:c8 b){v:bg}(hv:v∈cD b){j:Nat}(e:j<b.steps.toNat):ju b v (j:Int)=some (cv b v j):=by
 obtain ⟨w,c,_,_,a,d,_⟩:=AS h hv;have:=AR h c a d (step:=(j:Int)) ai;unfold cv;rw[AT a];exact this
theorem G6 {b:aH}(h:c8 b){v:bg}(hv:v∈cD b):kP b v=some (cl b v):=by
 obtain ⟨w,c,_,_,a,d,_⟩:=AS h hv;unfold cl;rw[AT a];exact G4 h c a d
theorem wq {b:aH}(v:bg):cl b v=true↔∀j,j<b.steps.toNat->cv b v j=true:=by
 unfold cl rG cv;rw[List.all_eq_true];exact ⟨fun h j a=>h j (List.mem_range.2 a),fun h j a=>h j (List.mem_range.1 a)⟩
theorem G7 {b:aH}(h:c8 b)(a:fE b=some 0):k4 b=some (if (cD b).length=0 then (0,9) else (gR ((cD b).countP (cl b)) (cD b).length,0)):=by
 unfold k4;rw[wo h a (f:=gZ) rfl];by_cases e:(cD b).length=0
 .rw[if_pos e,if_pos e];rfl
 .rw[if_neg e,if_neg e];simp only[ak];have:=AP h;rw[AQ (p:=cl b) (fun v hv=>G6 h hv) (by simp only;omega)];rfl
theorem G8 {b:aH}(h:c8 b)(a:fE b=some 0){j:Nat}(c:j<b.steps.toNat):m3 b (j:Int)=some (if (cD b).length=0 then (0,9) else (gR ((cD b).countP fun v=>cv b v j) (cD b).length,0)):=by
 have g:=h.steps;unfold m3;have d:kQ b (j:Int)=some true:=by
  unfold kQ qy;rw[iU,wr ai];unfold bV;rw[decide_eq_true (p:=(0:Int)<=(j:Int)) ai,decide_eq_true (p:=(j:Int)<=b.steps - 1) ai];rfl
 rw[wo h a (f:=fun y0=>kQ y0 (j:Int)) d];by_cases e:(cD b).length=0
 .rw[if_pos e,if_pos e];rfl
 .rw[if_neg e,if_neg e];simp only[ak];have:=AP h;rw[AQ (p:=fun v=>cv b v j) (fun v hv=>by unfold oE;simp only;rw[AU h hv c];rfl) (by simp only;omega)];rfl
def m9 (b:aH)(k:Nat):List Nat:=(List.range k).filter fun j=>!((cD b).any fun v=>cv b v j)
def ei (b:aH)(k:Nat):List Int:=(m9 b k).map fun (j:Nat)=>(j:Int)
theorem G9 (b:aH)(k:Nat):ei b (k+1)=ei b k++if (cD b).any (fun v=>cv b v k) then [] else [(k:Int)]:=by
 unfold ei m9;rw[List.range_succ,List.filter_append,List.map_append];congr 1;cases h:(cD b).any (fun v=>cv b v k)
 .rw[List.filter_cons_of_pos (by simp[h])];rfl
 .rw[List.filter_cons_of_neg (by simp[h])];rfl
theorem wu (b:aH)(k:Nat):(ei b k).length<=k:=by
 unfold ei m9;rw[List.length_map];exact Nat.le_trans (List.length_filter_le _ _) aB
theorem AV (b:aH)(k j:Nat):(j:Int)∈ei b k↔j<k/\∀v∈cD b,cv b v j=false:=by
 unfold ei m9;rw[List.mem_map];constructor
 .rintro ⟨i,hi,e⟩;obtain rfl:i=j:=ai;obtain ⟨c,a⟩:=List.mem_filter.1 hi;refine ⟨List.mem_range.1 c,fun v hv=>?_⟩;cases d:cv b v i
  .rfl
  .have:(cD b).any (fun v=>cv b v i)=true:=List.any_eq_true.2 ⟨v,hv,d⟩;rw[this] at a;cases a
 .rintro ⟨c,a⟩;refine ⟨j,List.mem_filter.2 ⟨List.mem_range.2 c,?_⟩,rfl⟩;have:(cD b).any (fun v=>cv b v j)=false:=by
   rw[List.any_eq_false];intro v hv;rw[a v hv];simp
  rw[this];rfl
theorem AW (b:aH)(k:Nat):gQ (ei b k) (k:Int)=0:=by
 rw[we];constructor
 .unfold ei m9;rw[List.pairwise_map];exact (List.Pairwise.filter _ List.pairwise_lt_range).imp fun h=>ai
 .intro x a;unfold ei m9 at a;obtain ⟨i,hi,rfl⟩:=List.mem_map.1 a;have:=List.mem_range.1 (List.mem_filter.1 hi).1;omega
theorem AX {b:aH}{a:dF×Int}(c:a.1.round=b)(j:Nat):∀(l:List bg) (i:Nat),(∀v∈l,ju b v (j:Int)=some (cv b v j))->bX (mY a (j:Int)) i l ()=some (if l.any (fun v=>cv b v j) then .br 1 () else .nx ())
 |[],i,_=>rfl
 |v::l,i,h=>by
  rw[oV]
  have hb:mY a (j:Int) i v ()=some (if cv b v j then .br 1 () else .nx ()):=by
   unfold mY
   rw[c,h v aB]
   cases cv b v j<;>rfl
  rw[hb]
  cases d:cv b v j
  .simp only[ak,Bool.false_eq_true,if_false]
   rw[AX c j l (i+1) fun u hu=>h u (by simp[hu])]
   simp[List.any_cons,d]
  .simp[List.any_cons,d,ak]
theorem He {b:aH}(h:c8 b)(a:fE b=some 0):m0 b=some (if (cD b).length=0 then ([],9) else (ei b b.steps.toNat,0)):=by
 have c:=h.steps;unfold m0;rw[wo h a (f:=gZ) rfl];by_cases e:(cD b).length=0
 .rw[if_pos e,if_pos e];rfl
 .rw[if_neg e,if_neg e];simp only[ak];have key:aZ (mZ b ((⟨b,cD b⟩:dF),0)) fu (([]:List Int),0)=some (cg (b6 (fun _=>(none:Option ((List Int)×Int))) b.steps.toNat) (ei b b.steps.toNat,(b.steps.toNat:Int))):=by
   refine eF _ (fun i=>(ei b i,(i:Int))) b.steps.toNat ai (fun i hi=>?_) ?_
   .unfold mZ;rw[decide_eq_true (p:=(i:Int)<b.steps) ai];simp only[cond];rw[AX (b:=b) rfl i (cD b) 0 fun v hv=>AU h hv hi,G9,ez ai];have:=wu b i;cases (cD b).any (fun v=>cv b v i)
    .simp only[ak,aJ,Bool.false_eq_true,if_false];rw[zD _ _ (by simp;omega)];rfl
    .simp only[ak,aJ,if_true,List.append_nil];rfl
   .unfold mZ;rw[decide_eq_false (p:=((b.steps.toNat:Nat):Int)<b.steps) ai];rfl
  rw[key,eE.2 (fun _ _=>rfl)];rfl
theorem AY {n len:Nat}(h:n<=len)(b:len≠0):(gR n len=1↔n=len)/\(gR n len=2↔n=0):=by
 unfold gR;by_cases a:n=len
 .rw[if_pos a];exact ⟨⟨fun _=>a,fun _=>rfl⟩,⟨fun x=>(by cases x),fun x=>ai⟩⟩
 .rw[if_neg a];by_cases c:n=0
  .rw[if_pos c];exact ⟨⟨fun x=>(by cases x),fun x=>absurd x a⟩,⟨fun _=>c,fun _=>rfl⟩⟩
  .rw[if_neg c];exact ⟨⟨fun x=>(by cases x),fun x=>absurd x a⟩,⟨fun x=>(by cases x),fun x=>absurd x c⟩⟩
end Go.Proofs.YtcoalekambhghaaGreatDoor
end

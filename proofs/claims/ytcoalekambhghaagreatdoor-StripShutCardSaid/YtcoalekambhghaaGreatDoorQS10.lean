/- A part of the proof: QS10. -/
import Derived.Test.YtcoalekambhghaaGreatDoorQS9
set_option linter.all false
section
namespace Go.Proofs.YtcoalekambhghaaGreatDoor
open Go Go.Sep Go.Proofs
set_option maxRecDepth 100000
set_option maxHeartbeats 4000000
theorem m8 {p:Nat->Bool}{N:Nat}:b6 (fun i=>if p i then none else some false) N=if (List.range N).all p then none else some false:=by
 cases h:b6 (fun i=>if p i then none else some false) N with
 |none=>
  rw[if_pos];rw[List.all_eq_true];intro i hi;have:=eE.1 h i (List.mem_range.1 hi);cases b:p i with
  |true=>rfl
  |false=>rw[b] at this;cases this
 |some r=>
  obtain ⟨i,hi,a,-⟩:=gv h;rw[if_neg]
  .split at a
   .cases a
   .exact a.symm
  .intro c;rw[List.all_eq_true.1 c i (List.mem_range.2 hi)] at a;cases a
theorem AD (l:List Int)(n:Int)(b:l.length<=1000000):kW l n=some (decide (n∈l)):=by
 unfold kW;have key:aZ (mH l n) fu (false,0)=some (cg (b6 (fun i=>match l[i]? with|none=>none|some x=>if x==n then some true else none) l.length) (false,(l.length:Int))):=by
  refine eF _ (fun i=>(false,(i:Int))) l.length b (fun i hi=>?_) ?_
  .unfold mH;simp only[fG hi,cond_true,eP,List.getElem?_eq_getElem hi,ak,ez (show i<=1000000 by omega)];cases l[i]==n<;>rfl
  .unfold mH;simp only[fH,cond_false]
 rw[key];cases h:b6 (fun i=>match l[i]? with|none=>none|some x=>if x==n then some true else none) l.length with
 |some r=>
  obtain ⟨i,hi,a,-⟩:=gv h;simp only[List.getElem?_eq_getElem hi] at a;split at a
  .rename_i hn;cases a;have:n∈l:=by rw[<-LawfulBEq.eq_of_beq hn];exact List.getElem_mem hi
   simp[ak,cg,aJ,this]
  .cases a
 |none=>
  have:n∉l:=fun hn=>by
   obtain ⟨i,hi,rfl⟩:=List.getElem_of_mem hn;have:=eE.1 h i hi;simp only[List.getElem?_eq_getElem hi,beq_self_eq_true,if_true] at this;cases this
  simp[ak,cg,aJ,this]
theorem v9 {b:aH}(h:c8 b){st:b7}{f s:Nat->Int}{i j:Nat}{x:bp}{m:bu}(a:b.aj[i]?=some x)(hm:x.marks[j]?=some m)(c:st.ax[i]?=some (f i))(hs:st.az[i]?=some (s i))(d:g6 b f s):kV b st (i:Int) (j:Int)=some (dQ b f s i m):=by
 have hi:=(List.getElem?_eq_some_iff.1 a).1;obtain ⟨⟨c1,c2⟩,c3,c4⟩:=zK h a (List.mem_of_getElem? hm);obtain ⟨⟨w1,w2⟩,-,-⟩:=mL h a;obtain ⟨⟨f1,f2⟩,s1,s2⟩:=d i hi;have e:=h.steps;unfold kV jP;simp only[eP,a,hm,c,hs,ak];rw[wr (show -9223372036854775808<=f i+m.dN/\f i+m.dN<9223372036854775808 by omega),if_neg (show ¬b.steps=0 by omega),vb ai,wr (show -9223372036854775808<=s i+m.row/\s i+m.row<9223372036854775808 by omega),Int.add_comm (s i)];rfl
def k7 (b:aH)(f s:Nat->Int)(i k:Nat)(x y:bp):Bool:=x.marks.all fun m=>y.marks.all fun a=>!(m.bH==a.bH)||decide (dQ b f s i m=dQ b f s k a)
theorem AE {α:Type}(l:List α)(p:α->Bool)(q:Nat->Bool)(h:∀i x,l[i]?=some x->q i=p x):(List.range l.length).all q=l.all p:=by
 rw[Bool.eq_iff_iff,List.all_eq_true,List.all_eq_true];constructor
 .intro a x b;obtain ⟨i,hi,rfl⟩:=List.getElem_of_mem b;rw[<-h i _ (List.getElem?_eq_getElem hi)];exact a i (List.mem_range.2 hi)
 .intro a i hi;have hi:=List.mem_range.1 hi;rw[h i _ (List.getElem?_eq_getElem hi)];exact a _ (List.getElem_mem hi)
theorem GL {b:aH}(h:c8 b){st:b7}{f s:Nat->Int}(p:g6 b f s)(q:∀i,i<b.aj.length->st.ax[i]?=some (f i))(hs:∀i,i<b.aj.length->st.az[i]?=some (s i)){i k:Nat}{x y:bp}(g:b.aj[i]?=some x)(j:b.aj[k]?=some y):
  oR b st (i:Int) (k:Int)=some (k7 b f s i k x y):=by
 have hi:=(List.getElem?_eq_some_iff.1 g).1
 have r:=(List.getElem?_eq_some_iff.1 j).1
 have v:=(mL h g).2.1
 have w:=(mL h j).2.1
 unfold oR
 let d:Nat->Nat->Bool:=fun a c=>match x.marks[a]?,y.marks[c]? with
  |some m,some o=>!(m.bH==o.bH)||decide (dQ b f s i m=dQ b f s k o)
  |_,_=>true
 have inner:∀(a:Nat) (m:bu),x.marks[a]?=some m->∀l,aZ (mF b st (i:Int) (k:Int) (a:Int) x) fu (l,0)=some (cg (if (List.range y.marks.length).all (d a) then none else some false) (l,(y.marks.length:Int))):=by
  intro a m hm l
  rw[<-m8]
  refine eF _ (fun c=>(l,(c:Int))) y.marks.length ai (fun c t=>?_) ?_
  .have n:y.marks[c]?=some y.marks[c]:=List.getElem?_eq_getElem t
   have e1:=v9 h g hm (q i hi) (hs i hi) p
   have e2:=v9 h j n (q k r) (hs k r) p
   unfold mF
   simp only[eP,j,ak,fG t,cond_true,hm,n,e1,e2,zN,ez (show c<=1000000 by omega),d]
   cases hw:m.bH==y.marks[c].bH with
   |false=>rfl
   |true=>cases z:decide (dQ b f s i m=dQ b f s k y.marks[c])<;>rfl
  .unfold mF
   simp only[eP,j,ak,fH,cond_false]
 have outer:aZ (mG b st (i:Int) (k:Int)) fu (false,0)=some (cg (if (List.range x.marks.length).all (fun a=>(List.range y.marks.length).all (d a)) then none else some false) (false,(x.marks.length:Int))):=by
  rw[<-m8]
  refine eF _ (fun a=>(false,(a:Int))) x.marks.length ai (fun a u=>?_) ?_
  .have hm:x.marks[a]?=some x.marks[a]:=List.getElem?_eq_getElem u
   unfold mG
   simp only[eP,g,ak,fG u,cond_true,inner a _ hm,ez (show a<=1000000 by omega)]
   cases (List.range y.marks.length).all (d a)<;>rfl
  .unfold mG
   simp only[eP,g,ak,fH,cond_false]
 rw[outer]
 have e:(List.range x.marks.length).all (fun a=>(List.range y.marks.length).all (d a))=k7 b f s i k x y:=by
  unfold k7
  refine AE x.marks _ _ fun a m hm=>?_
  refine AE y.marks _ _ fun c o n=>?_
  simp only[d,hm,n]
 rw[e]
 cases k7 b f s i k x y<;>rfl
theorem GM {b:aH}(h:c8 b){st:b7}{f s:Nat->Int}{W:Nat->Bool}{but:List Int}(F:g6 b f s)(G:∀i,i<b.aj.length->st.ax[i]?=some (f i))(hs:∀i,i<b.aj.length->st.az[i]?=some (s i))(H:but.length<=1000000)(hw:∀i,i<b.aj.length->decide ((i:Int)∈but)=W i):
  ∃r,oS b st but=some r/\(r=true↔ve b f s W):=by
 unfold oS
 let q:Nat->Nat->Bool:=fun i k=>match b.aj[i]?,b.aj[k]? with
  |some x,some y=>W i||(W k||k7 b f s i k x y)
  |_,_=>true
 have hn:=h.many
 have inner:∀(i:Nat) (x:bp),b.aj[i]?=some x->∀t,aZ (mI b st but (i:Int)) fu (t,0)=some (cg (if (List.range i).all (q i) then none else some false) (t,(i:Int))):=by
  intro i x d t
  have hi:=(List.getElem?_eq_some_iff.1 d).1
  rw[<-m8]
  refine eF _ (fun k=>(t,(k:Int))) i ai (fun k u=>?_) ?_
  .have v:k<b.aj.length:=ai
   have g:b.aj[k]?=some b.aj[k]:=List.getElem?_eq_getElem v
   unfold mI
   simp only[fG u,cond_true,AD but _ H,ak,hw i hi,hw k v,GL h F G hs d g,ez (show k<=1000000 by omega),q,d,g]
   cases W i<;>try rfl
   cases W k<;>try rfl
   cases k7 b f s i k x b.aj[k]<;>rfl
  .unfold mI
   simp only[fH,cond_false]
 have outer:aZ (mJ b st but) fu (false,0)=some (cg (if (List.range b.aj.length).all (fun i=>(List.range i).all (q i)) then none else some false) (false,(b.aj.length:Int))):=by
  rw[<-m8]
  refine eF _ (fun a=>(false,(a:Int))) b.aj.length ai (fun a p=>?_) ?_
  .unfold mJ
   simp only[fG p,cond_true,inner a _ (List.getElem?_eq_getElem p),ak,ez (show a<=1000000 by omega)]
   cases (List.range a).all (q a)<;>rfl
  .unfold mJ
   simp only[fH,cond_false]
 rw[outer]
 refine ⟨(List.range b.aj.length).all (fun i=>(List.range i).all (q i)),?_,?_⟩
 .cases (List.range b.aj.length).all (fun i=>(List.range i).all (q i))<;>rfl
 .rw[List.all_eq_true]
  have w:∀i k x y,b.aj[i]?=some x->b.aj[k]?=some y->(q i k=true↔(W i=false->W k=false->∀m∈x.marks,∀l∈y.marks,m.bH=l.bH->dQ b f s i m=dQ b f s k l)):=by
   intro i k x y d g
   simp only[q,d,g]
   cases W i<;>cases W k<;>simp[k7]
   constructor
   .intro n m hm l o e
    exact (n m hm l o).resolve_left fun I=>I e
   .intro n m hm l o
    by_cases e:m.bH=l.bH
    .exact .inr (n m hm l o e)
    .exact .inl e
  constructor
  .intro C i j x y d g hi D
   have z:=(List.getElem?_eq_some_iff.1 d).1
   have J:=(List.getElem?_eq_some_iff.1 g).1
   rcases Nat.lt_trichotomy j i with A|rfl|A
   .exact (w i j x y d g).1 (List.all_eq_true.1 (C i (List.mem_range.2 z)) j (List.mem_range.2 A)) hi D
   .intro m hm l o e
    obtain rfl:x=y:=Option.some.inj (d.symm.trans g)
    have B:=(mL h d).2.2
    have:m=l:=by
     rw[List.nodup_iff_pairwise_ne,List.pairwise_map] at B
     obtain ⟨a,p,rfl⟩:=List.getElem_of_mem hm
     obtain ⟨c,E,rfl⟩:=List.getElem_of_mem o
     rcases Nat.lt_trichotomy a c with n|rfl|n
     .exact absurd e (List.pairwise_iff_getElem.1 B a c p E n)
     .rfl
     .exact absurd e.symm (List.pairwise_iff_getElem.1 B c a E p n)
    rw[this]
   .intro m hm l o e
    exact ((w j i y x g d).1 (List.all_eq_true.1 (C j (List.mem_range.2 J)) i (List.mem_range.2 A)) D hi l o m hm e.symm).symm
  .intro ht i hi
   rw[List.all_eq_true]
   intro k u
   have z:=List.mem_range.1 hi
   have v:=List.mem_range.1 u
   have d:=List.getElem?_eq_getElem z
   have g:=List.getElem?_eq_getElem (show k<b.aj.length by omega)
   exact (w i k _ _ d g).2 fun n K=>ht i k _ _ d g n K
def gA (l:List Int)(n:Int)(i:Nat):Option Int:=match l[i]? with
 |none=>none
 |some x=>if bV x 0 (n - 1)=false then some 6 else if 0<i/\x<=l.getD (i - 1) 0 then some 7 else none
def gQ (l:List Int)(n:Int):Int:=(b6 (gA l n) l.length).getD 0
theorem AF {l:List Int}{n:Int}(b:l.length<=1000000)(hn:0<=n/\n<=1000000):jZ l n=some (gQ l n):=by
 unfold jZ;have key:aZ (mC l n) fu (0,0)=some (cg (b6 (gA l n) l.length) ((0:Int),(l.length:Int))):=by
  refine eF (gA l n) (fun i=>((0:Int),(i:Int))) l.length b (fun i hi=>?_) ?_
  .have c:=List.getElem?_eq_getElem hi;unfold mC gA;simp only[fG hi,cond_true,eP,c,ak,jx,wr (show -9223372036854775808<=n - 1/\n - 1<9223372036854775808 by omega),ez (show i<=1000000 by omega)];cases bV l[i] 0 (n - 1) with
   |false=>rfl
   |true=>
    simp only[Bool.not_true,cond_false,Bool.true_eq_false,if_false];cases i with
    |zero=>rfl
    |succ i=>
     have e1:IntKind.i64.wrap (((i+1:Nat):Int) - 1)=(i:Int):=by rw[wr ai];omega
     have a:i<l.length:=ai;have e2:l.getD i 0=l[i]:=by simp[List.getD,a]
     simp only[decide_eq_true (show (0:Int)<((i+1:Nat):Int) by omega),cond_true,e1,eP,List.getElem?_eq_getElem a,Nat.add_sub_cancel,e2];by_cases h:l[i+1]<=l[i]
     .rw[decide_eq_true h,if_pos ⟨ai,h⟩];rfl
     .rw[decide_eq_false h,if_neg fun h'=>h h'.2];rfl
  .unfold mC;simp only[fH,cond_false]
 rw[key];unfold gQ;cases b6 (gA l n) l.length<;>rfl
theorem GN {l:List Int}{n:Int}(hn:0<=n/\n<=1000000):ov l n=some (gQ l n):=by
 unfold ov;have key:bX (ou n) 0 l (0,-1)=some (cg (b6 (gA l n) l.length) ((0:Int),if l.length=0 then -1 else l.getD (l.length - 1) 0)):=by
  refine kX l (gA l n) (fun i=>((0:Int),if i=0 then -1 else l.getD (i - 1) 0)) fun i x a=>?_;have hi:=(List.getElem?_eq_some_iff.1 a).1;unfold ou gA;simp only[a,iU,ak,wr (show -9223372036854775808<=n - 1/\n - 1<9223372036854775808 by omega)];cases hb:bV x 0 (n - 1) with
  |false=>rfl
  |true=>
   have c:0<=x:=by unfold bV at hb;simp at hb;omega
   have e3:l.getD i 0=x:=by simp[List.getD,a]
   simp only[Bool.not_true,cond_false,Bool.true_eq_false,if_false,Nat.succ_ne_zero,Nat.add_sub_cancel,e3];by_cases b:i=0
   .subst b;rw[if_pos rfl,decide_eq_false (show ¬x<= -1 by omega),if_neg ai];rfl
   .rw[if_neg b];by_cases h:x<=l.getD (i - 1) 0
    .rw[decide_eq_true h,if_pos ⟨ai,h⟩];rfl
    .rw[decide_eq_false h,if_neg fun h'=>h h'.2];rfl
 rw[key];unfold gQ;cases b6 (gA l n) l.length<;>rfl
theorem we {l:List Int}{n:Int}:gQ l n=0↔l.Pairwise (· <·)/\∀x∈l,0<=x/\x<n:=by
 have m:gQ l n=0↔∀i,i<l.length->gA l n i=none:=by
  unfold gQ;cases h:b6 (gA l n) l.length with
  |none=>exact ⟨fun _=>eE.1 h,fun _=>rfl⟩
  |some r=>
   obtain ⟨i,hi,a,-⟩:=gv h;constructor
   .intro e;exfalso;unfold gA at a;rw[List.getElem?_eq_getElem hi] at a;simp only[Option.getD_some] at a e;subst e
    repeat' split at a
    all_goals cases a
   .intro d;rw[d i hi] at a;cases a
 rw[m];constructor
 .intro d;have hb:∀i (hi:i<l.length),(0<=l[i]/\l[i]<n)/\(0<i->l.getD (i - 1) 0<l[i]):=by
   intro i hi;have:=d i hi;unfold gA at this;rw[List.getElem?_eq_getElem hi] at this;simp only at this;split at this
   .cases this
   rename_i a;split at this
   .cases this
   rename_i b;unfold bV at a;simp at a
   exact ⟨ai,fun c=>by
    by_cases f:l[i]<=l.getD (i - 1) 0
    .exact absurd ⟨c,f⟩ b
    .omega⟩
  refine ⟨?_,fun x o=>?_⟩
  .refine List.pairwise_iff_getElem.2 fun i j hi g p=>?_;obtain ⟨k,rfl⟩:∃k,j=i+1+k:=⟨j - (i+1),ai⟩
   clear p
   induction k with
   |zero=>
    have:=(hb (i+1) g).2 ai;simpa [List.getD,hi] using this
   |succ k ih=>
    have a:=ih ai;have b:=(hb (i+1+(k+1)) g).2 ai;have c:l.getD (i+1+(k+1) - 1) 0=l[i+1+k]'ai:=by
     rw[show i+1+(k+1) - 1=i+1+k by omega];simp[List.getD,show i+1+k<l.length by omega]
    rw[c] at b;omega
  .obtain ⟨i,hi,rfl⟩:=List.getElem_of_mem o;exact (hb i hi).1
 .rintro ⟨a,b⟩ i hi;unfold gA;rw[List.getElem?_eq_getElem hi];simp only;have c:=b _ (List.getElem_mem hi);rw[if_neg (by unfold bV;simp;omega),if_neg];rintro ⟨f,q⟩;have:=List.pairwise_iff_getElem.1 a (i - 1) i ai hi ai;simp[List.getD,show i - 1<l.length by omega] at q;omega
def k8 (a b b2 b3:Bool):List Int:=(if a then [0] else [])++(if b then [1] else [])++(if b2 then [2] else [])++(if b3 then [3] else [])
def rD (a b b2 b3:Bool):Nat:=(if a then 1 else 0)+(if b then 2 else 0)+(if b2 then 4 else 0)+(if b3 then 8 else 0)
theorem GO {l:List Int}(e:l.Pairwise (· <·))(j:∀x∈l,0<=x/\x<4):l=k8 (decide ((0:Int)∈l)) (decide ((1:Int)∈l)) (decide ((2:Int)∈l)) (decide ((3:Int)∈l)):=by
 have f:∀c d b2 b3,(k8 c d b2 b3).Pairwise (· <·):=ay;have hm:∀c d b2 b3:Bool,∀x:Int,x∈k8 c d b2 b3↔(c=true/\x=0)\/(d=true/\x=1)\/(b2=true/\x=2)\/(b3=true/\x=3):=by
  intro c d b2 b3 x;cases c<;>cases d<;>cases b2<;>cases b3<;>simp[k8]
 have g:∀{m:List Int},m.Pairwise (· <·)->m.Nodup:=fun k=>k.imp fun h=>ai;refine List.Perm.eq_of_pairwise (le:=(· <·)) (fun a b _ _ n o=>ai) e (f _ _ _ _) ((List.perm_ext_iff_of_nodup (g e) (g (f _ _ _ _))).2 fun x=>?_);rw[hm];simp only[decide_eq_true_eq];constructor
 .intro i;have:=j x i;have:x=0\/x=1\/x=2\/x=3:=ai;rcases this with rfl|rfl|rfl|rfl<;>simp[i]
 .rintro (⟨h,rfl⟩|⟨h,rfl⟩|⟨h,rfl⟩|⟨h,rfl⟩)<;>exact h
theorem GP:∀a b b2 b3:Bool,ow (k8 a b b2 b3)=some ((rD a b b2 b3:Nat):Int)/\jU ((rD a b b2 b3:Nat):Int)=some ((k8 a b b2 b3).length:Int)/\rD a b b2 b3<16/\∀i,i<4->Nat.testBit (rD a b b2 b3) i=decide ((i:Int)∈k8 a b b2 b3):=by decide+kernel
theorem GQ {l:List Int}(c:l.Pairwise (· <·))(d:∀x∈l,0<=x/\x<4):∃w:Nat,ow l=some (w:Int)/\jU (w:Int)=some (l.length:Int)/\w<16/\∀i,i<4->Nat.testBit w i=decide ((i:Int)∈l):=by
 have e:=GO c d;obtain ⟨k1,a,f,b⟩:=GP (decide ((0:Int)∈l)) (decide ((1:Int)∈l)) (decide ((2:Int)∈l)) (decide ((3:Int)∈l));rw[<-e] at k1 a b;exact ⟨_,k1,a,f,b⟩
theorem GR (l:List Int)(p:Int->Bool):m4 l (fun y=>some (p y))=some (l.any p):=by
 unfold m4 rm;have key:bX (o7 fun y=>some (p y)) 0 l 0=some (cg (b6 (fun i=>match l[i]? with|none=>none|some m=>if p m then some (i:Int) else none) l.length) 0):=by
  refine kX l _ (fun _=>0) fun i x b=>?_;unfold o7;simp only[ak,b];cases p x<;>rfl
 rw[key];cases h:b6 (fun i=>match l[i]? with|none=>none|some m=>if p m then some (i:Int) else none) l.length with
 |some r=>
  obtain ⟨i,hi,a,-⟩:=gv h;simp only[List.getElem?_eq_getElem hi] at a;split at a
  .rename_i hw;cases a;simp only[ak,cg,aJ];have e:l.any p=true:=List.any_eq_true.2 ⟨l[i],List.getElem_mem hi,hw⟩;rw[e];simp
  .cases a
 |none=>
  simp only[ak,cg,aJ];have e:l.any p=false:=by
   rw[List.any_eq_false];intro x b hw;obtain ⟨i,hi,rfl⟩:=List.getElem_of_mem b;have:=eE.1 h i hi;simp only[List.getElem?_eq_getElem hi,hw,if_true] at this;cases this
  rw[e];rfl
theorem GU (lo hi:Int):o6 lo hi=some fun y=>some (!bV y lo hi):=by
 unfold o6 oC;simp only[iU,ak]
def fQ (b:aH)(t:b7):Int:=
 if t.ax.length≠b.aj.length\/t.az.length≠b.aj.length then 2
 else if (t.ax.any fun y=>!bV y 0 (b.steps - 1))=true\/(t.az.any fun y=>!bV y (-3) 3)=true then 1
 else gQ t.an (b.aj.length:Int)
theorem AG {b:aH}{t:b7}(h:fQ b t=0):t.ax.length=b.aj.length/\t.az.length=b.aj.length/\g6 b (fun i=>t.ax.getD i 0) (fun i=>t.az.getD i 0)/\gQ t.an (b.aj.length:Int)=0:=by
 unfold fQ at h;split at h
 .cases h
 rename_i c;split at h
 .cases h
 rename_i a;have e1:t.ax.length=b.aj.length:=ai;have e2:t.az.length=b.aj.length:=ai;refine ⟨e1,e2,fun i hi=>?_,h⟩;simp only[not_or,Bool.not_eq_true,List.any_eq_false] at a;have f1:=a.1 (t.ax[i]'ai) (List.getElem_mem _);have f2:=a.2 (t.az[i]'ai) (List.getElem_mem _);unfold bV at f1 f2;simp at f1 f2;simp[List.getD,show i<t.ax.length by omega,show i<t.az.length by omega];omega
theorem AH {b:aH}(h:c8 b)(t:b7)(hw:t.an.length<=1000000):mE b t=some (fQ b t):=by
 have hn:=h.many;have o:=h.steps;unfold mE fQ;by_cases e1:t.ax.length=b.aj.length
 case neg=>rw[show ((t.ax.length:Int) != (b.aj.length:Int))=true by simp;omega,if_pos (.inl e1)];rfl
 by_cases e2:t.az.length=b.aj.length
 case neg=>rw[show ((t.ax.length:Int) != (b.aj.length:Int))=false by simp;omega,show ((t.az.length:Int) != (b.aj.length:Int))=true by simp;omega,if_pos (.inr e2)];rfl
 rw[show ((t.ax.length:Int) != (b.aj.length:Int))=false by simp;omega,show ((t.az.length:Int) != (b.aj.length:Int))=false by simp;omega,if_neg ai]
 let q:Nat->Bool:=fun i=>bV (t.ax.getD i 0) 0 (b.steps - 1)&&bV (t.az.getD i 0) (-3) 3
 have key:aZ (mD b t) fu (0,0)=some (cg (if (List.range b.aj.length).all q then none else some 1) ((0:Int),(b.aj.length:Int))):=by
  have l:b6 (fun i=>if q i then none else some (1:Int)) b.aj.length=if (List.range b.aj.length).all q then none else some 1:=by
   have:=m8 (p:=q) (N:=b.aj.length);cases d:(List.range b.aj.length).all q with
   |true=>
    rw[if_pos rfl];exact eE.2 fun i hi=>by rw[List.all_eq_true.1 d i (List.mem_range.2 hi)];rfl
   |false=>
    simp only[Bool.false_eq_true,if_false];cases j:b6 (fun i=>if q i then none else some (1:Int)) b.aj.length with
    |none=>
     rw[List.all_eq_false] at d;obtain ⟨i,hi,e⟩:=d;have:=eE.1 j i (List.mem_range.1 hi);rw[if_neg e] at this;cases this
    |some r=>
     obtain ⟨i,hi,f,-⟩:=gv j;split at f
     .cases f
     .exact f.symm
  rw[<-l];refine eF _ (fun i=>((0:Int),(i:Int))) b.aj.length ai (fun i hi=>?_) ?_
  .have f1:t.ax[i]?=some (t.ax.getD i 0):=by simp[List.getD,show i<t.ax.length by omega]
   have f2:t.az[i]?=some (t.az.getD i 0):=by simp[List.getD,show i<t.az.length by omega]
   unfold mD;simp only[fG hi,cond_true,eP,f1,f2,ak,jx,wr (show -9223372036854775808<=b.steps - 1/\b.steps - 1<9223372036854775808 by omega),ez (show i<=1000000 by omega),q];by_cases a:bV (t.ax.getD i 0) 0 (b.steps - 1)=true
   .by_cases c:bV (t.az.getD i 0) (-3) 3=true
    .simp only[a,c,Bool.not_true,cond_false,Bool.and_self,if_true,cg]
    .rw[Bool.not_eq_true] at c;simp only[a,c,Bool.not_true,Bool.not_false,cond_false,cond_true,Bool.and_false,Bool.false_eq_true,if_false,cg]
   .rw[Bool.not_eq_true] at a;simp only[a,Bool.not_false,cond_true,Bool.false_and,Bool.false_eq_true,if_false,cg]
  .unfold mD;simp only[fH,cond_false]
 rw[key];have e:(List.range b.aj.length).all q=!((t.ax.any fun y=>!bV y 0 (b.steps - 1))||(t.az.any fun y=>!bV y (-3) 3)):=by
  rw[Bool.eq_iff_iff];simp only[Bool.not_eq_true',Bool.or_eq_false_iff,List.all_eq_true,List.any_eq_false,List.mem_range,Bool.not_eq_true,Bool.not_eq_false',q,Bool.and_eq_true];constructor
  .intro k;refine ⟨fun x g=>?_,fun x g=>?_⟩
   .obtain ⟨i,hi,rfl⟩:=List.getElem_of_mem g;have:=(k i ai).1;simpa [List.getD,hi] using this
   .obtain ⟨i,hi,rfl⟩:=List.getElem_of_mem g;have:=(k i ai).2;simpa [List.getD,hi] using this
  .rintro ⟨m,n⟩ i hi;have a:=m (t.ax[i]'ai) (List.getElem_mem _);have c:=n (t.az[i]'ai) (List.getElem_mem _);simp[List.getD,show i<t.ax.length by omega,show i<t.az.length by omega,a,c]
 rw[e];cases s:(t.ax.any fun y=>!bV y 0 (b.steps - 1)) with
 |true=>simp only[Bool.true_or,Bool.not_true,Bool.false_eq_true,if_false,true_or,if_true];rfl
 |false=>
  cases hb:(t.az.any fun y=>!bV y (-3) 3) with
  |true=>simp only[Bool.or_true,Bool.not_true,Bool.false_eq_true,if_false,or_true,if_true];rfl
  |false=>
   simp only[Bool.or_self,Bool.not_false,if_true,Bool.false_eq_true,or_self,if_false,ak,cg,aJ,cond_false,AF hw (show 0<=(b.aj.length:Int)/\(b.aj.length:Int)<=1000000 by omega)]
def dL (t:b7)(w:Nat):bg:=⟨⟨t.ax.getD 0 0,t.ax.getD 1 0,t.ax.getD 2 0,t.ax.getD 3 0⟩,⟨t.az.getD 0 0,t.az.getD 1 0,t.az.getD 2 0,t.az.getD 3 0⟩,(w:Int)⟩
theorem AI {b:aH}(h:c8 b)(t:b7):∃v,m5 b t=some (v,fQ b t)/\(fQ b t=0->∃w:Nat,v=dL t w/\jU (w:Int)=some (t.an.length:Int)/\w<16/\∀i,i<4->Nat.testBit w i=decide ((i:Int)∈t.an)):=by
 have hn:=h.many;have k:=h.steps;unfold m5;by_cases e1:t.ax.length=b.aj.length
 case neg=>
  have e0:fQ b t=2:=by unfold fQ;rw[if_pos (.inl e1)]
  rw[show ((t.ax.length:Int) != (b.aj.length:Int))=true by simp;omega,e0];exact ⟨_,rfl,fun h=>by cases h⟩
 by_cases e2:t.az.length=b.aj.length
 case neg=>
  have e0:fQ b t=2:=by unfold fQ;rw[if_pos (.inr e2)]
  rw[show ((t.ax.length:Int) != (b.aj.length:Int))=false by simp;omega,show ((t.az.length:Int) != (b.aj.length:Int))=true by simp;omega,e0];exact ⟨_,rfl,fun h=>by cases h⟩
 rw[show ((t.ax.length:Int) != (b.aj.length:Int))=false by simp;omega,show ((t.az.length:Int) != (b.aj.length:Int))=false by simp;omega];have e0:fQ b t=if (t.ax.any fun y=>!bV y 0 (b.steps - 1))=true\/(t.az.any fun y=>!bV y (-3) 3)=true then 1 else gQ t.an (b.aj.length:Int):=by
  unfold fQ;rw[if_neg ai]
 rw[e0];simp only[cond_false,GU,ak,GR,wr (show -9223372036854775808<=b.steps - 1/\b.steps - 1<9223372036854775808 by omega),GN (l:=t.an) (show 0<=(b.aj.length:Int)/\(b.aj.length:Int)<=1000000 by omega)];cases m:(t.ax.any fun y=>!bV y 0 (b.steps - 1)) with
 |true=>simp only[cond_true,true_or,if_true];exact ⟨_,rfl,fun h=>by cases h⟩
 |false=>
  cases hb:(t.az.any fun y=>!bV y (-3) 3) with
  |true=>simp only[cond_true,cond_false,or_true,if_true];exact ⟨_,rfl,fun h=>by cases h⟩
  |false=>
   simp only[cond_false,Bool.false_eq_true,or_self,if_false];by_cases a:gQ t.an (b.aj.length:Int)=0
   case neg=>
    rw[show (gQ t.an (b.aj.length:Int) != 0)=true by simpa using a];exact ⟨_,rfl,fun h=>absurd h a⟩
   rw[a];obtain ⟨c,d⟩:=we.1 a;obtain ⟨w,k1,e,f,g⟩:=GQ c fun x j=>by have:=d x j;omega
   rw[k1];exact ⟨_,rfl,fun _=>⟨w,rfl,e,f,g⟩⟩
end Go.Proofs.YtcoalekambhghaaGreatDoor
end

/- A part of the proof: VA1. -/
import Derived.Test.YtcoalekambhghaaGreatDoorQS10
set_option linter.all false
section
namespace Go.Proofs.YtcoalekambhghaaGreatDoor
open Go Go.Sep Go.Proofs
set_option maxRecDepth 100000
set_option maxHeartbeats 4000000
theorem bh.AJ (x:bh){i:Nat}(hi:i<4)(n:Int):∃y,x.setAt (i:Int) n=some y/\∀j,j<4->y.at j=if j=i then n else x.at j:=by
 have h:i=0\/i=1\/i=2\/i=3:=ai;rcases h with rfl|rfl|rfl|rfl<;>refine ⟨_,rfl,fun j a=>?_⟩<;>have h:j=0\/j=1\/j=2\/j=3:=ai;all_goals rcases h with rfl|rfl|rfl|rfl<;>rfl
theorem pe (t:b7)(w:Nat){i:Nat}(hi:i<4):(dL t w).ax.at i=t.ax.getD i 0/\(dL t w).az.at i=t.az.getD i 0:=by
 have h:i=0\/i=1\/i=2\/i=3:=ai;rcases h with rfl|rfl|rfl|rfl<;>exact ⟨rfl,rfl⟩
theorem GV {b:aH}(hb:kY b)(t:b7)(hw:t.an.length<=1000000)(k m:Int):∃r,k5 b t k m=some r/\oQ b t k m=some r:=by
 obtain ⟨c,c1,c2,c3,-⟩:=qY hb;unfold k5 oQ;rw[c1,c2];simp only[ak];by_cases d:c=0
 case neg=>rw[show (c != 0)=true by simpa using d];exact ⟨_,rfl,rfl⟩
 have h:=c3.1 d;have hn:=h.many;subst d;obtain ⟨v,v1,v2⟩:=AI h t;rw[v1,AH h t hw];simp only[bne_self_eq_false,cond_false];by_cases hs:fQ b t=0
 case neg=>rw[show (fQ b t != 0)=true by simpa using hs];exact ⟨_,rfl,rfl⟩
 obtain ⟨w,rfl,-,-,-⟩:=v2 hs;obtain ⟨n,o,e,-⟩:=AG hs;rw[hs];unfold qq qp;simp only[bne_self_eq_false,cond_false,iU,jx,ak,wr (show -9223372036854775808<=(b.aj.length:Int) - 1/\(b.aj.length:Int) - 1<9223372036854775808 by omega)];cases f:bV k 0 ((b.aj.length:Int) - 1) with
 |false=>exact ⟨_,rfl,rfl⟩
 |true=>
  have p:0<=k/\k<=(b.aj.length:Int) - 1:=by unfold bV at f;simpa using f
  obtain ⟨i,rfl⟩:∃i:Nat,k=(i:Int):=⟨k.toNat,ai⟩
  have hi:i<b.aj.length:=ai;have a:b.aj[i]?=some b.aj[i]:=List.getElem?_eq_getElem hi;have q:=(mL h a).2.1;simp only[eP,a,Bool.not_true,cond_false,cond_true,wr (show -9223372036854775808<=((b.aj[i].marks.length:Nat):Int) - 1/\((b.aj[i].marks.length:Nat):Int) - 1<9223372036854775808 by omega)];cases hm:bV m 0 ((b.aj[i].marks.length:Int) - 1) with
  |false=>exact ⟨_,rfl,rfl⟩
  |true=>
   have s:0<=m/\m<=(b.aj[i].marks.length:Int) - 1:=by unfold bV at hm;simpa using hm
   obtain ⟨j,rfl⟩:∃j:Nat,m=(j:Int):=⟨m.toNat,ai⟩
   have g:j<b.aj[i].marks.length:=ai;have l:b.aj[i].marks[j]?=some b.aj[i].marks[j]:=List.getElem?_eq_getElem g;have hv:=pe t w (show i<4 by omega);have e1:=zL h (v:=dL t w) a hv.1 hv.2 e (List.getElem_mem g);have e2:=v9 h (st:=t) a l (by simp[List.getD,show i<t.ax.length by omega]) (by simp[List.getD,show i<t.az.length by omega]) e;simp only[eP,l,Bool.not_true,cond_false,e1,e2];exact ⟨_,rfl,rfl⟩
def clip (n:Int)(c:bS):Int:=if c.high<(if n<c.low then c.low else n) then c.high else (if n<c.low then c.low else n)
theorem rE {n:Int}{c:bS}(h:c.low<=c.high):clip n c=n↔bV n c.low c.high=true:=by
 unfold clip bV;simp only[Bool.and_eq_true,decide_eq_true_eq];split<;>split at*<;>omega
def rF (b:aH)(f s:Nat->Int)(i:Nat):Bool:=match b.aj[i]? with
 |none=>true
 |some x=>bV (f i) x.from_.low x.from_.high&&bV (s i) x.aC.low x.aC.high
theorem GW {b:aH}(h:c8 b)(v:bg)(c:Int):∃d,bX (m6 (v,c)) 0 b.aj v=some (.nx d)/\d.an=v.an/\
  ∀j,j<4->(d.ax.at j=match b.aj[j]? with|none=>v.ax.at j|some x=>clip (v.ax.at j) x.from_)/\(d.az.at j=match b.aj[j]? with|none=>v.az.at j|some x=>clip (v.az.at j) x.aC):=by
 have hn:=h.many
 obtain ⟨d,o,p,q⟩:=Fe (f:=m6 (v,c)) (fun i (s:bg)=>s.an=v.an/\∀j,j<4->(s.ax.at j=if j<i then (match b.aj[j]? with|none=>v.ax.at j|some x=>clip (v.ax.at j) x.from_) else v.ax.at j)/\(s.az.at j=if j<i then (match b.aj[j]? with|none=>v.az.at j|some x=>clip (v.az.at j) x.aC) else v.az.at j)) b.aj v ⟨rfl,fun j _=>⟨rfl,rfl⟩⟩ (by
  intro i x s k ⟨r,t⟩
  have hi:=(List.getElem?_eq_some_iff.1 k).1
  have l:i<4:=ai
  obtain ⟨y,u,w⟩:=bh.AJ s.ax l (clip (v.ax.at i) x.from_)
  obtain ⟨z,A,B⟩:=bh.AJ s.az l (clip (v.az.at i) x.aC)
  refine ⟨⟨y,z,s.an⟩,?_,r,fun j e=>?_⟩
  .unfold m6
   simp only[bh.get_at _ l,ak]
   have m:=u
   have n:=A
   unfold clip at m n
   rw[m]
   simp only
   rw[n]
  .have e1:=w j e
   have e2:=B j e
   obtain ⟨e3,C⟩:=t j e
   refine ⟨?_,?_⟩
   .rw[show (bg.mk y z s.an).ax.at j=y.at j from rfl,e1]
    by_cases g:j=i
    .subst g;simp[k]
    .rw[if_neg g,e3]
     by_cases a:j<i
     .rw[if_pos a,if_pos ai]
     .rw[if_neg a,if_neg ai]
   .rw[show (bg.mk y z s.an).az.at j=z.at j from rfl,e2]
    by_cases g:j=i
    .subst g;simp[k]
    .rw[if_neg g,C]
     by_cases a:j<i
     .rw[if_pos a,if_pos ai]
     .rw[if_neg a,if_neg ai])
 refine ⟨d,o,p,fun j e=>?_⟩
 obtain ⟨e1,e2⟩:=q j e
 by_cases a:j<b.aj.length
 .rw[if_pos a] at e1 e2
  exact ⟨e1,e2⟩
 .rw[if_neg a] at e1 e2
  rw[List.getElem?_eq_none ai]
  exact ⟨e1,e2⟩
theorem GX {b:aH}(hb:kY b)(t:b7)(hw:t.an.length<=1000000):∃r,kg b t=some r/\oT b t=some r:=by
 obtain ⟨c,c1,c2,c3,-⟩:=qY hb;unfold kg oT;rw[c1,c2];simp only[ak];by_cases m:c=0
 case neg=>rw[show (c != 0)=true by simpa using m];exact ⟨_,rfl,rfl⟩
 have h:=c3.1 m;have hn:=h.many;subst m;obtain ⟨v,v1,v2⟩:=AI h t;rw[v1,AH h t hw];simp only[bne_self_eq_false,cond_false];by_cases hs:fQ b t=0
 case neg=>rw[show (fQ b t != 0)=true by simpa using hs];exact ⟨_,rfl,rfl⟩
 obtain ⟨w,rfl,w1,w2,w3⟩:=v2 hs;obtain ⟨O,P,A,-⟩:=AG hs;rw[hs];simp only[bne_self_eq_false,cond_false];obtain ⟨a,n1,I,n3⟩:=GW h (dL t w) 0;rw[n1];have B:∀i,i<b.aj.length->t.ax[i]?=some (t.ax.getD i 0):=fun i hi=>by simp[List.getD,show i<t.ax.length by omega]
 have C:∀i,i<b.aj.length->t.az[i]?=some (t.az.getD i 0):=fun i hi=>by simp[List.getD,show i<t.az.length by omega]
 let q:Nat->Bool:=fun i=>rF b (fun i=>t.ax.getD i 0) (fun i=>t.az.getD i 0) i
 have key:aZ (mK b t) fu (false,0)=some (cg (if (List.range b.aj.length).all q then none else some false) (false,(b.aj.length:Int))):=by
  rw[<-m8];refine eF _ (fun i=>(false,(i:Int))) b.aj.length ai (fun i hi=>?_) ?_
  .have e:b.aj[i]?=some b.aj[i]:=List.getElem?_eq_getElem hi;unfold mK;simp only[fG hi,cond_true,eP,e,B i hi,C i hi,ak,jx,ez (show i<=1000000 by omega),q,rF];by_cases k:bV (t.ax.getD i 0) b.aj[i].from_.low b.aj[i].from_.high=true
   .by_cases l:bV (t.az.getD i 0) b.aj[i].aC.low b.aj[i].aC.high=true
    .simp only[k,l,Bool.not_true,cond_false,Bool.and_self,if_true,cg]
    .rw[Bool.not_eq_true] at l;simp only[k,l,Bool.not_true,Bool.not_false,cond_false,cond_true,Bool.and_false,Bool.false_eq_true,if_false,cg]
   .rw[Bool.not_eq_true] at k;simp only[k,Bool.not_false,cond_true,Bool.false_and,Bool.false_eq_true,if_false,cg]
  .unfold mK;simp only[fH,cond_false]
 unfold qW;rw[key];have D:∀i x,b.aj[i]?=some x->Bd b.steps x:=fun i x e=>u6 e (h.each i (List.getElem?_eq_some_iff.1 e).1);have n:(∀j,j<4->a.ax.at j=(dL t w).ax.at j/\a.az.at j=(dL t w).az.at j)↔(List.range b.aj.length).all q=true:=by
  rw[List.all_eq_true];constructor
  .intro d i hi;have hi:=List.mem_range.1 hi;have e:b.aj[i]?=some b.aj[i]:=List.getElem?_eq_getElem hi;have o:i<4:=ai;obtain ⟨a1,E⟩:=d i o;obtain ⟨f,g⟩:=n3 i o;obtain ⟨p,s⟩:=pe t w o;obtain ⟨⟨d1,d2,d3,d4⟩,d5,d6,d7,d8⟩:=D i _ e;rw[e] at f g;simp only at f g;rw[p] at a1 f;rw[s] at E g;simp only[q,rF,e,Bool.and_eq_true];exact ⟨(rE d2).1 (f.symm.trans a1),(rE d6).1 (g.symm.trans E)⟩
  .intro d j u;obtain ⟨f,g⟩:=n3 j u;obtain ⟨p,s⟩:=pe t w u;by_cases F:j<b.aj.length
   .have e:b.aj[j]?=some b.aj[j]:=List.getElem?_eq_getElem F;obtain ⟨⟨d1,d2,d3,d4⟩,d5,d6,d7,d8⟩:=D j _ e;have y:=d j (List.mem_range.2 F);simp only[q,rF,e,Bool.and_eq_true] at y;rw[e] at f g;simp only at f g;rw[f,g,p,s];exact ⟨(rE d2).2 y.1,(rE d6).2 y.2⟩
   .rw[List.getElem?_eq_none ai] at f g;exact ⟨f,g⟩
 cases G:(List.range b.aj.length).all q with
 |false=>
  rw[G] at n;have J:¬∀j,j<4->a.ax.at j=(dL t w).ax.at j/\a.az.at j=(dL t w).az.at j:=fun d=>by have:=n.1 d;cases this
  have:((a.ax.e0==(dL t w).ax.e0)&&((a.ax.e1==(dL t w).ax.e1)&&((a.ax.e2==(dL t w).ax.e2)&&((a.ax.e3==(dL t w).ax.e3)&&((a.az.e0==(dL t w).az.e0)&&((a.az.e1==(dL t w).az.e1)&&((a.az.e2==(dL t w).az.e2)&&((a.az.e3==(dL t w).az.e3)&&(a.an==(dL t w).an)))))))))=false:=by
   rw[<-Bool.not_eq_true];intro d;simp only[Bool.and_eq_true,beq_iff_eq] at d;obtain ⟨f0,f1,f2,f3,g0,k,l,z,-⟩:=d;refine J fun j u=>?_;have h:j=0\/j=1\/j=2\/j=3:=ai;rcases h with rfl|rfl|rfl|rfl
   .exact ⟨f0,g0⟩
   .exact ⟨f1,k⟩
   .exact ⟨f2,l⟩
   .exact ⟨f3,z⟩
  simp only[aJ,this,cond_false,Bool.false_eq_true,if_false,cg];exact ⟨_,rfl,rfl⟩
 |true=>
  have d:=n.2 G;have e0:=d 0 ai;have e1:=d 1 ai;have e2:=d 2 ai;have e3:=d 3 ai;have f0:a.ax.e0=(dL t w).ax.e0:=e0.1;have f1:a.ax.e1=(dL t w).ax.e1:=e1.1;have f2:a.ax.e2=(dL t w).ax.e2:=e2.1;have f3:a.ax.e3=(dL t w).ax.e3:=e3.1;have g0:a.az.e0=(dL t w).az.e0:=e0.2;have k:a.az.e1=(dL t w).az.e1:=e1.2;have l:a.az.e2=(dL t w).az.e2:=e2.2;have z:a.az.e3=(dL t w).az.e3:=e3.2;have H:(dL t w).an=(w:Int):=rfl;obtain ⟨r,r1,r2⟩:=zR h (v:=dL t w) (W:=fun i=>decide ((i:Int)∈t.an)) A (fun i hi=>(pe t w ai).1) (fun i hi=>(pe t w ai).2) (fun i hi=>by rw[u9 H w2 ai,w3 i ai]);obtain ⟨K,L,M⟩:=GM h (st:=t) (but:=t.an) (W:=fun i=>decide ((i:Int)∈t.an)) A B C hw (fun i hi=>rfl);have N:r=K:=by rw[Bool.eq_iff_iff,r2,M]
  simp only[aJ,f0,f1,f2,f3,g0,k,l,z,I,beq_self_eq_true,Bool.and_self,cond_true,H,w1,if_true,cg,r1,L];cases decide ((t.an.length:Int)<=b.an) with
  |false=>exact ⟨_,rfl,rfl⟩
  |true=>exact ⟨(r,0),rfl,by rw[N];rfl⟩
end Go.Proofs.YtcoalekambhghaaGreatDoor
end

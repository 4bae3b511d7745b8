/- A part of the proof of a row and its tied card: QJ5. -/
import Derived.Test.YtpgcmoanfifglaaGreatDoorQJ4
set_option linter.all false
section
namespace Go.Proofs.YtpgcmoanfifglaaGreatDoor
open Go Go.Sep Go.Proofs
set_option maxRecDepth 100000
set_option maxHeartbeats 4000000
theorem sR (u:ak):mh u=some (cond (decide (3<(u.told.length:Int))) 2 ((dx (jd u) 0 u.told).getD 0)):=by
 unfold mh;cases decide (3<(u.told.length:Int)) with
 |true=>rfl
 |false=>
  show ag (bF _ 0 u.told 0) _=_;rw[qe (t:=jd u) u.told 0 0 ?_]
  ·show aG (gU _ _) _ _ _=_;cases dx (jd u) 0 u.told<;>rfl
  ·intro j x s a;unfold rK jd;simp only[w8,ag];cases gY u x.aW<;>rfl
theorem sS (u:ak):mj u=some (cond (bM u.aE.length 1 3) ((dx gX 0 u.aE).getD 0) 2):=by
 unfold mj;rw[kr,eY];simp only[ag];cases bM (u.aE.length:Int) 1 3 with
 |false=>rfl
 |true=>
  simp only[Bool.not_true,cond_false,cond_true];rw[qe (t:=gX) u.aE 0 0 ?_]
  ·show aG (gU _ _) _ _ _=_;cases dx gX 0 u.aE<;>rfl
  ·intro j x s a;unfold rM gX;simp only[kr,G9,eY,AZ,ag];cases bM x.back 1 20 with
   |false=>rfl
   |true=>
    cases ku x.high 0 60 with
    |false=>rfl
    |true=>
     simp only[Bool.not_true,cond_false,cond_true];cases decide (3<=IntKind.i64.wrap (x.high.high - x.high.low))<;>rfl
theorem sU (u:ak)(f:Int->Bool)(a:∀p,gd u p=some (f p)/\mB u p=some (f p)):mm u=some (cond (decide (3<(u.props.length:Int))) 2 ((dx (gW u f) 0 u.props).getD 0)):=by
 unfold mm;cases decide (3<(u.props.length:Int)) with
 |true=>rfl
 |false=>
  show ag (bF _ 0 u.props 0) _=_;rw[qe (t:=gW u f) u.props 0 0 ?_]
  ·show aG (gU _ _) _ _ _=_;cases dx (gW u f) 0 u.props<;>rfl
  ·intro j x s b;unfold rN gW;simp only[(a x.place).1,Hg,ag];cases f x.place with
   |false=>rfl
   |true=>
    cases bM x.dD 1 20<;>rfl
theorem mK {α:Type}{t:Nat->α->Option Int}(h:∀i x r,t i x=some r->r≠0):∀(l:List α) (i:Nat) (r:Int),dx t i l=some r->r≠0
 |[],i,r,e=>by cases e
 |x::l,i,r,e=>by
  unfold dx at e
  cases ht:t i x with
  |some a=>rw[ht] at e;cases e;exact h i x _ ht
  |none=>rw[ht] at e;exact mK h l (i+1) r e
theorem A3 (u:ak)(f:Int->Bool)(i:Nat)(x:ck)(r:Int)(h:gW u f i x=some r):r≠0:=by
 unfold gW at h;revert h;cases f x.place<;>cases bM x.dD 1 20<;>intro h<;>cases h<;>decide
theorem A4 (i:Nat)(x:bY)(r:Int)(h:gX i x=some r):r≠0:=by
 unfold gX at h;revert h;cases bM x.back 1 20<;>cases ku x.high 0 60<;>cases decide (3<=IntKind.i64.wrap (x.high.high - x.high.low))<;>intro h<;>cases h<;>decide
theorem Hi (u:ak)(i:Nat)(x:bO)(r:Int)(h:jd u i x=some r):r≠0:=by
 unfold jd at h;revert h;cases gY u x.aW<;>intro h<;>cases h<;>decide
theorem A5 {o:Option Int}(h:∀r,o=some r->r≠0):(o.getD 0 != 0)=o.isSome:=by
 cases o with
 |none=>rfl
 |some r=>simpa using h r rfl
theorem Hj (u:ak)(f:Int->Bool)(e:∀p,gd u p=some (f p)/\mB u p=some (f p))(h1:u.props.length<=20)(h:u.aE.length<=20)(i:u.told.length<=20):
  mI u=ag (mm u) fun x=>cond (x != 0) (some x) (ag (mj u) fun y=>cond (y != 0) (some y) (mh u)):=by
 rw[sU u f e,sS,sR]
 unfold mI
 simp only[ag]
 cases k:decide (3<(u.props.length:Int)) with
 |true=>rfl
 |false=>
  simp only[cond_false]
  rw[sO (t:=gW u f) u.props (by omega) ?_ ?_ 0]
  ·rw[A5 (mK (A3 u f) u.props 0)]
   cases dx (gW u f) 0 u.props with
   |some r=>rfl
   |none=>
    simp only[gU,aG,Option.isSome_none,cond_false,eY]
    cases l:bM (u.aE.length:Int) 1 3 with
    |false=>rfl
    |true=>
     simp only[Bool.not_true,cond_false,cond_true]
     rw[sO (t:=gX) u.aE (by omega) ?_ ?_ 0]
     ·rw[A5 (mK A4 u.aE 0)]
      cases dx gX 0 u.aE with
      |some r=>rfl
      |none=>
       simp only[gU,aG,Option.isSome_none,cond_false]
       cases m:decide (3<(u.told.length:Int)) with
       |true=>rfl
       |false=>
        simp only[cond_false]
        rw[sO (t:=jd u) u.told (by omega) ?_ ?_ 0]
        ·cases dx (jd u) 0 u.told<;>rfl
        ·intro j x s b
         have g:=(List.getElem?_eq_some_iff.1 b).1
         have a:decide ((j:Int)<(u.told.length:Int))=true:=decide_eq_true (by omega)
         have c:bp u.told (j:Int)=some x:=by unfold bp;rw[if_pos (by omega),Int.toNat_natCast,b]
         have d:IntKind.i64.wrap ((j:Int)+1)=((j+1:Nat):Int):=by rw[cX (by omega)];omega
         unfold wY jd
         simp only[a,c,d,ag,w8,cond_true]
         cases gY u x.aW<;>rfl
        ·intro s
         have a:decide ((u.told.length:Int)<(u.told.length:Int))=false:=decide_eq_false (by omega)
         unfold wY
         simp only[a,cond_false]
     ·intro j x s b
      have g:=(List.getElem?_eq_some_iff.1 b).1
      have a:decide ((j:Int)<(u.aE.length:Int))=true:=decide_eq_true (by omega)
      have c:bp u.aE (j:Int)=some x:=by unfold bp;rw[if_pos (by omega),Int.toNat_natCast,b]
      have d:IntKind.i64.wrap ((j:Int)+1)=((j+1:Nat):Int):=by rw[cX (by omega)];omega
      unfold wX gX
      simp only[a,c,d,ag,eY,AZ,cond_true]
      cases bM x.back 1 20<;>cases ku x.high 0 60<;>cases decide (3<=IntKind.i64.wrap (x.high.high - x.high.low))<;>rfl
     ·intro s
      have a:decide ((u.aE.length:Int)<(u.aE.length:Int))=false:=decide_eq_false (by omega)
      unfold wX
      simp only[a,cond_false]
  ·intro j x s b
   have g:=(List.getElem?_eq_some_iff.1 b).1
   have a:decide ((j:Int)<(u.props.length:Int))=true:=decide_eq_true (by omega)
   have c:bp u.props (j:Int)=some x:=by unfold bp;rw[if_pos (by omega),Int.toNat_natCast,b]
   have d:IntKind.i64.wrap ((j:Int)+1)=((j+1:Nat):Int):=by rw[cX (by omega)];omega
   unfold qa gW
   simp only[a,c,d,ag,eY,(e x.place).2,cond_true]
   cases f x.place<;>cases bM x.dD 1 20<;>rfl
  ·intro s
   have a:decide ((u.props.length:Int)<(u.props.length:Int))=false:=decide_eq_false (by omega)
   unfold qa
   simp only[a,cond_false]
theorem A6 (x:Int):cond (x != 0) (some x) (some 0)=some x:=by
 cases h:(x != 0) with
 |true=>rfl
 |false=>
  have:x=0:=by simpa using h
  rw[this];rfl
theorem Hl (u:ak)(h0:u.ay.length<=20)(h1:u.props.length<=20)(c:u.aE.length<=20)(d:u.told.length<=20):eX u=mJ u/\∃r,eX u=some r:=by
 obtain ⟨he,e⟩:=w7 u h0;rw[Hh,e];show ja u=_/\∃r,ja u=some r;unfold ja;rw[sQ];simp only[ag];cases hg:(gV u != 0) with
 |true=>exact ⟨rfl,_,rfl⟩
 |false=>
  simp only[cond_false];unfold k9;rw[he];simp only[ag];cases a:((cond (bM u.ay.length 2 5) ((dx (gj u) 0 u.ay).getD 0) 2) != 0) with
  |true=>exact ⟨rfl,_,rfl⟩
  |false=>
   simp only[cond_false];have hb:bM u.ay.length 2 5=true:=by
    cases hb:bM (u.ay.length:Int) 2 5 with
    |true=>rfl
    |false=>rw[hb] at a;cases a
   have g:=ey.1 hb;obtain ⟨f,b⟩:=w9 u (by omega) h0;rw[Hj u f b h1 c d];unfold k8;rw[sU u f b];simp only[ag];cases h:((cond (decide (3<(u.props.length:Int))) 2 ((dx (gW u f) 0 u.props).getD 0)) != 0) with
   |true=>exact ⟨rfl,_,rfl⟩
   |false=>
    simp only[cond_false];unfold k7;rw[sS];simp only[ag];cases i:((cond (bM u.aE.length 1 3) ((dx gX 0 u.aE).getD 0) 2) != 0) with
    |true=>exact ⟨rfl,_,rfl⟩
    |false=>
     simp only[cond_false];unfold k6 nv;rw[sR];simp only[ag];rw[A6];exact ⟨rfl,_,rfl⟩
theorem qg {α:Type}{t:Nat->α->Option Int}:∀(l:List α) (i:Nat),dx t i l=none->∀j x,l[j]?=some x->t (i+j) x=none
 |[],i,_,j,x,a=>by simp at a
 |y::l,i,h,j,x,a=>by
  unfold dx at h
  cases ht:t i y with
  |some r=>rw[ht] at h;cases h
  |none=>
   rw[ht] at h
   cases j with
   |zero=>simp at a;subst a;exact ht
   |succ j=>
    have:=qg l (i+1) h j x (by simpa using a)
    rwa [show i+1+j=i+(j+1) by omega] at this
structure Fit (u:ak):Prop where
 bE:2<=u.bE/\u.bE<=60
 bI:0<=u.bI/\u.bI<=60
 den:1<=u.aN.den/\u.aN.den<=20
 num:0<=u.aN.num/\u.aN.num<=20
 ay:2<=u.ay.length/\u.ay.length<=5
 kz:∀(i:Nat) x,u.ay[i]?=some x->(0<=x.aL/\x.aL<=u.bE - 1)/\0<=x.high/\x.high<=60
 xb:∀(i:Nat) x y,u.ay[i]?=some x->u.ay[i+1]?=some y->x.aL<y.aL
 props:u.props.length<=3
 prop:∀(i:Nat) x,u.props[i]?=some x->gd u x.place=some true/\1<=x.dD/\x.dD<=20
 aE:1<=u.aE.length/\u.aE.length<=3
 aW:∀(i:Nat) x,u.aE[i]?=some x->(1<=x.back/\x.back<=20)/\0<=x.high.low/\x.high.low<=x.high.high/\x.high.high<=60/\x.high.high - x.high.low<3
 told:u.told.length<=3
 qh:∀(i:Nat) x,u.told[i]?=some x->0<=x.aW/\x.aW<u.aE.length
theorem sV {o:Option Int}(h:∀r,o=some r->r≠0)(a:o.getD 0=0):o=none:=by
 cases o with
 |none=>rfl
 |some r=>exact absurd a (h r rfl)
theorem Ho (u:ak)(i:Nat)(x:b7)(r:Int)(h:gj u i x=some r):r≠0:=by
 unfold gj at h;revert h;cases bM x.aL 0 (IntKind.i64.wrap (u.bE - 1))<;>cases bM x.high 0 60<;>try (intro h;cases h;decide)
 cases i with
 |zero=>intro h;cases h
 |succ j=>
  simp only[cond_true];cases u.ay[j]? with
  |none=>intro h;cases h
  |some y=>dsimp only;cases decide (x.aL<=y.aL)<;>intro h<;>cases h<;>decide
theorem Hp (u:ak)(h0:u.ay.length<=20)(h:eX u=some 0):Fit u:=by
 have a:ja u=some 0:=h;clear h;unfold ja at a;rw[sQ] at a;simp only[ag] at a;have hg:gV u=0:=by
  cases hg:(gV u != 0) with
  |true=>rw[hg] at a;exact Option.some.inj a
  |false=>simpa using hg
 rw[hg] at a;have a:k9 u=some 0:=a;unfold k9 at a;rw[(w7 u h0).1] at a;simp only[ag] at a;generalize g:cond (bM (u.ay.length:Int) 2 5) ((dx (gj u) 0 u.ay).getD 0) 2=E at a;have w:E=0:=by
  cases d:(E != 0) with
  |true=>rw[d] at a;exact Option.some.inj a
  |false=>simpa using d
 rw[w] at a g;have a:k8 u=some 0:=a;have hb:bM (u.ay.length:Int) 2 5=true:=by
  cases hb:bM (u.ay.length:Int) 2 5 with
  |true=>rfl
  |false=>rw[hb] at g;cases g
 rw[hb] at g;have L:=ey.1 hb;have o:=qg u.ay 0 (sV (mK (Ho u) u.ay 0) g);obtain ⟨f,p⟩:=w9 u (by omega) h0;unfold k8 at a;rw[sU u f p] at a;simp only[ag] at a;generalize j:cond (decide (3<(u.props.length:Int))) 2 ((dx (gW u f) 0 u.props).getD 0)=q at a;have z:q=0:=by
  cases d:(q != 0) with
  |true=>rw[d] at a;exact Option.some.inj a
  |false=>simpa using d
 rw[z] at a j;have a:k7 u=some 0:=a;have r:decide (3<(u.props.length:Int))=false:=by
  cases hb:decide (3<(u.props.length:Int)) with
  |false=>rfl
  |true=>rw[hb] at j;cases j
 rw[r] at j;have A:=qg u.props 0 (sV (mK (A3 u f) u.props 0) j);unfold k7 at a;rw[sS] at a;simp only[ag] at a;generalize k:cond (bM (u.aE.length:Int) 1 3) ((dx gX 0 u.aE).getD 0) 2=s at a;have B:s=0:=by
  cases d:(s != 0) with
  |true=>rw[d] at a;exact Option.some.inj a
  |false=>simpa using d
 rw[B] at a k;have a:k6 u=some 0:=a;have t:bM (u.aE.length:Int) 1 3=true:=by
  cases hb:bM (u.aE.length:Int) 1 3 with
  |true=>rfl
  |false=>rw[hb] at k;cases k
 rw[t] at k;have M:=ey.1 t;have C:=qg u.aE 0 (sV (mK A4 u.aE 0) k);unfold k6 nv at a;rw[sR] at a;simp only[ag] at a;rw[A6] at a;have l:=Option.some.inj a;have v:decide (3<(u.told.length:Int))=false:=by
  cases hb:decide (3<(u.told.length:Int)) with
  |false=>rfl
  |true=>rw[hb] at l;cases l
 rw[v] at l;have D:=qg u.told 0 (sV (mK (Hi u) u.told 0) l);have N:=of_decide_eq_false r;have O:=of_decide_eq_false v;clear a g j k l;have G:(2<=u.bE/\u.bE<=60)/\(0<=u.bI/\u.bI<=60)/\(1<=u.aN.den/\u.aN.den<=20)/\(0<=u.aN.num/\u.aN.num<=20):=by
  unfold gV at hg;refine ⟨ey.1 ?_,ey.1 ?_,ey.1 ?_,ey.1 ?_⟩<;>revert hg<;>cases bM u.bE 2 60<;>cases bM u.bI 0 60<;>cases bM u.aN.den 1 20<;>cases bM u.aN.num 0 20<;>intro hg<;>first|rfl|cases hg
 obtain ⟨F,H,I,J⟩:=G;have hw:IntKind.i64.wrap (u.bE - 1)=u.bE - 1:=cX (by omega);have m:∀(i:Nat) x,u.ay[i]?=some x->bM x.aL 0 (u.bE - 1)=true/\bM x.high 0 60=true:=by
  intro i x b;have:=o i x b;unfold gj at this;rw[hw] at this;revert this;cases bM x.aL 0 (u.bE - 1)<;>cases bM x.high 0 60<;>intro h<;>first|exact ⟨rfl,rfl⟩|cases h
 refine ⟨F,H,I,J,by omega,fun i x b=>⟨ey.1 (m i x b).1,ey.1 (m i x b).2⟩,fun i x y b n=>?_,by omega,fun i x b=>?_,by omega,fun i x b=>?_,by omega,fun i x b=>?_⟩
 ·have:=o (i+1) y n;rw[Nat.zero_add] at this;unfold gj at this;rw[hw,(m _ _ n).1,(m _ _ n).2] at this;simp only[cond_true,b] at this;cases hd:decide (y.aL<=x.aL) with
  |true=>rw[hd] at this;cases this
  |false=>have:=of_decide_eq_false hd;omega
 ·have:=A i x b;unfold gW at this;revert this;rw[(p x.place).1];cases f x.place<;>cases hb:bM x.dD 1 20<;>intro h<;>first|exact ⟨rfl,ey.1 hb⟩|cases h
 ·have:=C i x b;unfold gX at this;cases c:bM x.back 1 20 with
  |false=>rw[c] at this;cases this
  |true=>
   cases e:ku x.high 0 60 with
   |false=>rw[c,e] at this;cases this
   |true=>
    rw[c,e] at this;unfold ku at e;simp only[Bool.and_eq_true,decide_eq_true_eq] at e;refine ⟨ey.1 c,e.1,e.2.1,e.2.2,?_⟩;cases hd:decide (3<=IntKind.i64.wrap (x.high.high - x.high.low)) with
    |true=>rw[hd] at this;cases this
    |false=>
     have K:=of_decide_eq_false hd;rw[cX (by omega)] at K;omega
 ·have:=D i x b;unfold jd at this;cases c:gY u x.aW with
  |false=>rw[c] at this;cases this
  |true=>
   unfold gY at c;rw[cX (by omega)] at c;have:=ey.1 c;omega
theorem xd (g:Nat)(hg:0<g)(n:Int)(d:Nat):bB ((g:Int)*n) (g*d)=bB n d:=by
 unfold bB;have e1:((g:Int)*n).natAbs=g*n.natAbs:=by rw[Int.natAbs_mul,Int.natAbs_natCast]
 rw[e1,Nat.gcd_mul_left];have a:(0:Int)<(g:Int):=by omega
 congr 1
 ·rw[Int.natCast_mul,Int.mul_tdiv_mul_of_pos _ _ a]
 ·rw[Int.natCast_mul,Int.natCast_mul,Int.mul_tdiv_mul_of_pos _ _ a]
theorem xe (n:Int)(d:Nat)(hd:0<d):∃g a:Nat,0<g/\0<a/\d=g*a/\n=(g:Int)*(bB n d).num/\(bB n d).den=(a:Int):=by
 have hg:0<Nat.gcd n.natAbs d:=Nat.gcd_pos_of_pos_right _ hd;obtain ⟨a,b⟩:=Nat.gcd_dvd_right n.natAbs d;refine ⟨Nat.gcd n.natAbs d,a,hg,?_,b,?_,?_⟩
 ·rcases Nat.eq_zero_or_pos a with h|h
  ·rw[h,Nat.mul_zero] at b;omega
  ·exact h
 ·have c:((Nat.gcd n.natAbs d:Nat):Int) ∣ n:=Int.ofNat_dvd_left.2 (Nat.gcd_dvd_left _ _);unfold bB;exact (Int.mul_tdiv_cancel' c).symm
 ·have:(d:Int)=((Nat.gcd n.natAbs d:Nat):Int)*(a:Int):=by rw[<-Int.natCast_mul];exact congrArg _ b
  show (d:Int).tdiv ((Nat.gcd n.natAbs d:Nat):Int)=_;have e:((Nat.gcd n.natAbs d:Nat):Int)≠0:=by omega
  calc (d:Int).tdiv ((Nat.gcd n.natAbs d:Nat):Int)=(((Nat.gcd n.natAbs d:Nat):Int)*(a:Int)).tdiv ((Nat.gcd n.natAbs d:Nat):Int):=congrArg (fun z=>Int.tdiv z _) this
   _=(a:Int):=Int.mul_tdiv_cancel_left _ e
theorem dy {x y:Int}{A B:Nat}(a:x.natAbs<=A)(b:y.natAbs<=B):(x*y).natAbs<=A*B:=by
 rw[Int.natAbs_mul];exact Nat.mul_le_mul a b
theorem ef {n:Int}(h:n.natAbs<=9000000000000000000):IntKind.i64.wrap n=n:=cX (by omega)
structure Sm (r:an)(A B:Nat):Prop where
 num:r.num.natAbs<=A
 den:0<r.den/\r.den<=B
theorem qi {a b:an}{A B C D:Nat}(c:Sm a A B)(hb:Sm b C D)(h:A*D+C*B<=900000000000000000)(hd:B*D<=800000000000000000):
  iX a b=some (bB (a.num*b.den+b.num*a.den) (a.den*b.den).toNat):=by
 have h1:=dy c.num (show b.den.natAbs<=D by have:=hb.den;omega)
 have d:=dy hb.num (show a.den.natAbs<=B by have:=c.den;omega)
 have f:=dy (show a.den.natAbs<=B by have:=c.den;omega) (show b.den.natAbs<=D by have:=hb.den;omega)
 have g:0<a.den*b.den:=Int.mul_pos c.den.1 hb.den.1
 unfold iX
 rw[ef (n:=a.num*b.den) (by omega),ef (n:=b.num*a.den) (by omega),ef (n:=a.den*b.den) (by omega),ef (by omega)]
 have e:a.den*b.den=(((a.den*b.den).toNat:Nat):Int):=by omega
 have:=qf (a.num*b.den+b.num*a.den) (a.den*b.den).toNat (by omega) (by omega) (by omega)
 rw[<-e] at this
 rw[this]
 rfl
theorem A7 {a b:an}{A B C D:Nat}(c:Sm a A B)(hb:Sm b C D)(h:A*D+C*B<=900000000000000000)(hd:B*D<=800000000000000000):
  ko a b=some (bB (a.num*b.den - b.num*a.den) (a.den*b.den).toNat):=by
 have h1:=dy c.num (show b.den.natAbs<=D by have:=hb.den;omega)
 have d:=dy hb.num (show a.den.natAbs<=B by have:=c.den;omega)
 have f:=dy (show a.den.natAbs<=B by have:=c.den;omega) (show b.den.natAbs<=D by have:=hb.den;omega)
 have g:0<a.den*b.den:=Int.mul_pos c.den.1 hb.den.1
 unfold ko
 rw[ef (n:=a.num*b.den) (by omega),ef (n:=b.num*a.den) (by omega),ef (n:=a.den*b.den) (by omega),ef (by omega)]
 have e:a.den*b.den=(((a.den*b.den).toNat:Nat):Int):=by omega
 have:=n4 (a.num*b.den - b.num*a.den) (a.den*b.den).toNat (by omega) (by omega) (by omega)
 rw[<-e] at this
 rw[this]
 rfl
theorem xg {a b:an}{A B C D:Nat}(c:Sm a A B)(hb:Sm b C D)(h:A*D+C*B<=900000000000000000)(hd:B*D<=800000000000000000)(hC:C<=9000000000000000000):
  iY a b=some (bB (a.num*b.den - b.num*a.den) (a.den*b.den).toNat):=by
 unfold iY
 have e:=hb.num
 rw[ef (by omega)]
 have d:Sm (⟨0 - b.num,b.den⟩:an) C D:=⟨by show (0 - b.num).natAbs<=C;omega,hb.den⟩
 rw[qi c d h hd]
 show some (bB (a.num*b.den+(0 - b.num)*a.den) (a.den*b.den).toNat)=_
 rw[show a.num*b.den+(0 - b.num)*a.den=a.num*b.den - b.num*a.den by rw[Int.zero_sub,Int.neg_mul];omega]
def sW (x y:b7)(p:Int):Option an:=
 gD (IntKind.i64.wrap ((IntKind.i64.wrap (x.high*(IntKind.i64.wrap (y.aL - x.aL))))+(IntKind.i64.wrap ((IntKind.i64.wrap (y.high - x.high))*(IntKind.i64.wrap (p - x.aL)))))) (IntKind.i64.wrap (y.aL - x.aL))
theorem qj {α:Type}{l:List α}{i:Nat}{x:α}(h:l[i]?=some x):bp l (i:Int)=some x:=by unfold bp;rw[if_pos (by omega),Int.toNat_natCast,h]
theorem A8 (i:Nat)(h:i<1000):IntKind.i64.wrap ((i:Int)+1)=((i+1:Nat):Int):=by rw[cX (by omega)];omega
theorem piece (u:ak)(p:Int)(g:u.ay.length<=5)(z:b7)(b:u.ay[u.ay.length - 1]?=some z)(h:p<=z.aL):∀(m i n:Nat) (x y:b7),i+1+m=u.ay.length - 1->m<n->u.ay[i]?=some x->u.ay[i+1]?=some y->
  ∃(k:Nat) (x y:b7),i<=k/\u.ay[k]?=some x/\u.ay[k+1]?=some y/\p<=y.aL/\(k=i\/x.aL<p)/\bn (nB u p) n ((i+1:Nat):Int)=some (.nx ((k+1:Nat):Int))/\
   bn (sL u p) n (i:Int)=ag (sW x y p) fun r=>some (.rt r)
 |m,i,n+1,x,y,v,w,f,a=>by
  have A:i+1<u.ay.length:=(List.getElem?_eq_some_iff.1 a).1
  have d1:decide (((i+1:Nat):Int)<(u.ay.length:Int))=true:=decide_eq_true (by omega)
  unfold bn nB sL
  rw[A8 i (by omega),A8 (i+1) (by omega),qj f,qj a,d1]
  simp only[ag,cond_true]
  by_cases c:y.aL<p
  ·have e1:decide (y.aL<p)=true:=decide_eq_true c
   have e2:decide (p<=y.aL)=false:=decide_eq_false (by omega)
   rw[e1,e2]
   simp only[cond_true,cond_false]
   cases m with
   |zero=>
    have:u.ay.length - 1=i+1:=by omega
    rw[this,a] at b
    cases b
    omega
   |succ m=>
    have j:i+1+1<u.ay.length:=by omega
    obtain ⟨k,l,y',h1,d,o,q,e,s,t⟩:=piece u p g z b h m (i+1) n y (u.ay[i+1+1]) (by omega) (by omega) a (List.getElem?_eq_getElem j)
    refine ⟨k,l,y',by omega,d,o,q,?_,s,t⟩
    rcases e with rfl|e
    ·rw[a] at d;cases d;exact .inr c
    ·exact .inr e
  ·have e1:decide (y.aL<p)=false:=decide_eq_false c
   have e2:decide (p<=y.aL)=true:=decide_eq_true (by omega)
   rw[e1,e2]
   refine ⟨i,x,y,Nat.le_refl _,f,a,by omega,.inl rfl,rfl,?_⟩
   simp only[cond_true]
   unfold sW
   cases gD _ _<;>rfl
theorem je (n:Int)(d:Nat)(hd:0<d):Sm (bB n d) n.natAbs d:=by
 obtain ⟨g,a,hg,c,e1,e2,b⟩:=xe n d hd;refine ⟨?_,?_⟩
 ·have:n.natAbs=g*(bB n d).num.natAbs:=by
   have:=congrArg Int.natAbs e2
   rwa [Int.natAbs_mul,Int.natAbs_natCast] at this
  rw[this];exact Nat.le_mul_of_pos_left _ hg
 ·rw[b];have:a<=d:=by rw[e1];exact Nat.le_mul_of_pos_left _ hg
  omega
theorem A9 (h:Int)(n:Int)(d:Nat)(hd:0<d):bB (h*(bB n d).den+(bB n d).num) ((bB n d).den).toNat=bB (h*d+n) d:=by
 obtain ⟨g,a,hg,f,e1,e2,b⟩:=xe n d hd;have k1:h*(d:Int)+n=(g:Int)*(h*(a:Int)+(bB n d).num):=by
  rw[Int.mul_add,<-e2,e1,Int.natCast_mul,Int.mul_left_comm]
 rw[b];have c:((a:Nat):Int).toNat=a:=Int.toNat_natCast a;rw[c,k1];have e:bB ((g:Int)*(h*(a:Int)+(bB n d).num)) d=bB ((g:Int)*(h*(a:Int)+(bB n d).num)) (g*a):=congrArg _ e1;rw[e,xd g hg]
theorem Hq (u:ak)(F:Fit u)(p:Int)(a z:b7)(g:u.ay[0]?=some a)(j:u.ay[u.ay.length - 1]?=some z)(l:a.aL<=p)(m:p<=z.aL):
  ∃r,jb u p=some r/\qc u p=some r/\Sm r 7200 60/\∃(k:Nat) (x y:b7) (d:Nat),u.ay[k]?=some x/\u.ay[k+1]?=some y/\x.aL<=p/\p<=y.aL/\y.aL - x.aL=d/\0<d/\r=bB (x.high*d+(y.high - x.high)*(p - x.aL)) d:=by
 have o:=F.ay
 obtain ⟨k,x,y,-,b,e,q,h,t,v⟩:=piece u p o.2 z j m (u.ay.length - 2) 0 fu a (u.ay[1]'(by omega)) (by omega) (Nat.lt_of_le_of_lt (show u.ay.length - 2<=5 by omega) (by decide)) g (List.getElem?_eq_getElem _)
 have H:k+1<u.ay.length:=(List.getElem?_eq_some_iff.1 e).1
 have I:=F.kz k x b
 have J:=F.kz (k+1) y e
 have K:=F.xb k x y b e
 have L:=F.bE
 have w:x.aL<=p:=by
  rcases h with rfl|h
  ·rw[g] at b;cases b;exact l
  ·omega
 have A:IntKind.i64.wrap (((k+1:Nat):Int) - 1)=(k:Int):=by rw[cX (by omega)];omega
 have w1:IntKind.i64.wrap (y.high - x.high)=y.high - x.high:=cX (by omega)
 have w2:IntKind.i64.wrap (p - x.aL)=p - x.aL:=cX (by omega)
 have w3:IntKind.i64.wrap (y.aL - x.aL)=y.aL - x.aL:=cX (by omega)
 have B:((y.high - x.high)*(p - x.aL)).natAbs<=60*60:=dy (by omega) (by omega)
 have i:(x.high*(y.aL - x.aL)).natAbs<=60*60:=dy (by omega) (by omega)
 obtain ⟨d,hd⟩:∃d:Nat,y.aL - x.aL=d:=⟨(y.aL - x.aL).toNat,by omega⟩
 generalize f:(y.high - x.high)*(p - x.aL)=n at B
 have c:0<d:=by omega
 have M:d<=60:=by omega
 have s1:=je n d c
 have C:Sm (bB n d) 3600 60:=⟨Nat.le_trans s1.num (by omega),s1.den.1,by have:=s1.den.2;omega⟩
 have D:Sm (⟨x.high,1⟩:an) 60 1:=⟨by show x.high.natAbs<=60;omega,by show (0:Int)<1;omega,by show (1:Int)<=((1:Nat):Int);omega⟩
 refine ⟨bB (x.high*d+n) d,?_,?_,?_,k,x,y,d,b,e,w,q,hd,c,by rw[f]⟩
 ·unfold jb
  have E:bn (nB u p) fu 1=some (.nx ((k+1:Nat):Int)):=t
  rw[E]
  simp only[ag,aG]
  rw[A,qj b,qj e]
  simp only[ga]
  rw[w1,w2,w3,f,hd,ef (by omega),qf n d (by omega) c (by omega)]
  simp only
  rw[qi D C (by omega) (by omega)]
  show some (bB (x.high*(bB n d).den+(bB n d).num*1) (1*(bB n d).den).toNat)=_
  rw[Int.mul_one,Int.one_mul,A9 x.high n d c]
 ·unfold qc
  have G:bn (sL u p) fu 0=ag (sW x y p) fun r=>some (.rt r):=v
  rw[G]
  unfold sW
  rw[w1,w2,w3,ef (n:=x.high*(y.aL - x.aL)) (by omega),f,ef (n:=n) (by omega),hd]
  rw[hd] at i
  rw[ef (n:=x.high*(d:Int)+n) (by omega),n4 (x.high*d+n) d (by omega) c (by omega)]
  rfl
 ·have s:=je (x.high*d+n) d c
  rw[hd] at i
  exact ⟨Nat.le_trans s.num (by omega),s.den.1,by have:=s.den.2;omega⟩
theorem Hr (u:ak)(F:Fit u)(p:Int)(a z:b7)(b:u.ay[0]?=some a)(c:u.ay[u.ay.length - 1]?=some z)(d:a.aL<=p)(e:p<=z.aL):
  ∃r,jb u p=some r/\qc u p=some r/\Sm r 7200 60:=by
 obtain ⟨r,h1,f,g,-⟩:=Hq u F p a z b c d e
 exact ⟨r,h1,f,g⟩
def Ba:ak:=⟨0,0,(⟨0,0⟩:an),([]:List b7),([]:List ck),([]:List bY),([]:List bO)⟩
theorem Hs {u:ak}{f:ak->Option Int}{x:Int}(h:eX u=some 0)(a:f u=some x):fJ u [f]=some (cond (x != 0) (Ba,x) (u,0)):=by
 unfold fJ;rw[h];simp only[ag,bne_self_eq_false,cond_false];unfold bF r9;simp only[a,ag];cases (x != 0)<;>rfl
theorem Ht (u:ak)(F:Fit u)(p:Int):∃a z,u.ay[0]?=some a/\u.ay[u.ay.length - 1]?=some z/\gd u p=some (bM p a.aL z.aL)/\mB u p=some (bM p a.aL z.aL):=by
 have c:=F.ay;have h0:u.ay[0]?=some (u.ay[0]'(by omega)):=List.getElem?_eq_getElem _;have b:u.ay[u.ay.length - 1]?=some (u.ay[u.ay.length - 1]'(by omega)):=List.getElem?_eq_getElem _;have hw:IntKind.i64.wrap ((u.ay.length:Int) - 1)=((u.ay.length - 1:Nat):Int):=by rw[cX (by omega)];omega
 refine ⟨_,_,h0,b,?_⟩;have k:gd u p=some (bM p (u.ay[0]'(by omega)).aL (u.ay[u.ay.length - 1]'(by omega)).aL):=by
  unfold gd;have e0:bp u.ay 0=some (u.ay[0]'(by omega)):=h0;rw[hw,e0,qj b,kr];simp only[ag,eY]
 exact ⟨k,k⟩
theorem Bb {n m:Int}{d e:Nat}(hd:0<d)(he:0<e)(h:n*(e:Int)=m*(d:Int)):bB n d=bB m e:=by
 have a:=xd e he n d;have b:=xd d hd m e;rw[<-a,<-b];have e1:(e:Int)*n=(d:Int)*m:=by rw[Int.mul_comm,h,Int.mul_comm]
 rw[e1,Nat.mul_comm e d]
theorem qk (n:Int)(d:Nat)(hd:0<d):(bB n d).num*(d:Int)=n*(bB n d).den/\0<(bB n d).den:=by
 obtain ⟨g,a,hg,c,e1,e2,b⟩:=xe n d hd;refine ⟨?_,by rw[b];omega⟩;rw[b];have k1:(d:Int)=(g:Int)*(a:Int):=by rw[<-Int.natCast_mul];exact congrArg _ e1
 calc (bB n d).num*(d:Int)=(bB n d).num*((g:Int)*(a:Int)):=by rw[<-k1]
  _=((g:Int)*(bB n d).num)*(a:Int):=by rw[<-Int.mul_assoc,Int.mul_comm (bB n d).num]
  _=n*(a:Int):=by rw[<-e2]
theorem kA {a b:an}{A B C D:Nat}(c:Sm a A B)(hb:Sm b C D)(h:A*D<=9000000000000000000)(d:C*B<=9000000000000000000):gA a b=some (decide (a.num*b.den<b.num*a.den))/\ew a b=some (decide (a.num*b.den<b.num*a.den)):=by
 have h1:=dy c.num (show b.den.natAbs<=D by have:=hb.den;omega);have e:=dy hb.num (show a.den.natAbs<=B by have:=c.den;omega);have k:gA a b=some (decide (a.num*b.den<b.num*a.den)):=by
  unfold gA;rw[ef (n:=a.num*b.den) (by omega),ef (n:=b.num*a.den) (by omega)]
 exact ⟨k,k⟩
theorem Hu {h md a d e b f c N:Int}(h1:d*b=N*md)(g:e*f=c*a):(h*(md*a)+d*e)*(b*f)=(h*b*f+N*c)*(md*a):=by
 grind
theorem Bc (u:ak)(F:Fit u)(s:aU)(hs:(1<=s.back/\s.back<=20)/\0<=s.high/\s.high<=60)(at_:Int)(aL:Int)(H:0<=aL/\aL<=60)(e:an)(he:Sm e 10000 100):
  ∃c,j8 u s at_ ⟨aL,e⟩=some ⟨⟨aL,e⟩,at_,c⟩/\mC u s aL e=some c/\c=bB (s.high*e.den*(aL+s.back)+(e.num - s.high*e.den)*(u.bE+s.back)) (e.den*(aL+s.back)).toNat:=by
 have I:=F.bE
 have w1:IntKind.i64.wrap (u.bE+s.back)=u.bE+s.back:=cX (by omega)
 have w2:IntKind.i64.wrap (aL+s.back)=aL+s.back:=cX (by omega)
 obtain ⟨f,b⟩:∃f:Nat,aL+s.back=f:=⟨(aL+s.back).toNat,by omega⟩
 have d:0<f:=by omega
 have J:f<=80:=by omega
 generalize m:u.bE+s.back=c at*
 have o:c.natAbs<=80:=by omega
 have p:Sm (⟨s.high,1⟩:an) 60 1:=⟨by show s.high.natAbs<=60;omega,by show (0:Int)<1;omega,by show (1:Int)<=((1:Nat):Int);omega⟩
 obtain ⟨a,j⟩:∃n:Nat,e.den=n:=⟨e.den.toNat,by have:=he.den;omega⟩
 have g:0<a:=by have:=he.den;omega
 have K:a<=100:=by have:=he.den;omega
 have A:(s.high*e.den).natAbs<=60*100:=dy (by omega) (by omega)
 have b2:(e.num - s.high*e.den).natAbs<=16000:=by have:=he.num;omega
 have q:=xg he p (by omega) (by omega) (by omega)
 have e1:e.num*(1:Int) - s.high*e.den=e.num - s.high*e.den:=by rw[Int.mul_one]
 have e2:(e.den*(1:Int)).toNat=a:=by rw[Int.mul_one,j,Int.toNat_natCast]
 rw[show ((⟨s.high,1⟩:an).den)=(1:Int) from rfl,show ((⟨s.high,1⟩:an).num)=s.high from rfl,e1,e2] at q
 generalize B:e.num - s.high*e.den=N at*
 have sm:=je N a g
 have r:=je c f d
 have t:=qk N a g
 have v:=qk c f d
 have L:((bB N a).num*(bB c f).num).natAbs<=16000*80:=dy (Nat.le_trans sm.num b2) (Nat.le_trans r.num o)
 have O:((bB N a).den*(bB c f).den).natAbs<=100*80:=dy (by have:=sm.den;omega) (by have:=r.den;omega)
 have P:0<(bB N a).den*(bB c f).den:=Int.mul_pos t.2 v.2
 obtain ⟨M,w⟩:∃M:Nat,(bB N a).den*(bB c f).den=M:=⟨((bB N a).den*(bB c f).den).toNat,by omega⟩
 have h:0<M:=by omega
 have C:=qf c f (by omega) d (by omega)
 have D:=qf ((bB N a).num*(bB c f).num) M (by omega) h (by omega)
 have sq:=je ((bB N a).num*(bB c f).num) M h
 have E:Sm (bB ((bB N a).num*(bB c f).num) M) 1280000 8000:=⟨Nat.le_trans sq.num (by omega),sq.den.1,by have:=sq.den.2;omega⟩
 have x:=qi p E (by omega) (by omega)
 have G:s.high*(bB ((bB N a).num*(bB c f).num) M).den+(bB ((bB N a).num*(bB c f).num) M).num*1=s.high*(bB ((bB N a).num*(bB c f).num) M).den+(bB ((bB N a).num*(bB c f).num) M).num:=by rw[Int.mul_one]
 rw[show ((⟨s.high,1⟩:an).den)=(1:Int) from rfl,show ((⟨s.high,1⟩:an).num)=s.high from rfl,G,Int.one_mul,A9 s.high _ M h] at x
 have k:e.den*(aL+s.back)=((a*f:Nat):Int):=by rw[j,b,Int.natCast_mul]
 have i:(e.den*(aL+s.back)).toNat=a*f:=by rw[k,Int.toNat_natCast]
 have y:bB (s.high*(M:Int)+(bB N a).num*(bB c f).num) M=bB (s.high*e.den*(aL+s.back)+N*c) (a*f):=by
  refine Bb h (Nat.mul_pos g d) ?_
  rw[Int.natCast_mul,<-w,b,j]
  exact Hu (by rw[t.1]) (by rw[v.1])
 refine ⟨_,?_,?_,rfl⟩
 ·unfold j8
  have l:IntKind.i64.wrap (f:Int)=f:=cX (by omega)
  simp only[ga,ag,q,m,w1,b,l,C]
  rw[ef (by omega),ef (n:=(bB N a).den*(bB c f).den) (by omega),w,D]
  simp only[x]
  rw[b] at i y
  rw[i,y]
 ·unfold mC
  have l:IntKind.i64.wrap (f:Int)=f:=cX (by omega)
  have Q:(s.high*e.den*(f:Int)).natAbs<=6000*80:=dy A (by omega)
  have p2:(N*c).natAbs<=16000*80:=dy b2 o
  have p3:(e.den*(f:Int)).natAbs<=100*80:=dy (by omega) (by omega)
  simp only[m,w1,b,l]
  rw[ef (n:=s.high*e.den) (by omega),B,ef (n:=N) (by omega),ef (n:=s.high*e.den*(f:Int)) (by omega),ef (n:=N*c) (by omega),ef (n:=s.high*e.den*(f:Int)+N*c) (by omega),ef (n:=e.den*(f:Int)) (by omega)]
  rw[b] at k i
  have z:=n4 (s.high*e.den*(f:Int)+N*c) (a*f) (by omega) (Nat.mul_pos g d) (by omega)
  rw[i]
  rw[<-k] at z
  rw[z]
  rfl
def dL (u:ak)(s:aU)(x:b7):an:=bB (s.high*1*(x.aL+s.back)+(x.high - s.high*1)*(u.bE+s.back)) (1*(x.aL+s.back)).toNat
theorem Be (u:ak)(F:Fit u)(s:aU)(hs:(1<=s.back/\s.back<=20)/\0<=s.high/\s.high<=60)(i:Nat)(x:b7)(a:u.ay[i]?=some x)(at_:Int):
  j8 u s at_ ⟨x.aL,⟨x.high,1⟩⟩=some ⟨⟨x.aL,⟨x.high,1⟩⟩,at_,dL u s x⟩/\mC u s x.aL ⟨x.high,1⟩=some (dL u s x):=by
 have p:=F.kz i x a
 have e:=F.bE
 have he:Sm (⟨x.high,1⟩:an) 10000 100:=⟨by show x.high.natAbs<=10000;omega,by show (0:Int)<1;omega,by show (1:Int)<=((100:Nat):Int);omega⟩
 obtain ⟨c,h1,b,d⟩:=Bc u F s hs at_ x.aL (by omega) ⟨x.high,1⟩ he
 have:c=dL u s x:=d
 subst this
 exact ⟨h1,b⟩
theorem Bf (u:ak)(F:Fit u)(s:aU)(hs:(1<=s.back/\s.back<=20)/\0<=s.high/\s.high<=60)(i:Nat)(x:b7)(a:u.ay[i]?=some x):Sm (dL u s x) 10000 100:=by
 have p:=F.kz i x a;have b:=F.bE;unfold dL;rw[Int.mul_one,Int.one_mul];have c:(s.high*(x.aL+s.back)).natAbs<=60*79:=dy (by omega) (by omega);have b2:((x.high - s.high)*(u.bE+s.back)).natAbs<=60*80:=dy (by omega) (by omega);have h:=je (s.high*(x.aL+s.back)+(x.high - s.high)*(u.bE+s.back)) (x.aL+s.back).toNat (by omega);exact ⟨Nat.le_trans h.num (by omega),h.den.1,by have:=h.den.2;omega⟩
def foldI {α σ:Type}(g:Nat->α->σ->σ):Nat->List α->σ->σ
 |_,[],s=>s
 |i,x::l,s=>foldI g (i+1) l (g i x s)
theorem iw {α σ ρ:Type}{f:Nat->α->σ->Option (Fl σ ρ)}{g:Nat->α->σ->σ}{I:Nat->σ->Prop}:∀(l:List α) (i:Nat) (s:σ),I i s->(∀j x s,l[j]?=some x->I (i+j) s->f (i+j) x s=some (.nx (g (i+j) x s))/\I (i+j+1) (g (i+j) x s))->
  bF f i l s=some (.nx (foldI g i l s))/\I (i+l.length) (foldI g i l s)
 |[],i,s,hs,_=>⟨rfl,hs⟩
 |x::l,i,s,hs,h=>by
  obtain ⟨h0,h1⟩:=h 0 x s rfl hs
  simp only[Nat.add_zero] at h0 h1
  unfold bF foldI
  rw[h0]
  have:=iw l (i+1) _ h1 fun j y s a hs=>by
   have:=h (j+1) y s (by simpa using a) (by rwa [show i+(j+1)=i+1+j by omega])
   rwa [show i+(j+1)=i+1+j by omega] at this
  rwa [show i+1+l.length=i+(x::l).length by simp;omega] at this
theorem Bg {α σ τ ρ:Type}{f:τ->Option (Fl τ ρ)}{g:Nat->α->σ->σ}{I:Nat->σ->Prop}(e:σ->Int->τ)(l:List α)(h:∀(i:Nat) x s,l[i]?=some x->I i s->f (e s (i:Int))=some (.nx (e (g i x s) ((i+1:Nat):Int)))/\I (i+1) (g i x s))(a:∀s,f (e s (l.length:Int))=some (.bk (e s (l.length:Int)))):
  ∀(k i n:Nat) (s:σ),I i s->i+k=l.length->k<n->bn f n (e s (i:Int))=some (.nx (e (foldI g i (l.drop i) s) (l.length:Int)))/\I l.length (foldI g i (l.drop i) s)
 |0,i,n+1,s,hs,hi,_=>by
  obtain rfl:i=l.length:=by omega
  unfold bn
  rw[a,List.drop_length]
  exact ⟨rfl,hs⟩
 |k+1,i,n+1,s,hs,hi,d=>by
  have b:i<l.length:=by omega
  have c:l[i]?=some l[i]:=List.getElem?_eq_getElem b
  obtain ⟨h0,h1⟩:=h i _ s c hs
  unfold bn
  rw[h0,List.drop_eq_getElem_cons b]
  unfold foldI
  exact Bg e l h a k (i+1) n _ h1 (by omega) (by omega)
theorem n5 {α σ τ ρ:Type}{f:τ->Option (Fl τ ρ)}{g:Nat->α->σ->σ}{I:Nat->σ->Prop}(e:σ->Int->τ)(l:List α)(a:l.length<=1000)(h:∀(i:Nat) x s,l[i]?=some x->I i s->f (e s (i:Int))=some (.nx (e (g i x s) ((i+1:Nat):Int)))/\I (i+1) (g i x s))(b:∀s,f (e s (l.length:Int))=some (.bk (e s (l.length:Int))))(s:σ)(hs:I 0 s):
  bn f fu (e s 0)=some (.nx (e (foldI g 0 l s) (l.length:Int)))/\I l.length (foldI g 0 l s):=by
 have:=Bg e l h b l.length 0 fu s hs (by omega) (Nat.lt_of_le_of_lt a (by decide))
 simpa using this
theorem Bh {α σ:Type}{g g':Nat->α->σ->σ}:∀(l:List α) (i:Nat) (s:σ),(∀j x s,i<=j->g j x s=g' j x s)->foldI g i l s=foldI g' i l s
 |[],_,_,_=>rfl
 |x::l,i,s,h=>by
  unfold foldI
  rw[h i x s (Nat.le_refl _)]
  exact Bh l (i+1) _ fun j x s a=>h j x s (by omega)
def bh (a b:an):Bool:=decide (a.num*b.den<b.num*a.den)
abbrev SR (r:an):Prop:=Sm r 2000000 8000
theorem Sm.mono {r:an}{A B a b:Nat}(h:Sm r A B)(c:A<=a)(hb:B<=b):Sm r a b:=⟨Nat.le_trans h.num c,h.den.1,by have:=h.den.2;omega⟩
theorem sX (u:ak)(F:Fit u)(s:aU)(hs:(1<=s.back/\s.back<=20)/\0<=s.high/\s.high<=60)(i:Nat)(x:b7)(a:u.ay[i]?=some x):SR (dL u s x):=(Bf u F s hs i x a).mono (by decide) (by decide)
theorem kB {a b:an}(c:SR a)(hb:SR b):gA a b=some (bh a b)/\ew a b=some (bh a b):=kA c hb (by decide) (by decide)
def gB (u:ak)(s:aU)(i:Nat)(x:b7)(st:Int×an):Int×an:=cond (bh st.2 (dL u s x)) ((i:Int),dL u s x) st
def iy (u:ak)(s:aU)(i:Nat)(x:b7):bt:=⟨⟨x.aL,⟨x.high,1⟩⟩,(i:Int),dL u s x⟩
def ff (u:ak)(s:aU):Nat->List b7->List bt
 |_,[]=>[]
 |i,x::l=>iy u s i x::ff u s (i+1) l
theorem Bi (u:ak)(s:aU):∀(l:List b7) (i:Nat) (a:List bt),foldI (fun i x st=>st++[iy u s i x]) i l a=a++ff u s i l
 |[],i,a=>by simp[foldI,ff]
 |x::l,i,a=>by simp[foldI,ff,Bi u s l (i+1)]
def gC (i:Nat)(x:bt)(st:bt):bt:=cond (bh st.high x.high) x st
theorem Bj (u:ak)(s:aU):∀(l:List b7) (i j:Nat) (c:bt),let r:=foldI gC j (ff u s i l) c;(r.at_,r.high)=foldI (gB u s) i l (c.at_,c.high)
 |[],i,j,c=>rfl
 |x::l,i,j,c=>by
  simp only[ff,foldI]
  have:=Bj u s l (i+1) (j+1) (gC j (iy u s i x) c)
  simp only at this
  rw[this]
  congr 1
  unfold gC gB iy
  cases bh c.high (dL u s x)<;>rfl
theorem xh (n:Int):ga n=some ⟨n,1⟩:=rfl
def cD (u:ak)(s:aU):Int×an:=match u.ay with
 |[]=>(0,⟨0,0⟩)
 |x::l=>foldI (gB u s) 1 l (0,dL u s x)
section
variable {u : ak} {s : aU} (F : Fit u) (hs : (1 ≤ s.back ∧ s.back ≤ 20) ∧ 0 ≤ s.high ∧ s.high ≤ 60)
include F hs
theorem Hv:bF (ny u s) 0 u.ay ([]:List bt)=some (.nx (ff u s 0 u.ay)):=by
 have c:=F.ay;have:=iw (f:=ny u s) (ρ:=bt) (g:=fun i x st=>st++[iy u s i x]) (I:=fun i st=>st.length=i) u.ay 0 [] rfl (fun j x st a b=>?_)
 ·rw[this.1,Bi];rfl
 ·have d:j<u.ay.length:=(List.getElem?_eq_some_iff.1 a).1;refine ⟨?_,by simp[b]⟩;unfold ny;rw[Nat.zero_add] at b ⊢;simp only[xh,ag,(Be u F s hs j x a (j:Int)).1];unfold c6;rw[if_pos (by simp;omega)];rfl
theorem Bl:∀(l:List b7) (i:Nat),(∀(j:Nat) x,l[j]?=some x->u.ay[i+j]?=some x)->∀(j:Nat) c,(ff u s i l)[j]?=some c->SR c.high
 |[],_,_,j,c,h=>by simp[ff] at h
 |x::l,i,a,0,c,h=>by
  simp[ff] at h
  subst h
  exact sX u F s hs i x (a 0 x rfl)
 |x::l,i,a,j+1,c,h=>Bl l (i+1) (fun j y b=>by have:=a (j+1) y (by simpa using b);rwa [show i+(j+1)=i+1+j by omega] at this) j c (by simpa [ff] using h)
theorem sY:∃c,jz u s=some c/\(c.at_,c.high)=cD u s/\SR c.high/\wZ u s=some (cD u s):=by
 have d:=F.ay;have o:=Hv F hs;obtain ⟨a,rest,he⟩:∃x l,u.ay=x::l:=by
  cases h:u.ay with
  |nil=>rw[h] at d;simp at d
  |cons x l=>exact ⟨x,l,rfl⟩
 have p:u.ay[0]?=some a:=by rw[he];rfl
 have q:∀(j:Nat) x,rest[j]?=some x->u.ay[1+j]?=some x:=fun j x h=>by rw[he,Nat.add_comm];simpa using h
 have v:rest.length<=4:=by rw[he] at d;simp at d;omega
 have r:SR (dL u s a):=sX u F s hs 0 a p
 have hg:=iw (f:=j9 gb) (ρ:=bt) (g:=gC) (I:=fun _ c=>SR c.high) (ff u s 1 rest) 0 (iy u s 0 a) r (fun j c st m e=>by
  have b:=Bl F hs rest 1 q j c m;refine ⟨?_,?_⟩
  ·unfold j9 gb gC;simp only[(kB e b).2,ag];cases bh st.high c.high<;>rfl
  ·unfold gC;cases bh st.high c.high
   ·exact e
   ·exact b)
 refine ⟨foldI gC 0 (ff u s 1 rest) (iy u s 0 a),?_,?_,hg.2,?_⟩
 ·unfold jz;rw[o,he];simp only[ag,aG,ff];rw[show bp (iy u s 0 a::ff u s (0+1) rest) 0=some (iy u s 0 a) from rfl];simp only;have:g9 (iy u s 0 a::ff u s (0+1) rest) 1 (((iy u s 0 a::ff u s (0+1) rest).length:Nat):Int)=some (ff u s 1 rest):=by
   unfold g9;rw[if_pos (by simp only[List.length_cons];omega)];simp
  rw[this];simp only;unfold iZ;rw[hg.1];rfl
 ·have:=Bj u s rest 1 0 (iy u s 0 a);simp only at this;rw[this];unfold cD;rw[he];rfl
 ·unfold wZ;have t:=n5 (f:=sK u s) (g:=fun i x st=>if i=0 then ((0:Int),dL u s x) else gB u s i x st) (I:=fun i st=>i=0\/SR st.2) (fun st i=>(st.1,i,st.2)) u.ay (by omega) (fun i x st k e=>?_) (fun st=>?_) ((0:Int),(⟨0,0⟩:an)) (.inl rfl)
  ·rw[t.1,he];simp only[ag,aG,foldI,if_pos];rw[Bh (g':=gB u s) rest (0+1) _ (fun j x st m=>if_neg (by omega))];unfold cD;rw[he]
  ·have w:i<u.ay.length:=(List.getElem?_eq_some_iff.1 k).1;have b:=sX u F s hs i x k;unfold sK;simp only;rw[show decide ((i:Int)<(u.ay.length:Int))=true by simp;omega];simp only[cond_true];rw[show bp u.ay (i:Int)=some x by unfold bp;rw[if_pos (by omega)];simpa using k];simp only[ag,(Be u F s hs i x k 0).2];have hw:IntKind.i64.wrap ((i:Int)+1)=((i+1:Nat):Int):=by rw[cX (by omega)];rfl
   rw[hw];by_cases h0:i=0
   ·subst h0;exact ⟨rfl,.inr b⟩
   ·have n:SR st.2:=e.resolve_left h0;rw[show (((i:Nat):Int)==0)=false by simp;omega];simp only[cond_false,(kB n b).1,if_neg h0];unfold gB;cases bh st.2 (dL u s x)
    ·exact ⟨rfl,.inr n⟩
    ·exact ⟨rfl,.inr b⟩
  ·unfold sK;simp
end
section
variable {u : ak} {s : aU} (F : Fit u) (hs : (1 ≤ s.back ∧ s.back ≤ 20) ∧ 0 ≤ s.high ∧ s.high ≤ 60)
include F hs
theorem Bm:Sm (⟨u.bI,1⟩:an) 60 1:=⟨by have:=F.bI;show u.bI.natAbs<=60;omega,by show (0:Int)<1;omega,by show (1:Int)<=((1:Nat):Int);omega⟩
theorem n6:SR (cD u s).2:=by
 obtain ⟨c,h1,a,b,d⟩:=sY F hs;rw[<-a];exact b
end
theorem Bn {a b c:an}(d:0<a.den)(hb:0<b.den)(g:0<c.den)(h1:bh b a=false)(e:bh b c=true):bh c a=false:=by
 unfold bh at*;simp only[decide_eq_false_iff_not,decide_eq_true_eq,Int.not_lt] at*;have k1:a.num*b.den*c.den<=b.num*a.den*c.den:=Int.mul_le_mul_of_nonneg_right h1 (by omega);have h:b.num*c.den*a.den<c.num*b.den*a.den:=Int.mul_lt_mul_of_pos_right e d;have f:b.den*(a.num*c.den)<b.den*(c.num*a.den):=by
  have e1:b.den*(a.num*c.den)=a.num*b.den*c.den:=by grind
  have e2:b.den*(c.num*a.den)=c.num*b.den*a.den:=by grind
  have i:b.num*a.den*c.den=b.num*c.den*a.den:=by grind
  omega
 exact Int.le_of_lt (Int.lt_of_mul_lt_mul_left f (by omega))
theorem jf (a:an):bh a a=false:=by unfold bh;simp
theorem xj {a b:an}(h:bh a b=true):bh b a=false:=by
 unfold bh at*;simp only[decide_eq_false_iff_not,decide_eq_true_eq,Int.not_lt] at*;omega
def xk (u:ak)(s:aU)(aL:Int)(e:an):an:=bB (s.high*e.den*(aL+s.back)+(e.num - s.high*e.den)*(u.bE+s.back)) (e.den*(aL+s.back)).toNat
def dG (u:ak)(x:ck):an:=match jb u x.place with
 |some r=>bB (r.num+x.dD*r.den) r.den.toNat
 |none=>⟨0,0⟩
def ez (u:ak)(s:aU)(x:ck):an:=xk u s x.place (dG u x)
section
variable {u : ak} {s : aU} (F : Fit u) (hs : (1 ≤ s.back ∧ s.back ≤ 20) ∧ 0 ≤ s.high ∧ s.high ≤ 60)
include F hs
theorem xl {i:Nat}{x:ck}(q:u.props[i]?=some x):∃r,jb u x.place=some r/\qc u x.place=some r/\iX r ⟨x.dD,1⟩=some (dG u x)/\
  gD (IntKind.i64.wrap (r.num+IntKind.i64.wrap (x.dD*r.den))) r.den=some (dG u x)/\(∀at_,j8 u s at_ ⟨x.place,dG u x⟩=some ⟨⟨x.place,dG u x⟩,at_,ez u s x⟩)/\mC u s x.place (dG u x)=some (ez u s x)/\SR (ez u s x):=by
 obtain ⟨t,p2,p3⟩:=F.prop i x q
 obtain ⟨a,z,j,k,l,G⟩:=Ht u F x.place
 rw[t] at l
 have hb:bM x.place a.aL z.aL=true:=(Option.some.inj l).symm
 unfold bM at hb
 simp only[Bool.and_eq_true,decide_eq_true_eq] at hb
 have H:=F.kz _ a j
 have I:=F.kz _ z k
 have J:=F.bE
 obtain ⟨r,h1,v,b⟩:=Hr u F x.place a z j k hb.1 hb.2
 have sh:Sm (⟨x.dD,1⟩:an) 20 1:=⟨by show x.dD.natAbs<=20;omega,by show (0:Int)<1;omega,by show (1:Int)<=((1:Nat):Int);omega⟩
 have K:(x.dD*r.den).natAbs<=20*60:=dy (by omega) (by have:=b.den;omega)
 obtain ⟨d,hd⟩:∃d:Nat,r.den=d:=⟨r.den.toNat,by have:=b.den;omega⟩
 have m:0<d:=by have:=b.den;omega
 have L:d<=60:=by have:=b.den;omega
 have M:=b.num
 have h:dG u x=bB (r.num+x.dD*r.den) d:=by
  unfold dG
  rw[h1]
  simp only
  rw[hd,Int.toNat_natCast]
 have e:Sm (dG u x) 10000 100:=by
  rw[h]
  have:=je (r.num+x.dD*r.den) d m
  exact ⟨Nat.le_trans this.num (by omega),this.den.1,by have:=this.den.2;omega⟩
 have w:=qi b sh (by decide) (by decide)
 have o:=n4 (r.num+x.dD*r.den) d (by omega) m (by omega)
 have p:∀at_,j8 u s at_ ⟨x.place,dG u x⟩=some ⟨⟨x.place,dG u x⟩,at_,ez u s x⟩/\mC u s x.place (dG u x)=some (ez u s x):=fun at_=>by
  obtain ⟨c,c1,c2,c3⟩:=Bc u F s hs at_ x.place ⟨by omega,by omega⟩ (dG u x) e
  subst c3
  exact ⟨c1,c2⟩
 refine ⟨r,h1,v,?_,?_,fun at_=>(p at_).1,(p 0).2,?_⟩
 ·rw[w,h]
  show some (bB (r.num*1+x.dD*r.den) (r.den*1).toNat)=_
  rw[Int.mul_one,Int.mul_one,hd,Int.toNat_natCast]
 ·rw[ef (n:=x.dD*r.den) (by omega),ef (by omega),h]
  rw[hd] at o ⊢
  exact o
 ·unfold ez xk
  obtain ⟨f,y⟩:∃f:Nat,x.place+s.back=f:=⟨(x.place+s.back).toNat,by omega⟩
  obtain ⟨g,A⟩:∃n:Nat,(dG u x).den=n:=⟨(dG u x).den.toNat,by have:=e.den;omega⟩
  have B:0<g:=by have:=e.den;omega
  have C:g<=100:=by have:=e.den;omega
  have N:=e.num
  have D:(s.high*(dG u x).den).natAbs<=60*100:=dy (by omega) (by omega)
  have b2:(s.high*(dG u x).den*(x.place+s.back)).natAbs<=6000*80:=dy D (by omega)
  have b3:(((dG u x).num - s.high*(dG u x).den)*(u.bE+s.back)).natAbs<=16000*80:=dy (by omega) (by omega)
  have E:((dG u x).den*(x.place+s.back)).toNat=g*f:=by rw[A,y,<-Int.natCast_mul,Int.toNat_natCast]
  rw[E]
  have:=je (s.high*(dG u x).den*(x.place+s.back)+((dG u x).num - s.high*(dG u x).den)*(u.bE+s.back)) (g*f) (Nat.mul_pos B (by omega))
  have O:g*f<=100*80:=Nat.mul_le_mul C (by omega)
  exact ⟨Nat.le_trans this.num (by omega),this.den.1,by have:=this.den.2;omega⟩
end
def same (x:ck)(e:an)(y:bt):Bool:=(y.spot.aL==x.place)&&((y.spot.high.num==e.num)&&(y.spot.high.den==e.den))
def gT (u:ak)(s:aU)(i:Nat)(x:ck)(st:List bt):List bt:=cond (st.any (same x (dG u x))) st (st++[⟨⟨x.place,dG u x⟩,(i:Int),ez u s x⟩])
def cp (a b:an):an:=cond (bh a b) b a
def gM (u:ak)(s:aU)(i:Nat)(x:ck)(b:an):an:=if i=0 then ez u s x else cp b (ez u s x)
theorem Bo (x:ck)(e:an):∀(l:List bt) (i:Nat),bF (pN x e) i l ()=some (cond (l.any (same x e)) (.br 1 ()) (.nx ()):Fl Unit (List bt))
 |[],i=>rfl
 |y::l,i=>by
  unfold bF pN
  rw[show ((y.spot.aL==x.place)&&((y.spot.high.num==e.num)&&(y.spot.high.den==e.den)))=same x e y from rfl,List.any_cons]
  cases same x e y
  ·simp only[cond_false,ag,Bool.false_or]
   exact Bo x e l (i+1)
  ·rfl
theorem ql {a b:an}(c:SR a)(hb:SR b):fR a b=some (cp a b):=by
 unfold fR cp;simp only[(kB c hb).1,ag];cases bh a b<;>rfl
theorem lz {a b:an}(c:SR a)(hb:SR b):SR (cp a b):=by unfold cp;cases bh a b;exact c;exact hb
def sZ:List bt->an
 |[]=>⟨0,0⟩
 |c::l=>(foldI gC 0 l c).high
theorem Bp {α σ:Type}{g:Nat->α->σ->σ}:∀(l:List α) (i:Nat) (y:α) (s:σ),foldI g i (l++[y]) s=g (i+l.length) y (foldI g i l s)
 |[],i,y,s=>rfl
 |x::l,i,y,s=>by
  simp only[List.cons_append,foldI,List.length_cons]
  rw[Bp l (i+1) y]
  congr 1
  omega
theorem Hw (c:bt)(l:List bt)(y:bt):sZ (c::l++[y])=cp (sZ (c::l)) y.high:=by
 show (foldI gC 0 (l++[y]) c).high=_;rw[Bp];show (cond (bh (foldI gC 0 l c).high y.high) y (foldI gC 0 l c)).high=cond (bh (foldI gC 0 l c).high y.high) y.high (foldI gC 0 l c).high;cases bh (foldI gC 0 l c).high y.high<;>rfl
structure Tp (u:ak)(s:aU)(st:List bt)(b:an):Prop where
 ne:st≠[]
 Bq:b=sZ st
 sm:SR b
 le:∀y∈st,bh b y.high=false/\SR y.high/\y.high=xk u s y.spot.aL y.spot.high
theorem Tp.step {u:ak}{s:aU}{st:List bt}{b:an}(h:Tp u s st b){x:ck}(f:SR (ez u s x))(i:Nat):Tp u s (gT u s i x st) (cp b (ez u s x)):=by
 unfold gT;cases m:st.any (same x (dG u x)) with
 |true=>
  simp only[cond_true];obtain ⟨y,a,g⟩:=List.any_eq_true.1 m;have d:=h.le y a;have e:y.high=ez u s x:=by
   rw[d.2.2];unfold same at g;simp only[Bool.and_eq_true,beq_iff_eq] at g;obtain ⟨e1,e2,j⟩:=g;unfold ez;have:y.spot.high=dG u x:=by
    cases n:y.spot.high;cases o:dG u x;rw[n,o] at e2 j;simp only at e2 j;rw[e2,j]
   rw[e1,this]
  have:cp b (ez u s x)=b:=by
   unfold cp;rw[<-e,d.1];rfl
  rw[this];exact h
 |false=>
  simp only[cond_false];obtain ⟨c,l,rfl⟩:∃c l,st=c::l:=by
   cases st with
   |nil=>exact absurd rfl h.ne
   |cons c l=>exact ⟨c,l,rfl⟩
  refine ⟨by simp,?_,lz h.sm f,fun y a=>?_⟩
  ·rw[Hw,<-h.Bq]
  ·rcases List.mem_append.1 a with a|a
   ·have d:=h.le y a;refine ⟨?_,d.2⟩;unfold cp;cases k:bh b (ez u s x) with
    |false=>exact d.1
    |true=>exact Bn d.2.1.den.1 h.sm.den.1 f.den.1 d.1 k
   ·simp at a;subst a;refine ⟨?_,f,rfl⟩;unfold cp;cases k:bh b (ez u s x) with
    |false=>exact k
    |true=>exact jf _
theorem Tp.fold {u:ak}{s:aU}:∀(l:List ck) (i:Nat) (st:List bt) (b:an),1<=i->(∀x∈l,SR (ez u s x))->Tp u s st b->Tp u s (foldI (gT u s) i l st) (foldI (gM u s) i l b)
 |[],_,_,_,_,_,h=>h
 |x::l,i,st,b,hi,a,h=>by
  unfold foldI
  have e:gM u s i x b=cp b (ez u s x):=if_neg (by omega)
  rw[e]
  exact Tp.fold l (i+1) _ _ (by omega) (fun y c=>a y (List.mem_cons_of_mem _ c)) (h.step (a x (List.mem_cons_self ..)) i)
theorem Tp.all {u:ak}{s:aU}(x:ck)(l:List ck)(b:∀y∈x::l,SR (ez u s y)):Tp u s (foldI (gT u s) 0 (x::l) []) (foldI (gM u s) 0 (x::l) ⟨0,0⟩):=by
 unfold foldI;have c:=b x (List.mem_cons_self ..);refine Tp.fold l 1 _ _ (Nat.le_refl _) (fun y a=>b y (List.mem_cons_of_mem _ a)) ⟨by simp[gT],?_,?_,?_⟩
 ·simp[gT,gM,sZ,foldI]
 ·exact c
 ·intro y a;simp[gT] at a;subst a;exact ⟨by simp[gM];exact jf _,c,rfl⟩
section
variable {u : ak} {s : aU} (F : Fit u) (hs : (1 ≤ s.back ∧ s.back ≤ 20) ∧ 0 ≤ s.high ∧ s.high ≤ 60)
include F hs
theorem Hx:∀x∈u.props,SR (ez u s x):=fun x a=>by
 obtain ⟨i,hi,rfl⟩:=List.getElem_of_mem a
 obtain ⟨r,_,_,_,_,_,_,h⟩:=xl F hs (i:=i) (List.getElem?_eq_getElem hi)
 exact h
theorem Hy:jA u s=some (foldI (gT u s) 0 u.props []):=by
 have e:=F.props;unfold jA
 have:=iw (f:=pO u s) (ρ:=List bt) (g:=gT u s) (I:=fun i st=>st.length<=i) u.props 0 [] (Nat.le_refl _) (fun j x st a b=>by
  have h:j<u.props.length:=(List.getElem?_eq_some_iff.1 a).1;obtain ⟨r,h1,k,c,l,d,m,n⟩:=xl F hs a;rw[Nat.zero_add] at b ⊢;unfold pO;simp only[h1,ag,xh,c,Bo];unfold gT;cases o:st.any (same x (dG u x)) with
  |true=>exact ⟨rfl,by simp only[cond_true];omega⟩
  |false=>
   simp only[cond_false,aG,ag,d];unfold c6;rw[if_pos (by simp;omega)]
   exact ⟨rfl,by simp;omega⟩)
 rw[this.1];rfl
theorem xm:lu u s=some (foldI (gM u s) 0 u.props ⟨0,0⟩,decide (0<(u.props.length:Int))):=by
 have l:=F.props;unfold lu
 have:=n5 (f:=sM u s) (g:=gM u s) (I:=fun i b=>i=0\/SR b) (fun b i=>(i,b)) u.props (by omega) (fun i x b c d=>by
  have m:i<u.props.length:=(List.getElem?_eq_some_iff.1 c).1;obtain ⟨r,h1,h,n,j,o,k,a⟩:=xl F hs c;unfold sM;simp only;rw[show decide ((i:Int)<(u.props.length:Int))=true by simp;omega];simp only[cond_true];rw[show bp u.props (i:Int)=some x by unfold bp;rw[if_pos (by omega)];simpa using c];have hw:IntKind.i64.wrap ((i:Int)+1)=((i+1:Nat):Int):=by rw[cX (by omega)];rfl
  simp only[ag,h,j,k,hw];unfold gM;by_cases h0:i=0
  ·subst h0;have e:cp (ez u s x) (ez u s x)=ez u s x:=by unfold cp;rw[jf];rfl
   rw[show (((0:Nat):Int)==0)=true from rfl];simp only[cond_true,ql a a,e,if_pos];exact ⟨trivial,.inr a⟩
  ·have hb:SR b:=d.resolve_left h0;rw[show (((i:Nat):Int)==0)=false by simp;omega];simp only[cond_false,ql hb a,if_neg h0]
   exact ⟨trivial,.inr (lz hb a)⟩) (fun b=>by unfold sM;simp) (⟨0,0⟩:an) (.inl rfl)
 rw[this.1];rfl
theorem Br:(u.props=[]/\jA u s=some []/\lu u s=some (⟨0,0⟩,false))\/
  ∃st b,jA u s=some st/\lu u s=some (b,true)/\Tp u s st b:=by
 have h1:=Hy F hs
 have a:=xm F hs
 have c:=Hx F hs
 cases d:u.props with
 |nil=>
  rw[d] at h1 a
  exact .inl ⟨rfl,h1,a⟩
 |cons x l=>
  rw[d] at h1 a c
  refine .inr ⟨_,_,h1,?_,Tp.all x l c⟩
  rw[a]
  rw[show decide (0<((x::l).length:Int))=true by simp]
end
theorem kC {a b c:an}(d:0<a.den)(hb:0<b.den)(e:0<c.den)(h1:bh a b=false)(f:bh b c=false):bh a c=false:=by
 cases h:bh a c with
 |false=>rfl
 |true=>
  have:=Bn hb d e h1 h;unfold bh at*;simp only[decide_eq_false_iff_not,decide_eq_true_eq,Int.not_lt] at*;have k1:b.num*a.den*c.den<=a.num*b.den*c.den:=Int.mul_le_mul_of_nonneg_right h1 (by omega);have g:a.num*c.den*b.den<c.num*a.den*b.den:=Int.mul_lt_mul_of_pos_right h hb;have i:c.num*b.den*a.den<=b.num*c.den*a.den:=Int.mul_le_mul_of_nonneg_right f (by omega);have e1:a.num*b.den*c.den=a.num*c.den*b.den:=by grind
  have e2:c.num*b.den*a.den=c.num*a.den*b.den:=by grind
  have j:b.num*c.den*a.den=b.num*a.den*c.den:=by grind
  omega
theorem Hz {a b c:an}(d:0<a.den)(hb:0<b.den)(e:0<c.den)(h1:bh a b=true)(f:bh b c=true):bh a c=true:=by
 unfold bh at*;simp only[decide_eq_true_eq] at*;have k1:a.num*b.den*c.den<b.num*a.den*c.den:=Int.mul_lt_mul_of_pos_right h1 e;have h:b.num*c.den*a.den<c.num*b.den*a.den:=Int.mul_lt_mul_of_pos_right f d;have g:b.den*(a.num*c.den)<b.den*(c.num*a.den):=by
  have e1:b.den*(a.num*c.den)=a.num*b.den*c.den:=by grind
  have e2:b.den*(c.num*a.den)=c.num*b.den*a.den:=by grind
  have i:b.num*a.den*c.den=b.num*c.den*a.den:=by grind
  omega
 exact Int.lt_of_mul_lt_mul_left g (by omega)
theorem Bs {e y:an}(he:SR e)(a:SR y):∀(l:List bt) (b:an),(∀x∈l,SR x.high)->SR b->∀(i j:Nat),
  foldI (fun _ (x:bt) st=>cp st x.high) i l (cp e b)=cp e (foldI (fun _ (x:bt) st=>cp st x.high) j l b)
 |[],b,_,_,i,j=>rfl
 |x::l,b,f,hb,i,j=>by
  unfold foldI
  have c:=f x (List.mem_cons_self ..)
  have key:cp (cp e b) x.high=cp e (cp b x.high):=by
   unfold cp
   cases h1:bh e b<;>cases d:bh b x.high<;>simp only[cond_true,cond_false,h1,d]
   ·have:=kC he.den.1 hb.den.1 c.den.1 h1 d
    rw[this];rfl
   ·rw[Hz he.den.1 hb.den.1 c.den.1 h1 d]
    rfl
  rw[key]
  exact Bs he a l _ (fun y a=>f y (List.mem_cons_of_mem _ a)) (lz hb c) (i+1) (j+1)
theorem xo:∀(l:List bt) (i:Nat) (c:bt),(foldI gC i l c).high=foldI (fun _ (x:bt) st=>cp st x.high) i l c.high
 |[],_,_=>rfl
 |x::l,i,c=>by
  unfold foldI
  rw[xo l (i+1)]
  congr 1
  unfold gC cp
  cases bh c.high x.high<;>rfl
theorem Bt {a b:an}(c:SR a)(hb:SR b):iq ew a [b]=some (cp a b):=by
 unfold iq bF pM;simp only[(kB c hb).2,ag];unfold cp;cases bh a b<;>rfl
theorem HA {f:Nat->bt->an->Option (Fl an an)}(c:f=mo\/f=mq){st:List bt}(d:∀x∈st,SR x.high){e:an}(he:SR e):
  bF f 0 st e=some (.nx (foldI (fun _ (x:bt) st=>cp st x.high) 0 st e))/\SR (foldI (fun _ (x:bt) st=>cp st x.high) 0 st e):=
 iw (I:=fun _ r=>SR r) st 0 e he (fun j x r g a=>by
  have b:=d x (List.mem_of_getElem? g)
  rcases c with rfl|rfl
  ·unfold mo
   simp only[Bt a b,ag]
   exact ⟨trivial,lz a b⟩
  ·unfold mq
   simp only[Bt a b,ag]
   exact ⟨trivial,lz a b⟩)
section
variable {u : ak} {s : aU} (F : Fit u) (hs : (1 ≤ s.back ∧ s.back ≤ 20) ∧ 0 ≤ s.high ∧ s.high ≤ 60)
include F hs
theorem Bu {a b:an}(c:SR a)(hb:SR b):∃d,iY a b=some d/\ko a b=some d/\Sm d 40000000000 64000000:=by
 have e:=xg c hb (by decide) (by decide) (by decide);have f:=A7 c hb (by decide) (by decide);refine ⟨_,e,f,?_⟩;have h1:=dy c.num (show b.den.natAbs<=8000 by have:=hb.den;omega);have g:=dy hb.num (show a.den.natAbs<=8000 by have:=c.den;omega);have h:=dy (show a.den.natAbs<=8000 by have:=c.den;omega) (show b.den.natAbs<=8000 by have:=hb.den;omega);have i:0<a.den*b.den:=Int.mul_pos c.den.1 hb.den.1;have:=je (a.num*b.den - b.num*a.den) (a.den*b.den).toNat (by omega);exact ⟨Nat.le_trans this.num (by omega),this.den.1,by have:=this.den.2;omega⟩
theorem Bv:Sm (⟨0,1⟩:an) 1 1:=⟨by decide,by decide,by decide⟩
theorem Bw {d:an}(hd:Sm d 40000000000 64000000):∃m,iq ew d [⟨0,1⟩]=some m/\fR d ⟨0,1⟩=some m/\Sm m 40000000000 64000000:=by
 have a:=kA hd (Bv F hs) (by decide) (by decide);refine ⟨cond (bh d ⟨0,1⟩) ⟨0,1⟩ d,?_,?_,?_⟩
 ·unfold iq bF pM;simp only[a.2,ag];unfold bh;cases decide (d.num*(⟨0,1⟩:an).den<(⟨0,1⟩:an).num*d.den)<;>rfl
 ·unfold fR;simp only[a.1,ag];unfold bh;cases decide (d.num*(⟨0,1⟩:an).den<(⟨0,1⟩:an).num*d.den)<;>rfl
 ·cases bh d ⟨0,1⟩
  ·exact hd
  ·exact (Bv F hs).mono (by decide) (by decide)
theorem Bx {f:Nat->bt->an->Option (Fl an an)}(j:f=mo\/f=mq){e:an}(he:SR e):
  ∃st m,jA u s=some st/\bF f 0 st e=some (.nx m)/\SR m/\((lu u s=some (⟨0,0⟩,false)/\m=e)\/∃b,lu u s=some (b,true)/\fR e b=some m):=by
 rcases Br F hs with ⟨_,h1,d⟩|⟨st,b,h1,d,a⟩
 ·exact ⟨[],e,h1,rfl,he,.inl ⟨d,rfl⟩⟩
 ·have g:∀x∈st,SR x.high:=fun x h=>(a.le x h).2.1
  obtain ⟨k1,k⟩:=HA j g he
  refine ⟨st,_,h1,k1,k,.inr ⟨b,d,?_⟩⟩
  rw[ql he a.sm]
  obtain ⟨c,l,rfl⟩:∃c l,st=c::l:=by
   cases st with
   |nil=>exact absurd rfl a.ne
   |cons c l=>exact ⟨c,l,rfl⟩
  have i:=g c (List.mem_cons_self ..)
  have e1:b=foldI (fun _ (x:bt) st=>cp st x.high) 0 l c.high:=by rw[a.Bq];exact xo l 0 c
  have e2:=Bs he i l c.high (fun x h=>g x (List.mem_cons_of_mem _ h)) i 1 0
  congr 1
  rw[e1,<-e2]
  rfl
theorem xp:∃r,kg u s=some r/\qd u s=some r/\Sm r 40000000000 64000000:=by
 obtain ⟨c,h1,j,g,k⟩:=sY F hs;have e2:c.high=(cD u s).2:=by rw[<-j]
 have p:SR (⟨u.bI,1⟩:an):=(Bm F hs).mono (by decide) (by decide);unfold kg qd;rw[h1,k];simp only[ag,xh,<-e2,(kB g p).1,(kB g p).2];cases bh c.high ⟨u.bI,1⟩ with
 |true=>
  simp only[cond_true];obtain ⟨st,m,t1,t2,t3,t4⟩:=Bx F hs (.inl rfl) (f:=mo) g;obtain ⟨d,d1,d2,d3⟩:=Bu F hs p t3;obtain ⟨z,h,a,e⟩:=Bw F hs d3;simp only[t1,t2,aG,d1,h];rcases t4 with ⟨k1,rfl⟩|⟨b,k1,i⟩
  ·simp only[k1,cond_false,d2,a];exact ⟨z,rfl,rfl,e⟩
  ·simp only[k1,cond_true,i,d2,a];exact ⟨z,rfl,rfl,e⟩
 |false=>
  simp only[cond_false];obtain ⟨st,m,t1,t2,t3,t4⟩:=Bx F hs (.inr rfl) (f:=mq) p;obtain ⟨d,d1,d2,d3⟩:=Bu F hs g t3;obtain ⟨z,h,a,e⟩:=Bw F hs d3;simp only[t1,t2,aG,d1,h];rcases t4 with ⟨k1,rfl⟩|⟨b,k1,i⟩
  ·simp only[k1,cond_false,d2,a];exact ⟨z,rfl,rfl,e⟩
  ·simp only[k1,cond_true,i,d2,a];exact ⟨z,rfl,rfl,e⟩
theorem HB:∃b,gf u s=some b/\sN u s=some b:=by
 obtain ⟨r,h1,c,d⟩:=xp F hs;have e:Sm u.aN 20 20:=⟨by have:=F.num;omega,by have:=F.den;omega,by have:=F.den;omega⟩
 have a:=kA e d (by decide) (by decide);unfold gf sN;simp only[h1,c,a.1,a.2,ag];exact ⟨_,rfl,rfl⟩
end
def qm (a:(List (List Int)))(b:Int)(c:bY)(st:((List (List Int))×Int)):Option (Fl ((List (List Int))×Int) (List (List Int))):=
 cond (decide (st.2<=c.high.high)) (ag (bp a b) fun d=>ag (c6 ([]:List Int) d) fun e=>ag (c6 e ([st.2])) fun f=>ag (c6 st.1 ([f])) fun g=>some (.nx (g,(IntKind.i64.wrap (st.2+1))))) (some (.bk (st.1,st.2)))
def qn (u0:ak)(a:(List (List Int)))(c:Int)(st:((List (List Int))×Int)):Option (Fl ((List (List Int))×Int) (List (List Int))):=
 cond (decide (st.2<(a.length:Int))) (ag (bp u0.aE c) fun b=>ag (bn (qm a st.2 b) fu (st.1,b.high.low)) fun o=>aG o (fun d=>some (.nx (d.1,(IntKind.i64.wrap (st.2+1))))) (fun _ _=>none) (fun r=>some (.rt r))) (some (.bk (st.1,st.2)))
def s0 (u0:ak)(st:((List (List Int))×Int)):Option (Fl ((List (List Int))×Int) (List (List Int))):=
 cond (decide (st.2<(u0.aE.length:Int))) (ag (bn (qn u0 st.1 st.2) fu (([]:List (List Int)),0)) fun o=>aG o (fun a=>some (.nx (a.1,(IntKind.i64.wrap (st.2+1))))) (fun _ _=>none) (fun r=>some (.rt r))) (some (.bk (st.1,st.2)))
def s3 (u0:ak)(a:(List (List Int)))(st:((List (List Int))×Int)):Option (Fl ((List (List Int))×Int) (List (List Int))):=
 cond (decide (st.2<(a.length:Int))) (ag (bp a st.2) fun b=>ag (w6 u0 b) fun c=>cond (c) (ag (c6 st.1 ([b])) fun d=>some (.nx (d,(IntKind.i64.wrap (st.2+1))))) (some (.nx (st.1,(IntKind.i64.wrap (st.2+1)))))) (some (.bk (st.1,st.2)))
def By (u0:ak):Option (List (List Int)):=
 ag (bn (s0 u0) fu (([([]:(List Int))]),0)) fun o=>aG o (fun a=>ag (bn (s3 u0 a.1) fu (([]:List (List Int)),0)) fun o=>aG o (fun b=>some b.1) (fun _ _=>none) (fun r=>some r)) (fun _ _=>none) (fun r=>some r)
def iz {α ρ:Type}(t:Nat->α->Option ρ):Nat->List α->Option ρ
 |_,[]=>none
 |i,x::l=>match t i x with
  |some r=>some r
  |none=>iz t (i+1) l
def lA {σ ρ:Type}(o:Option ρ)(s:σ):Fl σ ρ:=match o with
 |some r=>.rt r
 |none=>.nx s
theorem s4 {α σ ρ:Type}{f:Nat->α->σ->Option (Fl σ ρ)}{t:Nat->α->Option ρ}:∀(l:List α) (i:Nat) (s:σ),(∀j x s,l[j]?=some x->f (i+j) x s=some (lA (t (i+j) x) s))->bF f i l s=some (lA (iz t i l) s)
 |[],i,s,_=>rfl
 |x::l,i,s,h=>by
  have h0:=h 0 x s rfl
  simp only[Nat.add_zero] at h0
  unfold bF iz
  rw[h0]
  cases ht:t i x with
  |some r=>rfl
  |none=>
   show bF f (i+1) l s=_
   exact s4 l (i+1) s fun j y s a=>by
    have:=h (j+1) y s (by simpa using a)
    rwa [show i+(j+1)=i+1+j by omega] at this
theorem Bz {α σ ρ:Type}{f:σ×Int->Option (Fl (σ×Int) ρ)}{t:Nat->α->Option ρ}(l:List α)(h:∀(i:Nat) x s,l[i]?=some x->f (s,(i:Int))=some (lA (t i x) (s,((i+1:Nat):Int))))(a:∀s,f (s,(l.length:Int))=some (.bk (s,(l.length:Int)))):
  ∀(k i n:Nat) (s:σ),i+k=l.length->k<n->bn f n (s,(i:Int))=some (lA (iz t i (l.drop i)) (s,(l.length:Int)))
 |0,i,n+1,s,hi,_=>by
  obtain rfl:i=l.length:=by omega
  unfold bn
  rw[a,List.drop_length]
  rfl
 |k+1,i,n+1,s,hi,d=>by
  have b:i<l.length:=by omega
  have c:l[i]?=some l[i]:=List.getElem?_eq_getElem b
  unfold bn
  rw[h i _ s c,List.drop_eq_getElem_cons b]
  unfold iz
  cases ht:t i l[i] with
  |some r=>rfl
  |none=>exact Bz l h a k (i+1) n s (by omega) (by omega)
theorem HC {α σ ρ:Type}{f:σ×Int->Option (Fl (σ×Int) ρ)}{t:Nat->α->Option ρ}(l:List α)(a:l.length<=1000)(h:∀(i:Nat) x s,l[i]?=some x->f (s,(i:Int))=some (lA (t i x) (s,((i+1:Nat):Int))))(b:∀s,f (s,(l.length:Int))=some (.bk (s,(l.length:Int))))(s:σ):
  bn f fu (s,0)=some (lA (iz t 0 l) (s,(l.length:Int))):=by
 have:=Bz l h b l.length 0 fu s (by omega) (Nat.lt_of_le_of_lt a (by decide))
 simpa using this
theorem BA {α ρ:Type}{g:α->Bool}{r:ρ}:∀(l:List α) (i:Nat),iz (fun _ x=>if g x then none else some r) i l=if l.all g then none else some r
 |[],_=>rfl
 |x::l,i=>by
  unfold iz
  cases h:g x with
  |false=>simp[h]
  |true=>
   simp only[h,if_true,List.all_cons,Bool.true_and]
   exact BA l (i+1)
theorem xq {α:Type}{g:α->Bool}:∀(l:List α) (i:Nat),∃r,iz (fun i x=>if g x then some (i:Int) else none) i l=r/\decide (0<=r.getD (-1))=l.any g
 |[],_=>⟨none,rfl,rfl⟩
 |x::l,i=>by
  unfold iz
  cases h:g x with
  |true=>exact ⟨_,rfl,by simp[h]⟩
  |false=>
   obtain ⟨r,h1,a⟩:=xq l (i+1) (g:=g)
   exact ⟨r,by simpa using h1,by simpa [h] using a⟩
theorem mL {α:Type}{l:List α}{i:Nat}{x:α}(h:l[i]?=some x):bp l (i:Int)=some x:=by
 unfold bp;rw[if_pos (by omega)];simpa using h
theorem xu {α:Type}{l:List α}{i:Int}{x:α}(h0:0<=i)(h:l[i.toNat]?=some x):bp l i=some x:=by
 unfold bp;rw[if_pos h0,h]
theorem contains_eq {f:bO->Option Bool}{g:bO->Bool}(l:List bO)(h:∀x,x∈l->f x=some (g x)):pR l f=some (l.any g):=by
 unfold pR rW
 rw[s4 (t:=fun i x=>if g x then some (i:Int) else none) l 0 0 fun j x s a=>by
  unfold rV;rw[h x (List.mem_of_getElem? a)]
  cases g x<;>rfl]
 obtain ⟨r,h1,b⟩:=xq (g:=g) l 0;rw[h1,<-b];cases r<;>rfl
def fh (u:ak)(s:aU):Bool:=(gf u s).getD false
theorem xw {u:ak}(F:Fit u){s:aU}(hs:(1<=s.back/\s.back<=20)/\0<=s.high/\s.high<=60):gf u s=some (fh u s)/\sN u s=some (fh u s):=by
 obtain ⟨b,h1,a⟩:=HB F hs;have e:fh u s=b:=by unfold fh;rw[h1];rfl
 rw[e];exact ⟨h1,a⟩
def eO (u:ak)(i:Nat)(n:Int):aU:=⟨(u.aE[i]?.map (·.back)).getD 0,n⟩
structure n7 (u:ak)(h:List Int):Prop where
 len:h.length=u.aE.length
 s5:∀(i:Nat) e,u.aE[i]?=some e->∃n,h[i]?=some n/\e.high.low<=n/\n<=e.high.high
def kD (u:ak)(h:List Int)(t:bO):Bool:=fh u (eO u t.aW.toNat (h[t.aW.toNat]?.getD 0))==t.bw
def eZ (u:ak)(h:List Int):Bool:=u.told.all (kD u h)
theorem BB {u:ak}{h:List Int}(H:n7 u h){i:Int}(h0:0<=i)(h1:i<u.aE.length)(F:Fit u):∃e n,u.aE[i.toNat]?=some e/\h[i.toNat]?=some n/\eO u i.toNat n=⟨e.back,n⟩/\(1<=e.back/\e.back<=20)/\0<=n/\n<=60:=by
 have c:u.aE[i.toNat]?=some (u.aE[i.toNat]'(by omega)):=List.getElem?_eq_getElem _;obtain ⟨n,d,a,b⟩:=H.s5 _ _ c;obtain ⟨c1,c2,c3,c4,f⟩:=F.aW _ _ c;refine ⟨_,n,c,d,?_,c1,by omega,by omega⟩;unfold eO;rw[c];rfl
theorem HD {u:ak}(F:Fit u){h:List Int}(H:n7 u h):w6 u h=some (eZ u h):=by
 unfold w6;rw[HC (t:=fun _ x=>if kD u h x then none else some false) u.told (by have:=F.told;omega) (s:=false) (fun i x s c=>?_) (fun s=>?_)]
 ·rw[BA];unfold eZ;cases u.told.all (kD u h)<;>rfl
 ·obtain ⟨a,b⟩:=F.qh i x c;obtain ⟨e,n,h1,d,f,g,j⟩:=BB H a b F;have k:i<u.told.length:=(List.getElem?_eq_some_iff.1 c).1;have ht:=F.told;unfold w5 AU;rw[show decide (((i:Nat):Int)<(u.told.length:Int))=true by simp;omega];simp only[cond_true,mL c,ag,xu a h1,xu a d,(xw F (s:=⟨e.back,n⟩) ⟨g,j⟩).2];rw[cX (n:=(i:Int)+1) (by omega)];unfold kD;rw[d];show _=some (lA (if fh u (eO u x.aW.toNat n)==x.bw then none else some false) (s,((i+1:Nat):Int)));rw[f];cases fh u ⟨e.back,n⟩==x.bw<;>rfl
 ·unfold w5;rw[show decide ((u.told.length:Int)<(u.told.length:Int))=false by simp];rfl
def c7 (l:List Int):aX:=⟨l[0]?.getD 0,l[1]?.getD 0,l[2]?.getD 0⟩
theorem s6 {l:List Int}{i:Int}{n:Int}(h0:0<=i)(h1:i<3)(h:l[i.toNat]?=some n):aX.get (c7 l) i=some n:=by
 unfold aX.get c7;rcases (show i=0\/i=1\/i=2 by omega) with rfl|rfl|rfl<;>simp at h<;>simp[h]
theorem HE {u:ak}(F:Fit u){h:List Int}(H:n7 u h):nD u (c7 h)=some (eZ u h):=by
 unfold nD
 rw[contains_eq (g:=fun t=>!kD u h t) u.told fun x d=>by
  obtain ⟨i,hi⟩:=List.mem_iff_getElem?.1 d;obtain ⟨a,b⟩:=F.qh i x hi;obtain ⟨e,n,h1,c,f,j,k⟩:=BB H a b F;have:=F.aE;unfold pU ij;simp only[s6 a (by omega) c,ag,xu a h1,(xw F (s:=⟨e.back,n⟩) ⟨j,k⟩).1];unfold kD;rw[c];show _=some (!(fh u (eO u x.aW.toNat n)==x.bw))
  rw[f]]
 simp only[ag];unfold eZ;rw[show (u.told.any fun t=>!kD u h t)=!(u.told.all (kD u h)) by rw[List.all_eq_not_any_not];simp];simp
theorem BC {a b c:an}(d:0<a.den)(hb:0<b.den)(e:0<c.den)(h1:bh b a=false)(f:bh b c=true):bh a c=true:=by
 cases h:bh a c with
 |true=>rfl
 |false=>
  have:=kC hb d e h1 h;rw[f] at this;cases this
section
variable {u : ak} {s : aU} (F : Fit u) (hs : (1 ≤ s.back ∧ s.back ≤ 20) ∧ 0 ≤ s.high ∧ s.high ≤ 60)
include F hs
structure xx (u:ak)(s:aU)(i:Nat)(st:Int×an):Prop where
 there:∃(n:Nat) (p:b7),n<i/\st=((n:Int),dL u s p)/\u.ay[n]?=some p/\∀(j:Nat) q,j<n->u.ay[j]?=some q->bh (dL u s q) (dL u s p)=true
 Rb:∀(j:Nat) q,j<i->u.ay[j]?=some q->bh st.2 (dL u s q)=false
theorem BD:∀(l:List b7) (i:Nat) (st:Int×an),(∀(j:Nat) x,l[j]?=some x->u.ay[i+j]?=some x)->xx u s i st->xx u s (i+l.length) (foldI (gB u s) i l st)
 |[],i,st,_,h=>h
 |x::l,i,st,g,h=>by
  have b:u.ay[i]?=some x:=g 0 x rfl
  have hd:∀(j:Nat) q,u.ay[j]?=some q->0<(dL u s q).den:=fun j q a=>(sX u F s hs j q a).den.1
  unfold foldI
  have key:xx u s (i+1) (gB u s i x st):=by
   obtain ⟨⟨n,p,o,e,d,k⟩,hm⟩:=h
   subst e
   unfold gB
   cases c:bh (dL u s p) (dL u s x) with
   |true=>
    simp only[c,cond_true]
    refine ⟨⟨i,x,by omega,rfl,b,fun j q f a=>?_⟩,fun j q f a=>?_⟩
    ·exact BC (hd j q a) (hd n p d) (hd i x b) (hm j q f a) c
    ·by_cases e:j=i
     ·subst e;rw[b] at a;cases a;exact jf _
     ·exact xj (BC (hd j q a) (hd n p d) (hd i x b) (hm j q (by omega) a) c)
   |false=>
    simp only[c,cond_false]
    refine ⟨⟨n,p,by omega,rfl,d,k⟩,fun j q f a=>?_⟩
    by_cases e:j=i
    ·subst e;rw[b] at a;cases a;exact c
    ·exact hm j q (by omega) a
  have:=BD l (i+1) _ (fun j y m=>by have:=g (j+1) y (by simpa using m);rwa [show i+(j+1)=i+1+j by omega] at this) key
  rwa [show i+1+l.length=i+(x::l).length by simp;omega] at this
theorem HF:∃(n:Nat) (p:b7),cD u s=((n:Int),dL u s p)/\u.ay[n]?=some p/\(∀(j:Nat) q,u.ay[j]?=some q->bh (dL u s p) (dL u s q)=false)/\∀(j:Nat) q,j<n->u.ay[j]?=some q->bh (dL u s q) (dL u s p)=true:=by
 have c:=F.ay;cases he:u.ay with
 |nil=>rw[he] at c;simp at c
 |cons x l=>
  have d:u.ay[0]?=some x:=by rw[he];rfl
  have hb:=BD F hs l 1 (0,dL u s x) (fun j y f=>by rw[he,Nat.add_comm];simpa using f)
   ⟨⟨0,x,by omega,rfl,d,fun j q b=>absurd b (by omega)⟩,fun j q b a=>by
    obtain rfl:j=0:=by omega
    rw[d] at a;cases a;exact jf _⟩
  have ev:cD u s=foldI (gB u s) 1 l (0,dL u s x):=by unfold cD;rw[he]
  obtain ⟨⟨n,p,i,e,g,h⟩,hm⟩:=hb;rw[e] at hm ev;refine ⟨n,p,ev,by rw[<-he];exact g,fun j q a=>?_,fun j q b a=>h j q b (by rw[he];exact a)⟩;refine hm j q ?_ (by rw[he];exact a);have:=(List.getElem?_eq_some_iff.1 a).1;simp at this;omega
end
theorem HG (n:Int)(d:Nat)(hd:0<d):bB (bB n d).num (bB n d).den.toNat=bB n d:=by
 obtain ⟨h1,a⟩:=qk n d hd;refine Bb (by omega) hd ?_;rw[show (((bB n d).den.toNat:Nat):Int)=(bB n d).den by omega];exact h1
def cH (a b:an):an:=bB (a.num*b.den - b.num*a.den) (a.den*b.den).toNat
def qo (u:ak)(s:aU):an:=foldI (gM u s) 0 u.props ⟨0,0⟩
def mM (u:ak)(s:aU):an:=cond (bh (cD u s).2 ⟨u.bI,1⟩) ⟨u.bI,1⟩ (cD u s).2
def lB (u:ak)(s:aU):an:=cond (bh (cD u s).2 ⟨u.bI,1⟩) (cD u s).2 ⟨u.bI,1⟩
def mN (u:ak)(s:aU):an:=cond (decide (0<(u.props.length:Int))) (cp (lB u s) (qo u s)) (lB u s)
def n8 (u:ak)(s:aU):an:=cp (cH (mM u s) (mN u s)) ⟨0,1⟩
theorem HH:Sm (⟨0,1⟩:an) 1 1:=⟨by decide,by decide,by decide⟩
theorem BE {a b:an}(c:SR a)(hb:SR b):Sm (cH a b) 40000000000 64000000:=by
 have h1:=dy c.num (show b.den.natAbs<=8000 by have:=hb.den;omega);have d:=dy hb.num (show a.den.natAbs<=8000 by have:=c.den;omega);have e:=dy (show a.den.natAbs<=8000 by have:=c.den;omega) (show b.den.natAbs<=8000 by have:=hb.den;omega);have f:0<a.den*b.den:=Int.mul_pos c.den.1 hb.den.1;have:=je (a.num*b.den - b.num*a.den) (a.den*b.den).toNat (by omega);unfold cH;exact ⟨Nat.le_trans this.num (by omega),this.den.1,by have:=this.den.2;omega⟩
theorem HI {a b:an}(c:SR a)(hb:SR b):ko a b=some (cH a b):=A7 c hb (by decide) (by decide)
theorem HJ {d:an}(hd:Sm d 40000000000 64000000):fR d ⟨0,1⟩=some (cp d ⟨0,1⟩):=by
 have a:=kA hd HH (by decide) (by decide);unfold fR;simp only[a.1,ag];unfold cp bh;cases decide (d.num*(⟨0,1⟩:an).den<(⟨0,1⟩:an).num*d.den)<;>rfl
section
variable {u : ak} {s : aU} (F : Fit u) (hs : (1 ≤ s.back ∧ s.back ≤ 20) ∧ 0 ≤ s.high ∧ s.high ≤ 60)
include F hs
theorem s7:SR (⟨u.bI,1⟩:an):=(Bm F hs).mono (by decide) (by decide)
theorem BG:SR (mM u s):=by
 unfold mM;cases bh (cD u s).2 ⟨u.bI,1⟩
 ·exact n6 F hs
 ·exact s7 F hs
theorem BH:SR (lB u s):=by
 unfold lB;cases bh (cD u s).2 ⟨u.bI,1⟩
 ·exact s7 F hs
 ·exact n6 F hs
theorem xy (h:u.props≠[]):SR (qo u s):=by
 rcases Br F hs with ⟨h0,_,_⟩|⟨st,b,_,a,c⟩
 ·exact absurd h0 h
 ·rw[xm F hs] at a;have e:qo u s=b:=(Prod.mk.inj (Option.some.inj a)).1;rw[e];exact c.sm
theorem BI:SR (mN u s):=by
 unfold mN;cases h:decide (0<(u.props.length:Int)) with
 |false=>exact BH F hs
 |true=>
  refine lz (BH F hs) (xy F hs fun e=>?_);rw[e] at h;simp at h
theorem HK:qd u s=some (n8 u s):=by
 obtain ⟨c,h1,h,i,g⟩:=sY F hs;have es:SR (cD u s).2:=n6 F hs;have ps:=s7 F hs;unfold qd;rw[g,xm F hs];simp only[ag,(kB es ps).1];have j:=BI F hs;have k:=BG F hs;have key:∀a b:an,SR a->SR b->ag (ko a b) (fun x=>ag (fR x ⟨0,1⟩) fun y=>some y)=some (cp (cH a b) ⟨0,1⟩):=fun a b f hb=>by
  rw[HI f hb];simp only[ag];rw[HJ (BE f hb)]
 simp only[ag] at key;unfold n8 mN mM lB;cases l:bh (cD u s).2 ⟨u.bI,1⟩ with
 |true=>
  simp only[cond_true];cases d:decide (0<(u.props.length:Int)) with
  |true=>
   have cs:=xy F hs (fun e=>by rw[e] at d;simp at d);simp only[cond_true];rw[show foldI (gM u s) 0 u.props ⟨0,0⟩=qo u s from rfl,ql es cs];exact key _ _ ps (lz es cs)
  |false=>exact key _ _ ps es
 |false=>
  simp only[cond_false];cases d:decide (0<(u.props.length:Int)) with
  |true=>
   have cs:=xy F hs (fun e=>by rw[e] at d;simp at d);simp only[cond_true];rw[show foldI (gM u s) 0 u.props ⟨0,0⟩=qo u s from rfl,ql ps cs];exact key _ _ es (lz ps cs)
  |false=>exact key _ _ es ps
theorem BJ:kg u s=some (n8 u s):=by
 obtain ⟨r,h1,a,_⟩:=xp F hs;rw[HK F hs] at a;rw[h1,<-a]
end
structure Vl (r:an)(n d:Int):Prop where
 eq:r.num*d=n*r.den
 d:0<d
 den:0<r.den
theorem lt_mul {a b c:Int}(d:0<c):(a*c<b*c)↔a<b:=Int.mul_lt_mul_right d
theorem Vl.lt {r a:an}{n d e b:Int}(h:Vl r n d)(c:Vl a e b):bh r a=decide (n*b<e*d):=by
 unfold bh;rw[decide_eq_decide];have e1:r.num*a.den*(d*b)=n*b*(r.den*a.den):=by have:=h.eq;have:=c.eq;grind
 have e2:a.num*r.den*(d*b)=e*d*(r.den*a.den):=by have:=h.eq;have:=c.eq;grind
 rw[<-lt_mul (Int.mul_pos h.d c.d),e1,e2,lt_mul (Int.mul_pos h.den c.den)]
theorem mO {a b:an}(c:0<a.den)(hb:0<b.den):Vl (cH a b) (a.num*b.den - b.num*a.den) (a.den*b.den):=by
 have hd:0<a.den*b.den:=Int.mul_pos c hb;have h:=qk (a.num*b.den - b.num*a.den) (a.den*b.den).toNat (by omega);rw[show (((a.den*b.den).toNat:Nat):Int)=a.den*b.den by omega] at h;exact ⟨h.1,hd,h.2⟩
theorem HL (n:Int)(d:Nat):bB (-n) d=⟨-(bB n d).num,(bB n d).den⟩:=by
 unfold bB;rw[Int.natAbs_neg,Int.neg_tdiv]
def kE (r:an):an:=⟨if r.num<0 then -r.num else r.num,r.den⟩
theorem HM {d:an}(hd:0<d.den):cp d ⟨0,1⟩=if d.num<0 then ⟨0,1⟩ else d:=by
 unfold cp bh;simp only[Int.mul_one,Int.zero_mul];by_cases h:d.num<0<;>simp[h]
theorem Vl.neg {r:an}{n d:Int}(h:Vl r n d):r.num<0↔n<0:=by
 have h0:Vl ⟨0,1⟩ 0 1:=⟨rfl,by decide,by decide⟩
 have:=h.lt h0;unfold bh at this;simpa [decide_eq_decide] using this
theorem HN {P e:an}(f:0<P.den)(he:0<e.den):cH (cond (bh e P) P e) (cond (bh e P) e P)=kE (cH P e)/\0<=(cH (cond (bh e P) P e) (cond (bh e P) e P)).num:=by
 have a:=mO f he;cases c:bh e P with
 |true=>
  simp only[cond_true];unfold bh at c;rw[decide_eq_true_eq] at c;have b:¬(cH P e).num<0:=by rw[a.neg];omega
  unfold kE;rw[if_neg b];exact ⟨rfl,by omega⟩
 |false=>
  simp only[cond_false];unfold bh at c;rw[decide_eq_false_iff_not] at c;have e1:cH e P=⟨-(cH P e).num,(cH P e).den⟩:=by
   unfold cH;rw[<-HL,Int.mul_comm e.den P.den];congr 1;omega
  rw[e1];unfold kE;by_cases b:(cH P e).num<0
  ·rw[if_pos b];exact ⟨rfl,by show 0<= -(cH P e).num;omega⟩
  ·have g:(cH P e).num=0:=by
    have h0:¬0<(cH P e).num:=fun h=>by
     have h1:=Int.mul_pos h a.d;rw[a.eq] at h1;have i:P.num*e.den - e.num*P.den<=0:=by omega
     have j:=Int.mul_le_mul_of_nonneg_right i (Int.le_of_lt a.den);omega
    omega
   rw[if_neg b,g];exact ⟨rfl,Int.le_refl 0⟩
section
variable {u : ak} {s : aU} (F : Fit u) (hs : (1 ≤ s.back ∧ s.back ≤ 20) ∧ 0 ≤ s.high ∧ s.high ≤ 60)
include F hs
theorem HO:0<(cH (mM u s) (mN u s)).den:=(BE (BG F hs) (BI F hs)).den.1
theorem HP:cH (mM u s) (lB u s)=kE (cH ⟨u.bI,1⟩ (cD u s).2)/\0<=(cH (mM u s) (lB u s)).num:=
 HN (P:=⟨u.bI,1⟩) (s7 F hs).den.1 (n6 F hs).den.1
theorem HQ (h:u.props=[]):n8 u s=kE (cH ⟨u.bI,1⟩ (cD u s).2):=by
 obtain ⟨h1,a⟩:=HP F hs;have e:mN u s=lB u s:=by unfold mN;rw[h];rfl
 unfold n8;rw[HM (HO F hs),e,if_neg (by omega),h1]
end
theorem qp {α:Type}{t:Nat->α->Option Int}:∀(l:List α) (i:Nat),(∀j x,l[j]?=some x->t (i+j) x=none)->dx t i l=none
 |[],i,_=>rfl
 |y::l,i,h=>by
  unfold dx
  have h0:=h 0 y rfl
  rw[Nat.add_zero] at h0
  rw[h0]
  exact qp l (i+1) fun j x a=>by
   have:=h (j+1) x (by simpa using a)
   rwa [show i+(j+1)=i+1+j by omega] at this
theorem HR {u:ak}(h:eX u=some 0):gV u=0:=by
 have a:ja u=some 0:=h;unfold ja at a;rw[sQ] at a;simp only[ag] at a;cases hg:(gV u != 0) with
 |true=>rw[hg] at a;exact Option.some.inj a
 |false=>simpa using hg
theorem HS {u:ak}(hg:gV u=0)(F:Fit u):eX u=some 0:=by
 have h:=F.ay;have i:=F.bE;have k:=F.props;have l:=F.aE;have m:=F.told;show ja u=some 0;unfold ja;rw[sQ,hg];show k9 u=some 0;unfold k9;rw[(w7 u (by omega)).1,qp u.ay 0 fun j x c=>?_,ey.2 (show (2:Int)<=(u.ay.length:Int)/\(u.ay.length:Int)<=5 by omega)]
 ·show k8 u=some 0;unfold k8;obtain ⟨f,d⟩:=w9 u (by omega) (by omega);rw[sU u f d,qp u.props 0 fun j x c=>?_,show decide (3<(u.props.length:Int))=false by simp;omega]
  ·show k7 u=some 0;unfold k7;rw[sS,qp u.aE 0 fun j x c=>?_,ey.2 (show (1:Int)<=(u.aE.length:Int)/\(u.aE.length:Int)<=3 by omega)]
   ·show k6 u=some 0;unfold k6 nv;rw[sR,qp u.told 0 fun j x c=>?_,show decide (3<(u.told.length:Int))=false by simp;omega]
    ·rfl
    ·obtain ⟨a,b⟩:=F.qh j x c;unfold jd gY;rw[cX (by omega),ey.2 ⟨a,by omega⟩];rfl
   ·obtain ⟨a,g,b2,b3,b4⟩:=F.aW j x c;unfold gX ku;rw[ey.2 a,cX (by omega),show decide (3<=x.high.high - x.high.low)=false by simp;omega,decide_eq_true g,decide_eq_true b2,decide_eq_true b3];rfl
  ·obtain ⟨a,b⟩:=F.prop j x c;have:=(d x.place).1;rw[a] at this;unfold gW;rw[<-Option.some.inj this,ey.2 b];rfl
 ·obtain ⟨a,b⟩:=F.kz j x c;unfold gj;rw[cX (by omega),ey.2 a,ey.2 b];simp only[cond_true,Nat.zero_add];cases j with
  |zero=>rfl
  |succ j=>
   have n:=(List.getElem?_eq_some_iff.1 c).1;have e:u.ay[j]?=some (u.ay[j]'(by omega)):=List.getElem?_eq_getElem _;have:=F.xb j _ x e c;simp only[e];rw[show decide (x.aL<=(u.ay[j]'(by omega)).aL)=false by simp;omega];rfl
def di (b:c9):List Int:=(List.range (b.high - b.low+1).toNat).map fun k=>b.low+(k:Nat)
theorem HT {b:c9}{i:Nat}{x:Int}(h:(di b)[i]?=some x):x=b.low+i/\b.low+i<=b.high:=by
 unfold di at h;rw[List.getElem?_map,Option.map_eq_some_iff] at h;obtain ⟨k,c,rfl⟩:=h;obtain ⟨h1,a⟩:=List.getElem?_eq_some_iff.1 c;simp at h1 a;subst a;exact ⟨rfl,by omega⟩
theorem qq (b:c9):(di b).length=(b.high - b.low+1).toNat:=by simp[di]
theorem BK {b:c9}{x:Int}:x∈di b↔b.low<=x/\x<=b.high:=by
 unfold di;rw[List.mem_map];constructor
 ·rintro ⟨k,a,rfl⟩;rw[List.mem_range] at a;omega
 ·rintro ⟨h1,c⟩;exact ⟨(x - b.low).toNat,by rw[List.mem_range];omega,by omega⟩
def kF (b:c9)(all:List (List Int)):List (List Int):=all.flatMap fun p=>(di b).map fun n=>p++[n]
def dM (p:List Int):List bY->List (List Int)
 |[]=>[p]
 |e::l=>(di e.high).flatMap fun n=>dM (p++[n]) l
def bQ (u:ak):List (List Int):=(dM [] u.aE).filter (eZ u)
theorem qs {α β:Type}(g:α->List β):∀(l:List α) (i:Nat) (s:List β),foldI (fun _ x s=>s++g x) i l s=s++l.flatMap g
 |[],_,s=>by simp[foldI]
 |x::l,i,s=>by
  unfold foldI
  rw[qs g l]
  simp[List.flatMap_cons]
theorem BL:∀(l:List bY) (i:Nat) (all:List (List Int)),foldI (fun _ (e:bY) all=>kF e.high all) i l all=all.flatMap fun p=>dM p l
 |[],_,all=>by
  unfold foldI
  show all=all.flatMap fun p=>[p]
  induction all with
  |nil=>rfl
  |cons a l ih=>rw[List.flatMap_cons,<-ih];rfl
 |e::l,i,all=>by
  unfold foldI
  rw[BL l]
  unfold kF
  rw[List.flatMap_assoc]
  congr 1
  funext p
  rw[List.flatMap_map]
  rfl
theorem BM:∀(l:List bY) (p h:List Int),h∈dM p l->h.length=p.length+l.length/\(∀(j:Nat) e,l[j]?=some e->∃n,h[p.length+j]?=some n/\e.high.low<=n/\n<=e.high.high)/\∀j,j<p.length->h[j]?=p[j]?
 |[],p,h,hm=>by
  simp only[dM,List.mem_singleton] at hm
  subst hm
  exact ⟨rfl,fun j e he=>by simp at he,fun _ _=>rfl⟩
 |e::l,p,h,hm=>by
  unfold dM at hm
  rw[List.mem_flatMap] at hm
  obtain ⟨n,d,hm⟩:=hm
  obtain ⟨h1,c,a⟩:=BM l _ _ hm
  rw[List.length_append,List.length_singleton] at h1 c a
  refine ⟨by simp;omega,fun j x b=>?_,fun j f=>?_⟩
  ·cases j with
   |zero=>
    simp at b;subst b
    refine ⟨n,?_,BK.1 d⟩
    rw[Nat.add_zero,a _ (by omega),List.getElem?_append_right (Nat.le_refl _)]
    simp
   |succ j=>
    obtain ⟨m,hm,hb⟩:=c j x (by simpa using b)
    exact ⟨m,by rw[<-hm];congr 1;omega,hb⟩
  ·rw[a j (by omega),List.getElem?_append_left f]
theorem xz {u:ak}{h:List Int}(hm:h∈dM [] u.aE):n7 u h:=by
 obtain ⟨h1,a,_⟩:=BM _ _ _ hm;exact ⟨by simpa using h1,fun i e he=>by simpa using a i e he⟩
theorem BN {b:c9}(hb:b.high - b.low<3):∀(all:List (List Int)),(kF b all).length<=all.length*3
 |[]=>by simp[kF]
 |p::all=>by
  have:=BN hb all
  unfold kF at this ⊢
  rw[List.flatMap_cons,List.length_append,List.length_map,qq,List.length_cons]
  omega
theorem qt {α:Type}{l xs:List α}(h:l.length+xs.length<=1000000):c6 l xs=some (l++xs):=by
 unfold c6;rw[if_pos h]
theorem HU {all:List (List Int)}{k:Nat}{p:List Int}{e:bY}(b:all[k]?=some p)(d:p.length<=100)(he:0<=e.high.low/\e.high.low<=e.high.high/\e.high.high<=60/\e.high.high - e.high.low<3)(s:List (List Int))(hs:s.length<=1000):
  bn (qm all (k:Int) e) fu (s,e.high.low)=some (.nx (s++(di e.high).map (fun n=>p++[n]),e.high.high+1)):=by
 have key:=n5 (f:=qm all (k:Int) e) (g:=fun _ x s=>s++[p++[x]]) (I:=fun i s=>s.length<=1000+i) (fun s i=>(s,e.high.low+i)) (di e.high) (by rw[qq];omega)
  (fun i x s c h=>by
   obtain ⟨rfl,hb⟩:=HT c
   refine ⟨?_,by simp;omega⟩
   unfold qm
   rw[show decide ((s,e.high.low+(i:Int)).2<=e.high.high)=true by simpa using hb]
   simp only[cond_true,mL b,ag,qt (l:=([]:List Int)) (xs:=p) (by simp;omega),List.nil_append,qt (l:=p) (xs:=[e.high.low+(i:Int)]) (by simp;omega),qt (l:=s) (xs:=[p++[e.high.low+(i:Int)]]) (by simp;omega)]
   rw[cX (n:=e.high.low+(i:Int)+1) (by omega)]
   simp;omega)
  (fun s=>by
   unfold qm
   rw[show decide ((s,e.high.low+((di e.high).length:Int)).2<=e.high.high)=false by rw[qq];simp;omega]
   rfl) s (by omega)
 have:=key.1
 rw[qs (fun x=>[p++[x]])] at this
 simp only[Int.add_zero] at this
 rw[this]
 congr 2
 refine Prod.ext ?_ ?_
 ·simp only[List.append_cancel_left_eq]
  induction di e.high with
  |nil=>rfl
  |cons a l ih=>simp[ih]
 ·simp only[qq];omega
theorem HV {u:ak}{all:List (List Int)}{i:Nat}{e:bY}(hi:u.aE[i]?=some e)(b:∀p∈all,p.length<=100)(c:all.length<=100)(he:0<=e.high.low/\e.high.low<=e.high.high/\e.high.high<=60/\e.high.high - e.high.low<3):
  bn (qn u all (i:Int)) fu (([]:List (List Int)),0)=some (.nx (kF e.high all,(all.length:Int))):=by
 have key:=n5 (f:=qn u all (i:Int)) (g:=fun _ p s=>s++(di e.high).map fun n=>p++[n]) (I:=fun i s=>s.length<=3*i/\i<=all.length) (fun s i=>(s,i)) all (by omega)
  (fun k p s a d=>by
   have h:k<all.length:=(List.getElem?_eq_some_iff.1 a).1
   refine ⟨?_,by simp[qq];omega,by omega⟩
   unfold qn
   rw[show decide ((s,(k:Int)).2<(all.length:Int))=true by simp;omega]
   simp only[cond_true,mL hi,ag,HU a (b p (List.mem_of_getElem? a)) he s (by omega),aG]
   rw[cX (n:=(k:Int)+1) (by omega)]
   rfl)
  (fun s=>by
   unfold qn
   rw[show decide ((s,(all.length:Int)).2<(all.length:Int))=false by simp]
   rfl) ([]:List (List Int)) ⟨by simp,by omega⟩
 have:=key.1
 rw[qs (fun p=>(di e.high).map fun n=>p++[n])] at this
 simpa [kF] using this
theorem BO {u:ak}:∀(l:List (List Int)) (i:Nat) (s:List (List Int)),foldI (fun _ x s=>if eZ u x then s++[x] else s) i l s=s++l.filter (eZ u)
 |[],_,s=>by simp[foldI]
 |x::l,i,s=>by
  unfold foldI
  rw[BO l]
  cases h:eZ u x<;>simp[h]
theorem three (i:Nat)(h:i<=3):3 ^ i<=27:=by
 rcases (show i=0\/i=1\/i=2\/i=3 by omega) with rfl|rfl|rfl|rfl<;>decide
theorem xA {u:ak}(F:Fit u):By u=some (bQ u)/\(bQ u).length<=27:=by
 have o:=F.aE;have key:=n5 (f:=s0 u) (g:=fun _ (e:bY) all=>kF e.high all) (I:=fun i all=>(∀p∈all,p.length=i)/\all.length<=3 ^ i/\i<=u.aE.length) (fun s i=>(s,i)) u.aE (by omega)
  (fun i e all hi c=>by
   obtain ⟨h1,r,t⟩:=c;have j:i<u.aE.length:=(List.getElem?_eq_some_iff.1 hi).1;have he:=(F.aW i e hi).2;have v:=three i (by omega);have hs:=BN he.2.2.2 all;refine ⟨?_,fun p a=>?_,by rw[Nat.pow_succ];omega,by omega⟩
   ·unfold s0;rw[show decide ((all,(i:Int)).2<(u.aE.length:Int))=true by simp;omega];simp only[cond_true,HV hi (fun p a=>by have:=h1 p a;omega) (by omega) he,ag,aG];rw[cX (n:=(i:Int)+1) (by omega)];rfl
   ·unfold kF at a;rw[List.mem_flatMap] at a;obtain ⟨q,k,a⟩:=a;rw[List.mem_map] at a;obtain ⟨n,_,rfl⟩:=a
    simp[h1 q k])
  (fun s=>by
   unfold s0;rw[show decide ((s,(u.aE.length:Int)).2<(u.aE.length:Int))=false by simp]
   rfl) [[]] ⟨by simp,by simp,by omega⟩
 obtain ⟨k1,b⟩:=key;rw[BL] at k1 b;simp only[List.flatMap_cons,List.flatMap_nil,List.append_nil] at k1 b;have hlen:(dM [] u.aE).length<=27:=Nat.le_trans b.2.1 (three _ (by omega));have d:=n5 (f:=s3 u (dM [] u.aE)) (g:=fun _ x s=>if eZ u x then s++[x] else s) (I:=fun i s=>s.length<=i/\i<=(dM [] u.aE).length) (fun s i=>(s,i)) (dM [] u.aE) (by omega)
  (fun i h s hi c=>by
   have j:i<(dM [] u.aE).length:=(List.getElem?_eq_some_iff.1 hi).1;have m:=HD F (xz (List.mem_of_getElem? hi));refine ⟨?_,by cases eZ u h<;>simp<;>omega,by omega⟩;unfold s3;rw[show decide ((s,(i:Int)).2<((dM [] u.aE).length:Int))=true by simp;omega];simp only[cond_true,mL hi,ag,m];rw[cX (n:=(i:Int)+1) (by omega)];cases eZ u h with
   |false=>rfl
   |true=>simp only[cond_true,qt (l:=s) (xs:=[h]) (by simp;omega)];rfl)
  (fun s=>by
   unfold s3;rw[show decide ((s,((dM [] u.aE).length:Int)).2<((dM [] u.aE).length:Int))=false by simp]
   rfl) ([]:List (List Int)) ⟨by simp,by omega⟩
 rw[BO] at d;refine ⟨?_,Nat.le_trans (List.length_filter_le _ _) hlen⟩;unfold By;rw[k1];simp only[ag,aG];rw[d.1];simp only[List.nil_append];rfl
def co (h:aX)(j:Nat):Int:=if j=0 then h.e0 else if j=1 then h.e1 else if j=2 then h.e2 else 0
theorem HW (h:aX){j:Nat}(b:j<3)(n:Int):∃h1,h.setAt (j:Int) n=some h1/\∀i,co h1 i=if i=j then n else co h i:=by
 rcases (show j=0\/j=1\/j=2 by omega) with rfl|rfl|rfl
 ·refine ⟨{h with e0:=n},rfl,fun i=>?_⟩;unfold co;split<;>rfl
 ·refine ⟨{h with e1:=n},rfl,fun i=>?_⟩;unfold co;by_cases h0:i=0<;>by_cases h1:i=1<;>simp[h0,h1]<;>omega
 ·refine ⟨{h with e2:=n},rfl,fun i=>?_⟩;unfold co;by_cases h0:i=0<;>by_cases h1:i=1<;>by_cases a:i=2<;>simp[h0,h1,a]<;>omega
structure Ag (u:ak)(p:List Int)(h:aX):Prop where
 at_:∀(j:Nat) n,p[j]?=some n->co h j=n
 no:∀j,u.aE.length<=j->co h j=0
theorem Ag.c7 {u:ak}{p:List Int}{h:aX}(H:Ag u p h)(a:p.length=u.aE.length):h=c7 p:=by
 have key:∀j,co h j=p[j]?.getD 0:=fun j=>by
  cases e:p[j]? with
  |some n=>exact H.at_ j n e
  |none=>exact H.no j (by rw[<-a];exact List.getElem?_eq_none_iff.1 e)
 have b:=key 0;have k1:=key 1;have c:=key 2;cases h;unfold Go.Proofs.YtpgcmoanfifglaaGreatDoor.c7;rw[<-b,<-k1,<-c];rfl
theorem Ag.set {u:ak}{p:List Int}{h:aX}(H:Ag u p h)(b:p.length<u.aE.length)(c:u.aE.length<=3)(n:Int):∃h1,h.setAt (p.length:Int) n=some h1/\Ag u (p++[n]) h1:=by
 obtain ⟨h1,e1,e2⟩:=HW h (j:=p.length) (by omega) n;refine ⟨h1,e1,fun j m hm=>?_,fun j a=>?_⟩
 ·rw[e2];by_cases e:j=p.length
  ·subst e;rw[if_pos rfl];simpa using hm
  ·rw[if_neg e];refine H.at_ j m ?_;rw[<-hm,List.getElem?_append_left];have:=(List.getElem?_eq_some_iff.1 hm).1;simp at this;omega
 ·rw[e2,if_neg (by omega)];exact H.no j a
theorem Ag.cut {u:ak}{p:List Int}{n:Int}{h:aX}(H:Ag u (p++[n]) h):Ag u p h:=
 ⟨fun j m hm=>H.at_ j m (by rw[List.getElem?_append_left (List.getElem?_eq_some_iff.1 hm).1];exact hm),H.no⟩
theorem BP {a b:Int}(h:a<=b):di ⟨a,b⟩=a::di ⟨a+1,b⟩:=by
 unfold di;simp only;rw[show (b - a+1).toNat=(b - (a+1)+1).toNat+1 by omega,List.range_succ_eq_map];simp only[List.map_cons,List.map_map,Function.comp_def];congr 1
 ·simp
 ·apply List.map_congr_left;intro k _;simp only[Nat.succ_eq_add_one];omega
theorem HX {a b:Int}(h:¬a<=b):di ⟨a,b⟩=[]:=by
 unfold di;simp only;rw[show (b - a+1).toNat=0 by omega];rfl
theorem BQ {u:ak}{p:List Int}(a:p.length<u.aE.length)(b:u.aE.length<=3){f:aX->List (Option aX)×aX}{G:Int->List (Option aX)}{lo hi:Int}(hb:0<=lo/\hi<=60)
  (d:∀n,lo<=n->n<=hi->∀h,Ag u (p++[n]) h->(f h).1=G n/\Ag u (p++[n]) (f h).2):
  ∀(k:Nat) (n:Int) (h:aX),Ag u p h->lo<=n->n<=61->61 - n<k->(jc f (p.length:Int) hi k n h).1=(di ⟨n,hi⟩).flatMap G/\Ag u p (jc f (p.length:Int) hi k n h).2
 |0,n,h,H,h1,e,g=>by omega
 |k+1,n,h,H,h1,e,g=>by
  unfold jc
  by_cases c:n<=hi
  ·rw[if_pos c,BP c]
   obtain ⟨x,e1,e2⟩:=H.set a b n
   rw[e1]
   obtain ⟨i,j⟩:=d n h1 c x e2
   have w:IntKind.i64.wrap (n+1)=n+1:=cX (by omega)
   obtain ⟨r1,r2⟩:=BQ a b hb d k (n+1) (f x).2 j.cut (by omega) (by omega) (by omega)
   simp only[w]
   exact ⟨by rw[i,r1,List.flatMap_cons],r2⟩
  ·rw[if_neg c,HX c]
   exact ⟨rfl,H⟩
theorem BR {u:ak}(F:Fit u):∀(l:List bY) (p:List Int) (fuel:Nat) (h:aX),u.aE.drop p.length=l->p.length+l.length=u.aE.length->l.length<fuel->
  (∀(j:Nat) e,u.aE[j]?=some e->j<p.length->∃n,p[j]?=some n/\e.high.low<=n/\n<=e.high.high)->Ag u p h->
  (eH u fuel (p.length:Int) h).1=((dM p l).filter (eZ u)).map (fun x=>some (c7 x))/\Ag u p (eH u fuel (p.length:Int) h).2
 |l,p,0,h,hd,a,b,hb,H=>by omega
 |[],p,fuel+1,h,hd,a,b,hb,H=>by
  have a:p.length=u.aE.length:=by simpa using a
  unfold eH
  rw[if_pos (by omega)]
  obtain rfl:=H.c7 a
  have R:=HE F (h:=p) ⟨a,fun i e he=>hb i e he (by have:=(List.getElem?_eq_some_iff.1 he).1;omega)⟩
  refine ⟨?_,H⟩
  rw[R]
  unfold dM
  cases e:eZ u p<;>simp[e]
 |e::l,p,fuel+1,h,hd,a,b,hb,H=>by
  simp only[List.length_cons] at a b
  have he:u.aE[p.length]?=some e:=by
   have:=congrArg List.head? hd
   simpa [List.head?_drop] using this
  have k:u.aE.drop (p.length+1)=l:=by
   have:=congrArg List.tail hd
   simpa [List.tail_drop] using this
  have o:=F.aE
  have g:=(F.aW _ _ he).2
  unfold eH
  rw[if_neg (by omega),mL he]
  have w:IntKind.i64.wrap ((p.length:Int)+1)=((p.length+1:Nat):Int):=by rw[cX (by omega)];omega
  simp only[w]
  have key:=BQ (u:=u) (p:=p) (by omega) o.2 (f:=eH u fuel ((p.length+1:Nat):Int)) (G:=fun n=>((dM (p++[n]) l).filter (eZ u)).map (fun x=>some (c7 x))) (lo:=e.high.low) (hi:=e.high.high) ⟨g.1,g.2.2.1⟩
   (fun n n1 n2 x q=>by
    have:=BR F l (p++[n]) fuel x (by simpa using k) (by simp;omega) (by omega) (fun j y d r=>by
     by_cases c:j<p.length
     ·obtain ⟨m,hm,s⟩:=hb j y d c
      exact ⟨m,by rw[List.getElem?_append_left c];exact hm,s⟩
     ·simp at r
      obtain rfl:j=p.length:=by omega
      rw[he] at d;cases d
      exact ⟨n,by simp,n1,n2⟩) q
    simpa using this) 100 e.high.low h H (Int.le_refl _) (by omega) (by omega)
  refine ⟨?_,key.2⟩
  rw[key.1,show dM p (e::l)=(di e.high).flatMap fun n=>dM (p++[n]) l from rfl,List.filter_flatMap,List.map_flatMap]
theorem HY (j:Nat):co ⟨0,0,0⟩ j=0:=by
 unfold co;split
 ·rfl
 ·split
  ·rfl
  ·split<;>rfl
theorem HZ {u:ak}(F:Fit u):mA u=(bQ u).map (fun x=>some (c7 x)):=by
 have c:=F.aE;exact (BR F u.aE [] 5 ⟨0,0,0⟩ rfl (by simp) (by omega) (fun j e _ a=>absurd a (by simp)) ⟨fun j n b=>by simp at b,fun j _=>HY j⟩).1
theorem BS:∀(l:List aX) (s:List aX),s.length+l.length<=1000000->iU nF (l.map some) s=some (.nx (s++l))
 |[],s,_=>by simp[iU]
 |x::l,s,h=>by
  simp only[List.length_cons] at h
  simp only[List.map_cons]
  have:=BS l (s++[x]) (by simp;omega)
  rw[show s++x::l=s++[x]++l by simp,<-this]
  have e:nF x s=some (.nx (s++[x])):=by
   unfold nF
   rw[qt (by simp;omega)]
   rfl
  show iU _ (some x::l.map some) s=_
  rw[iU,e]
  rfl
theorem H6 {l:List aX}(h:l.length<=1000):pW (l.map some)=some l:=by
 unfold pW si;rw[BS l [] (by simp;omega)];simp[ag,aG]
def H7:cL:=⟨Ba,[]⟩
theorem s8 {u:ak}(F:Fit u){b:List (ak->Option Int)}(h:fJ u b=some (u,0)):gz u b=some (if (bQ u).isEmpty then (H7,9) else (⟨u,(bQ u).map c7⟩,0)):=by
 unfold gz;rw[h];simp only[ag];rw[show ((0:Int) != 0)=false by decide];simp only[cond_false];have c:=(xA F).2;rw[HZ F,show (bQ u).map (fun x=>some (c7 x))=((bQ u).map c7).map some by simp,H6 (by simp;omega)];simp only[ag];cases bQ u with
 |nil=>rfl
 |cons a l=>
  rw[show ((((a::l).map c7).length:Int)==0)=false by simp;omega];rfl
structure xB (u:ak):Prop where
 e:u.ay.length<=20
 p:u.props.length<=20
 y:u.aE.length<=20
 t:u.told.length<=20
theorem bars {u:ak}(L:xB u):∃c,eX u=some c/\mJ u=some c:=by
 obtain ⟨h1,c,a⟩:=Hl u L.e L.p L.y L.t;exact ⟨c,a,h1▸a⟩
theorem xC {u:ak}(h:eX u=some 0):fJ u []=some (u,0):=by
 unfold fJ;rw[h];rfl
theorem H8 (u:ak)(n:Int):eG n u=some (cond (gY u n) 0 6):=by
 unfold eG;rw[(w8 u n).2];simp only[ag];cases gY u n<;>rfl
theorem H9 {u:ak}(F:Fit u){n:Int}:gY u n=true↔0<=n/\n<u.aE.length:=by
 have:=F.aE;unfold gY;rw[cX (by omega),ey];omega
theorem s9 {α β σ:Type}(f:α->β)(g:Nat->β->σ->σ):∀(l:List α) (i:Nat) (s:σ),foldI g i (l.map f) s=foldI (fun i x s=>g i (f x) s) i l s
 |[],_,_=>rfl
 |x::l,i,s=>by
  simp only[List.map_cons]
  unfold foldI
  exact s9 f g l (i+1) _
theorem BT {α σ:Type}{g g':Nat->α->σ->σ}:∀(l:List α) (i:Nat) (s:σ),(∀j x s,x∈l->g j x s=g' j x s)->foldI g i l s=foldI g' i l s
 |[],_,_,_=>rfl
 |x::l,i,s,h=>by
  unfold foldI
  rw[h i x s (List.mem_cons_self ..)]
  exact BT l (i+1) _ fun j y s a=>h j y s (List.mem_cons_of_mem _ a)
theorem xD {u:ak}{h:List Int}(hm:h∈bQ u):n7 u h/\eZ u h=true:=by
 obtain ⟨h1,a⟩:=List.mem_filter.1 hm;exact ⟨xz h1,a⟩
section
variable {u : ak} (F : Fit u) {i : Nat} {e : bY} (he : u.aE[i]? = some e)
include F he
theorem xE {h:List Int}(hm:h∈bQ u):∃n,h[i]?=some n/\eO u i (h[i]?.getD 0)=⟨e.back,n⟩/\(1<=e.back/\e.back<=20)/\0<=n/\n<=60:=by
 obtain ⟨n,c,a,b⟩:=(xD hm).1.s5 i e he;obtain ⟨c1,c2,c3,c4,d⟩:=F.aW _ _ he;refine ⟨n,c,?_,c1,by omega,by omega⟩;rw[c];unfold eO;rw[he];rfl
end
end Go.Proofs.YtpgcmoanfifglaaGreatDoor
end
section
namespace Go.Sep
open Go Go.Conc
def mP (P:Program)(J:Goroutine->aa->Prop)(ops:Array Oper)(F0:aa)(Q:Act->aa->Prop):List Oper->Bool->Act->aa->Prop
 |[],_,a,F=>Q a F
 |o::rest,_,a,F=>match cz ops o a with
  |some true=>cJ P J o (fun v F'=>Knows F0 F'/\mP P J ops F0 Q rest (!Oper.calls o) (aZ a o.dst v) F') a F
  |some false=>mP P J ops F0 Q rest true (aZ a o.dst undef) F
  |none=>False
theorem Ia {P:Program}{J:Goroutine->aa->Prop}{ops:Array Oper}{F0:aa}{Q:Act->aa->Prop}{go:Bool}{a:Act}{F:aa}:mP P J ops F0 Q [] go a F=Q a F:=rfl
theorem Ib {P:Program}{J:Goroutine->aa->Prop}{ops:Array Oper}{F0:aa}{Q:Act->aa->Prop}{o:Oper}{rest:List Oper}{a:Act}{F:aa}:mP P J ops F0 Q (o::rest) true a F=match cz ops o a with
  |some true=>cJ P J o (fun v F'=>Knows F0 F'/\mP P J ops F0 Q rest (!Oper.calls o) (aZ a o.dst v) F') a F
  |some false=>mP P J ops F0 Q rest true (aZ a o.dst undef) F
  |none=>False:=(Eq.refl _).trans (Eq.refl _)
attribute [irreducible] mP
attribute [go_sem] Ia Ib
end Go.Sep
end
section
namespace Go.Proofs.YtpgcmoanfifglaaGreatDoor
open Go Go.Sep Go.Proofs
set_option maxRecDepth 100000
set_option maxHeartbeats 4000000
def jg (u:ak)(h:List Int):Bool:=(List.range u.aE.length).all fun i=>!fh u (eO u i (h[i]?.getD 0))
theorem BU {α:Type}{g:Nat->Bool}:∀(l:List α) (i:Nat),iz (fun i _=>if g i then none else some false) i l=if (List.range' i l.length).all g then none else some false
 |[],_=>rfl
 |x::l,i=>by
  unfold iz
  rw[List.length_cons,List.range'_succ,List.all_cons]
  cases h:g i with
  |false=>simp[h]
  |true=>
   simp only[h,if_true,Bool.true_and]
   exact BU l (i+1)
theorem BV {u:ak}(F:Fit u){h:List Int}(hm:h∈bQ u)(all:List aX):jB (c7 h) ⟨u,all⟩=some (jg u h):=by
 have b:=F.aE;unfold jB
 rw[s4 (t:=fun i _=>if !fh u (eO u i (h[i]?.getD 0)) then none else some false) u.aE 0 false fun j e s he=>by
  rw[Nat.zero_add];have c:j<u.aE.length:=(List.getElem?_eq_some_iff.1 he).1;obtain ⟨m,a,hs,hb⟩:=xE F he hm;have hg:aX.get (c7 h) (j:Int)=some m:=s6 (by omega) (by omega) (by simpa using a);unfold rZ ij;simp only[hg,ag,mL he,(xw F (s:=⟨e.back,m⟩) hb).1,hs]
  cases fh u ⟨e.back,m⟩<;>rfl]
 rw[BU (g:=fun i=>!fh u (eO u i (h[i]?.getD 0)))];simp only[ag];unfold jg;rw[List.range_eq_range'];cases (List.range' 0 u.aE.length).all fun i=>!fh u (eO u i (h[i]?.getD 0))<;>rfl
def kG (n m:Nat):Int:=if n=m then 1 else if n=0 then 2 else 0
theorem Ic {k:cL}{f:aX->Option Bool}{g:aX->Bool}(e:k.all.length<=1000)(h:∀x,x∈k.all->f x=some (g x)):nC k f=some (kG (k.all.countP g) k.all.length):=by
 have key:=iw (f:=pS f) (ρ:=Int) (g:=fun _ x (n:Int)=>cond (g x) (n+1) n) (I:=fun j n=>0<=n/\n<=j/\j<=k.all.length) k.all 0 0 ⟨by omega,by omega,by omega⟩
  (fun j x n a i=>by
   have m:j<k.all.length:=(List.getElem?_eq_some_iff.1 a).1;refine ⟨?_,by cases g x<;>simp<;>omega⟩;unfold pS;rw[h x (List.mem_of_getElem? a)];simp only[ag];rw[cX (n:=n+1) (by omega)]
   cases g x<;>rfl)
 have b:∀(l:List aX) (j:Nat) (n:Int),foldI (fun _ x (n:Int)=>cond (g x) (n+1) n) j l n=n+(l.countP g:Nat):=by
  intro l
  induction l with
  |nil=>intro j n;simp[foldI]
  |cons x l ih=>
   intro j n;unfold foldI;rw[ih,List.countP_cons];cases g x<;>simp<;>omega
 rw[b] at key;unfold nC;rw[key.1];simp only[ag,aG,Int.zero_add];unfold kG;by_cases c:k.all.countP g=k.all.length
 ·rw[if_pos c,show (((k.all.countP g:Nat):Int)==(k.all.length:Int))=true by rw[c];simp];rfl
 ·rw[if_neg c,show (((k.all.countP g:Nat):Int)==(k.all.length:Int))=false by simp;omega];simp only[cond_false];by_cases d:k.all.countP g=0
  ·rw[if_pos d,d];rfl
  ·rw[if_neg d,show (((k.all.countP g:Nat):Int)==0)=false by rw[beq_eq_false_iff_ne];omega];rfl
theorem xF {u:ak}(F:Fit u)(h:eX u=some 0):iu u=some (if (bQ u).isEmpty then (0,9) else (kG ((bQ u).countP (jg u)) (bQ u).length,0)):=by
 have c:=(xA F).2;unfold iu;rw[s8 F (xC h)];simp only[ag];cases hs:(bQ u).isEmpty with
 |true=>rfl
 |false=>
  simp only[Bool.false_eq_true,if_false];rw[show ((0:Int) != 0)=false by decide];simp only[cond_false];have key:∀x,x∈(bQ u).map c7->jB x ⟨u,(bQ u).map c7⟩=some ((jB x ⟨u,(bQ u).map c7⟩).getD false):=fun x b=>by
   rw[List.mem_map] at b;obtain ⟨y,a,rfl⟩:=b;rw[BV F a];rfl
  rw[Ic (k:=⟨u,(bQ u).map c7⟩) (g:=fun x=>(jB x ⟨u,(bQ u).map c7⟩).getD false) (by simp;omega) key];simp only[List.countP_map,List.length_map];have e:(bQ u).countP ((fun x=>(jB x ⟨u,(bQ u).map c7⟩).getD false) ∘ c7)=(bQ u).countP (jg u):=List.countP_congr fun y a=>by
   simp only[Function.comp];rw[BV F a];rfl
  rw[e]
theorem Ie {u:ak}{s:aU}(F:Fit u)(hs:(1<=s.back/\s.back<=20)/\0<=s.high/\s.high<=60):fh u s=bh u.aN (n8 u s):=by
 obtain ⟨r,h1,d,a⟩:=xp F hs;rw[BJ F hs] at h1;obtain rfl:=Option.some.inj h1;have b:Sm u.aN 20 20:=⟨by have:=F.num;omega,by have:=F.den;omega,by have:=F.den;omega⟩
 have c:=kA b a (by decide) (by decide);unfold fh gf;rw[BJ F hs];simp only[ag,c.2];rfl
structure Rc (u o:ak):Prop where
 bE:o.bE=u.bE
 bI:o.bI=u.bI
 aN:o.aN=u.aN
 props:o.props=u.props
 aE:o.aE=u.aE
 told:o.told=u.told
 dD:∀x,x∈u.props->jb o x.place=jb u x.place
 xG:∀s:aU,(1<=s.back/\s.back<=20)/\0<=s.high/\s.high<=60->(cD o s).2=(cD u s).2
theorem xH {n a b:Int}(h1:a<=n)(c:n<=b):bM n a b=true:=ey.2 ⟨h1,c⟩
def lC (o:Nat)(S:List Int)(i:Nat):List Int:=(List.replicate o (S.flatMap fun n=>List.replicate i n)).flatten
def n9:List (List Int):=[[0],[0,1],[0,2],[0,1,2]]
def mQ:List (Nat×Nat):=[(1,1),(1,2),(1,3),(1,4),(1,6),(1,9),(2,1),(3,1),(4,1),(6,1),(9,1),(2,2),(2,3),(3,2),(3,3)]
def xI (l:List Int):Option (List Int):=ag (pY l) fun x=>sx x.2
def oa (c:Nat):Bool:=mQ.all fun p=>n9.all fun S=>xI (lC p.1 (S.map (· +(c:Int))) p.2)==some (S.map (· +(c:Int)))
theorem Ig:∀c:Fin 16,oa c.val=true:=by decide+kernel
theorem Ih:∀c:Fin 16,oa (16+c.val)=true:=by decide+kernel
theorem Ii:∀c:Fin 16,oa (32+c.val)=true:=by decide+kernel
theorem Ij:∀c:Fin 13,oa (48+c.val)=true:=by decide+kernel
theorem Ik {c:Nat}(h:c<=60):oa c=true:=by
 rcases Nat.lt_or_ge c 16 with x|x
 ·exact Ig ⟨c,x⟩
 rcases Nat.lt_or_ge c 32 with y|y
 ·have:=Ih ⟨c - 16,by omega⟩
  rwa [show 16+(c - 16)=c by omega] at this
 rcases Nat.lt_or_ge c 48 with z|z
 ·have:=Ii ⟨c - 32,by omega⟩
  rwa [show 32+(c - 32)=c by omega] at this
 ·have:=Ij ⟨c - 48,by omega⟩
  rwa [show 48+(c - 48)=c by omega] at this
theorem Il {c:Nat}(h:c<=60){p:Nat×Nat}(a:p∈mQ){S:List Int}(b:S∈n9):xI (lC p.1 (S.map (· +(c:Int))) p.2)=some (S.map (· +(c:Int))):=by
 have:=Ik h;unfold oa at this;rw[List.all_eq_true] at this;have:=this p a;rw[List.all_eq_true] at this;simpa using this S b
def ob (u:ak)(i:Nat)(n:Int):Bool:=u.told.all fun t=>t.aW != (i:Int)||(fh u (eO u i n)==t.bw)
def pL:List (List Int)->List (List Int)
 |[]=>[[]]
 |s::r=>s.flatMap fun n=>(pL r).map (n::·)
def jH (P:Nat->Int->Bool):Nat->List Int->Bool
 |_,[]=>true
 |i,x::r=>P i x&&jH P (i+1) r
def gZ (P:Nat->Int->Bool):Nat->List (List Int)->List (List Int)
 |_,[]=>[]
 |i,s::r=>s.filter (P i)::gZ P (i+1) r
def lD (u:ak):List (List Int):=gZ (ob u) 0 (u.aE.map fun e=>di e.high)
theorem BW:∀(l:List bY) (p:List Int),dM p l=(pL (l.map fun e=>di e.high)).map (p++·)
 |[],p=>by simp[dM,pL]
 |e::l,p=>by
  unfold dM
  rw[List.map_cons]
  unfold pL
  rw[List.map_flatMap]
  congr 1
  funext n
  rw[BW l (p++[n]),List.map_map]
  refine List.map_congr_left fun q _=>?_
  simp
theorem BX {α β:Type}(p:α->Bool)(f:α->List β):∀l:List α,(l.filter p).flatMap f=l.flatMap fun x=>if p x then f x else []
 |[]=>rfl
 |x::l=>by
  rw[List.flatMap_cons,<-BX p f l,List.filter_cons]
  cases p x<;>simp
theorem BY (P:Nat->Int->Bool):∀(S:List (List Int)) (i:Nat),(pL S).filter (jH P i)=pL (gZ P i S)
 |[],i=>rfl
 |s::r,i=>by
  rw[show gZ P i (s::r)=s.filter (P i)::gZ P (i+1) r from rfl,show pL (s::r)=s.flatMap fun n=>(pL r).map (n::·) from rfl,
   show pL (s.filter (P i)::gZ P (i+1) r)=(s.filter (P i)).flatMap fun n=>(pL (gZ P (i+1) r)).map (n::·) from rfl]
  rw[BX,List.filter_flatMap]
  congr 1
  funext n
  rw[List.filter_map]
  cases h:P i n with
  |false=>
   rw[show (jH P i ∘ fun x=>n::x)=fun _=>false by funext q;simp[jH,h]]
   simp
  |true=>
   rw[show (jH P i ∘ fun x=>n::x)=jH P (i+1) by funext q;simp[jH,h],BY P r (i+1)]
   rfl
theorem BZ (P:Nat->Int->Bool):∀(h:List Int) (i:Nat),jH P i h=(List.range h.length).all fun j=>P (i+j) (h[j]?.getD 0)
 |[],i=>rfl
 |x::r,i=>by
  unfold jH
  rw[BZ P r (i+1),List.length_cons,List.range_succ_eq_map,List.all_cons,List.all_map]
  congr 1
  refine congrArg (fun f=>List.all _ f) ?_
  funext j
  simp only[Function.comp]
  rw[show i+1+j=i+(j+1) by omega]
  rfl
theorem Im {u:ak}(F:Fit u){h:List Int}(H:n7 u h):eZ u h=jH (ob u) 0 h:=by
 rw[BZ,Bool.eq_iff_iff];unfold eZ;rw[List.all_eq_true,List.all_eq_true];constructor
 ·intro a j d;rw[Nat.zero_add];unfold ob;rw[List.all_eq_true];intro t ht;by_cases c:t.aW=(j:Int)
  ·have:=a t ht;unfold kD at this;rw[c,Int.toNat_natCast] at this;rw[this,Bool.or_true]
  ·rw[show (t.aW != (j:Int))=true by simpa using c,Bool.true_or]
 ·intro a t ht;obtain ⟨k,b⟩:=List.mem_iff_getElem?.1 ht;obtain ⟨e,b2⟩:=F.qh k t b;have f:=H.len;have:=a t.aW.toNat (by rw[List.mem_range];omega);rw[Nat.zero_add] at this;unfold ob at this;rw[List.all_eq_true] at this;have:=this t ht;rw[show (t.aW != (t.aW.toNat:Int))=false by rw[bne_eq_false_iff_eq];omega,Bool.false_or] at this;exact this
theorem B1 {u:ak}(F:Fit u):bQ u=pL (lD u):=by
 unfold bQ lD;rw[<-BY];have e:dM [] u.aE=pL (u.aE.map fun e=>di e.high):=by rw[BW];simp
 rw[<-e];refine List.filter_congr fun h hm=>?_;exact Im F (xz hm)
theorem B2:∀S:List (List Int),(pL S).length=(S.map List.length).foldr (· *·) 1
 |[]=>rfl
 |s::r=>by
  unfold pL
  rw[List.length_flatMap,List.map_cons,List.foldr_cons,<-B2 r]
  simp only[List.length_map]
  rw[List.map_const',List.sum_replicate_nat]
theorem B3 {α:Type}(x:List α)(m:Nat):∀o:Nat,(List.replicate o (List.replicate m x).flatten).flatten=(List.replicate (o*m) x).flatten
 |0=>by simp
 |o+1=>by
  rw[List.replicate_succ,List.flatten_cons,B3 x m o,<-List.flatten_append,List.replicate_append_replicate]
  congr 2
  rw[Nat.add_mul];omega
theorem B4 {α β:Type}(x:List β):∀l:List α,l.flatMap (fun _=>x)=(List.replicate l.length x).flatten
 |[]=>rfl
 |a::l=>by rw[List.flatMap_cons,B4 x l,List.length_cons,List.replicate_succ,List.flatten_cons]
theorem B5:∀(S:List (List Int)) (i:Nat) (s:List Int),S[i]?=some s->(pL S).map (fun h=>h[i]?.getD 0)=lC (((S.take i).map List.length).foldr (· *·) 1) s (((S.drop (i+1)).map List.length).foldr (· *·) 1)
 |[],i,s,h=>by simp at h
 |a::r,0,s,h=>by
  have h:a=s:=by simpa using h
  subst h
  unfold pL lC
  rw[List.map_flatMap]
  simp only[List.take_zero,List.map_nil,List.foldr_nil,List.replicate_one,List.flatten_cons,List.flatten_nil,List.append_nil,Nat.zero_add,List.drop_succ_cons,List.drop_zero]
  rw[<-B2]
  congr 1
  funext n
  rw[List.map_map,show ((fun h:List Int=>h[0]?.getD 0) ∘ fun x=>n::x)=fun _=>n from rfl,List.map_const']
 |a::r,i+1,s,h=>by
  have h:r[i]?=some s:=by simpa using h
  have ih:=B5 r i s h
  unfold pL
  rw[List.map_flatMap]
  have e:(fun n:Int=>List.map (fun h:List Int=>h[i+1]?.getD 0) (List.map (fun x=>n::x) (pL r)))=fun _=>(pL r).map fun h=>h[i]?.getD 0:=by
   funext n
   rw[List.map_map]
   rfl
  rw[e,ih,B4]
  unfold lC
  rw[B3]
  congr 2
theorem B6 (P:Nat->Int->Bool):∀(S:List (List Int)) (i j:Nat),(gZ P i S)[j]?=S[j]?.map (List.filter (P (i+j)))
 |[],i,j=>by simp[gZ]
 |s::r,i,0=>by simp[gZ]
 |s::r,i,j+1=>by
  have:=B6 P r (i+1) j
  rw[show i+1+j=i+(j+1) by omega] at this
  simpa [gZ] using this
theorem B7 (P:Nat->Int->Bool):∀(S:List (List Int)) (i:Nat),(gZ P i S).length=S.length
 |[],i=>rfl
 |s::r,i=>by simp[gZ,B7 P r (i+1)]
def dN (u:ak)(i:Nat)(e:bY):List Int:=(di e.high).filter (ob u i)
theorem xJ {u:ak}{i:Nat}{e:bY}(he:u.aE[i]?=some e):(lD u)[i]?=some (dN u i e):=by
 unfold lD;rw[B6,List.getElem?_map,he];simp[dN]
theorem xK (u:ak):(lD u).length=u.aE.length:=by unfold lD;rw[B7,List.length_map]
theorem Io (P:Int->Bool){b:c9}(h0:0<=b.low)(h1:b.low<=b.high)(f:b.high<=60)(g:b.high - b.low<3):
  (di b).filter P=[]\/∃(c:Nat) (T:List Int),c<=60/\T∈n9/\(di b).filter P=T.map (· +(c:Int)):=by
 obtain ⟨c,d⟩:∃c:Nat,b.low=(c:Int):=⟨b.low.toNat,by omega⟩
 rcases (show b.high=c\/b.high=c+1\/b.high=c+2 by omega) with h|h|h
 ·have e:di b=[(c:Int)]:=by unfold di;rw[h,d,show ((c:Int) - c+1).toNat=1 by omega];simp[List.range,List.range.loop]
  rw[e]
  cases p0:P c
  ·left;simp[List.filter,p0]
  ·right;exact ⟨c,[0],by omega,by decide,by simp[List.filter,p0]⟩
 ·have e:di b=[(c:Int),c+1]:=by unfold di;rw[h,d,show ((c:Int)+1 - c+1).toNat=2 by omega];simp[List.range,List.range.loop]
  rw[e]
  cases p0:P c<;>cases a:P (c+1)
  ·left;simp[List.filter,p0,a]
  ·right;exact ⟨c+1,[0],by omega,by decide,by simp[List.filter,p0,a]⟩
  ·right;exact ⟨c,[0],by omega,by decide,by simp[List.filter,p0,a]⟩
  ·right;exact ⟨c,[0,1],by omega,by decide,by simp[List.filter,p0,a];omega⟩
 ·have e:di b=[(c:Int),c+1,c+2]:=by unfold di;rw[h,d,show ((c:Int)+2 - c+1).toNat=3 by omega];simp[List.range,List.range.loop]
  rw[e]
  cases p0:P c<;>cases a:P (c+1)<;>cases p2:P (c+2)
  ·left;simp[List.filter,p0,a,p2]
  ·right;exact ⟨c+2,[0],by omega,by decide,by simp[List.filter,p0,a,p2]⟩
  ·right;exact ⟨c+1,[0],by omega,by decide,by simp[List.filter,p0,a,p2]⟩
  ·right;exact ⟨c+1,[0,1],by omega,by decide,by simp[List.filter,p0,a,p2];omega⟩
  ·right;exact ⟨c,[0],by omega,by decide,by simp[List.filter,p0,a,p2]⟩
  ·right;exact ⟨c,[0,2],by omega,by decide,by simp[List.filter,p0,a,p2];omega⟩
  ·right;exact ⟨c,[0,1],by omega,by decide,by simp[List.filter,p0,a,p2];omega⟩
  ·right;exact ⟨c,[0,1,2],by omega,by decide,by simp[List.filter,p0,a,p2];omega⟩
theorem B8:∀{S:List (List Int)},pL S≠[]->∀s,s∈S->s≠[]
 |[],_,s,h=>by simp at h
 |a::r,b,s,h=>by
  have e:pL (a::r)=a.flatMap fun n=>(pL r).map (n::·):=rfl
  rcases List.mem_cons.1 h with rfl|h
  ·intro he;rw[e,he] at b;exact b rfl
  ·refine B8 (S:=r) (fun he=>?_) s h
   rw[e,he] at b
   exact b (by simp)
theorem Ip {o k:Nat}(d:1<=o)(e:1<=k){s:List Int}{n:Int}:n∈lC o s k↔n∈s:=by
 unfold lC;rw[List.mem_flatten];constructor
 ·rintro ⟨l,b,a⟩;rw[List.mem_replicate] at b;rw[b.2,List.mem_flatMap] at a;obtain ⟨m,hm,c⟩:=a;rw[(List.mem_replicate.1 c).2];exact hm
 ·intro a;exact ⟨_,List.mem_replicate.2 ⟨by omega,rfl⟩,List.mem_flatMap.2 ⟨n,a,List.mem_replicate.2 ⟨by omega,rfl⟩⟩⟩
def mR (l:List Nat):Nat:=l.foldr (· *·) 1
theorem Iq {L:List Nat}(d:L.length<=3)(h:∀x,x∈L->1<=x/\x<=3){i:Nat}(hi:i<L.length):(mR (L.take i),mR (L.drop (i+1)))∈mQ:=by
 match L,d,h,hi with
 |[a],_,h,hi=>
  obtain rfl:i=0:=by simpa using hi
  show (1,1)∈mQ;decide
 |[a,b],_,h,hi=>
  have e:=h a (by simp);have hb:=h b (by simp);rcases (show a=1\/a=2\/a=3 by omega) with rfl|rfl|rfl<;>rcases (show b=1\/b=2\/b=3 by omega) with rfl|rfl|rfl<;>rcases (show i=0\/i=1 by simp at hi;omega) with rfl|rfl<;>decide
 |[a,b,c],_,h,hi=>
  have e:=h a (by simp);have hb:=h b (by simp);have f:=h c (by simp);rcases (show a=1\/a=2\/a=3 by omega) with rfl|rfl|rfl<;>rcases (show b=1\/b=2\/b=3 by omega) with rfl|rfl|rfl<;>rcases (show c=1\/c=2\/c=3 by omega) with rfl|rfl|rfl<;>rcases (show i=0\/i=1\/i=2 by simp at hi;omega) with rfl|rfl|rfl<;>decide
theorem xL {α β:Type}(f:α->β):∀l:List α,(l.flatMap fun x=>[f x])=l.map f
 |[]=>rfl
 |a::l=>by rw[List.flatMap_cons,xL f l];rfl
theorem B9 {T:List Int}(h:T∈n9):1<=T.length/\T.length<=3:=by
 unfold n9 at h;simp only[List.mem_cons,List.not_mem_nil,or_false] at h;rcases h with rfl|rfl|rfl|rfl<;>decide
variable {u : ak} (F : Fit u) (aF : bQ u ≠ []) {i : Nat} {e : bY} (he : u.aE[i]? = some e)
include F aF he
theorem xM:∃(c:Nat) (T:List Int),c<=60/\T∈n9/\dN u i e=T.map (· +(c:Int)):=by
 obtain ⟨c1,c2,c3,c4,a⟩:=F.aW _ _ he;rcases Io (ob u i) (b:=e.high) c2 c3 c4 a with h|h
 ·rw[B1 F] at aF;exact absurd h (B8 aF _ (List.mem_of_getElem? (xJ he)))
 ·exact h
theorem Ca:∃p,p∈mQ/\1<=p.1/\1<=p.2/\(bQ u).map (fun h=>h[i]?.getD 0)=lC p.1 (dN u i e) p.2:=by
 have hi:i<u.aE.length:=(List.getElem?_eq_some_iff.1 he).1;have o:=F.aE;have m:∀x,x∈(lD u).map List.length->1<=x/\x<=3:=fun x f=>by
  rw[List.mem_map] at f;obtain ⟨s,hs,rfl⟩:=f;obtain ⟨j,g⟩:=List.mem_iff_getElem?.1 hs;have k:j<u.aE.length:=by rw[<-xK u];exact (List.getElem?_eq_some_iff.1 g).1
  have l:=xJ (u:=u) (List.getElem?_eq_getElem k);rw[g] at l;obtain ⟨c,T,-,n,e2⟩:=xM F aF (List.getElem?_eq_getElem k);rw[Option.some.inj l,e2,List.length_map];exact B9 n
 have d:=Iq (L:=(lD u).map List.length) (by simp[xK];omega) m (i:=i) (by simp[xK];omega);refine ⟨_,d,?_,?_,?_⟩
 ·revert d;generalize mR _=a;generalize mR _=b;intro d;have:∀q,q∈mQ->1<=q.1:=by decide
  exact this _ d
 ·revert d;generalize mR _=a;generalize mR _=b;intro d;have:∀q,q∈mQ->1<=q.2:=by decide
  exact this _ d
 ·rw[B1 F,B5 _ i _ (xJ he)];unfold mR;rw[List.map_take,List.map_drop]
theorem ta {n:Int}:n∈dN u i e↔∃h,h∈bQ u/\h[i]?=some n:=by
 obtain ⟨p,f,a,p2,b⟩:=Ca F aF he;rw[<-Ip a p2,<-b,List.mem_map];constructor
 ·rintro ⟨h,hm,rfl⟩;obtain ⟨m,c,_⟩:=(xD hm).1.s5 i e he;exact ⟨h,hm,by rw[c];rfl⟩
 ·rintro ⟨h,hm,d⟩;exact ⟨h,hm,by rw[d];rfl⟩
theorem Ir:bF (nL (i:Int)) 0 ((bQ u).map c7) []=some (.nx ((bQ u).map fun h=>h[i]?.getD 0)):=by
 have hi:i<u.aE.length:=(List.getElem?_eq_some_iff.1 he).1;have d:=F.aE;have e:=(xA F).2;have key:=iw (f:=nL (i:Int)) (g:=fun _ x (s:List Int)=>s++[(aX.get x (i:Int)).getD 0]) (I:=fun j s=>s.length<=j/\j<=(bQ u).length) ((bQ u).map c7) 0 [] ⟨by simp,by omega⟩
  (fun j x s a k=>by
   rw[List.getElem?_map,Option.map_eq_some_iff] at a;obtain ⟨h,b,rfl⟩:=a;have l:j<(bQ u).length:=(List.getElem?_eq_some_iff.1 b).1;obtain ⟨m,hm,hs,hb⟩:=xE F he (List.mem_of_getElem? b);have hg:aX.get (c7 h) (i:Int)=some m:=s6 (by omega) (by omega) (by simpa using hm);refine ⟨?_,?_⟩
   ·unfold nL;simp only[hg,ag,Option.getD_some];unfold c6;rw[if_pos (by simp;omega)]
   ·simp only[List.length_append,List.length_singleton];omega)
 rw[key.1,s9];congr 2;have e1:foldI (fun n x s=>s++[((c7 x).get (i:Int)).getD 0]) 0 (bQ u) []=foldI (fun _ x (s:List Int)=>s++(fun x:List Int=>[x[i]?.getD 0]) x) 0 (bQ u) []:=by
  refine BT _ _ _ fun j h s hm=>?_;obtain ⟨m,c,hs,hb⟩:=xE F he hm;have hg:aX.get (c7 h) (i:Int)=some m:=s6 (by omega) (by omega) (by simpa using c);rw[hg];show _=s++[h[i]?.getD 0];rw[c]
 rw[e1,qs,List.nil_append];exact xL _ _
theorem Cb:lg ⟨u,(bQ u).map c7⟩ (i:Int)=some (dN u i e):=by
 obtain ⟨p,a,g,p2,b⟩:=Ca F aF he;obtain ⟨c,T,h1,d,f⟩:=xM F aF he;have hs:=Il h1 a d;rw[<-f,<-b] at hs;unfold lg;rw[Ir F aF he];unfold xI at hs;simp only[ag,aG] at hs ⊢;cases h:pY ((bQ u).map fun h=>h[i]?.getD 0) with
 |none=>rw[h] at hs;cases hs
 |some x=>
  rw[h] at hs;simp only at hs ⊢;rw[hs]
def look (P:List (List Int×Bool))(x:List Int):Bool:=((P.find? fun y=>y.1==x).map (·.2)).getD false
theorem Cc:∀(l:List bY) (p:List Int),(∀e,e∈l->e.high.low<=e.high.high)->dM p l≠[]
 |[],p,_=>by simp[dM]
 |e::l,p,h=>by
  have h0:=h e (List.mem_cons_self ..)
  unfold dM
  rw[show e.high=⟨e.high.low,e.high.high⟩ from rfl,BP h0,List.flatMap_cons]
  exact fun x=>Cc l (p++[e.high.low]) (fun y a=>h y (List.mem_cons_of_mem _ a)) (List.append_eq_nil_iff.1 x).1
end Go.Proofs.YtpgcmoanfifglaaGreatDoor
end

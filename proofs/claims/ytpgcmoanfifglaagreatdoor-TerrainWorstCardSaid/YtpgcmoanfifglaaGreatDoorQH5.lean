/- A part of the proof of a row and its tied card: QH5. -/
import Derived.Test.YtpgcmoanfifglaaGreatDoorQH4
set_option linter.all false
section
namespace Go.Proofs.YtpgcmoanfifglaaGreatDoor
open Go Go.Sep Go.Proofs
set_option maxRecDepth 100000
set_option maxHeartbeats 4000000
theorem wV (u:ak):lY u=some (cond (decide (3<(u.told.length:Int))) 2 ((dH (jv u) 0 u.told).getD 0)):=by
 unfold lY;cases decide (3<(u.told.length:Int)) with
 |true=>rfl
 |false=>
  show ag (bF _ 0 u.told 0) _=_;rw[p9 (t:=jv u) u.told 0 0 ?_]
  ·show aB (gQ _ _) _ _ _=_;cases dH (jv u) 0 u.told<;>rfl
  ·intro j x s a;unfold rC jv;simp only[wU,ag];cases ie u x.aV<;>rfl
theorem wW (u:ak):lZ u=some (cond (bI u.aG.length 1 3) ((dH ia 0 u.aG).getD 0) 2):=by
 unfold lZ;rw[j4,eP];simp only[ag];cases bI (u.aG.length:Int) 1 3 with
 |false=>rfl
 |true=>
  simp only[Bool.not_true,cond_false,cond_true];rw[p9 (t:=ia) u.aG 0 0 ?_]
  ·show aB (gQ _ _) _ _ _=_;cases dH ia 0 u.aG<;>rfl
  ·intro j x s a;unfold rD ia;simp only[j4,GV,eP,AK,ag];cases bI x.back 1 20 with
   |false=>rfl
   |true=>
    cases kV x.high 0 60 with
    |false=>rfl
    |true=>
     simp only[Bool.not_true,cond_false,cond_true];cases decide (3<=IntKind.i64.wrap (x.high.high - x.high.low))<;>rfl
theorem wX (u:ak)(f:Int->Bool)(a:∀p,fX u p=some (f p)/\mj u p=some (f p)):l5 u=some (cond (decide (3<(u.props.length:Int))) 2 ((dH (hU u f) 0 u.props).getD 0)):=by
 unfold l5;cases decide (3<(u.props.length:Int)) with
 |true=>rfl
 |false=>
  show ag (bF _ 0 u.props 0) _=_;rw[p9 (t:=hU u f) u.props 0 0 ?_]
  ·show aB (gQ _ _) _ _ _=_;cases dH (hU u f) 0 u.props<;>rfl
  ·intro j x s b;unfold rE hU;simp only[(a x.place).1,GY,ag];cases f x.place with
   |false=>rfl
   |true=>
    cases bI x.dF 1 20<;>rfl
theorem mC {α:Type}{t:Nat->α->Option Int}(h:∀i x r,t i x=some r->r≠0):∀(l:List α) (i:Nat) (r:Int),dH t i l=some r->r≠0
 |[],i,r,e=>by cases e
 |x::l,i,r,e=>by
  unfold dH at e
  cases ht:t i x with
  |some a=>rw[ht] at e;cases e;exact h i x _ ht
  |none=>rw[ht] at e;exact mC h l (i+1) r e
theorem AR (u:ak)(f:Int->Bool)(i:Nat)(x:cm)(r:Int)(h:hU u f i x=some r):r≠0:=by
 unfold hU at h;revert h;cases f x.place<;>cases bI x.dF 1 20<;>intro h<;>cases h<;>decide
theorem AS (i:Nat)(x:bZ)(r:Int)(h:ia i x=some r):r≠0:=by
 unfold ia at h;revert h;cases bI x.back 1 20<;>cases kV x.high 0 60<;>cases decide (3<=IntKind.i64.wrap (x.high.high - x.high.low))<;>intro h<;>cases h<;>decide
theorem G0 (u:ak)(i:Nat)(x:bR)(r:Int)(h:jv u i x=some r):r≠0:=by
 unfold jv at h;revert h;cases ie u x.aV<;>intro h<;>cases h<;>decide
theorem AT {o:Option Int}(h:∀r,o=some r->r≠0):(o.getD 0 != 0)=o.isSome:=by
 cases o with
 |none=>rfl
 |some r=>simpa using h r rfl
theorem G1 (u:ak)(f:Int->Bool)(e:∀p,fX u p=some (f p)/\mj u p=some (f p))(h:u.props.length<=20)(i:u.aG.length<=20)(k:u.told.length<=20):
  mA u=ag (l5 u) fun x=>cond (x != 0) (some x) (ag (lZ u) fun y=>cond (y != 0) (some y) (lY u)):=by
 rw[wX u f e,wW,wV]
 unfold mA
 simp only[ag]
 cases l:decide (3<(u.props.length:Int)) with
 |true=>rfl
 |false=>
  simp only[cond_false]
  rw[sB (t:=hU u f) u.props (by omega) ?_ ?_ 0]
  ·rw[AT (mC (AR u f) u.props 0)]
   cases dH (hU u f) 0 u.props with
   |some r=>rfl
   |none=>
    simp only[gQ,aB,Option.isSome_none,cond_false,eP]
    cases m:bI (u.aG.length:Int) 1 3 with
    |false=>rfl
    |true=>
     simp only[Bool.not_true,cond_false,cond_true]
     rw[sB (t:=ia) u.aG (by omega) ?_ ?_ 0]
     ·rw[AT (mC AS u.aG 0)]
      cases dH ia 0 u.aG with
      |some r=>rfl
      |none=>
       simp only[gQ,aB,Option.isSome_none,cond_false]
       cases n:decide (3<(u.told.length:Int)) with
       |true=>rfl
       |false=>
        simp only[cond_false]
        rw[sB (t:=jv u) u.told (by omega) ?_ ?_ 0]
        ·cases dH (jv u) 0 u.told<;>rfl
        ·intro j x s b
         have g:=(List.getElem?_eq_some_iff.1 b).1
         have a:decide ((j:Int)<(u.told.length:Int))=true:=decide_eq_true (by omega)
         have c:bn u.told (j:Int)=some x:=by unfold bn;rw[if_pos (by omega),Int.toNat_natCast,b]
         have d:IntKind.i64.wrap ((j:Int)+1)=((j+1:Nat):Int):=by rw[c6 (by omega)];omega
         unfold wO jv
         simp only[a,c,d,ag,wU,cond_true]
         cases ie u x.aV<;>rfl
        ·intro s
         have a:decide ((u.told.length:Int)<(u.told.length:Int))=false:=decide_eq_false (by omega)
         unfold wO
         simp only[a,cond_false]
     ·intro j x s b
      have g:=(List.getElem?_eq_some_iff.1 b).1
      have a:decide ((j:Int)<(u.aG.length:Int))=true:=decide_eq_true (by omega)
      have c:bn u.aG (j:Int)=some x:=by unfold bn;rw[if_pos (by omega),Int.toNat_natCast,b]
      have d:IntKind.i64.wrap ((j:Int)+1)=((j+1:Nat):Int):=by rw[c6 (by omega)];omega
      unfold wN ia
      simp only[a,c,d,ag,eP,AK,cond_true]
      cases bI x.back 1 20<;>cases kV x.high 0 60<;>cases decide (3<=IntKind.i64.wrap (x.high.high - x.high.low))<;>rfl
     ·intro s
      have a:decide ((u.aG.length:Int)<(u.aG.length:Int))=false:=decide_eq_false (by omega)
      unfold wN
      simp only[a,cond_false]
  ·intro j x s b
   have g:=(List.getElem?_eq_some_iff.1 b).1
   have a:decide ((j:Int)<(u.props.length:Int))=true:=decide_eq_true (by omega)
   have c:bn u.props (j:Int)=some x:=by unfold bn;rw[if_pos (by omega),Int.toNat_natCast,b]
   have d:IntKind.i64.wrap ((j:Int)+1)=((j+1:Nat):Int):=by rw[c6 (by omega)];omega
   unfold p6 hU
   simp only[a,c,d,ag,eP,(e x.place).2,cond_true]
   cases f x.place<;>cases bI x.dF 1 20<;>rfl
  ·intro s
   have a:decide ((u.props.length:Int)<(u.props.length:Int))=false:=decide_eq_false (by omega)
   unfold p6
   simp only[a,cond_false]
theorem AU (x:Int):cond (x != 0) (some x) (some 0)=some x:=by
 cases h:(x != 0) with
 |true=>rfl
 |false=>
  have:x=0:=by simpa using h
  rw[this];rfl
theorem G2 (u:ak)(a:u.aD.length<=20)(d:u.props.length<=20)(e:u.aG.length<=20)(g:u.told.length<=20):fN u=mB u/\∃r,fN u=some r:=by
 obtain ⟨he,h⟩:=AL u a;rw[GZ,h];show l6 u=_/\∃r,l6 u=some r;unfold l6;rw[AQ];simp only[ag];cases hg:(gV u != 0) with
 |true=>exact ⟨rfl,_,rfl⟩
 |false=>
  simp only[cond_false];unfold nq;rw[he];simp only[ag];cases b:((cond (bI u.aD.length 2 5) ((dH (gy u) 0 u.aD).getD 0) 2) != 0) with
  |true=>exact ⟨rfl,_,rfl⟩
  |false=>
   simp only[cond_false];have hb:bI u.aD.length 2 5=true:=by
    cases hb:bI (u.aD.length:Int) 2 5 with
    |true=>rfl
    |false=>rw[hb] at b;cases b
   have i:=fQ.1 hb;obtain ⟨f,c⟩:=AP u (by omega) a;rw[G1 u f c d e g];unfold nk;rw[wX u f c];simp only[ag];cases j:((cond (decide (3<(u.props.length:Int))) 2 ((dH (hU u f) 0 u.props).getD 0)) != 0) with
   |true=>exact ⟨rfl,_,rfl⟩
   |false=>
    simp only[cond_false];unfold nj;rw[wW];simp only[ag];cases k:((cond (bI u.aG.length 1 3) ((dH ia 0 u.aG).getD 0) 2) != 0) with
    |true=>exact ⟨rfl,_,rfl⟩
    |false=>
     simp only[cond_false];unfold ni pJ;rw[wV];simp only[ag];rw[AU];exact ⟨rfl,_,rfl⟩
theorem qb {α:Type}{t:Nat->α->Option Int}:∀(l:List α) (i:Nat),dH t i l=none->∀j x,l[j]?=some x->t (i+j) x=none
 |[],i,_,j,x,a=>by simp at a
 |y::l,i,h,j,x,a=>by
  unfold dH at h
  cases ht:t i y with
  |some r=>rw[ht] at h;cases h
  |none=>
   rw[ht] at h
   cases j with
   |zero=>simp at a;subst a;exact ht
   |succ j=>
    have:=qb l (i+1) h j x (by simpa using a)
    rwa [show i+1+j=i+(j+1) by omega] at this
structure Fit (u:ak):Prop where
 bH:2<=u.bH/\u.bH<=60
 bO:0<=u.bO/\u.bO<=60
 den:1<=u.aW.den/\u.aW.den<=20
 num:0<=u.aW.num/\u.aW.num<=20
 aD:2<=u.aD.length/\u.aD.length<=5
 mD:∀(i:Nat) x,u.aD[i]?=some x->(0<=x.aL/\x.aL<=u.bH - 1)/\0<=x.high/\x.high<=60
 G3:∀(i:Nat) x y,u.aD[i]?=some x->u.aD[i+1]?=some y->x.aL<y.aL
 props:u.props.length<=3
 prop:∀(i:Nat) x,u.props[i]?=some x->fX u x.place=some true/\1<=x.dF/\x.dF<=20
 aG:1<=u.aG.length/\u.aG.length<=3
 aV:∀(i:Nat) x,u.aG[i]?=some x->(1<=x.back/\x.back<=20)/\0<=x.high.low/\x.high.low<=x.high.high/\x.high.high<=60/\x.high.high - x.high.low<3
 told:u.told.length<=3
 wY:∀(i:Nat) x,u.told[i]?=some x->0<=x.aV/\x.aV<u.aG.length
theorem sD {o:Option Int}(h:∀r,o=some r->r≠0)(a:o.getD 0=0):o=none:=by
 cases o with
 |none=>rfl
 |some r=>exact absurd a (h r rfl)
theorem G4 (u:ak)(i:Nat)(x:b7)(r:Int)(h:gy u i x=some r):r≠0:=by
 unfold gy at h;revert h;cases bI x.aL 0 (IntKind.i64.wrap (u.bH - 1))<;>cases bI x.high 0 60<;>try (intro h;cases h;decide)
 cases i with
 |zero=>intro h;cases h
 |succ j=>
  simp only[cond_true];cases u.aD[j]? with
  |none=>intro h;cases h
  |some y=>dsimp only;cases decide (x.aL<=y.aL)<;>intro h<;>cases h<;>decide
theorem G5 (u:ak)(o:u.aD.length<=20)(h:fN u=some 0):Fit u:=by
 have a:l6 u=some 0:=h;clear h;unfold l6 at a;rw[AQ] at a;simp only[ag] at a;have hg:gV u=0:=by
  cases hg:(gV u != 0) with
  |true=>rw[hg] at a;exact Option.some.inj a
  |false=>simpa using hg
 rw[hg] at a;have a:nq u=some 0:=a;unfold nq at a;rw[(AL u o).1] at a;simp only[ag] at a;generalize g:cond (bI (u.aD.length:Int) 2 5) ((dH (gy u) 0 u.aD).getD 0) 2=E at a;have z:E=0:=by
  cases d:(E != 0) with
  |true=>rw[d] at a;exact Option.some.inj a
  |false=>simpa using d
 rw[z] at a g;have a:nk u=some 0:=a;have hb:bI (u.aD.length:Int) 2 5=true:=by
  cases hb:bI (u.aD.length:Int) 2 5 with
  |true=>rfl
  |false=>rw[hb] at g;cases g
 rw[hb] at g;have M:=fQ.1 hb;have p:=qb u.aD 0 (sD (mC (G4 u) u.aD 0) g);obtain ⟨f,q⟩:=AP u (by omega) o;unfold nk at a;rw[wX u f q] at a;simp only[ag] at a;generalize j:cond (decide (3<(u.props.length:Int))) 2 ((dH (hU u f) 0 u.props).getD 0)=r at a;have A:r=0:=by
  cases d:(r != 0) with
  |true=>rw[d] at a;exact Option.some.inj a
  |false=>simpa using d
 rw[A] at a j;have a:nj u=some 0:=a;have s:decide (3<(u.props.length:Int))=false:=by
  cases hb:decide (3<(u.props.length:Int)) with
  |false=>rfl
  |true=>rw[hb] at j;cases j
 rw[s] at j;have B:=qb u.props 0 (sD (mC (AR u f) u.props 0) j);unfold nj at a;rw[wW] at a;simp only[ag] at a;generalize k:cond (bI (u.aG.length:Int) 1 3) ((dH ia 0 u.aG).getD 0) 2=t at a;have C:t=0:=by
  cases d:(t != 0) with
  |true=>rw[d] at a;exact Option.some.inj a
  |false=>simpa using d
 rw[C] at a k;have a:ni u=some 0:=a;have v:bI (u.aG.length:Int) 1 3=true:=by
  cases hb:bI (u.aG.length:Int) 1 3 with
  |true=>rfl
  |false=>rw[hb] at k;cases k
 rw[v] at k;have N:=fQ.1 v;have D:=qb u.aG 0 (sD (mC AS u.aG 0) k);unfold ni pJ at a;rw[wV] at a;simp only[ag] at a;rw[AU] at a;have l:=Option.some.inj a;have w:decide (3<(u.told.length:Int))=false:=by
  cases hb:decide (3<(u.told.length:Int)) with
  |false=>rfl
  |true=>rw[hb] at l;cases l
 rw[w] at l;have F:=qb u.told 0 (sD (mC (G0 u) u.told 0) l);have O:=of_decide_eq_false s;have P:=of_decide_eq_false w;clear a g j k l;have G:(2<=u.bH/\u.bH<=60)/\(0<=u.bO/\u.bO<=60)/\(1<=u.aW.den/\u.aW.den<=20)/\(0<=u.aW.num/\u.aW.num<=20):=by
  unfold gV at hg;refine ⟨fQ.1 ?_,fQ.1 ?_,fQ.1 ?_,fQ.1 ?_⟩<;>revert hg<;>cases bI u.bH 2 60<;>cases bI u.bO 0 60<;>cases bI u.aW.den 1 20<;>cases bI u.aW.num 0 20<;>intro hg<;>first|rfl|cases hg
 obtain ⟨H,I,J,K⟩:=G;have hw:IntKind.i64.wrap (u.bH - 1)=u.bH - 1:=c6 (by omega);have m:∀(i:Nat) x,u.aD[i]?=some x->bI x.aL 0 (u.bH - 1)=true/\bI x.high 0 60=true:=by
  intro i x b;have:=p i x b;unfold gy at this;rw[hw] at this;revert this;cases bI x.aL 0 (u.bH - 1)<;>cases bI x.high 0 60<;>intro h<;>first|exact ⟨rfl,rfl⟩|cases h
 refine ⟨H,I,J,K,by omega,fun i x b=>⟨fQ.1 (m i x b).1,fQ.1 (m i x b).2⟩,fun i x y b n=>?_,by omega,fun i x b=>?_,by omega,fun i x b=>?_,by omega,fun i x b=>?_⟩
 ·have:=p (i+1) y n;rw[Nat.zero_add] at this;unfold gy at this;rw[hw,(m _ _ n).1,(m _ _ n).2] at this;simp only[cond_true,b] at this;cases hd:decide (y.aL<=x.aL) with
  |true=>rw[hd] at this;cases this
  |false=>have:=of_decide_eq_false hd;omega
 ·have:=B i x b;unfold hU at this;revert this;rw[(q x.place).1];cases f x.place<;>cases hb:bI x.dF 1 20<;>intro h<;>first|exact ⟨rfl,fQ.1 hb⟩|cases h
 ·have:=D i x b;unfold ia at this;cases c:bI x.back 1 20 with
  |false=>rw[c] at this;cases this
  |true=>
   cases e:kV x.high 0 60 with
   |false=>rw[c,e] at this;cases this
   |true=>
    rw[c,e] at this;unfold kV at e;simp only[Bool.and_eq_true,decide_eq_true_eq] at e;refine ⟨fQ.1 c,e.1,e.2.1,e.2.2,?_⟩;cases hd:decide (3<=IntKind.i64.wrap (x.high.high - x.high.low)) with
    |true=>rw[hd] at this;cases this
    |false=>
     have L:=of_decide_eq_false hd;rw[c6 (by omega)] at L;omega
 ·have:=F i x b;unfold jv at this;cases c:ie u x.aV with
  |false=>rw[c] at this;cases this
  |true=>
   unfold ie at c;rw[c6 (by omega)] at c;have:=fQ.1 c;omega
theorem wZ (g:Nat)(hg:0<g)(n:Int)(d:Nat):bB ((g:Int)*n) (g*d)=bB n d:=by
 unfold bB;have e1:((g:Int)*n).natAbs=g*n.natAbs:=by rw[Int.natAbs_mul,Int.natAbs_natCast]
 rw[e1,Nat.gcd_mul_left];have a:(0:Int)<(g:Int):=by omega
 congr 1
 ·rw[Int.natCast_mul,Int.mul_tdiv_mul_of_pos _ _ a]
 ·rw[Int.natCast_mul,Int.natCast_mul,Int.mul_tdiv_mul_of_pos _ _ a]
theorem w5 (n:Int)(d:Nat)(hd:0<d):∃g a:Nat,0<g/\0<a/\d=g*a/\n=(g:Int)*(bB n d).num/\(bB n d).den=(a:Int):=by
 have hg:0<Nat.gcd n.natAbs d:=Nat.gcd_pos_of_pos_right _ hd;obtain ⟨a,b⟩:=Nat.gcd_dvd_right n.natAbs d;refine ⟨Nat.gcd n.natAbs d,a,hg,?_,b,?_,?_⟩
 ·rcases Nat.eq_zero_or_pos a with h|h
  ·rw[h,Nat.mul_zero] at b;omega
  ·exact h
 ·have c:((Nat.gcd n.natAbs d:Nat):Int) ∣ n:=Int.ofNat_dvd_left.2 (Nat.gcd_dvd_left _ _);unfold bB;exact (Int.mul_tdiv_cancel' c).symm
 ·have:(d:Int)=((Nat.gcd n.natAbs d:Nat):Int)*(a:Int):=by rw[<-Int.natCast_mul];exact congrArg _ b
  show (d:Int).tdiv ((Nat.gcd n.natAbs d:Nat):Int)=_;have e:((Nat.gcd n.natAbs d:Nat):Int)≠0:=by omega
  calc (d:Int).tdiv ((Nat.gcd n.natAbs d:Nat):Int)=(((Nat.gcd n.natAbs d:Nat):Int)*(a:Int)).tdiv ((Nat.gcd n.natAbs d:Nat):Int):=congrArg (fun z=>Int.tdiv z _) this
   _=(a:Int):=Int.mul_tdiv_cancel_left _ e
theorem dy {x y:Int}{A B:Nat}(a:x.natAbs<=A)(b:y.natAbs<=B):(x*y).natAbs<=A*B:=by
 rw[Int.natAbs_mul];exact Nat.mul_le_mul a b
theorem ef {n:Int}(h:n.natAbs<=9000000000000000000):IntKind.i64.wrap n=n:=c6 (by omega)
structure Sm (r:an)(A B:Nat):Prop where
 num:r.num.natAbs<=A
 den:0<r.den/\r.den<=B
theorem sE {a b:an}{A B C D:Nat}(c:Sm a A B)(hb:Sm b C D)(h:A*D+C*B<=900000000000000000)(hd:B*D<=800000000000000000):
  jj a b=some (bB (a.num*b.den+b.num*a.den) (a.den*b.den).toNat):=by
 have d:=dy c.num (show b.den.natAbs<=D by have:=hb.den;omega)
 have f:=dy hb.num (show a.den.natAbs<=B by have:=c.den;omega)
 have g:=dy (show a.den.natAbs<=B by have:=c.den;omega) (show b.den.natAbs<=D by have:=hb.den;omega)
 have i:0<a.den*b.den:=Int.mul_pos c.den.1 hb.den.1
 unfold jj
 rw[ef (n:=a.num*b.den) (by omega),ef (n:=b.num*a.den) (by omega),ef (n:=a.den*b.den) (by omega),ef (by omega)]
 have e:a.den*b.den=(((a.den*b.den).toNat:Nat):Int):=by omega
 have:=qa (a.num*b.den+b.num*a.den) (a.den*b.den).toNat (by omega) (by omega) (by omega)
 rw[<-e] at this
 rw[this]
 rfl
theorem AV {a b:an}{A B C D:Nat}(c:Sm a A B)(hb:Sm b C D)(h:A*D+C*B<=900000000000000000)(hd:B*D<=800000000000000000):
  j0 a b=some (bB (a.num*b.den - b.num*a.den) (a.den*b.den).toNat):=by
 have d:=dy c.num (show b.den.natAbs<=D by have:=hb.den;omega)
 have f:=dy hb.num (show a.den.natAbs<=B by have:=c.den;omega)
 have g:=dy (show a.den.natAbs<=B by have:=c.den;omega) (show b.den.natAbs<=D by have:=hb.den;omega)
 have i:0<a.den*b.den:=Int.mul_pos c.den.1 hb.den.1
 unfold j0
 rw[ef (n:=a.num*b.den) (by omega),ef (n:=b.num*a.den) (by omega),ef (n:=a.den*b.den) (by omega),ef (by omega)]
 have e:a.den*b.den=(((a.den*b.den).toNat:Nat):Int):=by omega
 have:=nS (a.num*b.den - b.num*a.den) (a.den*b.den).toNat (by omega) (by omega) (by omega)
 rw[<-e] at this
 rw[this]
 rfl
theorem AW {a b:an}{A B C D:Nat}(c:Sm a A B)(hb:Sm b C D)(h:A*D+C*B<=900000000000000000)(hd:B*D<=800000000000000000)(hC:C<=9000000000000000000):
  jk a b=some (bB (a.num*b.den - b.num*a.den) (a.den*b.den).toNat):=by
 unfold jk
 have e:=hb.num
 rw[ef (by omega)]
 have d:Sm (⟨0 - b.num,b.den⟩:an) C D:=⟨by show (0 - b.num).natAbs<=C;omega,hb.den⟩
 rw[sE c d h hd]
 show some (bB (a.num*b.den+(0 - b.num)*a.den) (a.den*b.den).toNat)=_
 rw[show a.num*b.den+(0 - b.num)*a.den=a.num*b.den - b.num*a.den by rw[Int.zero_sub,Int.neg_mul];omega]
def sF (x y:b7)(p:Int):Option an:=
 gw (IntKind.i64.wrap ((IntKind.i64.wrap (x.high*(IntKind.i64.wrap (y.aL - x.aL))))+(IntKind.i64.wrap ((IntKind.i64.wrap (y.high - x.high))*(IntKind.i64.wrap (p - x.aL)))))) (IntKind.i64.wrap (y.aL - x.aL))
theorem qc {α:Type}{l:List α}{i:Nat}{x:α}(h:l[i]?=some x):bn l (i:Int)=some x:=by unfold bn;rw[if_pos (by omega),Int.toNat_natCast,h]
theorem AX (i:Nat)(h:i<1000):IntKind.i64.wrap ((i:Int)+1)=((i+1:Nat):Int):=by rw[c6 (by omega)];omega
theorem piece (u:ak)(p:Int)(g:u.aD.length<=5)(z:b7)(b:u.aD[u.aD.length - 1]?=some z)(h:p<=z.aL):∀(m i n:Nat) (x y:b7),i+1+m=u.aD.length - 1->m<n->u.aD[i]?=some x->u.aD[i+1]?=some y->
  ∃(k:Nat) (x y:b7),i<=k/\u.aD[k]?=some x/\u.aD[k+1]?=some y/\p<=y.aL/\(k=i\/x.aL<p)/\aY (nu u p) n ((i+1:Nat):Int)=some (.nx ((k+1:Nat):Int))/\
   aY (sw u p) n (i:Int)=ag (sF x y p) fun r=>some (.rt r)
 |m,i,n+1,x,y,v,w,f,a=>by
  have A:i+1<u.aD.length:=(List.getElem?_eq_some_iff.1 a).1
  have d1:decide (((i+1:Nat):Int)<(u.aD.length:Int))=true:=decide_eq_true (by omega)
  unfold aY nu sw
  rw[AX i (by omega),AX (i+1) (by omega),qc f,qc a,d1]
  simp only[ag,cond_true]
  by_cases c:y.aL<p
  ·have e1:decide (y.aL<p)=true:=decide_eq_true c
   have e2:decide (p<=y.aL)=false:=decide_eq_false (by omega)
   rw[e1,e2]
   simp only[cond_true,cond_false]
   cases m with
   |zero=>
    have:u.aD.length - 1=i+1:=by omega
    rw[this,a] at b
    cases b
    omega
   |succ m=>
    have j:i+1+1<u.aD.length:=by omega
    obtain ⟨k,l,y',B,d,o,q,e,s,t⟩:=piece u p g z b h m (i+1) n y (u.aD[i+1+1]) (by omega) (by omega) a (List.getElem?_eq_getElem j)
    refine ⟨k,l,y',by omega,d,o,q,?_,s,t⟩
    rcases e with rfl|e
    ·rw[a] at d;cases d;exact .inr c
    ·exact .inr e
  ·have e1:decide (y.aL<p)=false:=decide_eq_false c
   have e2:decide (p<=y.aL)=true:=decide_eq_true (by omega)
   rw[e1,e2]
   refine ⟨i,x,y,Nat.le_refl _,f,a,by omega,.inl rfl,rfl,?_⟩
   simp only[cond_true]
   unfold sF
   cases gw _ _<;>rfl
theorem iT (n:Int)(d:Nat)(hd:0<d):Sm (bB n d) n.natAbs d:=by
 obtain ⟨g,a,hg,c,e1,e2,b⟩:=w5 n d hd;refine ⟨?_,?_⟩
 ·have:n.natAbs=g*(bB n d).num.natAbs:=by
   have:=congrArg Int.natAbs e2
   rwa [Int.natAbs_mul,Int.natAbs_natCast] at this
  rw[this];exact Nat.le_mul_of_pos_left _ hg
 ·rw[b];have:a<=d:=by rw[e1];exact Nat.le_mul_of_pos_left _ hg
  omega
theorem AY (h:Int)(n:Int)(d:Nat)(hd:0<d):bB (h*(bB n d).den+(bB n d).num) ((bB n d).den).toNat=bB (h*d+n) d:=by
 obtain ⟨g,a,hg,f,e1,e2,b⟩:=w5 n d hd;have k1:h*(d:Int)+n=(g:Int)*(h*(a:Int)+(bB n d).num):=by
  rw[Int.mul_add,<-e2,e1,Int.natCast_mul,Int.mul_left_comm]
 rw[b];have c:((a:Nat):Int).toNat=a:=Int.toNat_natCast a;rw[c,k1];have e:bB ((g:Int)*(h*(a:Int)+(bB n d).num)) d=bB ((g:Int)*(h*(a:Int)+(bB n d).num)) (g*a):=congrArg _ e1;rw[e,wZ g hg]
theorem G6 (u:ak)(F:Fit u)(p:Int)(a z:b7)(g:u.aD[0]?=some a)(j:u.aD[u.aD.length - 1]?=some z)(l:a.aL<=p)(m:p<=z.aL):
  ∃r,iR u p=some r/\p7 u p=some r/\Sm r 7200 60/\∃(k:Nat) (x y:b7) (d:Nat),u.aD[k]?=some x/\u.aD[k+1]?=some y/\x.aL<=p/\p<=y.aL/\y.aL - x.aL=d/\0<d/\r=bB (x.high*d+(y.high - x.high)*(p - x.aL)) d:=by
 have o:=F.aD
 obtain ⟨k,x,y,-,b,e,q,h,t,v⟩:=piece u p o.2 z j m (u.aD.length - 2) 0 fu a (u.aD[1]'(by omega)) (by omega) (Nat.lt_of_le_of_lt (show u.aD.length - 2<=5 by omega) (by decide)) g (List.getElem?_eq_getElem _)
 have H:k+1<u.aD.length:=(List.getElem?_eq_some_iff.1 e).1
 have I:=F.mD k x b
 have J:=F.mD (k+1) y e
 have K:=F.G3 k x y b e
 have L:=F.bH
 have w:x.aL<=p:=by
  rcases h with rfl|h
  ·rw[g] at b;cases b;exact l
  ·omega
 have A:IntKind.i64.wrap (((k+1:Nat):Int) - 1)=(k:Int):=by rw[c6 (by omega)];omega
 have w1:IntKind.i64.wrap (y.high - x.high)=y.high - x.high:=c6 (by omega)
 have w2:IntKind.i64.wrap (p - x.aL)=p - x.aL:=c6 (by omega)
 have w3:IntKind.i64.wrap (y.aL - x.aL)=y.aL - x.aL:=c6 (by omega)
 have B:((y.high - x.high)*(p - x.aL)).natAbs<=60*60:=dy (by omega) (by omega)
 have i:(x.high*(y.aL - x.aL)).natAbs<=60*60:=dy (by omega) (by omega)
 obtain ⟨d,hd⟩:∃d:Nat,y.aL - x.aL=d:=⟨(y.aL - x.aL).toNat,by omega⟩
 generalize f:(y.high - x.high)*(p - x.aL)=n at B
 have c:0<d:=by omega
 have M:d<=60:=by omega
 have s1:=iT n d c
 have C:Sm (bB n d) 3600 60:=⟨Nat.le_trans s1.num (by omega),s1.den.1,by have:=s1.den.2;omega⟩
 have D:Sm (⟨x.high,1⟩:an) 60 1:=⟨by show x.high.natAbs<=60;omega,by show (0:Int)<1;omega,by show (1:Int)<=((1:Nat):Int);omega⟩
 refine ⟨bB (x.high*d+n) d,?_,?_,?_,k,x,y,d,b,e,w,q,hd,c,by rw[f]⟩
 ·unfold iR
  have E:aY (nu u p) fu 1=some (.nx ((k+1:Nat):Int)):=t
  rw[E]
  simp only[ag,aB]
  rw[A,qc b,qc e]
  simp only[fM]
  rw[w1,w2,w3,f,hd,ef (by omega),qa n d (by omega) c (by omega)]
  simp only
  rw[sE D C (by omega) (by omega)]
  show some (bB (x.high*(bB n d).den+(bB n d).num*1) (1*(bB n d).den).toNat)=_
  rw[Int.mul_one,Int.one_mul,AY x.high n d c]
 ·unfold p7
  have G:aY (sw u p) fu 0=ag (sF x y p) fun r=>some (.rt r):=v
  rw[G]
  unfold sF
  rw[w1,w2,w3,ef (n:=x.high*(y.aL - x.aL)) (by omega),f,ef (n:=n) (by omega),hd]
  rw[hd] at i
  rw[ef (n:=x.high*(d:Int)+n) (by omega),nS (x.high*d+n) d (by omega) c (by omega)]
  rfl
 ·have s:=iT (x.high*d+n) d c
  rw[hd] at i
  exact ⟨Nat.le_trans s.num (by omega),s.den.1,by have:=s.den.2;omega⟩
theorem G7 (u:ak)(F:Fit u)(p:Int)(a z:b7)(b:u.aD[0]?=some a)(c:u.aD[u.aD.length - 1]?=some z)(d:a.aL<=p)(e:p<=z.aL):
  ∃r,iR u p=some r/\p7 u p=some r/\Sm r 7200 60:=by
 obtain ⟨r,f,g,h,-⟩:=G6 u F p a z b c d e
 exact ⟨r,f,g,h⟩
def AZ:ak:=⟨0,0,(⟨0,0⟩:an),([]:List b7),([]:List cm),([]:List bZ),([]:List bR)⟩
theorem A0 {u:ak}{f:ak->Option Int}{x:Int}(h:fN u=some 0)(a:f u=some x):e7 u [f]=some (cond (x != 0) (AZ,x) (u,0)):=by
 unfold e7;rw[h];simp only[ag,bne_self_eq_false,cond_false];unfold bF rV;simp only[a,ag];cases (x != 0)<;>rfl
theorem G8 (u:ak)(F:Fit u)(p:Int):∃a z,u.aD[0]?=some a/\u.aD[u.aD.length - 1]?=some z/\fX u p=some (bI p a.aL z.aL)/\mj u p=some (bI p a.aL z.aL):=by
 have d:=F.aD;have b:u.aD[0]?=some (u.aD[0]'(by omega)):=List.getElem?_eq_getElem _;have c:u.aD[u.aD.length - 1]?=some (u.aD[u.aD.length - 1]'(by omega)):=List.getElem?_eq_getElem _;have hw:IntKind.i64.wrap ((u.aD.length:Int) - 1)=((u.aD.length - 1:Nat):Int):=by rw[c6 (by omega)];omega
 refine ⟨_,_,b,c,?_⟩;have k:fX u p=some (bI p (u.aD[0]'(by omega)).aL (u.aD[u.aD.length - 1]'(by omega)).aL):=by
  unfold fX;have e0:bn u.aD 0=some (u.aD[0]'(by omega)):=b;rw[hw,e0,qc c,j4];simp only[ag,eP]
 exact ⟨k,k⟩
theorem A1 {n m:Int}{d e:Nat}(hd:0<d)(he:0<e)(h:n*(e:Int)=m*(d:Int)):bB n d=bB m e:=by
 have a:=wZ e he n d;have b:=wZ d hd m e;rw[<-a,<-b];have e1:(e:Int)*n=(d:Int)*m:=by rw[Int.mul_comm,h,Int.mul_comm]
 rw[e1,Nat.mul_comm e d]
theorem w6 (n:Int)(d:Nat)(hd:0<d):(bB n d).num*(d:Int)=n*(bB n d).den/\0<(bB n d).den:=by
 obtain ⟨g,a,hg,c,e1,e2,b⟩:=w5 n d hd;refine ⟨?_,by rw[b];omega⟩;rw[b];have k1:(d:Int)=(g:Int)*(a:Int):=by rw[<-Int.natCast_mul];exact congrArg _ e1
 calc (bB n d).num*(d:Int)=(bB n d).num*((g:Int)*(a:Int)):=by rw[<-k1]
  _=((g:Int)*(bB n d).num)*(a:Int):=by rw[<-Int.mul_assoc,Int.mul_comm (bB n d).num]
  _=n*(a:Int):=by rw[<-e2]
theorem kW {a b:an}{A B C D:Nat}(c:Sm a A B)(hb:Sm b C D)(h:A*D<=9000000000000000000)(d:C*B<=9000000000000000000):gv a b=some (decide (a.num*b.den<b.num*a.den))/\eC a b=some (decide (a.num*b.den<b.num*a.den)):=by
 have e:=dy c.num (show b.den.natAbs<=D by have:=hb.den;omega);have f:=dy hb.num (show a.den.natAbs<=B by have:=c.den;omega);have k:gv a b=some (decide (a.num*b.den<b.num*a.den)):=by
  unfold gv;rw[ef (n:=a.num*b.den) (by omega),ef (n:=b.num*a.den) (by omega)]
 exact ⟨k,k⟩
theorem G9 {h md a d e b f c N:Int}(g:d*b=N*md)(i:e*f=c*a):(h*(md*a)+d*e)*(b*f)=(h*b*f+N*c)*(md*a):=by
 grind
theorem A2 (u:ak)(F:Fit u)(s:aZ)(hs:(1<=s.back/\s.back<=20)/\0<=s.high/\s.high<=60)(at_:Int)(aL:Int)(H:0<=aL/\aL<=60)(e:an)(he:Sm e 10000 100):
  ∃c,jW u s at_ ⟨aL,e⟩=some ⟨⟨aL,e⟩,at_,c⟩/\mm u s aL e=some c/\c=bB (s.high*e.den*(aL+s.back)+(e.num - s.high*e.den)*(u.bH+s.back)) (e.den*(aL+s.back)).toNat:=by
 have I:=F.bH
 have w1:IntKind.i64.wrap (u.bH+s.back)=u.bH+s.back:=c6 (by omega)
 have w2:IntKind.i64.wrap (aL+s.back)=aL+s.back:=c6 (by omega)
 obtain ⟨f,b⟩:∃f:Nat,aL+s.back=f:=⟨(aL+s.back).toNat,by omega⟩
 have d:0<f:=by omega
 have J:f<=80:=by omega
 generalize m:u.bH+s.back=c at*
 have o:c.natAbs<=80:=by omega
 have p:Sm (⟨s.high,1⟩:an) 60 1:=⟨by show s.high.natAbs<=60;omega,by show (0:Int)<1;omega,by show (1:Int)<=((1:Nat):Int);omega⟩
 obtain ⟨a,j⟩:∃n:Nat,e.den=n:=⟨e.den.toNat,by have:=he.den;omega⟩
 have g:0<a:=by have:=he.den;omega
 have K:a<=100:=by have:=he.den;omega
 have A:(s.high*e.den).natAbs<=60*100:=dy (by omega) (by omega)
 have b2:(e.num - s.high*e.den).natAbs<=16000:=by have:=he.num;omega
 have q:=AW he p (by omega) (by omega) (by omega)
 have e1:e.num*(1:Int) - s.high*e.den=e.num - s.high*e.den:=by rw[Int.mul_one]
 have e2:(e.den*(1:Int)).toNat=a:=by rw[Int.mul_one,j,Int.toNat_natCast]
 rw[show ((⟨s.high,1⟩:an).den)=(1:Int) from rfl,show ((⟨s.high,1⟩:an).num)=s.high from rfl,e1,e2] at q
 generalize B:e.num - s.high*e.den=N at*
 have sm:=iT N a g
 have r:=iT c f d
 have t:=w6 N a g
 have v:=w6 c f d
 have L:((bB N a).num*(bB c f).num).natAbs<=16000*80:=dy (Nat.le_trans sm.num b2) (Nat.le_trans r.num o)
 have O:((bB N a).den*(bB c f).den).natAbs<=100*80:=dy (by have:=sm.den;omega) (by have:=r.den;omega)
 have P:0<(bB N a).den*(bB c f).den:=Int.mul_pos t.2 v.2
 obtain ⟨M,w⟩:∃M:Nat,(bB N a).den*(bB c f).den=M:=⟨((bB N a).den*(bB c f).den).toNat,by omega⟩
 have h:0<M:=by omega
 have C:=qa c f (by omega) d (by omega)
 have D:=qa ((bB N a).num*(bB c f).num) M (by omega) h (by omega)
 have sq:=iT ((bB N a).num*(bB c f).num) M h
 have E:Sm (bB ((bB N a).num*(bB c f).num) M) 1280000 8000:=⟨Nat.le_trans sq.num (by omega),sq.den.1,by have:=sq.den.2;omega⟩
 have x:=sE p E (by omega) (by omega)
 have G:s.high*(bB ((bB N a).num*(bB c f).num) M).den+(bB ((bB N a).num*(bB c f).num) M).num*1=s.high*(bB ((bB N a).num*(bB c f).num) M).den+(bB ((bB N a).num*(bB c f).num) M).num:=by rw[Int.mul_one]
 rw[show ((⟨s.high,1⟩:an).den)=(1:Int) from rfl,show ((⟨s.high,1⟩:an).num)=s.high from rfl,G,Int.one_mul,AY s.high _ M h] at x
 have k:e.den*(aL+s.back)=((a*f:Nat):Int):=by rw[j,b,Int.natCast_mul]
 have i:(e.den*(aL+s.back)).toNat=a*f:=by rw[k,Int.toNat_natCast]
 have y:bB (s.high*(M:Int)+(bB N a).num*(bB c f).num) M=bB (s.high*e.den*(aL+s.back)+N*c) (a*f):=by
  refine A1 h (Nat.mul_pos g d) ?_
  rw[Int.natCast_mul,<-w,b,j]
  exact G9 (by rw[t.1]) (by rw[v.1])
 refine ⟨_,?_,?_,rfl⟩
 ·unfold jW
  have l:IntKind.i64.wrap (f:Int)=f:=c6 (by omega)
  simp only[fM,ag,q,m,w1,b,l,C]
  rw[ef (by omega),ef (n:=(bB N a).den*(bB c f).den) (by omega),w,D]
  simp only[x]
  rw[b] at i y
  rw[i,y]
 ·unfold mm
  have l:IntKind.i64.wrap (f:Int)=f:=c6 (by omega)
  have Q:(s.high*e.den*(f:Int)).natAbs<=6000*80:=dy A (by omega)
  have p2:(N*c).natAbs<=16000*80:=dy b2 o
  have p3:(e.den*(f:Int)).natAbs<=100*80:=dy (by omega) (by omega)
  simp only[m,w1,b,l]
  rw[ef (n:=s.high*e.den) (by omega),B,ef (n:=N) (by omega),ef (n:=s.high*e.den*(f:Int)) (by omega),ef (n:=N*c) (by omega),ef (n:=s.high*e.den*(f:Int)+N*c) (by omega),ef (n:=e.den*(f:Int)) (by omega)]
  rw[b] at k i
  have z:=nS (s.high*e.den*(f:Int)+N*c) (a*f) (by omega) (Nat.mul_pos g d) (by omega)
  rw[i]
  rw[<-k] at z
  rw[z]
  rfl
theorem He (s:aZ)(u:ak):eI s u=wP s:=rfl
def w7 (s:aZ):Int:=cond (bI s.back 1 20) (cond (bI s.high 0 60) 0 1) 1
theorem Hf (s:aZ):wP s=some (w7 s):=by
 unfold wP w7;simp only[eP,ag];cases bI s.back 1 20<;>cases bI s.high 0 60<;>rfl
def dN (u:ak)(s:aZ)(x:b7):an:=bB (s.high*1*(x.aL+s.back)+(x.high - s.high*1)*(u.bH+s.back)) (1*(x.aL+s.back)).toNat
theorem A3 (u:ak)(F:Fit u)(s:aZ)(hs:(1<=s.back/\s.back<=20)/\0<=s.high/\s.high<=60)(i:Nat)(x:b7)(a:u.aD[i]?=some x)(at_:Int):
  jW u s at_ ⟨x.aL,⟨x.high,1⟩⟩=some ⟨⟨x.aL,⟨x.high,1⟩⟩,at_,dN u s x⟩/\mm u s x.aL ⟨x.high,1⟩=some (dN u s x):=by
 have p:=F.mD i x a
 have f:=F.bH
 have he:Sm (⟨x.high,1⟩:an) 10000 100:=⟨by show x.high.natAbs<=10000;omega,by show (0:Int)<1;omega,by show (1:Int)<=((100:Nat):Int);omega⟩
 obtain ⟨c,b,d,e⟩:=A2 u F s hs at_ x.aL (by omega) ⟨x.high,1⟩ he
 have:c=dN u s x:=e
 subst this
 exact ⟨b,d⟩
theorem A4 (u:ak)(F:Fit u)(s:aZ)(hs:(1<=s.back/\s.back<=20)/\0<=s.high/\s.high<=60)(i:Nat)(x:b7)(a:u.aD[i]?=some x):Sm (dN u s x) 10000 100:=by
 have p:=F.mD i x a;have b:=F.bH;unfold dN;rw[Int.mul_one,Int.one_mul];have c:(s.high*(x.aL+s.back)).natAbs<=60*79:=dy (by omega) (by omega);have b2:((x.high - s.high)*(u.bH+s.back)).natAbs<=60*80:=dy (by omega) (by omega);have h:=iT (s.high*(x.aL+s.back)+(x.high - s.high)*(u.bH+s.back)) (x.aL+s.back).toNat (by omega);exact ⟨Nat.le_trans h.num (by omega),h.den.1,by have:=h.den.2;omega⟩
def foldI {α σ:Type}(g:Nat->α->σ->σ):Nat->List α->σ->σ
 |_,[],s=>s
 |i,x::l,s=>foldI g (i+1) l (g i x s)
theorem j5 {α σ ρ:Type}{f:Nat->α->σ->Option (Fl σ ρ)}{g:Nat->α->σ->σ}{I:Nat->σ->Prop}:∀(l:List α) (i:Nat) (s:σ),I i s->(∀j x s,l[j]?=some x->I (i+j) s->f (i+j) x s=some (.nx (g (i+j) x s))/\I (i+j+1) (g (i+j) x s))->
  bF f i l s=some (.nx (foldI g i l s))/\I (i+l.length) (foldI g i l s)
 |[],i,s,hs,_=>⟨rfl,hs⟩
 |x::l,i,s,hs,h=>by
  obtain ⟨a,b⟩:=h 0 x s rfl hs
  simp only[Nat.add_zero] at a b
  unfold bF foldI
  rw[a]
  have:=j5 l (i+1) _ b fun j y s c hs=>by
   have:=h (j+1) y s (by simpa using c) (by rwa [show i+(j+1)=i+1+j by omega])
   rwa [show i+(j+1)=i+1+j by omega] at this
  rwa [show i+1+l.length=i+(x::l).length by simp;omega] at this
theorem A5 {α σ τ ρ:Type}{f:τ->Option (Fl τ ρ)}{g:Nat->α->σ->σ}{I:Nat->σ->Prop}(e:σ->Int->τ)(l:List α)(h:∀(i:Nat) x s,l[i]?=some x->I i s->f (e s (i:Int))=some (.nx (e (g i x s) ((i+1:Nat):Int)))/\I (i+1) (g i x s))(a:∀s,f (e s (l.length:Int))=some (.bk (e s (l.length:Int)))):
  ∀(k i n:Nat) (s:σ),I i s->i+k=l.length->k<n->aY f n (e s (i:Int))=some (.nx (e (foldI g i (l.drop i) s) (l.length:Int)))/\I l.length (foldI g i (l.drop i) s)
 |0,i,n+1,s,hs,hi,_=>by
  obtain rfl:i=l.length:=by omega
  unfold aY
  rw[a,List.drop_length]
  exact ⟨rfl,hs⟩
 |k+1,i,n+1,s,hs,hi,m=>by
  have b:i<l.length:=by omega
  have c:l[i]?=some l[i]:=List.getElem?_eq_getElem b
  obtain ⟨d,j⟩:=h i _ s c hs
  unfold aY
  rw[d,List.drop_eq_getElem_cons b]
  unfold foldI
  exact A5 e l h a k (i+1) n _ j (by omega) (by omega)
theorem nU {α σ τ ρ:Type}{f:τ->Option (Fl τ ρ)}{g:Nat->α->σ->σ}{I:Nat->σ->Prop}(e:σ->Int->τ)(l:List α)(a:l.length<=1000)(h:∀(i:Nat) x s,l[i]?=some x->I i s->f (e s (i:Int))=some (.nx (e (g i x s) ((i+1:Nat):Int)))/\I (i+1) (g i x s))(b:∀s,f (e s (l.length:Int))=some (.bk (e s (l.length:Int))))(s:σ)(hs:I 0 s):
  aY f fu (e s 0)=some (.nx (e (foldI g 0 l s) (l.length:Int)))/\I l.length (foldI g 0 l s):=by
 have:=A5 e l h b l.length 0 fu s hs (by omega) (Nat.lt_of_le_of_lt a (by decide))
 simpa using this
theorem A6 {α σ:Type}{g g':Nat->α->σ->σ}:∀(l:List α) (i:Nat) (s:σ),(∀j x s,i<=j->g j x s=g' j x s)->foldI g i l s=foldI g' i l s
 |[],_,_,_=>rfl
 |x::l,i,s,h=>by
  unfold foldI
  rw[h i x s (Nat.le_refl _)]
  exact A6 l (i+1) _ fun j x s a=>h j x s (by omega)
def bM (a b:an):Bool:=decide (a.num*b.den<b.num*a.den)
abbrev SR (r:an):Prop:=Sm r 2000000 8000
theorem Sm.mono {r:an}{A B a b:Nat}(h:Sm r A B)(c:A<=a)(hb:B<=b):Sm r a b:=⟨Nat.le_trans h.num c,h.den.1,by have:=h.den.2;omega⟩
theorem sG (u:ak)(F:Fit u)(s:aZ)(hs:(1<=s.back/\s.back<=20)/\0<=s.high/\s.high<=60)(i:Nat)(x:b7)(a:u.aD[i]?=some x):SR (dN u s x):=(A4 u F s hs i x a).mono (by decide) (by decide)
theorem mE {a b:an}(c:SR a)(hb:SR b):gv a b=some (bM a b)/\eC a b=some (bM a b):=kW c hb (by decide) (by decide)
def gB (u:ak)(s:aZ)(i:Nat)(x:b7)(st:Int×an):Int×an:=cond (bM st.2 (dN u s x)) ((i:Int),dN u s x) st
def ig (u:ak)(s:aZ)(i:Nat)(x:b7):bA:=⟨⟨x.aL,⟨x.high,1⟩⟩,(i:Int),dN u s x⟩
def e8 (u:ak)(s:aZ):Nat->List b7->List bA
 |_,[]=>[]
 |i,x::l=>ig u s i x::e8 u s (i+1) l
theorem A7 (u:ak)(s:aZ):∀(l:List b7) (i:Nat) (a:List bA),foldI (fun i x st=>st++[ig u s i x]) i l a=a++e8 u s i l
 |[],i,a=>by simp[foldI,e8]
 |x::l,i,a=>by simp[foldI,e8,A7 u s l (i+1)]
def gC (i:Nat)(x:bA)(st:bA):bA:=cond (bM st.high x.high) x st
theorem A8 (u:ak)(s:aZ):∀(l:List b7) (i j:Nat) (c:bA),let r:=foldI gC j (e8 u s i l) c;(r.at_,r.high)=foldI (gB u s) i l (c.at_,c.high)
 |[],i,j,c=>rfl
 |x::l,i,j,c=>by
  simp only[e8,foldI]
  have:=A8 u s l (i+1) (j+1) (gC j (ig u s i x) c)
  simp only at this
  rw[this]
  congr 1
  unfold gC gB ig
  cases bM c.high (dN u s x)<;>rfl
theorem w8 (n:Int):fM n=some ⟨n,1⟩:=rfl
def eD (u:ak)(s:aZ):Int×an:=match u.aD with
 |[]=>(0,⟨0,0⟩)
 |x::l=>foldI (gB u s) 1 l (0,dN u s x)
section
variable {u : ak} {s : aZ} (F : Fit u) (hs : (1 ≤ s.back ∧ s.back ≤ 20) ∧ 0 ≤ s.high ∧ s.high ≤ 60)
include F hs
theorem Hg:bF (nt u s) 0 u.aD ([]:List bA)=some (.nx (e8 u s 0 u.aD)):=by
 have c:=F.aD;have:=j5 (f:=nt u s) (ρ:=bA) (g:=fun i x st=>st++[ig u s i x]) (I:=fun i st=>st.length=i) u.aD 0 [] rfl (fun j x st a b=>?_)
 ·rw[this.1,A7];rfl
 ·have d:j<u.aD.length:=(List.getElem?_eq_some_iff.1 a).1;refine ⟨?_,by simp[b]⟩;unfold nt;rw[Nat.zero_add] at b ⊢;simp only[w8,ag,(A3 u F s hs j x a (j:Int)).1];unfold c9;rw[if_pos (by simp;omega)];rfl
theorem A9:∀(l:List b7) (i:Nat),(∀(j:Nat) x,l[j]?=some x->u.aD[i+j]?=some x)->∀(j:Nat) c,(e8 u s i l)[j]?=some c->SR c.high
 |[],_,_,j,c,h=>by simp[e8] at h
 |x::l,i,a,0,c,h=>by
  simp[e8] at h
  subst h
  exact sG u F s hs i x (a 0 x rfl)
 |x::l,i,a,j+1,c,h=>A9 l (i+1) (fun j y b=>by have:=a (j+1) y (by simpa using b);rwa [show i+(j+1)=i+1+j by omega] at this) j c (by simpa [e8] using h)
theorem w9:∃c,kP u s=some c/\(c.at_,c.high)=eD u s/\SR c.high/\wR u s=some (eD u s):=by
 have d:=F.aD;have p:=Hg F hs;obtain ⟨a,rest,he⟩:∃x l,u.aD=x::l:=by
  cases h:u.aD with
  |nil=>rw[h] at d;simp at d
  |cons x l=>exact ⟨x,l,rfl⟩
 have q:u.aD[0]?=some a:=by rw[he];rfl
 have r:∀(j:Nat) x,rest[j]?=some x->u.aD[1+j]?=some x:=fun j x h=>by rw[he,Nat.add_comm];simpa using h
 have w:rest.length<=4:=by rw[he] at d;simp at d;omega
 have t:SR (dN u s a):=sG u F s hs 0 a q
 have hg:=j5 (f:=pH iQ) (ρ:=bA) (g:=gC) (I:=fun _ c=>SR c.high) (e8 u s 1 rest) 0 (ig u s 0 a) t (fun j c st n e=>by
  have b:=A9 F hs rest 1 r j c n;refine ⟨?_,?_⟩
  ·unfold pH iQ gC;simp only[(mE e b).2,ag];cases bM st.high c.high<;>rfl
  ·unfold gC;cases bM st.high c.high
   ·exact e
   ·exact b)
 refine ⟨foldI gC 0 (e8 u s 1 rest) (ig u s 0 a),?_,?_,hg.2,?_⟩
 ·unfold kP;rw[p,he];simp only[ag,aB,e8];rw[show bn (ig u s 0 a::e8 u s (0+1) rest) 0=some (ig u s 0 a) from rfl];simp only;have:jL (ig u s 0 a::e8 u s (0+1) rest) 1 (((ig u s 0 a::e8 u s (0+1) rest).length:Nat):Int)=some (e8 u s 1 rest):=by
   unfold jL;rw[if_pos (by simp only[List.length_cons];omega)];simp
  rw[this];simp only;unfold lX;rw[hg.1];rfl
 ·have:=A8 u s rest 1 0 (ig u s 0 a);simp only at this;rw[this];unfold eD;rw[he];rfl
 ·unfold wR;have v:=nU (f:=su u s) (g:=fun i x st=>if i=0 then ((0:Int),dN u s x) else gB u s i x st) (I:=fun i st=>i=0\/SR st.2) (fun st i=>(st.1,i,st.2)) u.aD (by omega) (fun i x st k e=>?_) (fun st=>?_) ((0:Int),(⟨0,0⟩:an)) (.inl rfl)
  ·rw[v.1,he];simp only[ag,aB,foldI,if_pos];rw[A6 (g':=gB u s) rest (0+1) _ (fun j x st n=>if_neg (by omega))];unfold eD;rw[he]
  ·have y:i<u.aD.length:=(List.getElem?_eq_some_iff.1 k).1;have b:=sG u F s hs i x k;unfold su;simp only;rw[show decide ((i:Int)<(u.aD.length:Int))=true by simp;omega];simp only[cond_true];rw[show bn u.aD (i:Int)=some x by unfold bn;rw[if_pos (by omega)];simpa using k];simp only[ag,(A3 u F s hs i x k 0).2];have hw:IntKind.i64.wrap ((i:Int)+1)=((i+1:Nat):Int):=by rw[c6 (by omega)];rfl
   rw[hw];by_cases m:i=0
   ·subst m;exact ⟨rfl,.inr b⟩
   ·have o:SR st.2:=e.resolve_left m;rw[show (((i:Nat):Int)==0)=false by simp;omega];simp only[cond_false,(mE o b).1,if_neg m];unfold gB;cases bM st.2 (dN u s x)
    ·exact ⟨rfl,.inr o⟩
    ·exact ⟨rfl,.inr b⟩
  ·unfold su;simp
end
section
variable {u : ak} {s : aZ} (F : Fit u) (hs : (1 ≤ s.back ∧ s.back ≤ 20) ∧ 0 ≤ s.high ∧ s.high ≤ 60)
include F hs
theorem xb:Sm (⟨u.bO,1⟩:an) 60 1:=⟨by have:=F.bO;show u.bO.natAbs<=60;omega,by show (0:Int)<1;omega,by show (1:Int)<=((1:Nat):Int);omega⟩
theorem xd:SR (eD u s).2:=by
 obtain ⟨c,d,a,b,e⟩:=w9 F hs;rw[<-a];exact b
end
theorem xe {a b c:an}(d:0<a.den)(hb:0<b.den)(h:0<c.den)(e:bM b a=false)(f:bM b c=true):bM c a=false:=by
 unfold bM at*;simp only[decide_eq_false_iff_not,decide_eq_true_eq,Int.not_lt] at*;have k1:a.num*b.den*c.den<=b.num*a.den*c.den:=Int.mul_le_mul_of_nonneg_right e (by omega);have i:b.num*c.den*a.den<c.num*b.den*a.den:=Int.mul_lt_mul_of_pos_right f d;have g:b.den*(a.num*c.den)<b.den*(c.num*a.den):=by
  have e1:b.den*(a.num*c.den)=a.num*b.den*c.den:=by grind
  have e2:b.den*(c.num*a.den)=c.num*b.den*a.den:=by grind
  have j:b.num*a.den*c.den=b.num*c.den*a.den:=by grind
  omega
 exact Int.le_of_lt (Int.lt_of_mul_lt_mul_left g (by omega))
theorem nW (a:an):bM a a=false:=by unfold bM;simp
theorem Hh {a b:an}(h:bM a b=true):bM b a=false:=by
 unfold bM at*;simp only[decide_eq_false_iff_not,decide_eq_true_eq,Int.not_lt] at*;omega
def xg (u:ak)(s:aZ)(aL:Int)(e:an):an:=bB (s.high*e.den*(aL+s.back)+(e.num - s.high*e.den)*(u.bH+s.back)) (e.den*(aL+s.back)).toNat
def dI (u:ak)(x:cm):an:=match iR u x.place with
 |some r=>bB (r.num+x.dF*r.den) r.den.toNat
 |none=>⟨0,0⟩
def ey (u:ak)(s:aZ)(x:cm):an:=xg u s x.place (dI u x)
section
variable {u : ak} {s : aZ} (F : Fit u) (hs : (1 ≤ s.back ∧ s.back ≤ 20) ∧ 0 ≤ s.high ∧ s.high ≤ 60)
include F hs
theorem xh {i:Nat}{x:cm}(t:u.props[i]?=some x):∃r,iR u x.place=some r/\p7 u x.place=some r/\jj r ⟨x.dF,1⟩=some (dI u x)/\
  gw (IntKind.i64.wrap (r.num+IntKind.i64.wrap (x.dF*r.den))) r.den=some (dI u x)/\(∀at_,jW u s at_ ⟨x.place,dI u x⟩=some ⟨⟨x.place,dI u x⟩,at_,ey u s x⟩)/\mm u s x.place (dI u x)=some (ey u s x)/\SR (ey u s x):=by
 obtain ⟨v,p2,p3⟩:=F.prop i x t
 obtain ⟨a,z,j,k,l,H⟩:=G8 u F x.place
 rw[v] at l
 have hb:bI x.place a.aL z.aL=true:=(Option.some.inj l).symm
 unfold bI at hb
 simp only[Bool.and_eq_true,decide_eq_true_eq] at hb
 have I:=F.mD _ a j
 have J:=F.mD _ z k
 have K:=F.bH
 obtain ⟨r,m,w,b⟩:=G7 u F x.place a z j k hb.1 hb.2
 have sh:Sm (⟨x.dF,1⟩:an) 20 1:=⟨by show x.dF.natAbs<=20;omega,by show (0:Int)<1;omega,by show (1:Int)<=((1:Nat):Int);omega⟩
 have L:(x.dF*r.den).natAbs<=20*60:=dy (by omega) (by have:=b.den;omega)
 obtain ⟨d,hd⟩:∃d:Nat,r.den=d:=⟨r.den.toNat,by have:=b.den;omega⟩
 have o:0<d:=by have:=b.den;omega
 have M:d<=60:=by have:=b.den;omega
 have N:=b.num
 have h:dI u x=bB (r.num+x.dF*r.den) d:=by
  unfold dI
  rw[m]
  simp only
  rw[hd,Int.toNat_natCast]
 have e:Sm (dI u x) 10000 100:=by
  rw[h]
  have:=iT (r.num+x.dF*r.den) d o
  exact ⟨Nat.le_trans this.num (by omega),this.den.1,by have:=this.den.2;omega⟩
 have y:=sE b sh (by decide) (by decide)
 have p:=nS (r.num+x.dF*r.den) d (by omega) o (by omega)
 have q:∀at_,jW u s at_ ⟨x.place,dI u x⟩=some ⟨⟨x.place,dI u x⟩,at_,ey u s x⟩/\mm u s x.place (dI u x)=some (ey u s x):=fun at_=>by
  obtain ⟨c,c1,c2,c3⟩:=A2 u F s hs at_ x.place ⟨by omega,by omega⟩ (dI u x) e
  subst c3
  exact ⟨c1,c2⟩
 refine ⟨r,m,w,?_,?_,fun at_=>(q at_).1,(q 0).2,?_⟩
 ·rw[y,h]
  show some (bB (r.num*1+x.dF*r.den) (r.den*1).toNat)=_
  rw[Int.mul_one,Int.mul_one,hd,Int.toNat_natCast]
 ·rw[ef (n:=x.dF*r.den) (by omega),ef (by omega),h]
  rw[hd] at p ⊢
  exact p
 ·unfold ey xg
  obtain ⟨f,A⟩:∃f:Nat,x.place+s.back=f:=⟨(x.place+s.back).toNat,by omega⟩
  obtain ⟨g,B⟩:∃n:Nat,(dI u x).den=n:=⟨(dI u x).den.toNat,by have:=e.den;omega⟩
  have C:0<g:=by have:=e.den;omega
  have D:g<=100:=by have:=e.den;omega
  have O:=e.num
  have E:(s.high*(dI u x).den).natAbs<=60*100:=dy (by omega) (by omega)
  have b2:(s.high*(dI u x).den*(x.place+s.back)).natAbs<=6000*80:=dy E (by omega)
  have b3:(((dI u x).num - s.high*(dI u x).den)*(u.bH+s.back)).natAbs<=16000*80:=dy (by omega) (by omega)
  have G:((dI u x).den*(x.place+s.back)).toNat=g*f:=by rw[B,A,<-Int.natCast_mul,Int.toNat_natCast]
  rw[G]
  have:=iT (s.high*(dI u x).den*(x.place+s.back)+((dI u x).num - s.high*(dI u x).den)*(u.bH+s.back)) (g*f) (Nat.mul_pos C (by omega))
  have P:g*f<=100*80:=Nat.mul_le_mul D (by omega)
  exact ⟨Nat.le_trans this.num (by omega),this.den.1,by have:=this.den.2;omega⟩
end
def same (x:cm)(e:an)(y:bA):Bool:=(y.spot.aL==x.place)&&((y.spot.high.num==e.num)&&(y.spot.high.den==e.den))
def gT (u:ak)(s:aZ)(i:Nat)(x:cm)(st:List bA):List bA:=cond (st.any (same x (dI u x))) st (st++[⟨⟨x.place,dI u x⟩,(i:Int),ey u s x⟩])
def cX (a b:an):an:=cond (bM a b) b a
def gM (u:ak)(s:aZ)(i:Nat)(x:cm)(b:an):an:=if i=0 then ey u s x else cX b (ey u s x)
theorem Ba (x:cm)(e:an):∀(l:List bA) (i:Nat),bF (pK x e) i l ()=some (cond (l.any (same x e)) (.br 1 ()) (.nx ()):Fl Unit (List bA))
 |[],i=>rfl
 |y::l,i=>by
  unfold bF pK
  rw[show ((y.spot.aL==x.place)&&((y.spot.high.num==e.num)&&(y.spot.high.den==e.den)))=same x e y from rfl,List.any_cons]
  cases same x e y
  ·simp only[cond_false,ag,Bool.false_or]
   exact Ba x e l (i+1)
  ·rfl
theorem qd {a b:an}(c:SR a)(hb:SR b):fP a b=some (cX a b):=by
 unfold fP cX;simp only[(mE c hb).1,ag];cases bM a b<;>rfl
theorem kX {a b:an}(c:SR a)(hb:SR b):SR (cX a b):=by unfold cX;cases bM a b;exact c;exact hb
def sH:List bA->an
 |[]=>⟨0,0⟩
 |c::l=>(foldI gC 0 l c).high
theorem Bb {α σ:Type}{g:Nat->α->σ->σ}:∀(l:List α) (i:Nat) (y:α) (s:σ),foldI g i (l++[y]) s=g (i+l.length) y (foldI g i l s)
 |[],i,y,s=>rfl
 |x::l,i,y,s=>by
  simp only[List.cons_append,foldI,List.length_cons]
  rw[Bb l (i+1) y]
  congr 1
  omega
theorem Hi (c:bA)(l:List bA)(y:bA):sH (c::l++[y])=cX (sH (c::l)) y.high:=by
 show (foldI gC 0 (l++[y]) c).high=_;rw[Bb];show (cond (bM (foldI gC 0 l c).high y.high) y (foldI gC 0 l c)).high=cond (bM (foldI gC 0 l c).high y.high) y.high (foldI gC 0 l c).high;cases bM (foldI gC 0 l c).high y.high<;>rfl
structure Tp (u:ak)(s:aZ)(st:List bA)(b:an):Prop where
 ne:st≠[]
 Bc:b=sH st
 sm:SR b
 le:∀y∈st,bM b y.high=false/\SR y.high/\y.high=xg u s y.spot.aL y.spot.high
theorem Tp.step {u:ak}{s:aZ}{st:List bA}{b:an}(h:Tp u s st b){x:cm}(f:SR (ey u s x))(i:Nat):Tp u s (gT u s i x st) (cX b (ey u s x)):=by
 unfold gT;cases m:st.any (same x (dI u x)) with
 |true=>
  simp only[cond_true];obtain ⟨y,a,g⟩:=List.any_eq_true.1 m;have d:=h.le y a;have e:y.high=ey u s x:=by
   rw[d.2.2];unfold same at g;simp only[Bool.and_eq_true,beq_iff_eq] at g;obtain ⟨e1,e2,j⟩:=g;unfold ey;have:y.spot.high=dI u x:=by
    cases n:y.spot.high;cases o:dI u x;rw[n,o] at e2 j;simp only at e2 j;rw[e2,j]
   rw[e1,this]
  have:cX b (ey u s x)=b:=by
   unfold cX;rw[<-e,d.1];rfl
  rw[this];exact h
 |false=>
  simp only[cond_false];obtain ⟨c,l,rfl⟩:∃c l,st=c::l:=by
   cases st with
   |nil=>exact absurd rfl h.ne
   |cons c l=>exact ⟨c,l,rfl⟩
  refine ⟨by simp,?_,kX h.sm f,fun y a=>?_⟩
  ·rw[Hi,<-h.Bc]
  ·rcases List.mem_append.1 a with a|a
   ·have d:=h.le y a;refine ⟨?_,d.2⟩;unfold cX;cases k:bM b (ey u s x) with
    |false=>exact d.1
    |true=>exact xe d.2.1.den.1 h.sm.den.1 f.den.1 d.1 k
   ·simp at a;subst a;refine ⟨?_,f,rfl⟩;unfold cX;cases k:bM b (ey u s x) with
    |false=>exact k
    |true=>exact nW _
theorem Tp.fold {u:ak}{s:aZ}:∀(l:List cm) (i:Nat) (st:List bA) (b:an),1<=i->(∀x∈l,SR (ey u s x))->Tp u s st b->Tp u s (foldI (gT u s) i l st) (foldI (gM u s) i l b)
 |[],_,_,_,_,_,h=>h
 |x::l,i,st,b,hi,a,h=>by
  unfold foldI
  have e:gM u s i x b=cX b (ey u s x):=if_neg (by omega)
  rw[e]
  exact Tp.fold l (i+1) _ _ (by omega) (fun y c=>a y (List.mem_cons_of_mem _ c)) (h.step (a x (List.mem_cons_self ..)) i)
theorem Tp.all {u:ak}{s:aZ}(x:cm)(l:List cm)(b:∀y∈x::l,SR (ey u s y)):Tp u s (foldI (gT u s) 0 (x::l) []) (foldI (gM u s) 0 (x::l) ⟨0,0⟩):=by
 unfold foldI;have c:=b x (List.mem_cons_self ..);refine Tp.fold l 1 _ _ (Nat.le_refl _) (fun y a=>b y (List.mem_cons_of_mem _ a)) ⟨by simp[gT],?_,?_,?_⟩
 ·simp[gT,gM,sH,foldI]
 ·exact c
 ·intro y a;simp[gT] at a;subst a;exact ⟨by simp[gM];exact nW _,c,rfl⟩
section
variable {u : ak} {s : aZ} (F : Fit u) (hs : (1 ≤ s.back ∧ s.back ≤ 20) ∧ 0 ≤ s.high ∧ s.high ≤ 60)
include F hs
theorem Hj:∀x∈u.props,SR (ey u s x):=fun x a=>by
 obtain ⟨i,hi,rfl⟩:=List.getElem_of_mem a
 obtain ⟨r,_,_,_,_,_,_,h⟩:=xh F hs (i:=i) (List.getElem?_eq_getElem hi)
 exact h
theorem Hl:jl u s=some (foldI (gT u s) 0 u.props []):=by
 have h:=F.props;unfold jl
 have:=j5 (f:=pM u s) (ρ:=List bA) (g:=gT u s) (I:=fun i st=>st.length<=i) u.props 0 [] (Nat.le_refl _) (fun j x st a b=>by
  have k:j<u.props.length:=(List.getElem?_eq_some_iff.1 a).1;obtain ⟨r,c,l,d,m,e,n,o⟩:=xh F hs a;rw[Nat.zero_add] at b ⊢;unfold pM;simp only[c,ag,w8,d,Ba];unfold gT;cases p:st.any (same x (dI u x)) with
  |true=>exact ⟨rfl,by simp only[cond_true];omega⟩
  |false=>
   simp only[cond_false,aB,ag,e];unfold c9;rw[if_pos (by simp;omega)]
   exact ⟨rfl,by simp;omega⟩)
 rw[this.1];rfl
theorem xj:kU u s=some (foldI (gM u s) 0 u.props ⟨0,0⟩,decide (0<(u.props.length:Int))):=by
 have m:=F.props;unfold kU
 have:=nU (f:=sx u s) (g:=gM u s) (I:=fun i b=>i=0\/SR b) (fun b i=>(i,b)) u.props (by omega) (fun i x b c h=>by
  have n:i<u.props.length:=(List.getElem?_eq_some_iff.1 c).1;obtain ⟨r,o,j,p,k,q,l,a⟩:=xh F hs c;unfold sx;simp only;rw[show decide ((i:Int)<(u.props.length:Int))=true by simp;omega];simp only[cond_true];rw[show bn u.props (i:Int)=some x by unfold bn;rw[if_pos (by omega)];simpa using c];have hw:IntKind.i64.wrap ((i:Int)+1)=((i+1:Nat):Int):=by rw[c6 (by omega)];rfl
  simp only[ag,j,k,l,hw];unfold gM;by_cases d:i=0
  ·subst d;have e:cX (ey u s x) (ey u s x)=ey u s x:=by unfold cX;rw[nW];rfl
   rw[show (((0:Nat):Int)==0)=true from rfl];simp only[cond_true,qd a a,e,if_pos];exact ⟨trivial,.inr a⟩
  ·have hb:SR b:=h.resolve_left d;rw[show (((i:Nat):Int)==0)=false by simp;omega];simp only[cond_false,qd hb a,if_neg d]
   exact ⟨trivial,.inr (kX hb a)⟩) (fun b=>by unfold sx;simp) (⟨0,0⟩:an) (.inl rfl)
 rw[this.1];rfl
theorem Be:(u.props=[]/\jl u s=some []/\kU u s=some (⟨0,0⟩,false))\/
  ∃st b,jl u s=some st/\kU u s=some (b,true)/\Tp u s st b:=by
 have a:=Hl F hs
 have c:=xj F hs
 have d:=Hj F hs
 cases e:u.props with
 |nil=>
  rw[e] at a c
  exact .inl ⟨rfl,a,c⟩
 |cons x l=>
  rw[e] at a c d
  refine .inr ⟨_,_,a,?_,Tp.all x l d⟩
  rw[c]
  rw[show decide (0<((x::l).length:Int))=true by simp]
end
theorem Bf {a b c:an}(e:0<a.den)(hb:0<b.den)(f:0<c.den)(d:bM a b=false)(g:bM b c=false):bM a c=false:=by
 cases h:bM a c with
 |false=>rfl
 |true=>
  have:=xe hb e f d h;unfold bM at*;simp only[decide_eq_false_iff_not,decide_eq_true_eq,Int.not_lt] at*;have k1:b.num*a.den*c.den<=a.num*b.den*c.den:=Int.mul_le_mul_of_nonneg_right d (by omega);have i:a.num*c.den*b.den<c.num*a.den*b.den:=Int.mul_lt_mul_of_pos_right h hb;have j:c.num*b.den*a.den<=b.num*c.den*a.den:=Int.mul_le_mul_of_nonneg_right g (by omega);have e1:a.num*b.den*c.den=a.num*c.den*b.den:=by grind
  have e2:c.num*b.den*a.den=c.num*a.den*b.den:=by grind
  have k:b.num*c.den*a.den=b.num*a.den*c.den:=by grind
  omega
theorem Ho {a b c:an}(d:0<a.den)(hb:0<b.den)(e:0<c.den)(f:bM a b=true)(g:bM b c=true):bM a c=true:=by
 unfold bM at*;simp only[decide_eq_true_eq] at*;have k1:a.num*b.den*c.den<b.num*a.den*c.den:=Int.mul_lt_mul_of_pos_right f e;have i:b.num*c.den*a.den<c.num*b.den*a.den:=Int.mul_lt_mul_of_pos_right g d;have h:b.den*(a.num*c.den)<b.den*(c.num*a.den):=by
  have e1:b.den*(a.num*c.den)=a.num*b.den*c.den:=by grind
  have e2:b.den*(c.num*a.den)=c.num*b.den*a.den:=by grind
  have j:b.num*a.den*c.den=b.num*c.den*a.den:=by grind
  omega
 exact Int.lt_of_mul_lt_mul_left h (by omega)
theorem Bg {e y:an}(he:SR e)(a:SR y):∀(l:List bA) (b:an),(∀x∈l,SR x.high)->SR b->∀(i j:Nat),
  foldI (fun _ (x:bA) st=>cX st x.high) i l (cX e b)=cX e (foldI (fun _ (x:bA) st=>cX st x.high) j l b)
 |[],b,_,_,i,j=>rfl
 |x::l,b,g,hb,i,j=>by
  unfold foldI
  have c:=g x (List.mem_cons_self ..)
  have key:cX (cX e b) x.high=cX e (cX b x.high):=by
   unfold cX
   cases d:bM e b<;>cases f:bM b x.high<;>simp only[cond_true,cond_false,d,f]
   ·have:=Bf he.den.1 hb.den.1 c.den.1 d f
    rw[this];rfl
   ·rw[Ho he.den.1 hb.den.1 c.den.1 d f]
    rfl
  rw[key]
  exact Bg he a l _ (fun y a=>g y (List.mem_cons_of_mem _ a)) (kX hb c) (i+1) (j+1)
theorem Bh:∀(l:List bA) (i:Nat) (c:bA),(foldI gC i l c).high=foldI (fun _ (x:bA) st=>cX st x.high) i l c.high
 |[],_,_=>rfl
 |x::l,i,c=>by
  unfold foldI
  rw[Bh l (i+1)]
  congr 1
  unfold gC cX
  cases bM c.high x.high<;>rfl
theorem Bi {a b:an}(c:SR a)(hb:SR b):hH eC a [b]=some (cX a b):=by
 unfold hH bF pI;simp only[(mE c hb).2,ag];unfold cX;cases bM a b<;>rfl
theorem Hp {f:Nat->bA->an->Option (Fl an an)}(c:f=l7\/f=l8){st:List bA}(d:∀x∈st,SR x.high){e:an}(he:SR e):
  bF f 0 st e=some (.nx (foldI (fun _ (x:bA) st=>cX st x.high) 0 st e))/\SR (foldI (fun _ (x:bA) st=>cX st x.high) 0 st e):=
 j5 (I:=fun _ r=>SR r) st 0 e he (fun j x r g a=>by
  have b:=d x (List.mem_of_getElem? g)
  rcases c with rfl|rfl
  ·unfold l7
   simp only[Bi a b,ag]
   exact ⟨trivial,kX a b⟩
  ·unfold l8
   simp only[Bi a b,ag]
   exact ⟨trivial,kX a b⟩)
section
variable {u : ak} {s : aZ} (F : Fit u) (hs : (1 ≤ s.back ∧ s.back ≤ 20) ∧ 0 ≤ s.high ∧ s.high ≤ 60)
include F hs
theorem Bj {a b:an}(c:SR a)(hb:SR b):∃d,jk a b=some d/\j0 a b=some d/\Sm d 40000000000 64000000:=by
 have e:=AW c hb (by decide) (by decide) (by decide);have f:=AV c hb (by decide) (by decide);refine ⟨_,e,f,?_⟩;have g:=dy c.num (show b.den.natAbs<=8000 by have:=hb.den;omega);have h:=dy hb.num (show a.den.natAbs<=8000 by have:=c.den;omega);have i:=dy (show a.den.natAbs<=8000 by have:=c.den;omega) (show b.den.natAbs<=8000 by have:=hb.den;omega);have j:0<a.den*b.den:=Int.mul_pos c.den.1 hb.den.1;have:=iT (a.num*b.den - b.num*a.den) (a.den*b.den).toNat (by omega);exact ⟨Nat.le_trans this.num (by omega),this.den.1,by have:=this.den.2;omega⟩
theorem Bl:Sm (⟨0,1⟩:an) 1 1:=⟨by decide,by decide,by decide⟩
theorem Bm {d:an}(hd:Sm d 40000000000 64000000):∃m,hH eC d [⟨0,1⟩]=some m/\fP d ⟨0,1⟩=some m/\Sm m 40000000000 64000000:=by
 have a:=kW hd (Bl F hs) (by decide) (by decide);refine ⟨cond (bM d ⟨0,1⟩) ⟨0,1⟩ d,?_,?_,?_⟩
 ·unfold hH bF pI;simp only[a.2,ag];unfold bM;cases decide (d.num*(⟨0,1⟩:an).den<(⟨0,1⟩:an).num*d.den)<;>rfl
 ·unfold fP;simp only[a.1,ag];unfold bM;cases decide (d.num*(⟨0,1⟩:an).den<(⟨0,1⟩:an).num*d.den)<;>rfl
 ·cases bM d ⟨0,1⟩
  ·exact hd
  ·exact (Bl F hs).mono (by decide) (by decide)
theorem Bn {f:Nat->bA->an->Option (Fl an an)}(k:f=l7\/f=l8){e:an}(he:SR e):
  ∃st m,jl u s=some st/\bF f 0 st e=some (.nx m)/\SR m/\((kU u s=some (⟨0,0⟩,false)/\m=e)\/∃b,kU u s=some (b,true)/\fP e b=some m):=by
 rcases Be F hs with ⟨_,d,g⟩|⟨st,b,d,g,a⟩
 ·exact ⟨[],e,d,rfl,he,.inl ⟨g,rfl⟩⟩
 ·have h:∀x∈st,SR x.high:=fun x i=>(a.le x i).2.1
  obtain ⟨k1,n⟩:=Hp k h he
  refine ⟨st,_,d,k1,n,.inr ⟨b,g,?_⟩⟩
  rw[qd he a.sm]
  obtain ⟨c,l,rfl⟩:∃c l,st=c::l:=by
   cases st with
   |nil=>exact absurd rfl a.ne
   |cons c l=>exact ⟨c,l,rfl⟩
  have j:=h c (List.mem_cons_self ..)
  have e1:b=foldI (fun _ (x:bA) st=>cX st x.high) 0 l c.high:=by rw[a.Bc];exact Bh l 0 c
  have e2:=Bg he j l c.high (fun x i=>h x (List.mem_cons_of_mem _ i)) j 1 0
  congr 1
  rw[e1,<-e2]
  rfl
theorem xk:∃r,jX u s=some r/\p8 u s=some r/\Sm r 40000000000 64000000:=by
 obtain ⟨c,j,k,g,l⟩:=w9 F hs;have e2:c.high=(eD u s).2:=by rw[<-k]
 have p:SR (⟨u.bO,1⟩:an):=(xb F hs).mono (by decide) (by decide);unfold jX p8;rw[j,l];simp only[ag,w8,<-e2,(mE g p).1,(mE g p).2];cases bM c.high ⟨u.bO,1⟩ with
 |true=>
  simp only[cond_true];obtain ⟨st,m,t1,t2,t3,t4⟩:=Bn F hs (.inl rfl) (f:=l7) g;obtain ⟨d,d1,d2,d3⟩:=Bj F hs p t3;obtain ⟨z,h,a,e⟩:=Bm F hs d3;simp only[t1,t2,aB,d1,h];rcases t4 with ⟨k1,rfl⟩|⟨b,k1,i⟩
  ·simp only[k1,cond_false,d2,a];exact ⟨z,rfl,rfl,e⟩
  ·simp only[k1,cond_true,i,d2,a];exact ⟨z,rfl,rfl,e⟩
 |false=>
  simp only[cond_false];obtain ⟨st,m,t1,t2,t3,t4⟩:=Bn F hs (.inr rfl) (f:=l8) p;obtain ⟨d,d1,d2,d3⟩:=Bj F hs g t3;obtain ⟨z,h,a,e⟩:=Bm F hs d3;simp only[t1,t2,aB,d1,h];rcases t4 with ⟨k1,rfl⟩|⟨b,k1,i⟩
  ·simp only[k1,cond_false,d2,a];exact ⟨z,rfl,rfl,e⟩
  ·simp only[k1,cond_true,i,d2,a];exact ⟨z,rfl,rfl,e⟩
theorem Hq:∃b,fY u s=some b/\sA u s=some b:=by
 obtain ⟨r,c,d,e⟩:=xk F hs;have f:Sm u.aW 20 20:=⟨by have:=F.num;omega,by have:=F.den;omega,by have:=F.den;omega⟩
 have a:=kW f e (by decide) (by decide);unfold fY sA;simp only[c,d,a.1,a.2,ag];exact ⟨_,rfl,rfl⟩
end
def qe (a:(List (List Int)))(b:Int)(c:bZ)(st:((List (List Int))×Int)):Option (Fl ((List (List Int))×Int) (List (List Int))):=
 cond (decide (st.2<=c.high.high)) (ag (bn a b) fun d=>ag (c9 ([]:List Int) d) fun e=>ag (c9 e ([st.2])) fun f=>ag (c9 st.1 ([f])) fun g=>some (.nx (g,(IntKind.i64.wrap (st.2+1))))) (some (.bk (st.1,st.2)))
def qf (u0:ak)(a:(List (List Int)))(c:Int)(st:((List (List Int))×Int)):Option (Fl ((List (List Int))×Int) (List (List Int))):=
 cond (decide (st.2<(a.length:Int))) (ag (bn u0.aG c) fun b=>ag (aY (qe a st.2 b) fu (st.1,b.high.low)) fun o=>aB o (fun d=>some (.nx (d.1,(IntKind.i64.wrap (st.2+1))))) (fun _ _=>none) (fun r=>some (.rt r))) (some (.bk (st.1,st.2)))
def sJ (u0:ak)(st:((List (List Int))×Int)):Option (Fl ((List (List Int))×Int) (List (List Int))):=
 cond (decide (st.2<(u0.aG.length:Int))) (ag (aY (qf u0 st.1 st.2) fu (([]:List (List Int)),0)) fun o=>aB o (fun a=>some (.nx (a.1,(IntKind.i64.wrap (st.2+1))))) (fun _ _=>none) (fun r=>some (.rt r))) (some (.bk (st.1,st.2)))
def sK (u0:ak)(a:(List (List Int)))(st:((List (List Int))×Int)):Option (Fl ((List (List Int))×Int) (List (List Int))):=
 cond (decide (st.2<(a.length:Int))) (ag (bn a st.2) fun b=>ag (wT u0 b) fun c=>cond (c) (ag (c9 st.1 ([b])) fun d=>some (.nx (d,(IntKind.i64.wrap (st.2+1))))) (some (.nx (st.1,(IntKind.i64.wrap (st.2+1)))))) (some (.bk (st.1,st.2)))
def Bo (u0:ak):Option (List (List Int)):=
 ag (aY (sJ u0) fu (([([]:(List Int))]),0)) fun o=>aB o (fun a=>ag (aY (sK u0 a.1) fu (([]:List (List Int)),0)) fun o=>aB o (fun b=>some b.1) (fun _ _=>none) (fun r=>some r)) (fun _ _=>none) (fun r=>some r)
def ij {α ρ:Type}(t:Nat->α->Option ρ):Nat->List α->Option ρ
 |_,[]=>none
 |i,x::l=>match t i x with
  |some r=>some r
  |none=>ij t (i+1) l
def mF {σ ρ:Type}(o:Option ρ)(s:σ):Fl σ ρ:=match o with
 |some r=>.rt r
 |none=>.nx s
theorem xl {α σ ρ:Type}{f:Nat->α->σ->Option (Fl σ ρ)}{t:Nat->α->Option ρ}:∀(l:List α) (i:Nat) (s:σ),(∀j x s,l[j]?=some x->f (i+j) x s=some (mF (t (i+j) x) s))->bF f i l s=some (mF (ij t i l) s)
 |[],i,s,_=>rfl
 |x::l,i,s,h=>by
  have a:=h 0 x s rfl
  simp only[Nat.add_zero] at a
  unfold bF ij
  rw[a]
  cases ht:t i x with
  |some r=>rfl
  |none=>
   show bF f (i+1) l s=_
   exact xl l (i+1) s fun j y s b=>by
    have:=h (j+1) y s (by simpa using b)
    rwa [show i+(j+1)=i+1+j by omega] at this
theorem Bp {α σ ρ:Type}{f:σ×Int->Option (Fl (σ×Int) ρ)}{t:Nat->α->Option ρ}(l:List α)(h:∀(i:Nat) x s,l[i]?=some x->f (s,(i:Int))=some (mF (t i x) (s,((i+1:Nat):Int))))(a:∀s,f (s,(l.length:Int))=some (.bk (s,(l.length:Int)))):
  ∀(k i n:Nat) (s:σ),i+k=l.length->k<n->aY f n (s,(i:Int))=some (mF (ij t i (l.drop i)) (s,(l.length:Int)))
 |0,i,n+1,s,hi,_=>by
  obtain rfl:i=l.length:=by omega
  unfold aY
  rw[a,List.drop_length]
  rfl
 |k+1,i,n+1,s,hi,d=>by
  have b:i<l.length:=by omega
  have c:l[i]?=some l[i]:=List.getElem?_eq_getElem b
  unfold aY
  rw[h i _ s c,List.drop_eq_getElem_cons b]
  unfold ij
  cases ht:t i l[i] with
  |some r=>rfl
  |none=>exact Bp l h a k (i+1) n s (by omega) (by omega)
theorem Hr {α σ ρ:Type}{f:σ×Int->Option (Fl (σ×Int) ρ)}{t:Nat->α->Option ρ}(l:List α)(a:l.length<=1000)(h:∀(i:Nat) x s,l[i]?=some x->f (s,(i:Int))=some (mF (t i x) (s,((i+1:Nat):Int))))(b:∀s,f (s,(l.length:Int))=some (.bk (s,(l.length:Int))))(s:σ):
  aY f fu (s,0)=some (mF (ij t 0 l) (s,(l.length:Int))):=by
 have:=Bp l h b l.length 0 fu s (by omega) (Nat.lt_of_le_of_lt a (by decide))
 simpa using this
theorem Bq {α ρ:Type}{g:α->Bool}{r:ρ}:∀(l:List α) (i:Nat),ij (fun _ x=>if g x then none else some r) i l=if l.all g then none else some r
 |[],_=>rfl
 |x::l,i=>by
  unfold ij
  cases h:g x with
  |false=>simp[h]
  |true=>
   simp only[h,if_true,List.all_cons,Bool.true_and]
   exact Bq l (i+1)
theorem Br {α:Type}{g:α->Bool}:∀(l:List α) (i:Nat),∃r,ij (fun i x=>if g x then some (i:Int) else none) i l=r/\decide (0<=r.getD (-1))=l.any g
 |[],_=>⟨none,rfl,rfl⟩
 |x::l,i=>by
  unfold ij
  cases h:g x with
  |true=>exact ⟨_,rfl,by simp[h]⟩
  |false=>
   obtain ⟨r,a,b⟩:=Br l (i+1) (g:=g)
   exact ⟨r,by simpa using a,by simpa [h] using b⟩
theorem iq {α:Type}{l:List α}{i:Nat}{x:α}(h:l[i]?=some x):bn l (i:Int)=some x:=by
 unfold bn;rw[if_pos (by omega)];simpa using h
theorem xm {α:Type}{l:List α}{i:Int}{x:α}(a:0<=i)(h:l[i.toNat]?=some x):bn l i=some x:=by
 unfold bn;rw[if_pos a,h]
theorem contains_eq {f:bR->Option Bool}{g:bR->Bool}(l:List bR)(h:∀x,x∈l->f x=some (g x)):pO l f=some (l.any g):=by
 unfold pO rN
 rw[xl (t:=fun i x=>if g x then some (i:Int) else none) l 0 0 fun j x s a=>by
  unfold rM;rw[h x (List.mem_of_getElem? a)]
  cases g x<;>rfl]
 obtain ⟨r,b,c⟩:=Br (g:=g) l 0;rw[b,<-c];cases r<;>rfl
def cM (u:ak)(s:aZ):Bool:=(fY u s).getD false
theorem nZ {u:ak}(F:Fit u){s:aZ}(hs:(1<=s.back/\s.back<=20)/\0<=s.high/\s.high<=60):fY u s=some (cM u s)/\sA u s=some (cM u s):=by
 obtain ⟨b,a,c⟩:=Hq F hs;have e:cM u s=b:=by unfold cM;rw[a];rfl
 rw[e];exact ⟨a,c⟩
def cj (u:ak)(i:Nat)(n:Int):aZ:=⟨(u.aG[i]?.map (·.back)).getD 0,n⟩
structure n4 (u:ak)(h:List Int):Prop where
 len:h.length=u.aG.length
 kY:∀(i:Nat) e,u.aG[i]?=some e->∃n,h[i]?=some n/\e.high.low<=n/\n<=e.high.high
def j6 (u:ak)(h:List Int)(t:bR):Bool:=cM u (cj u t.aV.toNat (h[t.aV.toNat]?.getD 0))==t.bt
def fE (u:ak)(h:List Int):Bool:=u.told.all (j6 u h)
theorem Bs {u:ak}{h:List Int}(H:n4 u h){i:Int}(f:0<=i)(g:i<u.aG.length)(F:Fit u):∃e n,u.aG[i.toNat]?=some e/\h[i.toNat]?=some n/\cj u i.toNat n=⟨e.back,n⟩/\(1<=e.back/\e.back<=20)/\0<=n/\n<=60:=by
 have c:u.aG[i.toNat]?=some (u.aG[i.toNat]'(by omega)):=List.getElem?_eq_getElem _;obtain ⟨n,d,a,b⟩:=H.kY _ _ c;obtain ⟨c1,c2,c3,c4,j⟩:=F.aV _ _ c;refine ⟨_,n,c,d,?_,c1,by omega,by omega⟩;unfold cj;rw[c];rfl
theorem Hs {u:ak}(F:Fit u){h:List Int}(H:n4 u h):wT u h=some (fE u h):=by
 unfold wT;rw[Hr (t:=fun _ x=>if j6 u h x then none else some false) u.told (by have:=F.told;omega) (s:=false) (fun i x s c=>?_) (fun s=>?_)]
 ·rw[Bq];unfold fE;cases u.told.all (j6 u h)<;>rfl
 ·obtain ⟨a,b⟩:=F.wY i x c;obtain ⟨e,n,f,d,g,j,k⟩:=Bs H a b F;have l:i<u.told.length:=(List.getElem?_eq_some_iff.1 c).1;have ht:=F.told;unfold wS AG;rw[show decide (((i:Nat):Int)<(u.told.length:Int))=true by simp;omega];simp only[cond_true,iq c,ag,xm a f,xm a d,(nZ F (s:=⟨e.back,n⟩) ⟨j,k⟩).2];rw[c6 (n:=(i:Int)+1) (by omega)];unfold j6;rw[d];show _=some (mF (if cM u (cj u x.aV.toNat n)==x.bt then none else some false) (s,((i+1:Nat):Int)));rw[g];cases cM u ⟨e.back,n⟩==x.bt<;>rfl
 ·unfold wS;rw[show decide ((u.told.length:Int)<(u.told.length:Int))=false by simp];rfl
def cH (l:List Int):aU:=⟨l[0]?.getD 0,l[1]?.getD 0,l[2]?.getD 0⟩
theorem qg {l:List Int}{i:Int}{n:Int}(a:0<=i)(b:i<3)(h:l[i.toNat]?=some n):aU.get (cH l) i=some n:=by
 unfold aU.get cH;rcases (show i=0\/i=1\/i=2 by omega) with rfl|rfl|rfl<;>simp at h<;>simp[h]
theorem Ht {u:ak}(F:Fit u){h:List Int}(H:n4 u h):ny u (cH h)=some (fE u h):=by
 unfold ny
 rw[contains_eq (g:=fun t=>!j6 u h t) u.told fun x d=>by
  obtain ⟨i,hi⟩:=List.mem_iff_getElem?.1 d;obtain ⟨a,b⟩:=F.wY i x hi;obtain ⟨e,n,f,c,j,k,l⟩:=Bs H a b F;have:=F.aG;unfold pQ gO;simp only[qg a (by omega) c,ag,xm a f,(nZ F (s:=⟨e.back,n⟩) ⟨k,l⟩).1];unfold j6;rw[c];show _=some (!(cM u (cj u x.aV.toNat n)==x.bt))
  rw[j]]
 simp only[ag];unfold fE;rw[show (u.told.any fun t=>!j6 u h t)=!(u.told.all (j6 u h)) by rw[List.all_eq_not_any_not];simp];simp
theorem Bt {α σ τ ρ:Type}{f:τ->Option (Fl τ ρ)}{I:Nat->σ->Prop}(e:σ->Int->τ)(l:List α)(h:∀(i:Nat) x s,l[i]?=some x->I i s->∃s',f (e s (i:Int))=some (.nx (e s' ((i+1:Nat):Int)))/\I (i+1) s')(a:∀s,f (e s (l.length:Int))=some (.bk (e s (l.length:Int)))):
  ∀(k i n:Nat) (s:σ),I i s->i+k=l.length->k<n->∃s',aY f n (e s (i:Int))=some (.nx (e s' (l.length:Int)))/\I l.length s'
 |0,i,n+1,s,hs,hi,_=>by
  obtain rfl:i=l.length:=by omega
  unfold aY
  rw[a]
  exact ⟨s,rfl,hs⟩
 |k+1,i,n+1,s,hs,hi,j=>by
  have b:i<l.length:=by omega
  have c:l[i]?=some l[i]:=List.getElem?_eq_getElem b
  obtain ⟨s1,d,g⟩:=h i _ s c hs
  unfold aY
  rw[d]
  exact Bt e l h a k (i+1) n _ g (by omega) (by omega)
theorem Bu {α σ τ ρ:Type}{f:τ->Option (Fl τ ρ)}(I:Nat->σ->Prop)(e:σ->Int->τ)(l:List α)(a:l.length<=1000)(h:∀(i:Nat) x s,l[i]?=some x->I i s->∃s',f (e s (i:Int))=some (.nx (e s' ((i+1:Nat):Int)))/\I (i+1) s')(b:∀s,f (e s (l.length:Int))=some (.bk (e s (l.length:Int))))(s:σ)(hs:I 0 s):
  ∃s',aY f fu (e s 0)=some (.nx (e s' (l.length:Int)))/\I l.length s':=
 Bt e l h b l.length 0 fu s hs (by omega) (Nat.lt_of_le_of_lt a (by decide))
theorem xo {a b c:an}(d:0<a.den)(hb:0<b.den)(e:0<c.den)(f:bM b a=false)(g:bM b c=true):bM a c=true:=by
 cases h:bM a c with
 |true=>rfl
 |false=>
  have:=Bf hb d e f h;rw[g] at this;cases this
section
variable {u : ak} {s : aZ} (F : Fit u) (hs : (1 ≤ s.back ∧ s.back ≤ 20) ∧ 0 ≤ s.high ∧ s.high ≤ 60)
include F hs
structure xp (u:ak)(s:aZ)(i:Nat)(st:Int×an):Prop where
 there:∃(n:Nat) (p:b7),n<i/\st=((n:Int),dN u s p)/\u.aD[n]?=some p/\∀(j:Nat) q,j<n->u.aD[j]?=some q->bM (dN u s q) (dN u s p)=true
 QC:∀(j:Nat) q,j<i->u.aD[j]?=some q->bM st.2 (dN u s q)=false
theorem Bv:∀(l:List b7) (i:Nat) (st:Int×an),(∀(j:Nat) x,l[j]?=some x->u.aD[i+j]?=some x)->xp u s i st->xp u s (i+l.length) (foldI (gB u s) i l st)
 |[],i,st,_,h=>h
 |x::l,i,st,g,h=>by
  have b:u.aD[i]?=some x:=g 0 x rfl
  have hd:∀(j:Nat) q,u.aD[j]?=some q->0<(dN u s q).den:=fun j q a=>(sG u F s hs j q a).den.1
  unfold foldI
  have key:xp u s (i+1) (gB u s i x st):=by
   obtain ⟨⟨n,p,o,e,d,k⟩,hm⟩:=h
   subst e
   unfold gB
   cases c:bM (dN u s p) (dN u s x) with
   |true=>
    simp only[c,cond_true]
    refine ⟨⟨i,x,by omega,rfl,b,fun j q f a=>?_⟩,fun j q f a=>?_⟩
    ·exact xo (hd j q a) (hd n p d) (hd i x b) (hm j q f a) c
    ·by_cases e:j=i
     ·subst e;rw[b] at a;cases a;exact nW _
     ·exact Hh (xo (hd j q a) (hd n p d) (hd i x b) (hm j q (by omega) a) c)
   |false=>
    simp only[c,cond_false]
    refine ⟨⟨n,p,by omega,rfl,d,k⟩,fun j q f a=>?_⟩
    by_cases e:j=i
    ·subst e;rw[b] at a;cases a;exact c
    ·exact hm j q (by omega) a
  have:=Bv l (i+1) _ (fun j y m=>by have:=g (j+1) y (by simpa using m);rwa [show i+(j+1)=i+1+j by omega] at this) key
  rwa [show i+1+l.length=i+(x::l).length by simp;omega] at this
theorem Hu:∃(n:Nat) (p:b7),eD u s=((n:Int),dN u s p)/\u.aD[n]?=some p/\(∀(j:Nat) q,u.aD[j]?=some q->bM (dN u s p) (dN u s q)=false)/\∀(j:Nat) q,j<n->u.aD[j]?=some q->bM (dN u s q) (dN u s p)=true:=by
 have c:=F.aD;cases he:u.aD with
 |nil=>rw[he] at c;simp at c
 |cons x l=>
  have d:u.aD[0]?=some x:=by rw[he];rfl
  have hb:=Bv F hs l 1 (0,dN u s x) (fun j y f=>by rw[he,Nat.add_comm];simpa using f)
   ⟨⟨0,x,by omega,rfl,d,fun j q b=>absurd b (by omega)⟩,fun j q b a=>by
    obtain rfl:j=0:=by omega
    rw[d] at a;cases a;exact nW _⟩
  have ev:eD u s=foldI (gB u s) 1 l (0,dN u s x):=by unfold eD;rw[he]
  obtain ⟨⟨n,p,i,e,g,h⟩,hm⟩:=hb;rw[e] at hm ev;refine ⟨n,p,ev,by rw[<-he];exact g,fun j q a=>?_,fun j q b a=>h j q b (by rw[he];exact a)⟩;refine hm j q ?_ (by rw[he];exact a);have:=(List.getElem?_eq_some_iff.1 a).1;simp at this;omega
end
theorem Hv (n:Int)(d:Nat)(hd:0<d):bB (bB n d).num (bB n d).den.toNat=bB n d:=by
 obtain ⟨a,b⟩:=w6 n d hd;refine A1 (by omega) hd ?_;rw[show (((bB n d).den.toNat:Nat):Int)=(bB n d).den by omega];exact a
def j7 (a b:an):an:=bB (a.num*b.den - b.num*a.den) (a.den*b.den).toNat
def qh (u:ak)(s:aZ):an:=foldI (gM u s) 0 u.props ⟨0,0⟩
def mG (u:ak)(s:aZ):an:=cond (bM (eD u s).2 ⟨u.bO,1⟩) ⟨u.bO,1⟩ (eD u s).2
def qi (u:ak)(s:aZ):an:=cond (bM (eD u s).2 ⟨u.bO,1⟩) (eD u s).2 ⟨u.bO,1⟩
def qj (u:ak)(s:aZ):an:=cond (decide (0<(u.props.length:Int))) (cX (qi u s) (qh u s)) (qi u s)
def cZ (u:ak)(s:aZ):an:=cX (j7 (mG u s) (qj u s)) ⟨0,1⟩
theorem Hw:Sm (⟨0,1⟩:an) 1 1:=⟨by decide,by decide,by decide⟩
theorem Hx {a b:an}(c:SR a)(hb:SR b):Sm (j7 a b) 40000000000 64000000:=by
 have d:=dy c.num (show b.den.natAbs<=8000 by have:=hb.den;omega);have e:=dy hb.num (show a.den.natAbs<=8000 by have:=c.den;omega);have f:=dy (show a.den.natAbs<=8000 by have:=c.den;omega) (show b.den.natAbs<=8000 by have:=hb.den;omega);have g:0<a.den*b.den:=Int.mul_pos c.den.1 hb.den.1;have:=iT (a.num*b.den - b.num*a.den) (a.den*b.den).toNat (by omega);unfold j7;exact ⟨Nat.le_trans this.num (by omega),this.den.1,by have:=this.den.2;omega⟩
theorem Hy {a b:an}(c:SR a)(hb:SR b):j0 a b=some (j7 a b):=AV c hb (by decide) (by decide)
theorem Hz {d:an}(hd:Sm d 40000000000 64000000):fP d ⟨0,1⟩=some (cX d ⟨0,1⟩):=by
 have a:=kW hd Hw (by decide) (by decide);unfold fP;simp only[a.1,ag];unfold cX bM;cases decide (d.num*(⟨0,1⟩:an).den<(⟨0,1⟩:an).num*d.den)<;>rfl
section
variable {u : ak} {s : aZ} (F : Fit u) (hs : (1 ≤ s.back ∧ s.back ≤ 20) ∧ 0 ≤ s.high ∧ s.high ≤ 60)
include F hs
theorem xq:SR (⟨u.bO,1⟩:an):=(xb F hs).mono (by decide) (by decide)
theorem HA:SR (mG u s):=by
 unfold mG;cases bM (eD u s).2 ⟨u.bO,1⟩
 ·exact xd F hs
 ·exact xq F hs
theorem Bw:SR (qi u s):=by
 unfold qi;cases bM (eD u s).2 ⟨u.bO,1⟩
 ·exact xq F hs
 ·exact xd F hs
theorem xu (h:u.props≠[]):SR (qh u s):=by
 rcases Be F hs with ⟨c,_,_⟩|⟨st,b,_,a,d⟩
 ·exact absurd c h
 ·rw[xj F hs] at a;have e:qh u s=b:=(Prod.mk.inj (Option.some.inj a)).1;rw[e];exact d.sm
theorem Bx:SR (qj u s):=by
 unfold qj;cases h:decide (0<(u.props.length:Int)) with
 |false=>exact Bw F hs
 |true=>
  refine kX (Bw F hs) (xu F hs fun e=>?_);rw[e] at h;simp at h
theorem HB:p8 u s=some (cZ u s):=by
 obtain ⟨c,h,i,j,g⟩:=w9 F hs;have es:SR (eD u s).2:=xd F hs;have ps:=xq F hs;unfold p8;rw[g,xj F hs];simp only[ag,(mE es ps).1];have k:=Bx F hs;have l:=HA F hs;have key:∀a b:an,SR a->SR b->ag (j0 a b) (fun x=>ag (fP x ⟨0,1⟩) fun y=>some y)=some (cX (j7 a b) ⟨0,1⟩):=fun a b f hb=>by
  rw[Hy f hb];simp only[ag];rw[Hz (Hx f hb)]
 simp only[ag] at key;unfold cZ qj mG qi;cases m:bM (eD u s).2 ⟨u.bO,1⟩ with
 |true=>
  simp only[cond_true];cases d:decide (0<(u.props.length:Int)) with
  |true=>
   have cs:=xu F hs (fun e=>by rw[e] at d;simp at d);simp only[cond_true];rw[show foldI (gM u s) 0 u.props ⟨0,0⟩=qh u s from rfl,qd es cs];exact key _ _ ps (kX es cs)
  |false=>exact key _ _ ps es
 |false=>
  simp only[cond_false];cases d:decide (0<(u.props.length:Int)) with
  |true=>
   have cs:=xu F hs (fun e=>by rw[e] at d;simp at d);simp only[cond_true];rw[show foldI (gM u s) 0 u.props ⟨0,0⟩=qh u s from rfl,qd ps cs];exact key _ _ es (kX ps cs)
  |false=>exact key _ _ es ps
theorem sL:jX u s=some (cZ u s):=by
 obtain ⟨r,b,a,_⟩:=xk F hs;rw[HB F hs] at a;rw[b,<-a]
end
def dj (b:de):List Int:=(List.range (b.high - b.low+1).toNat).map fun k=>b.low+(k:Nat)
theorem HC {b:de}{i:Nat}{x:Int}(h:(dj b)[i]?=some x):x=b.low+i/\b.low+i<=b.high:=by
 unfold dj at h;rw[List.getElem?_map,Option.map_eq_some_iff] at h;obtain ⟨k,c,rfl⟩:=h;obtain ⟨d,a⟩:=List.getElem?_eq_some_iff.1 c;simp at d a;subst a;exact ⟨rfl,by omega⟩
theorem qk (b:de):(dj b).length=(b.high - b.low+1).toNat:=by simp[dj]
theorem By {b:de}{x:Int}:x∈dj b↔b.low<=x/\x<=b.high:=by
 unfold dj;rw[List.mem_map];constructor
 ·rintro ⟨k,a,rfl⟩;rw[List.mem_range] at a;omega
 ·rintro ⟨c,d⟩;exact ⟨(x - b.low).toNat,by rw[List.mem_range];omega,by omega⟩
def j8 (b:de)(all:List (List Int)):List (List Int):=all.flatMap fun p=>(dj b).map fun n=>p++[n]
def eo (p:List Int):List bZ->List (List Int)
 |[]=>[p]
 |e::l=>(dj e.high).flatMap fun n=>eo (p++[n]) l
def bT (u:ak):List (List Int):=(eo [] u.aG).filter (fE u)
theorem sM {α β:Type}(g:α->List β):∀(l:List α) (i:Nat) (s:List β),foldI (fun _ x s=>s++g x) i l s=s++l.flatMap g
 |[],_,s=>by simp[foldI]
 |x::l,i,s=>by
  unfold foldI
  rw[sM g l]
  simp[List.flatMap_cons]
theorem Bz:∀(l:List bZ) (i:Nat) (all:List (List Int)),foldI (fun _ (e:bZ) all=>j8 e.high all) i l all=all.flatMap fun p=>eo p l
 |[],_,all=>by
  unfold foldI
  show all=all.flatMap fun p=>[p]
  induction all with
  |nil=>rfl
  |cons a l ih=>rw[List.flatMap_cons,<-ih];rfl
 |e::l,i,all=>by
  unfold foldI
  rw[Bz l]
  unfold j8
  rw[List.flatMap_assoc]
  congr 1
  funext p
  rw[List.flatMap_map]
  rfl
theorem BA:∀(l:List bZ) (p h:List Int),h∈eo p l->h.length=p.length+l.length/\(∀(j:Nat) e,l[j]?=some e->∃n,h[p.length+j]?=some n/\e.high.low<=n/\n<=e.high.high)/\∀j,j<p.length->h[j]?=p[j]?
 |[],p,h,hm=>by
  simp only[eo,List.mem_singleton] at hm
  subst hm
  exact ⟨rfl,fun j e he=>by simp at he,fun _ _=>rfl⟩
 |e::l,p,h,hm=>by
  unfold eo at hm
  rw[List.mem_flatMap] at hm
  obtain ⟨n,d,hm⟩:=hm
  obtain ⟨f,c,a⟩:=BA l _ _ hm
  rw[List.length_append,List.length_singleton] at f c a
  refine ⟨by simp;omega,fun j x b=>?_,fun j g=>?_⟩
  ·cases j with
   |zero=>
    simp at b;subst b
    refine ⟨n,?_,By.1 d⟩
    rw[Nat.add_zero,a _ (by omega),List.getElem?_append_right (Nat.le_refl _)]
    simp
   |succ j=>
    obtain ⟨m,hm,hb⟩:=c j x (by simpa using b)
    exact ⟨m,by rw[<-hm];congr 1;omega,hb⟩
  ·rw[a j (by omega),List.getElem?_append_left g]
theorem xw {u:ak}{h:List Int}(hm:h∈eo [] u.aG):n4 u h:=by
 obtain ⟨a,b,_⟩:=BA _ _ _ hm;exact ⟨by simpa using a,fun i e he=>by simpa using b i e he⟩
theorem BB {b:de}(hb:b.high - b.low<3):∀(all:List (List Int)),(j8 b all).length<=all.length*3
 |[]=>by simp[j8]
 |p::all=>by
  have:=BB hb all
  unfold j8 at this ⊢
  rw[List.flatMap_cons,List.length_append,List.length_map,qk,List.length_cons]
  omega
theorem ql {α:Type}{l xs:List α}(h:l.length+xs.length<=1000000):c9 l xs=some (l++xs):=by
 unfold c9;rw[if_pos h]
theorem HD {all:List (List Int)}{k:Nat}{p:List Int}{e:bZ}(b:all[k]?=some p)(d:p.length<=100)(he:0<=e.high.low/\e.high.low<=e.high.high/\e.high.high<=60/\e.high.high - e.high.low<3)(s:List (List Int))(hs:s.length<=1000):
  aY (qe all (k:Int) e) fu (s,e.high.low)=some (.nx (s++(dj e.high).map (fun n=>p++[n]),e.high.high+1)):=by
 have key:=nU (f:=qe all (k:Int) e) (g:=fun _ x s=>s++[p++[x]]) (I:=fun i s=>s.length<=1000+i) (fun s i=>(s,e.high.low+i)) (dj e.high) (by rw[qk];omega)
  (fun i x s c h=>by
   obtain ⟨rfl,hb⟩:=HC c
   refine ⟨?_,by simp;omega⟩
   unfold qe
   rw[show decide ((s,e.high.low+(i:Int)).2<=e.high.high)=true by simpa using hb]
   simp only[cond_true,iq b,ag,ql (l:=([]:List Int)) (xs:=p) (by simp;omega),List.nil_append,ql (l:=p) (xs:=[e.high.low+(i:Int)]) (by simp;omega),ql (l:=s) (xs:=[p++[e.high.low+(i:Int)]]) (by simp;omega)]
   rw[c6 (n:=e.high.low+(i:Int)+1) (by omega)]
   simp;omega)
  (fun s=>by
   unfold qe
   rw[show decide ((s,e.high.low+((dj e.high).length:Int)).2<=e.high.high)=false by rw[qk];simp;omega]
   rfl) s (by omega)
 have:=key.1
 rw[sM (fun x=>[p++[x]])] at this
 simp only[Int.add_zero] at this
 rw[this]
 congr 2
 refine Prod.ext ?_ ?_
 ·simp only[List.append_cancel_left_eq]
  induction dj e.high with
  |nil=>rfl
  |cons a l ih=>simp[ih]
 ·simp only[qk];omega
theorem HE {u:ak}{all:List (List Int)}{i:Nat}{e:bZ}(hi:u.aG[i]?=some e)(b:∀p∈all,p.length<=100)(c:all.length<=100)(he:0<=e.high.low/\e.high.low<=e.high.high/\e.high.high<=60/\e.high.high - e.high.low<3):
  aY (qf u all (i:Int)) fu (([]:List (List Int)),0)=some (.nx (j8 e.high all,(all.length:Int))):=by
 have key:=nU (f:=qf u all (i:Int)) (g:=fun _ p s=>s++(dj e.high).map fun n=>p++[n]) (I:=fun i s=>s.length<=3*i/\i<=all.length) (fun s i=>(s,i)) all (by omega)
  (fun k p s a d=>by
   have h:k<all.length:=(List.getElem?_eq_some_iff.1 a).1
   refine ⟨?_,by simp[qk];omega,by omega⟩
   unfold qf
   rw[show decide ((s,(k:Int)).2<(all.length:Int))=true by simp;omega]
   simp only[cond_true,iq hi,ag,HD a (b p (List.mem_of_getElem? a)) he s (by omega),aB]
   rw[c6 (n:=(k:Int)+1) (by omega)]
   rfl)
  (fun s=>by
   unfold qf
   rw[show decide ((s,(all.length:Int)).2<(all.length:Int))=false by simp]
   rfl) ([]:List (List Int)) ⟨by simp,by omega⟩
 have:=key.1
 rw[sM (fun p=>(dj e.high).map fun n=>p++[n])] at this
 simpa [j8] using this
theorem BC {u:ak}:∀(l:List (List Int)) (i:Nat) (s:List (List Int)),foldI (fun _ x s=>if fE u x then s++[x] else s) i l s=s++l.filter (fE u)
 |[],_,s=>by simp[foldI]
 |x::l,i,s=>by
  unfold foldI
  rw[BC l]
  cases h:fE u x<;>simp[h]
theorem three (i:Nat)(h:i<=3):3 ^ i<=27:=by
 rcases (show i=0\/i=1\/i=2\/i=3 by omega) with rfl|rfl|rfl|rfl<;>decide
theorem sN {u:ak}(F:Fit u):Bo u=some (bT u)/\(bT u).length<=27:=by
 have r:=F.aG;have key:=nU (f:=sJ u) (g:=fun _ (e:bZ) all=>j8 e.high all) (I:=fun i all=>(∀p∈all,p.length=i)/\all.length<=3 ^ i/\i<=u.aG.length) (fun s i=>(s,i)) u.aG (by omega)
  (fun i e all hi c=>by
   obtain ⟨d,t,v⟩:=c;have k:i<u.aG.length:=(List.getElem?_eq_some_iff.1 hi).1;have he:=(F.aV i e hi).2;have w:=three i (by omega);have hs:=BB he.2.2.2 all;refine ⟨?_,fun p a=>?_,by rw[Nat.pow_succ];omega,by omega⟩
   ·unfold sJ;rw[show decide ((all,(i:Int)).2<(u.aG.length:Int))=true by simp;omega];simp only[cond_true,HE hi (fun p a=>by have:=d p a;omega) (by omega) he,ag,aB];rw[c6 (n:=(i:Int)+1) (by omega)];rfl
   ·unfold j8 at a;rw[List.mem_flatMap] at a;obtain ⟨q,m,a⟩:=a;rw[List.mem_map] at a;obtain ⟨n,_,rfl⟩:=a
    simp[d q m])
  (fun s=>by
   unfold sJ;rw[show decide ((s,(u.aG.length:Int)).2<(u.aG.length:Int))=false by simp]
   rfl) [[]] ⟨by simp,by simp,by omega⟩
 obtain ⟨k1,b⟩:=key;rw[Bz] at k1 b;simp only[List.flatMap_cons,List.flatMap_nil,List.append_nil] at k1 b;have hlen:(eo [] u.aG).length<=27:=Nat.le_trans b.2.1 (three _ (by omega));have j:=nU (f:=sK u (eo [] u.aG)) (g:=fun _ x s=>if fE u x then s++[x] else s) (I:=fun i s=>s.length<=i/\i<=(eo [] u.aG).length) (fun s i=>(s,i)) (eo [] u.aG) (by omega)
  (fun i h s hi c=>by
   have k:i<(eo [] u.aG).length:=(List.getElem?_eq_some_iff.1 hi).1;have o:=Hs F (xw (List.mem_of_getElem? hi));refine ⟨?_,by cases fE u h<;>simp<;>omega,by omega⟩;unfold sK;rw[show decide ((s,(i:Int)).2<((eo [] u.aG).length:Int))=true by simp;omega];simp only[cond_true,iq hi,ag,o];rw[c6 (n:=(i:Int)+1) (by omega)];cases fE u h with
   |false=>rfl
   |true=>simp only[cond_true,ql (l:=s) (xs:=[h]) (by simp;omega)];rfl)
  (fun s=>by
   unfold sK;rw[show decide ((s,((eo [] u.aG).length:Int)).2<((eo [] u.aG).length:Int))=false by simp]
   rfl) ([]:List (List Int)) ⟨by simp,by omega⟩
 rw[BC] at j;refine ⟨?_,Nat.le_trans (List.length_filter_le _ _) hlen⟩;unfold Bo;rw[k1];simp only[ag,aB];rw[j.1];simp only[List.nil_append];rfl
def co (h:aU)(j:Nat):Int:=if j=0 then h.e0 else if j=1 then h.e1 else if j=2 then h.e2 else 0
theorem HF (h:aU){j:Nat}(d:j<3)(n:Int):∃a,h.setAt (j:Int) n=some a/\∀i,co a i=if i=j then n else co h i:=by
 rcases (show j=0\/j=1\/j=2 by omega) with rfl|rfl|rfl
 ·refine ⟨{h with e0:=n},rfl,fun i=>?_⟩;unfold co;split<;>rfl
 ·refine ⟨{h with e1:=n},rfl,fun i=>?_⟩;unfold co;by_cases b:i=0<;>by_cases a:i=1<;>simp[b,a]<;>omega
 ·refine ⟨{h with e2:=n},rfl,fun i=>?_⟩;unfold co;by_cases b:i=0<;>by_cases a:i=1<;>by_cases c:i=2<;>simp[b,a,c]<;>omega
structure Ag (u:ak)(p:List Int)(h:aU):Prop where
 at_:∀(j:Nat) n,p[j]?=some n->co h j=n
 no:∀j,u.aG.length<=j->co h j=0
theorem Ag.cH {u:ak}{p:List Int}{h:aU}(H:Ag u p h)(a:p.length=u.aG.length):h=cH p:=by
 have key:∀j,co h j=p[j]?.getD 0:=fun j=>by
  cases e:p[j]? with
  |some n=>exact H.at_ j n e
  |none=>exact H.no j (by rw[<-a];exact List.getElem?_eq_none_iff.1 e)
 have b:=key 0;have k1:=key 1;have c:=key 2;cases h;unfold Go.Proofs.YtpgcmoanfifglaaGreatDoor.cH;rw[<-b,<-k1,<-c];rfl
theorem Ag.set {u:ak}{p:List Int}{h:aU}(H:Ag u p h)(c:p.length<u.aG.length)(d:u.aG.length<=3)(n:Int):∃a,h.setAt (p.length:Int) n=some a/\Ag u (p++[n]) a:=by
 obtain ⟨a,e1,e2⟩:=HF h (j:=p.length) (by omega) n;refine ⟨a,e1,fun j m hm=>?_,fun j b=>?_⟩
 ·rw[e2];by_cases e:j=p.length
  ·subst e;rw[if_pos rfl];simpa using hm
  ·rw[if_neg e];refine H.at_ j m ?_;rw[<-hm,List.getElem?_append_left];have:=(List.getElem?_eq_some_iff.1 hm).1;simp at this;omega
 ·rw[e2,if_neg (by omega)];exact H.no j b
theorem Ag.cut {u:ak}{p:List Int}{n:Int}{h:aU}(H:Ag u (p++[n]) h):Ag u p h:=
 ⟨fun j m hm=>H.at_ j m (by rw[List.getElem?_append_left (List.getElem?_eq_some_iff.1 hm).1];exact hm),H.no⟩
theorem HG {a b:Int}(h:a<=b):dj ⟨a,b⟩=a::dj ⟨a+1,b⟩:=by
 unfold dj;simp only;rw[show (b - a+1).toNat=(b - (a+1)+1).toNat+1 by omega,List.range_succ_eq_map];simp only[List.map_cons,List.map_map,Function.comp_def];congr 1
 ·simp
 ·apply List.map_congr_left;intro k _;simp only[Nat.succ_eq_add_one];omega
theorem HH {a b:Int}(h:¬a<=b):dj ⟨a,b⟩=[]:=by
 unfold dj;simp only;rw[show (b - a+1).toNat=0 by omega];rfl
theorem BD {u:ak}{p:List Int}(a:p.length<u.aG.length)(b:u.aG.length<=3){f:aU->List (Option aU)×aU}{G:Int->List (Option aU)}{lo hi:Int}(hb:0<=lo/\hi<=60)
  (d:∀n,lo<=n->n<=hi->∀h,Ag u (p++[n]) h->(f h).1=G n/\Ag u (p++[n]) (f h).2):
  ∀(k:Nat) (n:Int) (h:aU),Ag u p h->lo<=n->n<=61->61 - n<k->(iS f (p.length:Int) hi k n h).1=(dj ⟨n,hi⟩).flatMap G/\Ag u p (iS f (p.length:Int) hi k n h).2
 |0,n,h,H,e,g,i=>by omega
 |k+1,n,h,H,e,g,i=>by
  unfold iS
  by_cases c:n<=hi
  ·rw[if_pos c,HG c]
   obtain ⟨x,e1,e2⟩:=H.set a b n
   rw[e1]
   obtain ⟨j,l⟩:=d n e c x e2
   have w:IntKind.i64.wrap (n+1)=n+1:=c6 (by omega)
   obtain ⟨r1,r2⟩:=BD a b hb d k (n+1) (f x).2 l.cut (by omega) (by omega) (by omega)
   simp only[w]
   exact ⟨by rw[j,r1,List.flatMap_cons],r2⟩
  ·rw[if_neg c,HH c]
   exact ⟨rfl,H⟩
theorem BE {u:ak}(F:Fit u):∀(l:List bZ) (p:List Int) (fuel:Nat) (h:aU),u.aG.drop p.length=l->p.length+l.length=u.aG.length->l.length<fuel->
  (∀(j:Nat) e,u.aG[j]?=some e->j<p.length->∃n,p[j]?=some n/\e.high.low<=n/\n<=e.high.high)->Ag u p h->
  (eK u fuel (p.length:Int) h).1=((eo p l).filter (fE u)).map (fun x=>some (cH x))/\Ag u p (eK u fuel (p.length:Int) h).2
 |l,p,0,h,hd,a,b,hb,H=>by omega
 |[],p,fuel+1,h,hd,a,b,hb,H=>by
  have a:p.length=u.aG.length:=by simpa using a
  unfold eK
  rw[if_pos (by omega)]
  obtain rfl:=H.cH a
  have R:=Ht F (h:=p) ⟨a,fun i e he=>hb i e he (by have:=(List.getElem?_eq_some_iff.1 he).1;omega)⟩
  refine ⟨?_,H⟩
  rw[R]
  unfold eo
  cases e:fE u p<;>simp[e]
 |e::l,p,fuel+1,h,hd,a,b,hb,H=>by
  simp only[List.length_cons] at a b
  have he:u.aG[p.length]?=some e:=by
   have:=congrArg List.head? hd
   simpa [List.head?_drop] using this
  have k:u.aG.drop (p.length+1)=l:=by
   have:=congrArg List.tail hd
   simpa [List.tail_drop] using this
  have o:=F.aG
  have g:=(F.aV _ _ he).2
  unfold eK
  rw[if_neg (by omega),iq he]
  have w:IntKind.i64.wrap ((p.length:Int)+1)=((p.length+1:Nat):Int):=by rw[c6 (by omega)];omega
  simp only[w]
  have key:=BD (u:=u) (p:=p) (by omega) o.2 (f:=eK u fuel ((p.length+1:Nat):Int)) (G:=fun n=>((eo (p++[n]) l).filter (fE u)).map (fun x=>some (cH x))) (lo:=e.high.low) (hi:=e.high.high) ⟨g.1,g.2.2.1⟩
   (fun n n1 n2 x q=>by
    have:=BE F l (p++[n]) fuel x (by simpa using k) (by simp;omega) (by omega) (fun j y d r=>by
     by_cases c:j<p.length
     ·obtain ⟨m,hm,s⟩:=hb j y d c
      exact ⟨m,by rw[List.getElem?_append_left c];exact hm,s⟩
     ·simp at r
      obtain rfl:j=p.length:=by omega
      rw[he] at d;cases d
      exact ⟨n,by simp,n1,n2⟩) q
    simpa using this) 100 e.high.low h H (Int.le_refl _) (by omega) (by omega)
  refine ⟨?_,key.2⟩
  rw[key.1,show eo p (e::l)=(dj e.high).flatMap fun n=>eo (p++[n]) l from rfl,List.filter_flatMap,List.map_flatMap]
theorem HI (j:Nat):co ⟨0,0,0⟩ j=0:=by
 unfold co;split
 ·rfl
 ·split
  ·rfl
  ·split<;>rfl
theorem HJ {u:ak}(F:Fit u):mc u=(bT u).map (fun x=>some (cH x)):=by
 have c:=F.aG;exact (BE F u.aG [] 5 ⟨0,0,0⟩ rfl (by simp) (by omega) (fun j e _ a=>absurd a (by simp)) ⟨fun j n b=>by simp at b,fun j _=>HI j⟩).1
theorem BG:∀(l:List aU) (s:List aU),s.length+l.length<=1000000->iN nC (l.map some) s=some (.nx (s++l))
 |[],s,_=>by simp[iN]
 |x::l,s,h=>by
  simp only[List.length_cons] at h
  simp only[List.map_cons]
  have:=BG l (s++[x]) (by simp;omega)
  rw[show s++x::l=s++[x]++l by simp,<-this]
  have e:nC x s=some (.nx (s++[x])):=by
   unfold nC
   rw[ql (by simp;omega)]
   rfl
  show iN _ (some x::l.map some) s=_
  rw[iN,e]
  rfl
theorem HK {l:List aU}(h:l.length<=1000):pS (l.map some)=some l:=by
 unfold pS rX;rw[BG l [] (by simp;omega)];simp[ag,aB]
def HL:cK:=⟨AZ,[]⟩
theorem sO {u:ak}(F:Fit u){b:List (ak->Option Int)}(h:e7 u b=some (u,0)):gu u b=some (if (bT u).isEmpty then (HL,9) else (⟨u,(bT u).map cH⟩,0)):=by
 unfold gu;rw[h];simp only[ag];rw[show ((0:Int) != 0)=false by decide];simp only[cond_false];have c:=(sN F).2;rw[HJ F,show (bT u).map (fun x=>some (cH x))=((bT u).map cH).map some by simp,HK (by simp;omega)];simp only[ag];cases bT u with
 |nil=>rfl
 |cons a l=>
  rw[show ((((a::l).map cH).length:Int)==0)=false by simp;omega];rfl
structure xx (u:ak):Prop where
 e:u.aD.length<=20
 p:u.props.length<=20
 y:u.aG.length<=20
 t:u.told.length<=20
theorem bars {u:ak}(L:xx u):∃c,fN u=some c/\mB u=some c:=by
 obtain ⟨b,c,a⟩:=G2 u L.e L.p L.y L.t;exact ⟨c,a,b▸a⟩
theorem BH {u:ak}(h:fN u=some 0):e7 u []=some (u,0):=by
 unfold e7;rw[h];rfl
theorem HM (u:ak)(n:Int):eJ n u=some (cond (ie u n) 0 6):=by
 unfold eJ;rw[(wU u n).2];simp only[ag];cases ie u n<;>rfl
theorem HN {u:ak}(F:Fit u){n:Int}:ie u n=true↔0<=n/\n<u.aG.length:=by
 have:=F.aG;unfold ie;rw[c6 (by omega),fQ];omega
theorem BI {α β σ:Type}(f:α->β)(g:Nat->β->σ->σ):∀(l:List α) (i:Nat) (s:σ),foldI g i (l.map f) s=foldI (fun i x s=>g i (f x) s) i l s
 |[],_,_=>rfl
 |x::l,i,s=>by
  simp only[List.map_cons]
  unfold foldI
  exact BI f g l (i+1) _
theorem BJ {α σ:Type}{g g':Nat->α->σ->σ}:∀(l:List α) (i:Nat) (s:σ),(∀j x s,x∈l->g j x s=g' j x s)->foldI g i l s=foldI g' i l s
 |[],_,_,_=>rfl
 |x::l,i,s,h=>by
  unfold foldI
  rw[h i x s (List.mem_cons_self ..)]
  exact BJ l (i+1) _ fun j y s a=>h j y s (List.mem_cons_of_mem _ a)
theorem mH {u:ak}{h:List Int}(hm:h∈bT u):n4 u h/\fE u h=true:=by
 obtain ⟨a,b⟩:=List.mem_filter.1 hm;exact ⟨xw a,b⟩
section
variable {u : ak} (F : Fit u) {i : Nat} {e : bZ} (he : u.aG[i]? = some e)
include F he
theorem sP {h:List Int}(hm:h∈bT u):∃n,h[i]?=some n/\cj u i (h[i]?.getD 0)=⟨e.back,n⟩/\(1<=e.back/\e.back<=20)/\0<=n/\n<=60:=by
 obtain ⟨n,c,a,b⟩:=(mH hm).1.kY i e he;obtain ⟨c1,c2,c3,c4,d⟩:=F.aV _ _ he;refine ⟨n,c,?_,c1,by omega,by omega⟩;rw[c];unfold cj;rw[he];rfl
end
end Go.Proofs.YtpgcmoanfifglaaGreatDoor
end
section
namespace Go.Sep
open Go Go.Conc
def mI (P:Program)(J:Goroutine->aa->Prop)(ops:Array Oper)(F0:aa)(Q:Act->aa->Prop):List Oper->Bool->Act->aa->Prop
 |[],_,a,F=>Q a F
 |o::rest,_,a,F=>match cx ops o a with
  |some true=>cG P J o (fun v F'=>Knows F0 F'/\mI P J ops F0 Q rest (!Oper.calls o) (bf a o.dst v) F') a F
  |some false=>mI P J ops F0 Q rest true (bf a o.dst undef) F
  |none=>False
theorem HO {P:Program}{J:Goroutine->aa->Prop}{ops:Array Oper}{F0:aa}{Q:Act->aa->Prop}{go:Bool}{a:Act}{F:aa}:mI P J ops F0 Q [] go a F=Q a F:=rfl
theorem HP {P:Program}{J:Goroutine->aa->Prop}{ops:Array Oper}{F0:aa}{Q:Act->aa->Prop}{o:Oper}{rest:List Oper}{a:Act}{F:aa}:mI P J ops F0 Q (o::rest) true a F=match cx ops o a with
  |some true=>cG P J o (fun v F'=>Knows F0 F'/\mI P J ops F0 Q rest (!Oper.calls o) (bf a o.dst v) F') a F
  |some false=>mI P J ops F0 Q rest true (bf a o.dst undef) F
  |none=>False:=(Eq.refl _).trans (Eq.refl _)
attribute [irreducible] mI
attribute [go_sem] HO HP
end Go.Sep
end
section
namespace Go.Proofs.YtpgcmoanfifglaaGreatDoor
open Go Go.Sep Go.Proofs
set_option maxRecDepth 100000
set_option maxHeartbeats 4000000
def kZ (u:ak)(h:List Int):Bool:=(List.range u.aG.length).all fun i=>!cM u (cj u i (h[i]?.getD 0))
theorem BK {α:Type}{g:Nat->Bool}:∀(l:List α) (i:Nat),ij (fun i _=>if g i then none else some false) i l=if (List.range' i l.length).all g then none else some false
 |[],_=>rfl
 |x::l,i=>by
  unfold ij
  rw[List.length_cons,List.range'_succ,List.all_cons]
  cases h:g i with
  |false=>simp[h]
  |true=>
   simp only[h,if_true,Bool.true_and]
   exact BK l (i+1)
theorem BL {u:ak}(F:Fit u){h:List Int}(hm:h∈bT u)(all:List aU):jo (cH h) ⟨u,all⟩=some (kZ u h):=by
 have b:=F.aG;unfold jo
 rw[xl (t:=fun i _=>if !cM u (cj u i (h[i]?.getD 0)) then none else some false) u.aG 0 false fun j e s he=>by
  rw[Nat.zero_add];have c:j<u.aG.length:=(List.getElem?_eq_some_iff.1 he).1;obtain ⟨m,a,hs,hb⟩:=sP F he hm;have hg:aU.get (cH h) (j:Int)=some m:=qg (by omega) (by omega) (by simpa using a);unfold rP gO;simp only[hg,ag,iq he,(nZ F (s:=⟨e.back,m⟩) hb).1,hs]
  cases cM u ⟨e.back,m⟩<;>rfl]
 rw[BK (g:=fun i=>!cM u (cj u i (h[i]?.getD 0)))];simp only[ag];unfold kZ;rw[List.range_eq_range'];cases (List.range' 0 u.aG.length).all fun i=>!cM u (cj u i (h[i]?.getD 0))<;>rfl
def k3 (n m:Nat):Int:=if n=m then 1 else if n=0 then 2 else 0
theorem BM {k:cK}{f:aU->Option Bool}{g:aU->Bool}(e:k.all.length<=1000)(h:∀x,x∈k.all->f x=some (g x)):nv k f=some (k3 (k.all.countP g) k.all.length):=by
 have key:=j5 (f:=pP f) (ρ:=Int) (g:=fun _ x (n:Int)=>cond (g x) (n+1) n) (I:=fun j n=>0<=n/\n<=j/\j<=k.all.length) k.all 0 0 ⟨by omega,by omega,by omega⟩
  (fun j x n a i=>by
   have m:j<k.all.length:=(List.getElem?_eq_some_iff.1 a).1;refine ⟨?_,by cases g x<;>simp<;>omega⟩;unfold pP;rw[h x (List.mem_of_getElem? a)];simp only[ag];rw[c6 (n:=n+1) (by omega)]
   cases g x<;>rfl)
 have b:∀(l:List aU) (j:Nat) (n:Int),foldI (fun _ x (n:Int)=>cond (g x) (n+1) n) j l n=n+(l.countP g:Nat):=by
  intro l
  induction l with
  |nil=>intro j n;simp[foldI]
  |cons x l ih=>
   intro j n;unfold foldI;rw[ih,List.countP_cons];cases g x<;>simp<;>omega
 rw[b] at key;unfold nv;rw[key.1];simp only[ag,aB,Int.zero_add];unfold k3;by_cases c:k.all.countP g=k.all.length
 ·rw[if_pos c,show (((k.all.countP g:Nat):Int)==(k.all.length:Int))=true by rw[c];simp];rfl
 ·rw[if_neg c,show (((k.all.countP g:Nat):Int)==(k.all.length:Int))=false by simp;omega];simp only[cond_false];by_cases d:k.all.countP g=0
  ·rw[if_pos d,d];rfl
  ·rw[if_neg d,show (((k.all.countP g:Nat):Int)==0)=false by rw[beq_eq_false_iff_ne];omega];rfl
theorem BN {u:ak}(F:Fit u)(h:fN u=some 0):jZ u=some (if (bT u).isEmpty then (0,9) else (k3 ((bT u).countP (kZ u)) (bT u).length,0)):=by
 have c:=(sN F).2;unfold jZ;rw[sO F (BH h)];simp only[ag];cases hs:(bT u).isEmpty with
 |true=>rfl
 |false=>
  simp only[Bool.false_eq_true,if_false];rw[show ((0:Int) != 0)=false by decide];simp only[cond_false];have key:∀x,x∈(bT u).map cH->jo x ⟨u,(bT u).map cH⟩=some ((jo x ⟨u,(bT u).map cH⟩).getD false):=fun x b=>by
   rw[List.mem_map] at b;obtain ⟨y,a,rfl⟩:=b;rw[BL F a];rfl
  rw[BM (k:=⟨u,(bT u).map cH⟩) (g:=fun x=>(jo x ⟨u,(bT u).map cH⟩).getD false) (by simp;omega) key];simp only[List.countP_map,List.length_map];have e:(bT u).countP ((fun x=>(jo x ⟨u,(bT u).map cH⟩).getD false) ∘ cH)=(bT u).countP (kZ u):=List.countP_congr fun y a=>by
   simp only[Function.comp];rw[BL F a];rfl
  rw[e]
theorem xy {u:ak}{s:aZ}(F:Fit u)(hs:(1<=s.back/\s.back<=20)/\0<=s.high/\s.high<=60):cM u s=bM u.aW (cZ u s):=by
 obtain ⟨r,a,e,b⟩:=xk F hs;rw[sL F hs] at a;obtain rfl:=Option.some.inj a;have c:Sm u.aW 20 20:=⟨by have:=F.num;omega,by have:=F.den;omega,by have:=F.den;omega⟩
 have d:=kW c b (by decide) (by decide);unfold cM fY;rw[sL F hs];simp only[ag,d.2];rfl
structure QD (u o:ak):Prop where
 bH:o.bH=u.bH
 bO:o.bO=u.bO
 aW:o.aW=u.aW
 props:o.props=u.props
 aG:o.aG=u.aG
 told:o.told=u.told
 dF:∀x,x∈u.props->iR o x.place=iR u x.place
 xz:∀s:aZ,(1<=s.back/\s.back<=20)/\0<=s.high/\s.high<=60->(eD o s).2=(eD u s).2
theorem xA {n a b:Int}(c:a<=n)(d:n<=b):bI n a b=true:=fQ.2 ⟨c,d⟩
section
variable {u : ak} {s : aZ} (F : Fit u) (h : fN u = some 0) (hs : (1 ≤ s.back ∧ s.back ≤ 20) ∧ 0 ≤ s.high ∧ s.high ≤ 60)
include F h hs
theorem HQ:e7 u [eI s]=some (u,0):=by
 have hb:eI s u=some 0:=by
  rw[He,Hf];unfold w7;rw[xA hs.1.1 hs.1.2,xA hs.2.1 hs.2.2];rfl
 rw[A0 h hb];rfl
theorem BO:me u s=some (cZ u s,bM u.aW (cZ u s),0):=by
 unfold me;have e1:=(nZ F hs).1;rw[xy F hs] at e1;simp only[HQ F h hs,ag,bne_self_eq_false,cond_false,sL F hs,e1]
end
def k4 (o:Nat)(S:List Int)(i:Nat):List Int:=(List.replicate o (S.flatMap fun n=>List.replicate i n)).flatten
def n5:List (List Int):=[[0],[0,1],[0,2],[0,1,2]]
def mJ:List (Nat×Nat):=[(1,1),(1,2),(1,3),(1,4),(1,6),(1,9),(2,1),(3,1),(4,1),(6,1),(9,1),(2,2),(2,3),(3,2),(3,3)]
def xB (l:List Int):Option (List Int):=ag (pV l) fun x=>r9 x.2
def n6 (c:Nat):Bool:=mJ.all fun p=>n5.all fun S=>xB (k4 p.1 (S.map (· +(c:Int))) p.2)==some (S.map (· +(c:Int)))
theorem HR:∀c:Fin 16,n6 c.val=true:=by decide+kernel
theorem HS:∀c:Fin 16,n6 (16+c.val)=true:=by decide+kernel
theorem HT:∀c:Fin 16,n6 (32+c.val)=true:=by decide+kernel
theorem HU:∀c:Fin 13,n6 (48+c.val)=true:=by decide+kernel
theorem HV {c:Nat}(h:c<=60):n6 c=true:=by
 rcases Nat.lt_or_ge c 16 with x|x
 ·exact HR ⟨c,x⟩
 rcases Nat.lt_or_ge c 32 with y|y
 ·have:=HS ⟨c - 16,by omega⟩
  rwa [show 16+(c - 16)=c by omega] at this
 rcases Nat.lt_or_ge c 48 with z|z
 ·have:=HT ⟨c - 32,by omega⟩
  rwa [show 32+(c - 32)=c by omega] at this
 ·have:=HU ⟨c - 48,by omega⟩
  rwa [show 48+(c - 48)=c by omega] at this
theorem HW {c:Nat}(h:c<=60){p:Nat×Nat}(a:p∈mJ){S:List Int}(b:S∈n5):xB (k4 p.1 (S.map (· +(c:Int))) p.2)=some (S.map (· +(c:Int))):=by
 have:=HV h;unfold n6 at this;rw[List.all_eq_true] at this;have:=this p a;rw[List.all_eq_true] at this;simpa using this S b
def n7 (u:ak)(i:Nat)(n:Int):Bool:=u.told.all fun t=>t.aV != (i:Int)||(cM u (cj u i n)==t.bt)
def pL:List (List Int)->List (List Int)
 |[]=>[[]]
 |s::r=>s.flatMap fun n=>(pL r).map (n::·)
def jw (P:Nat->Int->Bool):Nat->List Int->Bool
 |_,[]=>true
 |i,x::r=>P i x&&jw P (i+1) r
def gR (P:Nat->Int->Bool):Nat->List (List Int)->List (List Int)
 |_,[]=>[]
 |i,s::r=>s.filter (P i)::gR P (i+1) r
def j9 (u:ak):List (List Int):=gR (n7 u) 0 (u.aG.map fun e=>dj e.high)
theorem BP:∀(l:List bZ) (p:List Int),eo p l=(pL (l.map fun e=>dj e.high)).map (p++·)
 |[],p=>by simp[eo,pL]
 |e::l,p=>by
  unfold eo
  rw[List.map_cons]
  unfold pL
  rw[List.map_flatMap]
  congr 1
  funext n
  rw[BP l (p++[n]),List.map_map]
  refine List.map_congr_left fun q _=>?_
  simp
theorem BQ {α β:Type}(p:α->Bool)(f:α->List β):∀l:List α,(l.filter p).flatMap f=l.flatMap fun x=>if p x then f x else []
 |[]=>rfl
 |x::l=>by
  rw[List.flatMap_cons,<-BQ p f l,List.filter_cons]
  cases p x<;>simp
theorem BR (P:Nat->Int->Bool):∀(S:List (List Int)) (i:Nat),(pL S).filter (jw P i)=pL (gR P i S)
 |[],i=>rfl
 |s::r,i=>by
  rw[show gR P i (s::r)=s.filter (P i)::gR P (i+1) r from rfl,show pL (s::r)=s.flatMap fun n=>(pL r).map (n::·) from rfl,
   show pL (s.filter (P i)::gR P (i+1) r)=(s.filter (P i)).flatMap fun n=>(pL (gR P (i+1) r)).map (n::·) from rfl]
  rw[BQ,List.filter_flatMap]
  congr 1
  funext n
  rw[List.filter_map]
  cases h:P i n with
  |false=>
   rw[show (jw P i ∘ fun x=>n::x)=fun _=>false by funext q;simp[jw,h]]
   simp
  |true=>
   rw[show (jw P i ∘ fun x=>n::x)=jw P (i+1) by funext q;simp[jw,h],BR P r (i+1)]
   rfl
theorem BS (P:Nat->Int->Bool):∀(h:List Int) (i:Nat),jw P i h=(List.range h.length).all fun j=>P (i+j) (h[j]?.getD 0)
 |[],i=>rfl
 |x::r,i=>by
  unfold jw
  rw[BS P r (i+1),List.length_cons,List.range_succ_eq_map,List.all_cons,List.all_map]
  congr 1
  refine congrArg (fun f=>List.all _ f) ?_
  funext j
  simp only[Function.comp]
  rw[show i+1+j=i+(j+1) by omega]
  rfl
theorem HX {u:ak}(F:Fit u){h:List Int}(H:n4 u h):fE u h=jw (n7 u) 0 h:=by
 rw[BS,Bool.eq_iff_iff];unfold fE;rw[List.all_eq_true,List.all_eq_true];constructor
 ·intro a j d;rw[Nat.zero_add];unfold n7;rw[List.all_eq_true];intro t ht;by_cases c:t.aV=(j:Int)
  ·have:=a t ht;unfold j6 at this;rw[c,Int.toNat_natCast] at this;rw[this,Bool.or_true]
  ·rw[show (t.aV != (j:Int))=true by simpa using c,Bool.true_or]
 ·intro a t ht;obtain ⟨k,b⟩:=List.mem_iff_getElem?.1 ht;obtain ⟨e,b2⟩:=F.wY k t b;have f:=H.len;have:=a t.aV.toNat (by rw[List.mem_range];omega);rw[Nat.zero_add] at this;unfold n7 at this;rw[List.all_eq_true] at this;have:=this t ht;rw[show (t.aV != (t.aV.toNat:Int))=false by rw[bne_eq_false_iff_eq];omega,Bool.false_or] at this;exact this
theorem xC {u:ak}(F:Fit u):bT u=pL (j9 u):=by
 unfold bT j9;rw[<-BR];have e:eo [] u.aG=pL (u.aG.map fun e=>dj e.high):=by rw[BP];simp
 rw[<-e];refine List.filter_congr fun h hm=>?_;exact HX F (xw hm)
theorem BT:∀S:List (List Int),(pL S).length=(S.map List.length).foldr (· *·) 1
 |[]=>rfl
 |s::r=>by
  unfold pL
  rw[List.length_flatMap,List.map_cons,List.foldr_cons,<-BT r]
  simp only[List.length_map]
  rw[List.map_const',List.sum_replicate_nat]
theorem BU {α:Type}(x:List α)(m:Nat):∀o:Nat,(List.replicate o (List.replicate m x).flatten).flatten=(List.replicate (o*m) x).flatten
 |0=>by simp
 |o+1=>by
  rw[List.replicate_succ,List.flatten_cons,BU x m o,<-List.flatten_append,List.replicate_append_replicate]
  congr 2
  rw[Nat.add_mul];omega
theorem BV {α β:Type}(x:List β):∀l:List α,l.flatMap (fun _=>x)=(List.replicate l.length x).flatten
 |[]=>rfl
 |a::l=>by rw[List.flatMap_cons,BV x l,List.length_cons,List.replicate_succ,List.flatten_cons]
theorem BW:∀(S:List (List Int)) (i:Nat) (s:List Int),S[i]?=some s->(pL S).map (fun h=>h[i]?.getD 0)=k4 (((S.take i).map List.length).foldr (· *·) 1) s (((S.drop (i+1)).map List.length).foldr (· *·) 1)
 |[],i,s,h=>by simp at h
 |a::r,0,s,h=>by
  have h:a=s:=by simpa using h
  subst h
  unfold pL k4
  rw[List.map_flatMap]
  simp only[List.take_zero,List.map_nil,List.foldr_nil,List.replicate_one,List.flatten_cons,List.flatten_nil,List.append_nil,Nat.zero_add,List.drop_succ_cons,List.drop_zero]
  rw[<-BT]
  congr 1
  funext n
  rw[List.map_map,show ((fun h:List Int=>h[0]?.getD 0) ∘ fun x=>n::x)=fun _=>n from rfl,List.map_const']
 |a::r,i+1,s,h=>by
  have h:r[i]?=some s:=by simpa using h
  have ih:=BW r i s h
  unfold pL
  rw[List.map_flatMap]
  have e:(fun n:Int=>List.map (fun h:List Int=>h[i+1]?.getD 0) (List.map (fun x=>n::x) (pL r)))=fun _=>(pL r).map fun h=>h[i]?.getD 0:=by
   funext n
   rw[List.map_map]
   rfl
  rw[e,ih,BV]
  unfold k4
  rw[BU]
  congr 2
theorem BX (P:Nat->Int->Bool):∀(S:List (List Int)) (i j:Nat),(gR P i S)[j]?=S[j]?.map (List.filter (P (i+j)))
 |[],i,j=>by simp[gR]
 |s::r,i,0=>by simp[gR]
 |s::r,i,j+1=>by
  have:=BX P r (i+1) j
  rw[show i+1+j=i+(j+1) by omega] at this
  simpa [gR] using this
theorem BY (P:Nat->Int->Bool):∀(S:List (List Int)) (i:Nat),(gR P i S).length=S.length
 |[],i=>rfl
 |s::r,i=>by simp[gR,BY P r (i+1)]
def c7 (u:ak)(i:Nat)(e:bZ):List Int:=(dj e.high).filter (n7 u i)
theorem sQ {u:ak}{i:Nat}{e:bZ}(he:u.aG[i]?=some e):(j9 u)[i]?=some (c7 u i e):=by
 unfold j9;rw[BX,List.getElem?_map,he];simp[c7]
theorem sR (u:ak):(j9 u).length=u.aG.length:=by unfold j9;rw[BY,List.length_map]
theorem HY (P:Int->Bool){b:de}(f:0<=b.low)(g:b.low<=b.high)(i:b.high<=60)(j:b.high - b.low<3):
  (dj b).filter P=[]\/∃(c:Nat) (T:List Int),c<=60/\T∈n5/\(dj b).filter P=T.map (· +(c:Int)):=by
 obtain ⟨c,d⟩:∃c:Nat,b.low=(c:Int):=⟨b.low.toNat,by omega⟩
 rcases (show b.high=c\/b.high=c+1\/b.high=c+2 by omega) with h|h|h
 ·have e:dj b=[(c:Int)]:=by unfold dj;rw[h,d,show ((c:Int) - c+1).toNat=1 by omega];simp[List.range,List.range.loop]
  rw[e]
  cases p0:P c
  ·left;simp[List.filter,p0]
  ·right;exact ⟨c,[0],by omega,by decide,by simp[List.filter,p0]⟩
 ·have e:dj b=[(c:Int),c+1]:=by unfold dj;rw[h,d,show ((c:Int)+1 - c+1).toNat=2 by omega];simp[List.range,List.range.loop]
  rw[e]
  cases p0:P c<;>cases a:P (c+1)
  ·left;simp[List.filter,p0,a]
  ·right;exact ⟨c+1,[0],by omega,by decide,by simp[List.filter,p0,a]⟩
  ·right;exact ⟨c,[0],by omega,by decide,by simp[List.filter,p0,a]⟩
  ·right;exact ⟨c,[0,1],by omega,by decide,by simp[List.filter,p0,a];omega⟩
 ·have e:dj b=[(c:Int),c+1,c+2]:=by unfold dj;rw[h,d,show ((c:Int)+2 - c+1).toNat=3 by omega];simp[List.range,List.range.loop]
  rw[e]
  cases p0:P c<;>cases a:P (c+1)<;>cases p2:P (c+2)
  ·left;simp[List.filter,p0,a,p2]
  ·right;exact ⟨c+2,[0],by omega,by decide,by simp[List.filter,p0,a,p2]⟩
  ·right;exact ⟨c+1,[0],by omega,by decide,by simp[List.filter,p0,a,p2]⟩
  ·right;exact ⟨c+1,[0,1],by omega,by decide,by simp[List.filter,p0,a,p2];omega⟩
  ·right;exact ⟨c,[0],by omega,by decide,by simp[List.filter,p0,a,p2]⟩
  ·right;exact ⟨c,[0,2],by omega,by decide,by simp[List.filter,p0,a,p2];omega⟩
  ·right;exact ⟨c,[0,1],by omega,by decide,by simp[List.filter,p0,a,p2];omega⟩
  ·right;exact ⟨c,[0,1,2],by omega,by decide,by simp[List.filter,p0,a,p2];omega⟩
theorem BZ:∀{S:List (List Int)},pL S≠[]->∀s,s∈S->s≠[]
 |[],_,s,h=>by simp at h
 |a::r,b,s,h=>by
  have e:pL (a::r)=a.flatMap fun n=>(pL r).map (n::·):=rfl
  rcases List.mem_cons.1 h with rfl|h
  ·intro he;rw[e,he] at b;exact b rfl
  ·refine BZ (S:=r) (fun he=>?_) s h
   rw[e,he] at b
   exact b (by simp)
theorem HZ {o k:Nat}(d:1<=o)(e:1<=k){s:List Int}{n:Int}:n∈k4 o s k↔n∈s:=by
 unfold k4;rw[List.mem_flatten];constructor
 ·rintro ⟨l,b,a⟩;rw[List.mem_replicate] at b;rw[b.2,List.mem_flatMap] at a;obtain ⟨m,hm,c⟩:=a;rw[(List.mem_replicate.1 c).2];exact hm
 ·intro a;exact ⟨_,List.mem_replicate.2 ⟨by omega,rfl⟩,List.mem_flatMap.2 ⟨n,a,List.mem_replicate.2 ⟨by omega,rfl⟩⟩⟩
def mK (l:List Nat):Nat:=l.foldr (· *·) 1
theorem H6 {L:List Nat}(d:L.length<=3)(h:∀x,x∈L->1<=x/\x<=3){i:Nat}(hi:i<L.length):(mK (L.take i),mK (L.drop (i+1)))∈mJ:=by
 match L,d,h,hi with
 |[a],_,h,hi=>
  obtain rfl:i=0:=by simpa using hi
  show (1,1)∈mJ;decide
 |[a,b],_,h,hi=>
  have e:=h a (by simp);have hb:=h b (by simp);rcases (show a=1\/a=2\/a=3 by omega) with rfl|rfl|rfl<;>rcases (show b=1\/b=2\/b=3 by omega) with rfl|rfl|rfl<;>rcases (show i=0\/i=1 by simp at hi;omega) with rfl|rfl<;>decide
 |[a,b,c],_,h,hi=>
  have e:=h a (by simp);have hb:=h b (by simp);have f:=h c (by simp);rcases (show a=1\/a=2\/a=3 by omega) with rfl|rfl|rfl<;>rcases (show b=1\/b=2\/b=3 by omega) with rfl|rfl|rfl<;>rcases (show c=1\/c=2\/c=3 by omega) with rfl|rfl|rfl<;>rcases (show i=0\/i=1\/i=2 by simp at hi;omega) with rfl|rfl|rfl<;>decide
theorem B1 {α β:Type}(f:α->β):∀l:List α,(l.flatMap fun x=>[f x])=l.map f
 |[]=>rfl
 |a::l=>by rw[List.flatMap_cons,B1 f l];rfl
theorem B2 {T:List Int}(h:T∈n5):1<=T.length/\T.length<=3:=by
 unfold n5 at h;simp only[List.mem_cons,List.not_mem_nil,or_false] at h;rcases h with rfl|rfl|rfl|rfl<;>decide
variable {u : ak} (F : Fit u) (aE : bT u ≠ []) {i : Nat} {e : bZ} (he : u.aG[i]? = some e)
include F aE he
theorem xD:∃(c:Nat) (T:List Int),c<=60/\T∈n5/\c7 u i e=T.map (· +(c:Int)):=by
 obtain ⟨c1,c2,c3,c4,a⟩:=F.aV _ _ he;rcases HY (n7 u i) (b:=e.high) c2 c3 c4 a with h|h
 ·rw[xC F] at aE;exact absurd h (BZ aE _ (List.mem_of_getElem? (sQ he)))
 ·exact h
theorem B3:∃p,p∈mJ/\1<=p.1/\1<=p.2/\(bT u).map (fun h=>h[i]?.getD 0)=k4 p.1 (c7 u i e) p.2:=by
 have hi:i<u.aG.length:=(List.getElem?_eq_some_iff.1 he).1;have o:=F.aG;have m:∀x,x∈(j9 u).map List.length->1<=x/\x<=3:=fun x f=>by
  rw[List.mem_map] at f;obtain ⟨s,hs,rfl⟩:=f;obtain ⟨j,g⟩:=List.mem_iff_getElem?.1 hs;have k:j<u.aG.length:=by rw[<-sR u];exact (List.getElem?_eq_some_iff.1 g).1
  have l:=sQ (u:=u) (List.getElem?_eq_getElem k);rw[g] at l;obtain ⟨c,T,-,n,e2⟩:=xD F aE (List.getElem?_eq_getElem k);rw[Option.some.inj l,e2,List.length_map];exact B2 n
 have d:=H6 (L:=(j9 u).map List.length) (by simp[sR];omega) m (i:=i) (by simp[sR];omega);refine ⟨_,d,?_,?_,?_⟩
 ·revert d;generalize mK _=a;generalize mK _=b;intro d;have:∀q,q∈mJ->1<=q.1:=by decide
  exact this _ d
 ·revert d;generalize mK _=a;generalize mK _=b;intro d;have:∀q,q∈mJ->1<=q.2:=by decide
  exact this _ d
 ·rw[xC F,BW _ i _ (sQ he)];unfold mK;rw[List.map_take,List.map_drop]
theorem mL {n:Int}:n∈c7 u i e↔∃h,h∈bT u/\h[i]?=some n:=by
 obtain ⟨p,f,a,p2,b⟩:=B3 F aE he;rw[<-HZ a p2,<-b,List.mem_map];constructor
 ·rintro ⟨h,hm,rfl⟩;obtain ⟨m,c,_⟩:=(mH hm).1.kY i e he;exact ⟨h,hm,by rw[c];rfl⟩
 ·rintro ⟨h,hm,d⟩;exact ⟨h,hm,by rw[d];rfl⟩
theorem H7:bF (nF (i:Int)) 0 ((bT u).map cH) []=some (.nx ((bT u).map fun h=>h[i]?.getD 0)):=by
 have hi:i<u.aG.length:=(List.getElem?_eq_some_iff.1 he).1;have d:=F.aG;have e:=(sN F).2;have key:=j5 (f:=nF (i:Int)) (g:=fun _ x (s:List Int)=>s++[(aU.get x (i:Int)).getD 0]) (I:=fun j s=>s.length<=j/\j<=(bT u).length) ((bT u).map cH) 0 [] ⟨by simp,by omega⟩
  (fun j x s a k=>by
   rw[List.getElem?_map,Option.map_eq_some_iff] at a;obtain ⟨h,b,rfl⟩:=a;have l:j<(bT u).length:=(List.getElem?_eq_some_iff.1 b).1;obtain ⟨m,hm,hs,hb⟩:=sP F he (List.mem_of_getElem? b);have hg:aU.get (cH h) (i:Int)=some m:=qg (by omega) (by omega) (by simpa using hm);refine ⟨?_,?_⟩
   ·unfold nF;simp only[hg,ag,Option.getD_some];unfold c9;rw[if_pos (by simp;omega)]
   ·simp only[List.length_append,List.length_singleton];omega)
 rw[key.1,BI];congr 2;have e1:foldI (fun n x s=>s++[((cH x).get (i:Int)).getD 0]) 0 (bT u) []=foldI (fun _ x (s:List Int)=>s++(fun x:List Int=>[x[i]?.getD 0]) x) 0 (bT u) []:=by
  refine BJ _ _ _ fun j h s hm=>?_;obtain ⟨m,c,hs,hb⟩:=sP F he hm;have hg:aU.get (cH h) (i:Int)=some m:=qg (by omega) (by omega) (by simpa using c);rw[hg];show _=s++[h[i]?.getD 0];rw[c]
 rw[e1,sM,List.nil_append];exact B1 _ _
theorem B4:kS ⟨u,(bT u).map cH⟩ (i:Int)=some (c7 u i e):=by
 obtain ⟨p,a,j,p2,b⟩:=B3 F aE he;obtain ⟨c,T,d,f,g⟩:=xD F aE he;have hs:=HW d a f;rw[<-g,<-b] at hs;unfold kS;rw[H7 F aE he];unfold xB at hs;simp only[ag,aB] at hs ⊢;cases h:pV ((bT u).map fun h=>h[i]?.getD 0) with
 |none=>rw[h] at hs;cases hs
 |some x=>
  rw[h] at hs;simp only at hs ⊢;rw[hs]
end Go.Proofs.YtpgcmoanfifglaaGreatDoor
end

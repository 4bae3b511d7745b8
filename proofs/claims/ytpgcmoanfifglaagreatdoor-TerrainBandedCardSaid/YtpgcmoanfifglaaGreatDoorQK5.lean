/- A part of the proof of a row and its tied card: QK5. -/
import Derived.Test.YtpgcmoanfifglaaGreatDoorQK4
set_option linter.all false
section
namespace Go.Proofs.YtpgcmoanfifglaaGreatDoor
open Go Go.Sep Go.Proofs
set_option maxRecDepth 100000
set_option maxHeartbeats 4000000
theorem w8 (u:ak):mg u=some (cond (decide (3<(u.told.length:Int))) 2 ((dH (jH u) 0 u.told).getD 0)):=by
 unfold mg;cases decide (3<(u.told.length:Int)) with
 |true=>rfl
 |false=>
  show ag (bE _ 0 u.told 0) _=_;rw[qg (t:=jH u) u.told 0 0 ?_]
  ·show aA (gX _ _) _ _ _=_;cases dH (jH u) 0 u.told<;>rfl
  ·intro j x s a;unfold rJ jH;simp only[w6,ag];cases iA u x.aX<;>rfl
theorem w9 (u:ak):mh u=some (cond (bK u.aH.length 1 3) ((dH iz 0 u.aH).getD 0) 2):=by
 unfold mh;rw[kz,eU];simp only[ag];cases bK (u.aH.length:Int) 1 3 with
 |false=>rfl
 |true=>
  simp only[Bool.not_true,cond_false,cond_true];rw[qg (t:=iz) u.aH 0 0 ?_]
  ·show aA (gX _ _) _ _ _=_;cases dH iz 0 u.aH<;>rfl
  ·intro j x s a;unfold rK iz;simp only[kz,GZ,eU,AY,ag];cases bK x.back 1 20 with
   |false=>rfl
   |true=>
    cases k9 x.high 0 60 with
    |false=>rfl
    |true=>
     simp only[Bool.not_true,cond_false,cond_true];cases decide (3<=IntKind.i64.wrap (x.high.high - x.high.low))<;>rfl
theorem xb (u:ak)(f:Int->Bool)(hf:∀p,gb u p=some (f p)/\mA u p=some (f p)):mj u=some (cond (decide (3<(u.props.length:Int))) 2 ((dH (iy u f) 0 u.props).getD 0)):=by
 unfold mj;cases decide (3<(u.props.length:Int)) with
 |true=>rfl
 |false=>
  show ag (bE _ 0 u.props 0) _=_;rw[qg (t:=iy u f) u.props 0 0 ?_]
  ·show aA (gX _ _) _ _ _=_;cases dH (iy u f) 0 u.props<;>rfl
  ·intro j x s a;unfold rM iy;simp only[(hf x.place).1,G2,ag];cases f x.place with
   |false=>rfl
   |true=>
    cases bK x.dF 1 20<;>rfl
theorem mJ {α:Type}{t:Nat->α->Option Int}(h:∀i x r,t i x=some r->r≠0):∀(l:List α) (i:Nat) (r:Int),dH t i l=some r->r≠0
 |[],i,r,e=>by cases e
 |x::l,i,r,e=>by
  unfold dH at e
  cases ht:t i x with
  |some a=>rw[ht] at e;cases e;exact h i x _ ht
  |none=>rw[ht] at e;exact mJ h l (i+1) r e
theorem A4 (u:ak)(f:Int->Bool)(i:Nat)(x:cm)(r:Int)(h:iy u f i x=some r):r≠0:=by
 unfold iy at h;revert h;cases f x.place<;>cases bK x.dF 1 20<;>intro h<;>cases h<;>decide
theorem A5 (i:Nat)(x:b6)(r:Int)(h:iz i x=some r):r≠0:=by
 unfold iz at h;revert h;cases bK x.back 1 20<;>cases k9 x.high 0 60<;>cases decide (3<=IntKind.i64.wrap (x.high.high - x.high.low))<;>intro h<;>cases h<;>decide
theorem G4 (u:ak)(i:Nat)(x:bU)(r:Int)(h:jH u i x=some r):r≠0:=by
 unfold jH at h;revert h;cases iA u x.aX<;>intro h<;>cases h<;>decide
theorem A6 {o:Option Int}(h:∀r,o=some r->r≠0):(o.getD 0 != 0)=o.isSome:=by
 cases o with
 |none=>rfl
 |some r=>simpa using h r rfl
theorem G5 (u:ak)(f:Int->Bool)(hf:∀p,gb u p=some (f p)/\mA u p=some (f p))(g:u.props.length<=20)(h:u.aH.length<=20)(i:u.told.length<=20):
  mG u=ag (mj u) fun x=>cond (x != 0) (some x) (ag (mh u) fun y=>cond (y != 0) (some y) (mg u)):=by
 rw[xb u f hf,w9,w8]
 unfold mG
 simp only[ag]
 cases k:decide (3<(u.props.length:Int)) with
 |true=>rfl
 |false=>
  simp only[cond_false]
  rw[sP (t:=iy u f) u.props (by omega) ?_ ?_ 0]
  ·rw[A6 (mJ (A4 u f) u.props 0)]
   cases dH (iy u f) 0 u.props with
   |some r=>rfl
   |none=>
    simp only[gX,aA,Option.isSome_none,cond_false,eU]
    cases l:bK (u.aH.length:Int) 1 3 with
    |false=>rfl
    |true=>
     simp only[Bool.not_true,cond_false,cond_true]
     rw[sP (t:=iz) u.aH (by omega) ?_ ?_ 0]
     ·rw[A6 (mJ A5 u.aH 0)]
      cases dH iz 0 u.aH with
      |some r=>rfl
      |none=>
       simp only[gX,aA,Option.isSome_none,cond_false]
       cases m:decide (3<(u.told.length:Int)) with
       |true=>rfl
       |false=>
        simp only[cond_false]
        rw[sP (t:=jH u) u.told (by omega) ?_ ?_ 0]
        ·cases dH (jH u) 0 u.told<;>rfl
        ·intro j x s b
         have e:=(List.getElem?_eq_some_iff.1 b).1
         have a:decide ((j:Int)<(u.told.length:Int))=true:=decide_eq_true (by omega)
         have c:bh u.told (j:Int)=some x:=by unfold bh;rw[if_pos (by omega),Int.toNat_natCast,b]
         have d:IntKind.i64.wrap ((j:Int)+1)=((j+1:Nat):Int):=by rw[cP (by omega)];omega
         unfold wU jH
         simp only[a,c,d,ag,w6,cond_true]
         cases iA u x.aX<;>rfl
        ·intro s
         have a:decide ((u.told.length:Int)<(u.told.length:Int))=false:=decide_eq_false (by omega)
         unfold wU
         simp only[a,cond_false]
     ·intro j x s b
      have e:=(List.getElem?_eq_some_iff.1 b).1
      have a:decide ((j:Int)<(u.aH.length:Int))=true:=decide_eq_true (by omega)
      have c:bh u.aH (j:Int)=some x:=by unfold bh;rw[if_pos (by omega),Int.toNat_natCast,b]
      have d:IntKind.i64.wrap ((j:Int)+1)=((j+1:Nat):Int):=by rw[cP (by omega)];omega
      unfold wT iz
      simp only[a,c,d,ag,eU,AY,cond_true]
      cases bK x.back 1 20<;>cases k9 x.high 0 60<;>cases decide (3<=IntKind.i64.wrap (x.high.high - x.high.low))<;>rfl
     ·intro s
      have a:decide ((u.aH.length:Int)<(u.aH.length:Int))=false:=decide_eq_false (by omega)
      unfold wT
      simp only[a,cond_false]
  ·intro j x s b
   have e:=(List.getElem?_eq_some_iff.1 b).1
   have a:decide ((j:Int)<(u.props.length:Int))=true:=decide_eq_true (by omega)
   have c:bh u.props (j:Int)=some x:=by unfold bh;rw[if_pos (by omega),Int.toNat_natCast,b]
   have d:IntKind.i64.wrap ((j:Int)+1)=((j+1:Nat):Int):=by rw[cP (by omega)];omega
   unfold qe iy
   simp only[a,c,d,ag,eU,(hf x.place).2,cond_true]
   cases f x.place<;>cases bK x.dF 1 20<;>rfl
  ·intro s
   have a:decide ((u.props.length:Int)<(u.props.length:Int))=false:=decide_eq_false (by omega)
   unfold qe
   simp only[a,cond_false]
theorem A7 (x:Int):cond (x != 0) (some x) (some 0)=some x:=by
 cases h:(x != 0) with
 |true=>rfl
 |false=>
  have:x=0:=by simpa using h
  rw[this];rfl
theorem G6 (u:ak)(a:u.aD.length<=20)(c:u.props.length<=20)(d:u.aH.length<=20)(e:u.told.length<=20):e8 u=mH u/\∃r,e8 u=some r:=by
 obtain ⟨he,g⟩:=AZ u a;rw[G3,g];show kg u=_/\∃r,kg u=some r;unfold kg;rw[w7];simp only[ag];cases hg:(gV u != 0) with
 |true=>exact ⟨rfl,_,rfl⟩
 |false=>
  simp only[cond_false];unfold nE;rw[he];simp only[ag];cases b:((cond (bK u.aD.length 2 5) ((dH (gA u) 0 u.aD).getD 0) 2) != 0) with
  |true=>exact ⟨rfl,_,rfl⟩
  |false=>
   simp only[cond_false];have hb:bK u.aD.length 2 5=true:=by
    cases hb:bK (u.aD.length:Int) 2 5 with
    |true=>rfl
    |false=>rw[hb] at b;cases b
   have h:=fS.1 hb;obtain ⟨f,hf⟩:=A3 u (by omega) a;rw[G5 u f hf c d e];unfold nD;rw[xb u f hf];simp only[ag];cases i:((cond (decide (3<(u.props.length:Int))) 2 ((dH (iy u f) 0 u.props).getD 0)) != 0) with
   |true=>exact ⟨rfl,_,rfl⟩
   |false=>
    simp only[cond_false];unfold nC;rw[w9];simp only[ag];cases j:((cond (bK u.aH.length 1 3) ((dH iz 0 u.aH).getD 0) 2) != 0) with
    |true=>exact ⟨rfl,_,rfl⟩
    |false=>
     simp only[cond_false];unfold nB pS;rw[w8];simp only[ag];rw[A7];exact ⟨rfl,_,rfl⟩
theorem qi {α:Type}{t:Nat->α->Option Int}:∀(l:List α) (i:Nat),dH t i l=none->∀j x,l[j]?=some x->t (i+j) x=none
 |[],i,_,j,x,a=>by simp at a
 |y::l,i,h,j,x,a=>by
  unfold dH at h
  cases ht:t i y with
  |some r=>rw[ht] at h;cases h
  |none=>
   rw[ht] at h
   cases j with
   |zero=>simp at a;subst a;exact ht
   |succ j=>
    have:=qi l (i+1) h j x (by simpa using a)
    rwa [show i+1+j=i+(j+1) by omega] at this
structure Fit (u:ak):Prop where
 bH:2<=u.bH/\u.bH<=60
 bV:0<=u.bV/\u.bV<=60
 den:1<=u.aF.den/\u.aF.den<=20
 num:0<=u.aF.num/\u.aF.num<=20
 aD:2<=u.aD.length/\u.aD.length<=5
 mK:∀(i:Nat) x,u.aD[i]?=some x->(0<=x.aM/\x.aM<=u.bH - 1)/\0<=x.high/\x.high<=60
 G7:∀(i:Nat) x y,u.aD[i]?=some x->u.aD[i+1]?=some y->x.aM<y.aM
 props:u.props.length<=3
 prop:∀(i:Nat) x,u.props[i]?=some x->gb u x.place=some true/\1<=x.dF/\x.dF<=20
 aH:1<=u.aH.length/\u.aH.length<=3
 aX:∀(i:Nat) x,u.aH[i]?=some x->(1<=x.back/\x.back<=20)/\0<=x.high.low/\x.high.low<=x.high.high/\x.high.high<=60/\x.high.high - x.high.low<3
 told:u.told.length<=3
 xd:∀(i:Nat) x,u.told[i]?=some x->0<=x.aX/\x.aX<u.aH.length
theorem sR {o:Option Int}(h:∀r,o=some r->r≠0)(a:o.getD 0=0):o=none:=by
 cases o with
 |none=>rfl
 |some r=>exact absurd a (h r rfl)
theorem G8 (u:ak)(i:Nat)(x:b8)(r:Int)(h:gA u i x=some r):r≠0:=by
 unfold gA at h;revert h;cases bK x.aM 0 (IntKind.i64.wrap (u.bH - 1))<;>cases bK x.high 0 60<;>try (intro h;cases h;decide)
 cases i with
 |zero=>intro h;cases h
 |succ j=>
  simp only[cond_true];cases u.aD[j]? with
  |none=>intro h;cases h
  |some y=>dsimp only;cases decide (x.aM<=y.aM)<;>intro h<;>cases h<;>decide
theorem G9 (u:ak)(n:u.aD.length<=20)(h:e8 u=some 0):Fit u:=by
 have a:kg u=some 0:=h;clear h;unfold kg at a;rw[w7] at a;simp only[ag] at a;have hg:gV u=0:=by
  cases hg:(gV u != 0) with
  |true=>rw[hg] at a;exact Option.some.inj a
  |false=>simpa using hg
 rw[hg] at a;have a:nE u=some 0:=a;unfold nE at a;rw[(AZ u n).1] at a;simp only[ag] at a;generalize e:cond (bK (u.aD.length:Int) 2 5) ((dH (gA u) 0 u.aD).getD 0) 2=E at a;have v:E=0:=by
  cases c:(E != 0) with
  |true=>rw[c] at a;exact Option.some.inj a
  |false=>simpa using c
 rw[v] at a e;have a:nD u=some 0:=a;have hb:bK (u.aD.length:Int) 2 5=true:=by
  cases hb:bK (u.aD.length:Int) 2 5 with
  |true=>rfl
  |false=>rw[hb] at e;cases e
 rw[hb] at e;have K:=fS.1 hb;have o:=qi u.aD 0 (sR (mJ (G8 u) u.aD 0) e);obtain ⟨f,hf⟩:=A3 u (by omega) n;unfold nD at a;rw[xb u f hf] at a;simp only[ag] at a;generalize g:cond (decide (3<(u.props.length:Int))) 2 ((dH (iy u f) 0 u.props).getD 0)=p at a;have w:p=0:=by
  cases c:(p != 0) with
  |true=>rw[c] at a;exact Option.some.inj a
  |false=>simpa using c
 rw[w] at a g;have a:nC u=some 0:=a;have q:decide (3<(u.props.length:Int))=false:=by
  cases hb:decide (3<(u.props.length:Int)) with
  |false=>rfl
  |true=>rw[hb] at g;cases g
 rw[q] at g;have z:=qi u.props 0 (sR (mJ (A4 u f) u.props 0) g);unfold nC at a;rw[w9] at a;simp only[ag] at a;generalize j:cond (bK (u.aH.length:Int) 1 3) ((dH iz 0 u.aH).getD 0) 2=r at a;have A:r=0:=by
  cases c:(r != 0) with
  |true=>rw[c] at a;exact Option.some.inj a
  |false=>simpa using c
 rw[A] at a j;have a:nB u=some 0:=a;have s:bK (u.aH.length:Int) 1 3=true:=by
  cases hb:bK (u.aH.length:Int) 1 3 with
  |true=>rfl
  |false=>rw[hb] at j;cases j
 rw[s] at j;have L:=fS.1 s;have B:=qi u.aH 0 (sR (mJ A5 u.aH 0) j);unfold nB pS at a;rw[w8] at a;simp only[ag] at a;rw[A7] at a;have k:=Option.some.inj a;have t:decide (3<(u.told.length:Int))=false:=by
  cases hb:decide (3<(u.told.length:Int)) with
  |false=>rfl
  |true=>rw[hb] at k;cases k
 rw[t] at k;have C:=qi u.told 0 (sR (mJ (G4 u) u.told 0) k);have M:=of_decide_eq_false q;have N:=of_decide_eq_false t;clear a e g j k;have G:(2<=u.bH/\u.bH<=60)/\(0<=u.bV/\u.bV<=60)/\(1<=u.aF.den/\u.aF.den<=20)/\(0<=u.aF.num/\u.aF.num<=20):=by
  unfold gV at hg;refine ⟨fS.1 ?_,fS.1 ?_,fS.1 ?_,fS.1 ?_⟩<;>revert hg<;>cases bK u.bH 2 60<;>cases bK u.bV 0 60<;>cases bK u.aF.den 1 20<;>cases bK u.aF.num 0 20<;>intro hg<;>first|rfl|cases hg
 obtain ⟨D,F,H,I⟩:=G;have hw:IntKind.i64.wrap (u.bH - 1)=u.bH - 1:=cP (by omega);have l:∀(i:Nat) x,u.aD[i]?=some x->bK x.aM 0 (u.bH - 1)=true/\bK x.high 0 60=true:=by
  intro i x hx;have:=o i x hx;unfold gA at this;rw[hw] at this;revert this;cases bK x.aM 0 (u.bH - 1)<;>cases bK x.high 0 60<;>intro h<;>first|exact ⟨rfl,rfl⟩|cases h
 refine ⟨D,F,H,I,by omega,fun i x hx=>⟨fS.1 (l i x hx).1,fS.1 (l i x hx).2⟩,fun i x y hx m=>?_,by omega,fun i x hx=>?_,by omega,fun i x hx=>?_,by omega,fun i x hx=>?_⟩
 ·have:=o (i+1) y m;rw[Nat.zero_add] at this;unfold gA at this;rw[hw,(l _ _ m).1,(l _ _ m).2] at this;simp only[cond_true,hx] at this;cases hd:decide (y.aM<=x.aM) with
  |true=>rw[hd] at this;cases this
  |false=>have:=of_decide_eq_false hd;omega
 ·have:=z i x hx;unfold iy at this;revert this;rw[(hf x.place).1];cases f x.place<;>cases hb:bK x.dF 1 20<;>intro h<;>first|exact ⟨rfl,fS.1 hb⟩|cases h
 ·have:=B i x hx;unfold iz at this;cases b:bK x.back 1 20 with
  |false=>rw[b] at this;cases this
  |true=>
   cases d:k9 x.high 0 60 with
   |false=>rw[b,d] at this;cases this
   |true=>
    rw[b,d] at this;unfold k9 at d;simp only[Bool.and_eq_true,decide_eq_true_eq] at d;refine ⟨fS.1 b,d.1,d.2.1,d.2.2,?_⟩;cases hd:decide (3<=IntKind.i64.wrap (x.high.high - x.high.low)) with
    |true=>rw[hd] at this;cases this
    |false=>
     have J:=of_decide_eq_false hd;rw[cP (by omega)] at J;omega
 ·have:=C i x hx;unfold jH at this;cases b:iA u x.aX with
  |false=>rw[b] at this;cases this
  |true=>
   unfold iA at b;rw[cP (by omega)] at b;have:=fS.1 b;omega
theorem xe (g:Nat)(hg:0<g)(n:Int)(d:Nat):bw ((g:Int)*n) (g*d)=bw n d:=by
 unfold bw;have e1:((g:Int)*n).natAbs=g*n.natAbs:=by rw[Int.natAbs_mul,Int.natAbs_natCast]
 rw[e1,Nat.gcd_mul_left];have a:(0:Int)<(g:Int):=by omega
 congr 1
 ·rw[Int.natCast_mul,Int.mul_tdiv_mul_of_pos _ _ a]
 ·rw[Int.natCast_mul,Int.natCast_mul,Int.mul_tdiv_mul_of_pos _ _ a]
theorem xg (n:Int)(d:Nat)(hd:0<d):∃g a:Nat,0<g/\0<a/\d=g*a/\n=(g:Int)*(bw n d).num/\(bw n d).den=(a:Int):=by
 have hg:0<Nat.gcd n.natAbs d:=Nat.gcd_pos_of_pos_right _ hd;obtain ⟨a,b⟩:=Nat.gcd_dvd_right n.natAbs d;refine ⟨Nat.gcd n.natAbs d,a,hg,?_,b,?_,?_⟩
 ·rcases Nat.eq_zero_or_pos a with h|h
  ·rw[h,Nat.mul_zero] at b;omega
  ·exact h
 ·have c:((Nat.gcd n.natAbs d:Nat):Int) ∣ n:=Int.ofNat_dvd_left.2 (Nat.gcd_dvd_left _ _);unfold bw;exact (Int.mul_tdiv_cancel' c).symm
 ·have:(d:Int)=((Nat.gcd n.natAbs d:Nat):Int)*(a:Int):=by rw[<-Int.natCast_mul];exact congrArg _ b
  show (d:Int).tdiv ((Nat.gcd n.natAbs d:Nat):Int)=_;have e:((Nat.gcd n.natAbs d:Nat):Int)≠0:=by omega
  calc (d:Int).tdiv ((Nat.gcd n.natAbs d:Nat):Int)=(((Nat.gcd n.natAbs d:Nat):Int)*(a:Int)).tdiv ((Nat.gcd n.natAbs d:Nat):Int):=congrArg (fun z=>Int.tdiv z _) this
   _=(a:Int):=Int.mul_tdiv_cancel_left _ e
theorem dN {x y:Int}{A B:Nat}(hx:x.natAbs<=A)(a:y.natAbs<=B):(x*y).natAbs<=A*B:=by
 rw[Int.natAbs_mul];exact Nat.mul_le_mul hx a
theorem eg {n:Int}(h:n.natAbs<=9000000000000000000):IntKind.i64.wrap n=n:=cP (by omega)
structure Sm (r:an)(A B:Nat):Prop where
 num:r.num.natAbs<=A
 den:0<r.den/\r.den<=B
theorem qj {a b:an}{A B C D:Nat}(c:Sm a A B)(hb:Sm b C D)(h:A*D+C*B<=900000000000000000)(hd:B*D<=800000000000000000):
  ja a b=some (bw (a.num*b.den+b.num*a.den) (a.den*b.den).toNat):=by
 have d:=dN c.num (show b.den.natAbs<=D by have:=hb.den;omega)
 have f:=dN hb.num (show a.den.natAbs<=B by have:=c.den;omega)
 have g:=dN (show a.den.natAbs<=B by have:=c.den;omega) (show b.den.natAbs<=D by have:=hb.den;omega)
 have i:0<a.den*b.den:=Int.mul_pos c.den.1 hb.den.1
 unfold ja
 rw[eg (n:=a.num*b.den) (by omega),eg (n:=b.num*a.den) (by omega),eg (n:=a.den*b.den) (by omega),eg (by omega)]
 have e:a.den*b.den=(((a.den*b.den).toNat:Nat):Int):=by omega
 have:=qh (a.num*b.den+b.num*a.den) (a.den*b.den).toNat (by omega) (by omega) (by omega)
 rw[<-e] at this
 rw[this]
 rfl
theorem sS {a b:an}{A B C D:Nat}(c:Sm a A B)(hb:Sm b C D)(h:A*D+C*B<=900000000000000000)(hd:B*D<=800000000000000000):
  fc a b=some (bw (a.num*b.den - b.num*a.den) (a.den*b.den).toNat):=by
 have d:=dN c.num (show b.den.natAbs<=D by have:=hb.den;omega)
 have f:=dN hb.num (show a.den.natAbs<=B by have:=c.den;omega)
 have g:=dN (show a.den.natAbs<=B by have:=c.den;omega) (show b.den.natAbs<=D by have:=hb.den;omega)
 have i:0<a.den*b.den:=Int.mul_pos c.den.1 hb.den.1
 unfold fc
 rw[eg (n:=a.num*b.den) (by omega),eg (n:=b.num*a.den) (by omega),eg (n:=a.den*b.den) (by omega),eg (by omega)]
 have e:a.den*b.den=(((a.den*b.den).toNat:Nat):Int):=by omega
 have:=mI (a.num*b.den - b.num*a.den) (a.den*b.den).toNat (by omega) (by omega) (by omega)
 rw[<-e] at this
 rw[this]
 rfl
theorem xh {a b:an}{A B C D:Nat}(c:Sm a A B)(hb:Sm b C D)(h:A*D+C*B<=900000000000000000)(hd:B*D<=800000000000000000)(hC:C<=9000000000000000000):
  jb a b=some (bw (a.num*b.den - b.num*a.den) (a.den*b.den).toNat):=by
 unfold jb
 have e:=hb.num
 rw[eg (by omega)]
 have d:Sm (⟨0 - b.num,b.den⟩:an) C D:=⟨by show (0 - b.num).natAbs<=C;omega,hb.den⟩
 rw[qj c d h hd]
 show some (bw (a.num*b.den+(0 - b.num)*a.den) (a.den*b.den).toNat)=_
 rw[show a.num*b.den+(0 - b.num)*a.den=a.num*b.den - b.num*a.den by rw[Int.zero_sub,Int.neg_mul];omega]
def sU (x y:b8)(p:Int):Option an:=
 fR (IntKind.i64.wrap ((IntKind.i64.wrap (x.high*(IntKind.i64.wrap (y.aM - x.aM))))+(IntKind.i64.wrap ((IntKind.i64.wrap (y.high - x.high))*(IntKind.i64.wrap (p - x.aM)))))) (IntKind.i64.wrap (y.aM - x.aM))
theorem qk {α:Type}{l:List α}{i:Nat}{x:α}(h:l[i]?=some x):bh l (i:Int)=some x:=by unfold bh;rw[if_pos (by omega),Int.toNat_natCast,h]
theorem A8 (i:Nat)(h:i<1000):IntKind.i64.wrap ((i:Int)+1)=((i+1:Nat):Int):=by rw[cP (by omega)];omega
theorem piece (u:ak)(p:Int)(hl:u.aD.length<=5)(z:b8)(b:u.aD[u.aD.length - 1]?=some z)(f:p<=z.aM):∀(m i n:Nat) (x y:b8),i+1+m=u.aD.length - 1->m<n->u.aD[i]?=some x->u.aD[i+1]?=some y->
  ∃(k:Nat) (x y:b8),i<=k/\u.aD[k]?=some x/\u.aD[k+1]?=some y/\p<=y.aM/\(k=i\/x.aM<p)/\aS (nG u p) n ((i+1:Nat):Int)=some (.nx ((k+1:Nat):Int))/\
   aS (sM u p) n (i:Int)=ag (sU x y p) fun r=>some (.rt r)
 |m,i,n+1,x,y,s,t,hx,a=>by
  have v:i+1<u.aD.length:=(List.getElem?_eq_some_iff.1 a).1
  have d1:decide (((i+1:Nat):Int)<(u.aD.length:Int))=true:=decide_eq_true (by omega)
  unfold aS nG sM
  rw[A8 i (by omega),A8 (i+1) (by omega),qk hx,qk a,d1]
  simp only[ag,cond_true]
  by_cases c:y.aM<p
  ·have e1:decide (y.aM<p)=true:=decide_eq_true c
   have e2:decide (p<=y.aM)=false:=decide_eq_false (by omega)
   rw[e1,e2]
   simp only[cond_true,cond_false]
   cases m with
   |zero=>
    have:u.aD.length - 1=i+1:=by omega
    rw[this,a] at b
    cases b
    omega
   |succ m=>
    have g:i+1+1<u.aD.length:=by omega
    obtain ⟨k,h,y',w,d,j,l,e,o,q⟩:=piece u p hl z b f m (i+1) n y (u.aD[i+1+1]) (by omega) (by omega) a (List.getElem?_eq_getElem g)
    refine ⟨k,h,y',by omega,d,j,l,?_,o,q⟩
    rcases e with rfl|e
    ·rw[a] at d;cases d;exact .inr c
    ·exact .inr e
  ·have e1:decide (y.aM<p)=false:=decide_eq_false c
   have e2:decide (p<=y.aM)=true:=decide_eq_true (by omega)
   rw[e1,e2]
   refine ⟨i,x,y,Nat.le_refl _,hx,a,by omega,.inl rfl,rfl,?_⟩
   simp only[cond_true]
   unfold sU
   cases fR _ _<;>rfl
theorem jf (n:Int)(d:Nat)(hd:0<d):Sm (bw n d) n.natAbs d:=by
 obtain ⟨g,a,hg,c,e1,e2,b⟩:=xg n d hd;refine ⟨?_,?_⟩
 ·have:n.natAbs=g*(bw n d).num.natAbs:=by
   have:=congrArg Int.natAbs e2
   rwa [Int.natAbs_mul,Int.natAbs_natCast] at this
  rw[this];exact Nat.le_mul_of_pos_left _ hg
 ·rw[b];have:a<=d:=by rw[e1];exact Nat.le_mul_of_pos_left _ hg
  omega
theorem A9 (h:Int)(n:Int)(d:Nat)(hd:0<d):bw (h*(bw n d).den+(bw n d).num) ((bw n d).den).toNat=bw (h*d+n) d:=by
 obtain ⟨g,a,hg,f,e1,e2,b⟩:=xg n d hd;have k1:h*(d:Int)+n=(g:Int)*(h*(a:Int)+(bw n d).num):=by
  rw[Int.mul_add,<-e2,e1,Int.natCast_mul,Int.mul_left_comm]
 rw[b];have c:((a:Nat):Int).toNat=a:=Int.toNat_natCast a;rw[c,k1];have e:bw ((g:Int)*(h*(a:Int)+(bw n d).num)) d=bw ((g:Int)*(h*(a:Int)+(bw n d).num)) (g*a):=congrArg _ e1;rw[e,xe g hg]
theorem He (u:ak)(F:Fit u)(p:Int)(a z:b8)(f:u.aD[0]?=some a)(i:u.aD[u.aD.length - 1]?=some z)(j:a.aM<=p)(l:p<=z.aM):
  ∃r,jd u p=some r/\qf u p=some r/\Sm r 7200 60/\∃(k:Nat) (x y:b8) (d:Nat),u.aD[k]?=some x/\u.aD[k+1]?=some y/\x.aM<=p/\p<=y.aM/\y.aM - x.aM=d/\0<d/\r=bw (x.high*d+(y.high - x.high)*(p - x.aM)) d:=by
 have m:=F.aD
 obtain ⟨k,x,y,-,hx,c,o,g,q,t⟩:=piece u p m.2 z i l (u.aD.length - 2) 0 fu a (u.aD[1]'(by omega)) (by omega) (Nat.lt_of_le_of_lt (show u.aD.length - 2<=5 by omega) (by decide)) f (List.getElem?_eq_getElem _)
 have G:k+1<u.aD.length:=(List.getElem?_eq_some_iff.1 c).1
 have H:=F.mK k x hx
 have I:=F.mK (k+1) y c
 have J:=F.G7 k x y hx c
 have K:=F.bH
 have v:x.aM<=p:=by
  rcases g with rfl|g
  ·rw[f] at hx;cases hx;exact j
  ·omega
 have w:IntKind.i64.wrap (((k+1:Nat):Int) - 1)=(k:Int):=by rw[cP (by omega)];omega
 have w1:IntKind.i64.wrap (y.high - x.high)=y.high - x.high:=cP (by omega)
 have w2:IntKind.i64.wrap (p - x.aM)=p - x.aM:=cP (by omega)
 have w3:IntKind.i64.wrap (y.aM - x.aM)=y.aM - x.aM:=cP (by omega)
 have A:((y.high - x.high)*(p - x.aM)).natAbs<=60*60:=dN (by omega) (by omega)
 have h:(x.high*(y.aM - x.aM)).natAbs<=60*60:=dN (by omega) (by omega)
 obtain ⟨d,hd⟩:∃d:Nat,y.aM - x.aM=d:=⟨(y.aM - x.aM).toNat,by omega⟩
 generalize e:(y.high - x.high)*(p - x.aM)=n at A
 have b:0<d:=by omega
 have L:d<=60:=by omega
 have s1:=jf n d b
 have B:Sm (bw n d) 3600 60:=⟨Nat.le_trans s1.num (by omega),s1.den.1,by have:=s1.den.2;omega⟩
 have C:Sm (⟨x.high,1⟩:an) 60 1:=⟨by show x.high.natAbs<=60;omega,by show (0:Int)<1;omega,by show (1:Int)<=((1:Nat):Int);omega⟩
 refine ⟨bw (x.high*d+n) d,?_,?_,?_,k,x,y,d,hx,c,v,o,hd,b,by rw[e]⟩
 ·unfold jd
  have D:aS (nG u p) fu 1=some (.nx ((k+1:Nat):Int)):=q
  rw[D]
  simp only[ag,aA]
  rw[w,qk hx,qk c]
  simp only[fZ]
  rw[w1,w2,w3,e,hd,eg (by omega),qh n d (by omega) b (by omega)]
  simp only
  rw[qj C B (by omega) (by omega)]
  show some (bw (x.high*(bw n d).den+(bw n d).num*1) (1*(bw n d).den).toNat)=_
  rw[Int.mul_one,Int.one_mul,A9 x.high n d b]
 ·unfold qf
  have E:aS (sM u p) fu 0=ag (sU x y p) fun r=>some (.rt r):=t
  rw[E]
  unfold sU
  rw[w1,w2,w3,eg (n:=x.high*(y.aM - x.aM)) (by omega),e,eg (n:=n) (by omega),hd]
  rw[hd] at h
  rw[eg (n:=x.high*(d:Int)+n) (by omega),mI (x.high*d+n) d (by omega) b (by omega)]
  rfl
 ·have s:=jf (x.high*d+n) d b
  rw[hd] at h
  exact ⟨Nat.le_trans s.num (by omega),s.den.1,by have:=s.den.2;omega⟩
theorem Hf (u:ak)(F:Fit u)(p:Int)(a z:b8)(b:u.aD[0]?=some a)(c:u.aD[u.aD.length - 1]?=some z)(d:a.aM<=p)(e:p<=z.aM):
  ∃r,jd u p=some r/\qf u p=some r/\Sm r 7200 60:=by
 obtain ⟨r,f,g,h,-⟩:=He u F p a z b c d e
 exact ⟨r,f,g,h⟩
def Ba:ak:=⟨0,0,(⟨0,0⟩:an),([]:List b8),([]:List cm),([]:List b6),([]:List bU)⟩
theorem Bb {u:ak}{f:ak->Option Int}{x:Int}(h:e8 u=some 0)(hf:f u=some x):e9 u [f]=some (cond (x != 0) (Ba,x) (u,0)):=by
 unfold e9;rw[h];simp only[ag,bne_self_eq_false,cond_false];unfold bE r8;simp only[hf,ag];cases (x != 0)<;>rfl
theorem Hg (u:ak)(F:Fit u)(p:Int):∃a z,u.aD[0]?=some a/\u.aD[u.aD.length - 1]?=some z/\gb u p=some (bK p a.aM z.aM)/\mA u p=some (bK p a.aM z.aM):=by
 have c:=F.aD;have b:u.aD[0]?=some (u.aD[0]'(by omega)):=List.getElem?_eq_getElem _;have hl:u.aD[u.aD.length - 1]?=some (u.aD[u.aD.length - 1]'(by omega)):=List.getElem?_eq_getElem _;have hw:IntKind.i64.wrap ((u.aD.length:Int) - 1)=((u.aD.length - 1:Nat):Int):=by rw[cP (by omega)];omega
 refine ⟨_,_,b,hl,?_⟩;have k:gb u p=some (bK p (u.aD[0]'(by omega)).aM (u.aD[u.aD.length - 1]'(by omega)).aM):=by
  unfold gb;have e0:bh u.aD 0=some (u.aD[0]'(by omega)):=b;rw[hw,e0,qk hl,kz];simp only[ag,eU]
 exact ⟨k,k⟩
theorem xj {n m:Int}{d e:Nat}(hd:0<d)(he:0<e)(h:n*(e:Int)=m*(d:Int)):bw n d=bw m e:=by
 have a:=xe e he n d;have b:=xe d hd m e;rw[<-a,<-b];have e1:(e:Int)*n=(d:Int)*m:=by rw[Int.mul_comm,h,Int.mul_comm]
 rw[e1,Nat.mul_comm e d]
theorem lf (n:Int)(d:Nat)(hd:0<d):(bw n d).num*(d:Int)=n*(bw n d).den/\0<(bw n d).den:=by
 obtain ⟨g,a,hg,c,e1,e2,b⟩:=xg n d hd;refine ⟨?_,by rw[b];omega⟩;rw[b];have k1:(d:Int)=(g:Int)*(a:Int):=by rw[<-Int.natCast_mul];exact congrArg _ e1
 calc (bw n d).num*(d:Int)=(bw n d).num*((g:Int)*(a:Int)):=by rw[<-k1]
  _=((g:Int)*(bw n d).num)*(a:Int):=by rw[<-Int.mul_assoc,Int.mul_comm (bw n d).num]
  _=n*(a:Int):=by rw[<-e2]
theorem mL {a b:an}{A B C D:Nat}(c:Sm a A B)(hb:Sm b C D)(h:A*D<=9000000000000000000)(d:C*B<=9000000000000000000):gh a b=some (decide (a.num*b.den<b.num*a.den))/\eA a b=some (decide (a.num*b.den<b.num*a.den)):=by
 have e:=dN c.num (show b.den.natAbs<=D by have:=hb.den;omega);have f:=dN hb.num (show a.den.natAbs<=B by have:=c.den;omega);have k:gh a b=some (decide (a.num*b.den<b.num*a.den)):=by
  unfold gh;rw[eg (n:=a.num*b.den) (by omega),eg (n:=b.num*a.den) (by omega)]
 exact ⟨k,k⟩
theorem Hh {h md a d e b f c N:Int}(g:d*b=N*md)(i:e*f=c*a):(h*(md*a)+d*e)*(b*f)=(h*b*f+N*c)*(md*a):=by
 grind
theorem Bc (u:ak)(F:Fit u)(s:aY)(hs:(1<=s.back/\s.back<=20)/\0<=s.high/\s.high<=60)(at_:Int)(aM:Int)(hf:0<=aM/\aM<=60)(e:an)(he:Sm e 10000 100):
  ∃c,j8 u s at_ ⟨aM,e⟩=some ⟨⟨aM,e⟩,at_,c⟩/\mB u s aM e=some c/\c=bw (s.high*e.den*(aM+s.back)+(e.num - s.high*e.den)*(u.bH+s.back)) (e.den*(aM+s.back)).toNat:=by
 have G:=F.bH
 have w1:IntKind.i64.wrap (u.bH+s.back)=u.bH+s.back:=cP (by omega)
 have w2:IntKind.i64.wrap (aM+s.back)=aM+s.back:=cP (by omega)
 obtain ⟨f,b⟩:∃f:Nat,aM+s.back=f:=⟨(aM+s.back).toNat,by omega⟩
 have d:0<f:=by omega
 have H:f<=80:=by omega
 generalize m:u.bH+s.back=c at*
 have o:c.natAbs<=80:=by omega
 have p:Sm (⟨s.high,1⟩:an) 60 1:=⟨by show s.high.natAbs<=60;omega,by show (0:Int)<1;omega,by show (1:Int)<=((1:Nat):Int);omega⟩
 obtain ⟨a,j⟩:∃n:Nat,e.den=n:=⟨e.den.toNat,by have:=he.den;omega⟩
 have g:0<a:=by have:=he.den;omega
 have I:a<=100:=by have:=he.den;omega
 have z:(s.high*e.den).natAbs<=60*100:=dN (by omega) (by omega)
 have b2:(e.num - s.high*e.den).natAbs<=16000:=by have:=he.num;omega
 have q:=xh he p (by omega) (by omega) (by omega)
 have e1:e.num*(1:Int) - s.high*e.den=e.num - s.high*e.den:=by rw[Int.mul_one]
 have e2:(e.den*(1:Int)).toNat=a:=by rw[Int.mul_one,j,Int.toNat_natCast]
 rw[show ((⟨s.high,1⟩:an).den)=(1:Int) from rfl,show ((⟨s.high,1⟩:an).num)=s.high from rfl,e1,e2] at q
 generalize A:e.num - s.high*e.den=N at*
 have sm:=jf N a g
 have r:=jf c f d
 have t:=lf N a g
 have v:=lf c f d
 have J:((bw N a).num*(bw c f).num).natAbs<=16000*80:=dN (Nat.le_trans sm.num b2) (Nat.le_trans r.num o)
 have K:((bw N a).den*(bw c f).den).natAbs<=100*80:=dN (by have:=sm.den;omega) (by have:=r.den;omega)
 have L:0<(bw N a).den*(bw c f).den:=Int.mul_pos t.2 v.2
 obtain ⟨M,hM⟩:∃M:Nat,(bw N a).den*(bw c f).den=M:=⟨((bw N a).den*(bw c f).den).toNat,by omega⟩
 have h:0<M:=by omega
 have B:=qh c f (by omega) d (by omega)
 have C:=qh ((bw N a).num*(bw c f).num) M (by omega) h (by omega)
 have sq:=jf ((bw N a).num*(bw c f).num) M h
 have D:Sm (bw ((bw N a).num*(bw c f).num) M) 1280000 8000:=⟨Nat.le_trans sq.num (by omega),sq.den.1,by have:=sq.den.2;omega⟩
 have w:=qj p D (by omega) (by omega)
 have E:s.high*(bw ((bw N a).num*(bw c f).num) M).den+(bw ((bw N a).num*(bw c f).num) M).num*1=s.high*(bw ((bw N a).num*(bw c f).num) M).den+(bw ((bw N a).num*(bw c f).num) M).num:=by rw[Int.mul_one]
 rw[show ((⟨s.high,1⟩:an).den)=(1:Int) from rfl,show ((⟨s.high,1⟩:an).num)=s.high from rfl,E,Int.one_mul,A9 s.high _ M h] at w
 have k:e.den*(aM+s.back)=((a*f:Nat):Int):=by rw[j,b,Int.natCast_mul]
 have i:(e.den*(aM+s.back)).toNat=a*f:=by rw[k,Int.toNat_natCast]
 have x:bw (s.high*(M:Int)+(bw N a).num*(bw c f).num) M=bw (s.high*e.den*(aM+s.back)+N*c) (a*f):=by
  refine xj h (Nat.mul_pos g d) ?_
  rw[Int.natCast_mul,<-hM,b,j]
  exact Hh (by rw[t.1]) (by rw[v.1])
 refine ⟨_,?_,?_,rfl⟩
 ·unfold j8
  have l:IntKind.i64.wrap (f:Int)=f:=cP (by omega)
  simp only[fZ,ag,q,m,w1,b,l,B]
  rw[eg (by omega),eg (n:=(bw N a).den*(bw c f).den) (by omega),hM,C]
  simp only[w]
  rw[b] at i x
  rw[i,x]
 ·unfold mB
  have l:IntKind.i64.wrap (f:Int)=f:=cP (by omega)
  have O:(s.high*e.den*(f:Int)).natAbs<=6000*80:=dN z (by omega)
  have p2:(N*c).natAbs<=16000*80:=dN b2 o
  have p3:(e.den*(f:Int)).natAbs<=100*80:=dN (by omega) (by omega)
  simp only[m,w1,b,l]
  rw[eg (n:=s.high*e.den) (by omega),A,eg (n:=N) (by omega),eg (n:=s.high*e.den*(f:Int)) (by omega),eg (n:=N*c) (by omega),eg (n:=s.high*e.den*(f:Int)+N*c) (by omega),eg (n:=e.den*(f:Int)) (by omega)]
  rw[b] at k i
  have y:=mI (s.high*e.den*(f:Int)+N*c) (a*f) (by omega) (Nat.mul_pos g d) (by omega)
  rw[i]
  rw[<-k] at y
  rw[y]
  rfl
theorem Hi (s:aY)(u:ak):eJ s u=wV s:=rfl
def xk (s:aY):Int:=cond (bK s.back 1 20) (cond (bK s.high 0 60) 0 1) 1
theorem Hj (s:aY):wV s=some (xk s):=by
 unfold wV xk;simp only[eU,ag];cases bK s.back 1 20<;>cases bK s.high 0 60<;>rfl
def dO (u:ak)(s:aY)(x:b8):an:=bw (s.high*1*(x.aM+s.back)+(x.high - s.high*1)*(u.bH+s.back)) (1*(x.aM+s.back)).toNat
theorem Be (u:ak)(F:Fit u)(s:aY)(hs:(1<=s.back/\s.back<=20)/\0<=s.high/\s.high<=60)(i:Nat)(x:b8)(hx:u.aD[i]?=some x)(at_:Int):
  j8 u s at_ ⟨x.aM,⟨x.high,1⟩⟩=some ⟨⟨x.aM,⟨x.high,1⟩⟩,at_,dO u s x⟩/\mB u s x.aM ⟨x.high,1⟩=some (dO u s x):=by
 have p:=F.mK i x hx
 have e:=F.bH
 have he:Sm (⟨x.high,1⟩:an) 10000 100:=⟨by show x.high.natAbs<=10000;omega,by show (0:Int)<1;omega,by show (1:Int)<=((100:Nat):Int);omega⟩
 obtain ⟨c,a,b,d⟩:=Bc u F s hs at_ x.aM (by omega) ⟨x.high,1⟩ he
 have:c=dO u s x:=d
 subst this
 exact ⟨a,b⟩
theorem Bf (u:ak)(F:Fit u)(s:aY)(hs:(1<=s.back/\s.back<=20)/\0<=s.high/\s.high<=60)(i:Nat)(x:b8)(hx:u.aD[i]?=some x):Sm (dO u s x) 10000 100:=by
 have p:=F.mK i x hx;have a:=F.bH;unfold dO;rw[Int.mul_one,Int.one_mul];have b:(s.high*(x.aM+s.back)).natAbs<=60*79:=dN (by omega) (by omega);have b2:((x.high - s.high)*(u.bH+s.back)).natAbs<=60*80:=dN (by omega) (by omega);have h:=jf (s.high*(x.aM+s.back)+(x.high - s.high)*(u.bH+s.back)) (x.aM+s.back).toNat (by omega);exact ⟨Nat.le_trans h.num (by omega),h.den.1,by have:=h.den.2;omega⟩
def foldI {α σ:Type}(g:Nat->α->σ->σ):Nat->List α->σ->σ
 |_,[],s=>s
 |i,x::l,s=>foldI g (i+1) l (g i x s)
theorem iB {α σ ρ:Type}{f:Nat->α->σ->Option (Fl σ ρ)}{g:Nat->α->σ->σ}{I:Nat->σ->Prop}:∀(l:List α) (i:Nat) (s:σ),I i s->(∀j x s,l[j]?=some x->I (i+j) s->f (i+j) x s=some (.nx (g (i+j) x s))/\I (i+j+1) (g (i+j) x s))->
  bE f i l s=some (.nx (foldI g i l s))/\I (i+l.length) (foldI g i l s)
 |[],i,s,hs,_=>⟨rfl,hs⟩
 |x::l,i,s,hs,h=>by
  obtain ⟨a,b⟩:=h 0 x s rfl hs
  simp only[Nat.add_zero] at a b
  unfold bE foldI
  rw[a]
  have:=iB l (i+1) _ b fun j y s c hs=>by
   have:=h (j+1) y s (by simpa using c) (by rwa [show i+(j+1)=i+1+j by omega])
   rwa [show i+(j+1)=i+1+j by omega] at this
  rwa [show i+1+l.length=i+(x::l).length by simp;omega] at this
theorem Bg {α σ τ ρ:Type}{f:τ->Option (Fl τ ρ)}{g:Nat->α->σ->σ}{I:Nat->σ->Prop}(e:σ->Int->τ)(l:List α)(h:∀(i:Nat) x s,l[i]?=some x->I i s->f (e s (i:Int))=some (.nx (e (g i x s) ((i+1:Nat):Int)))/\I (i+1) (g i x s))(a:∀s,f (e s (l.length:Int))=some (.bk (e s (l.length:Int)))):
  ∀(k i n:Nat) (s:σ),I i s->i+k=l.length->k<n->aS f n (e s (i:Int))=some (.nx (e (foldI g i (l.drop i) s) (l.length:Int)))/\I l.length (foldI g i (l.drop i) s)
 |0,i,n+1,s,hs,hi,_=>by
  obtain rfl:i=l.length:=by omega
  unfold aS
  rw[a,List.drop_length]
  exact ⟨rfl,hs⟩
 |k+1,i,n+1,s,hs,hi,j=>by
  have b:i<l.length:=by omega
  have hx:l[i]?=some l[i]:=List.getElem?_eq_getElem b
  obtain ⟨c,d⟩:=h i _ s hx hs
  unfold aS
  rw[c,List.drop_eq_getElem_cons b]
  unfold foldI
  exact Bg e l h a k (i+1) n _ d (by omega) (by omega)
theorem ob {α σ τ ρ:Type}{f:τ->Option (Fl τ ρ)}{g:Nat->α->σ->σ}{I:Nat->σ->Prop}(e:σ->Int->τ)(l:List α)(hl:l.length<=1000)(h:∀(i:Nat) x s,l[i]?=some x->I i s->f (e s (i:Int))=some (.nx (e (g i x s) ((i+1:Nat):Int)))/\I (i+1) (g i x s))(a:∀s,f (e s (l.length:Int))=some (.bk (e s (l.length:Int))))(s:σ)(hs:I 0 s):
  aS f fu (e s 0)=some (.nx (e (foldI g 0 l s) (l.length:Int)))/\I l.length (foldI g 0 l s):=by
 have:=Bg e l h a l.length 0 fu s hs (by omega) (Nat.lt_of_le_of_lt hl (by decide))
 simpa using this
theorem Bh {α σ:Type}{g g':Nat->α->σ->σ}:∀(l:List α) (i:Nat) (s:σ),(∀j x s,i<=j->g j x s=g' j x s)->foldI g i l s=foldI g' i l s
 |[],_,_,_=>rfl
 |x::l,i,s,h=>by
  unfold foldI
  rw[h i x s (Nat.le_refl _)]
  exact Bh l (i+1) _ fun j x s a=>h j x s (by omega)
def bA (a b:an):Bool:=decide (a.num*b.den<b.num*a.den)
abbrev SR (r:an):Prop:=Sm r 2000000 8000
theorem Sm.mono {r:an}{A B a b:Nat}(h:Sm r A B)(c:A<=a)(hb:B<=b):Sm r a b:=⟨Nat.le_trans h.num c,h.den.1,by have:=h.den.2;omega⟩
theorem sV (u:ak)(F:Fit u)(s:aY)(hs:(1<=s.back/\s.back<=20)/\0<=s.high/\s.high<=60)(i:Nat)(x:b8)(hx:u.aD[i]?=some x):SR (dO u s x):=(Bf u F s hs i x hx).mono (by decide) (by decide)
theorem lg {a b:an}(c:SR a)(hb:SR b):gh a b=some (bA a b)/\eA a b=some (bA a b):=mL c hb (by decide) (by decide)
def gB (u:ak)(s:aY)(i:Nat)(x:b8)(st:Int×an):Int×an:=cond (bA st.2 (dO u s x)) ((i:Int),dO u s x) st
def iC (u:ak)(s:aY)(i:Nat)(x:b8):bt:=⟨⟨x.aM,⟨x.high,1⟩⟩,(i:Int),dO u s x⟩
def fe (u:ak)(s:aY):Nat->List b8->List bt
 |_,[]=>[]
 |i,x::l=>iC u s i x::fe u s (i+1) l
theorem Bi (u:ak)(s:aY):∀(l:List b8) (i:Nat) (a:List bt),foldI (fun i x st=>st++[iC u s i x]) i l a=a++fe u s i l
 |[],i,a=>by simp[foldI,fe]
 |x::l,i,a=>by simp[foldI,fe,Bi u s l (i+1)]
def gC (i:Nat)(x:bt)(st:bt):bt:=cond (bA st.high x.high) x st
theorem Bj (u:ak)(s:aY):∀(l:List b8) (i j:Nat) (c:bt),let r:=foldI gC j (fe u s i l) c;(r.at_,r.high)=foldI (gB u s) i l (c.at_,c.high)
 |[],i,j,c=>rfl
 |x::l,i,j,c=>by
  simp only[fe,foldI]
  have:=Bj u s l (i+1) (j+1) (gC j (iC u s i x) c)
  simp only at this
  rw[this]
  congr 1
  unfold gC gB iC
  cases bA c.high (dO u s x)<;>rfl
theorem xl (n:Int):fZ n=some ⟨n,1⟩:=rfl
def c6 (u:ak)(s:aY):Int×an:=match u.aD with
 |[]=>(0,⟨0,0⟩)
 |x::l=>foldI (gB u s) 1 l (0,dO u s x)
section
variable {u : ak} {s : aY} (F : Fit u) (hs : (1 ≤ s.back ∧ s.back ≤ 20) ∧ 0 ≤ s.high ∧ s.high ≤ 60)
include F hs
theorem Hl:bE (nF u s) 0 u.aD ([]:List bt)=some (.nx (fe u s 0 u.aD)):=by
 have hl:=F.aD;have:=iB (f:=nF u s) (ρ:=bt) (g:=fun i x st=>st++[iC u s i x]) (I:=fun i st=>st.length=i) u.aD 0 [] rfl (fun j x st a b=>?_)
 ·rw[this.1,Bi];rfl
 ·have c:j<u.aD.length:=(List.getElem?_eq_some_iff.1 a).1;refine ⟨?_,by simp[b]⟩;unfold nF;rw[Nat.zero_add] at b ⊢;simp only[xl,ag,(Be u F s hs j x a (j:Int)).1];unfold cZ;rw[if_pos (by simp;omega)];rfl
theorem Bl:∀(l:List b8) (i:Nat),(∀(j:Nat) x,l[j]?=some x->u.aD[i+j]?=some x)->∀(j:Nat) c,(fe u s i l)[j]?=some c->SR c.high
 |[],_,_,j,c,h=>by simp[fe] at h
 |x::l,i,hl,0,c,h=>by
  simp[fe] at h
  subst h
  exact sV u F s hs i x (hl 0 x rfl)
 |x::l,i,hl,j+1,c,h=>Bl l (i+1) (fun j y a=>by have:=hl (j+1) y (by simpa using a);rwa [show i+(j+1)=i+1+j by omega] at this) j c (by simpa [fe] using h)
theorem sW:∃c,jA u s=some c/\(c.at_,c.high)=c6 u s/\SR c.high/\wX u s=some (c6 u s):=by
 have hl:=F.aD;have n:=Hl F hs;obtain ⟨a,rest,he⟩:∃x l,u.aD=x::l:=by
  cases h:u.aD with
  |nil=>rw[h] at hl;simp at hl
  |cons x l=>exact ⟨x,l,rfl⟩
 have o:u.aD[0]?=some a:=by rw[he];rfl
 have p:∀(j:Nat) x,rest[j]?=some x->u.aD[1+j]?=some x:=fun j x h=>by rw[he,Nat.add_comm];simpa using h
 have t:rest.length<=4:=by rw[he] at hl;simp at hl;omega
 have q:SR (dO u s a):=sV u F s hs 0 a o
 have hg:=iB (f:=j9 ga) (ρ:=bt) (g:=gC) (I:=fun _ c=>SR c.high) (fe u s 1 rest) 0 (iC u s 0 a) q (fun j c st k d=>by
  have b:=Bl F hs rest 1 p j c k;refine ⟨?_,?_⟩
  ·unfold j9 ga gC;simp only[(lg d b).2,ag];cases bA st.high c.high<;>rfl
  ·unfold gC;cases bA st.high c.high
   ·exact d
   ·exact b)
 refine ⟨foldI gC 0 (fe u s 1 rest) (iC u s 0 a),?_,?_,hg.2,?_⟩
 ·unfold jA;rw[n,he];simp only[ag,aA,fe];rw[show bh (iC u s 0 a::fe u s (0+1) rest) 0=some (iC u s 0 a) from rfl];simp only;have:hH (iC u s 0 a::fe u s (0+1) rest) 1 (((iC u s 0 a::fe u s (0+1) rest).length:Nat):Int)=some (fe u s 1 rest):=by
   unfold hH;rw[if_pos (by simp only[List.length_cons];omega)];simp
  rw[this];simp only;unfold jc;rw[hg.1];rfl
 ·have:=Bj u s rest 1 0 (iC u s 0 a);simp only at this;rw[this];unfold c6;rw[he];rfl
 ·unfold wX;have r:=ob (f:=sL u s) (g:=fun i x st=>if i=0 then ((0:Int),dO u s x) else gB u s i x st) (I:=fun i st=>i=0\/SR st.2) (fun st i=>(st.1,i,st.2)) u.aD (by omega) (fun i x st hx d=>?_) (fun st=>?_) ((0:Int),(⟨0,0⟩:an)) (.inl rfl)
  ·rw[r.1,he];simp only[ag,aA,foldI,if_pos];rw[Bh (g':=gB u s) rest (0+1) _ (fun j x st k=>if_neg (by omega))];unfold c6;rw[he]
  ·have v:i<u.aD.length:=(List.getElem?_eq_some_iff.1 hx).1;have b:=sV u F s hs i x hx;unfold sL;simp only;rw[show decide ((i:Int)<(u.aD.length:Int))=true by simp;omega];simp only[cond_true];rw[show bh u.aD (i:Int)=some x by unfold bh;rw[if_pos (by omega)];simpa using hx];simp only[ag,(Be u F s hs i x hx 0).2];have hw:IntKind.i64.wrap ((i:Int)+1)=((i+1:Nat):Int):=by rw[cP (by omega)];rfl
   rw[hw];by_cases e:i=0
   ·subst e;exact ⟨rfl,.inr b⟩
   ·have m:SR st.2:=d.resolve_left e;rw[show (((i:Nat):Int)==0)=false by simp;omega];simp only[cond_false,(lg m b).1,if_neg e];unfold gB;cases bA st.2 (dO u s x)
    ·exact ⟨rfl,.inr m⟩
    ·exact ⟨rfl,.inr b⟩
  ·unfold sL;simp
end
section
variable {u : ak} {s : aY} (F : Fit u) (hs : (1 ≤ s.back ∧ s.back ≤ 20) ∧ 0 ≤ s.high ∧ s.high ≤ 60)
include F hs
theorem Ho:Sm (⟨u.bV,1⟩:an) 60 1:=⟨by have:=F.bV;show u.bV.natAbs<=60;omega,by show (0:Int)<1;omega,by show (1:Int)<=((1:Nat):Int);omega⟩
theorem Hp:SR (c6 u s).2:=by
 obtain ⟨c,d,a,b,e⟩:=sW F hs;rw[<-a];exact b
end
theorem Bm {a b c:an}(d:0<a.den)(hb:0<b.den)(h:0<c.den)(e:bA b a=false)(f:bA b c=true):bA c a=false:=by
 unfold bA at*;simp only[decide_eq_false_iff_not,decide_eq_true_eq,Int.not_lt] at*;have k1:a.num*b.den*c.den<=b.num*a.den*c.den:=Int.mul_le_mul_of_nonneg_right e (by omega);have i:b.num*c.den*a.den<c.num*b.den*a.den:=Int.mul_lt_mul_of_pos_right f d;have g:b.den*(a.num*c.den)<b.den*(c.num*a.den):=by
  have e1:b.den*(a.num*c.den)=a.num*b.den*c.den:=by grind
  have e2:b.den*(c.num*a.den)=c.num*b.den*a.den:=by grind
  have j:b.num*a.den*c.den=b.num*c.den*a.den:=by grind
  omega
 exact Int.le_of_lt (Int.lt_of_mul_lt_mul_left g (by omega))
theorem jg (a:an):bA a a=false:=by unfold bA;simp
theorem xm {a b:an}(h:bA a b=true):bA b a=false:=by
 unfold bA at*;simp only[decide_eq_false_iff_not,decide_eq_true_eq,Int.not_lt] at*;omega
def xo (u:ak)(s:aY)(aM:Int)(e:an):an:=bw (s.high*e.den*(aM+s.back)+(e.num - s.high*e.den)*(u.bH+s.back)) (e.den*(aM+s.back)).toNat
def dI (u:ak)(x:cm):an:=match jd u x.place with
 |some r=>bw (r.num+x.dF*r.den) r.den.toNat
 |none=>⟨0,0⟩
def eC (u:ak)(s:aY)(x:cm):an:=xo u s x.place (dI u x)
section
variable {u : ak} {s : aY} (F : Fit u) (hs : (1 ≤ s.back ∧ s.back ≤ 20) ∧ 0 ≤ s.high ∧ s.high ≤ 60)
include F hs
theorem xp {i:Nat}{x:cm}(hx:u.props[i]?=some x):∃r,jd u x.place=some r/\qf u x.place=some r/\ja r ⟨x.dF,1⟩=some (dI u x)/\
  fR (IntKind.i64.wrap (r.num+IntKind.i64.wrap (x.dF*r.den))) r.den=some (dI u x)/\(∀at_,j8 u s at_ ⟨x.place,dI u x⟩=some ⟨⟨x.place,dI u x⟩,at_,eC u s x⟩)/\mB u s x.place (dI u x)=some (eC u s x)/\SR (eC u s x):=by
 obtain ⟨t,p2,p3⟩:=F.prop i x hx
 obtain ⟨a,z,j,k,l,G⟩:=Hg u F x.place
 rw[t] at l
 have hb:bK x.place a.aM z.aM=true:=(Option.some.inj l).symm
 unfold bK at hb
 simp only[Bool.and_eq_true,decide_eq_true_eq] at hb
 have H:=F.mK _ a j
 have I:=F.mK _ z k
 have J:=F.bH
 obtain ⟨r,m,v,b⟩:=Hf u F x.place a z j k hb.1 hb.2
 have sh:Sm (⟨x.dF,1⟩:an) 20 1:=⟨by show x.dF.natAbs<=20;omega,by show (0:Int)<1;omega,by show (1:Int)<=((1:Nat):Int);omega⟩
 have K:(x.dF*r.den).natAbs<=20*60:=dN (by omega) (by have:=b.den;omega)
 obtain ⟨d,hd⟩:∃d:Nat,r.den=d:=⟨r.den.toNat,by have:=b.den;omega⟩
 have o:0<d:=by have:=b.den;omega
 have L:d<=60:=by have:=b.den;omega
 have M:=b.num
 have h:dI u x=bw (r.num+x.dF*r.den) d:=by
  unfold dI
  rw[m]
  simp only
  rw[hd,Int.toNat_natCast]
 have e:Sm (dI u x) 10000 100:=by
  rw[h]
  have:=jf (r.num+x.dF*r.den) d o
  exact ⟨Nat.le_trans this.num (by omega),this.den.1,by have:=this.den.2;omega⟩
 have w:=qj b sh (by decide) (by decide)
 have p:=mI (r.num+x.dF*r.den) d (by omega) o (by omega)
 have q:∀at_,j8 u s at_ ⟨x.place,dI u x⟩=some ⟨⟨x.place,dI u x⟩,at_,eC u s x⟩/\mB u s x.place (dI u x)=some (eC u s x):=fun at_=>by
  obtain ⟨c,c1,c2,c3⟩:=Bc u F s hs at_ x.place ⟨by omega,by omega⟩ (dI u x) e
  subst c3
  exact ⟨c1,c2⟩
 refine ⟨r,m,v,?_,?_,fun at_=>(q at_).1,(q 0).2,?_⟩
 ·rw[w,h]
  show some (bw (r.num*1+x.dF*r.den) (r.den*1).toNat)=_
  rw[Int.mul_one,Int.mul_one,hd,Int.toNat_natCast]
 ·rw[eg (n:=x.dF*r.den) (by omega),eg (by omega),h]
  rw[hd] at p ⊢
  exact p
 ·unfold eC xo
  obtain ⟨f,y⟩:∃f:Nat,x.place+s.back=f:=⟨(x.place+s.back).toNat,by omega⟩
  obtain ⟨g,A⟩:∃n:Nat,(dI u x).den=n:=⟨(dI u x).den.toNat,by have:=e.den;omega⟩
  have B:0<g:=by have:=e.den;omega
  have C:g<=100:=by have:=e.den;omega
  have N:=e.num
  have D:(s.high*(dI u x).den).natAbs<=60*100:=dN (by omega) (by omega)
  have b2:(s.high*(dI u x).den*(x.place+s.back)).natAbs<=6000*80:=dN D (by omega)
  have b3:(((dI u x).num - s.high*(dI u x).den)*(u.bH+s.back)).natAbs<=16000*80:=dN (by omega) (by omega)
  have E:((dI u x).den*(x.place+s.back)).toNat=g*f:=by rw[A,y,<-Int.natCast_mul,Int.toNat_natCast]
  rw[E]
  have:=jf (s.high*(dI u x).den*(x.place+s.back)+((dI u x).num - s.high*(dI u x).den)*(u.bH+s.back)) (g*f) (Nat.mul_pos B (by omega))
  have O:g*f<=100*80:=Nat.mul_le_mul C (by omega)
  exact ⟨Nat.le_trans this.num (by omega),this.den.1,by have:=this.den.2;omega⟩
end
def same (x:cm)(e:an)(y:bt):Bool:=(y.spot.aM==x.place)&&((y.spot.high.num==e.num)&&(y.spot.high.den==e.den))
def gT (u:ak)(s:aY)(i:Nat)(x:cm)(st:List bt):List bt:=cond (st.any (same x (dI u x))) st (st++[⟨⟨x.place,dI u x⟩,(i:Int),eC u s x⟩])
def cG (a b:an):an:=cond (bA a b) b a
def gM (u:ak)(s:aY)(i:Nat)(x:cm)(b:an):an:=if i=0 then eC u s x else cG b (eC u s x)
theorem Bn (x:cm)(e:an):∀(l:List bt) (i:Nat),bE (pU x e) i l ()=some (cond (l.any (same x e)) (.br 1 ()) (.nx ()):Fl Unit (List bt))
 |[],i=>rfl
 |y::l,i=>by
  unfold bE pU
  rw[show ((y.spot.aM==x.place)&&((y.spot.high.num==e.num)&&(y.spot.high.den==e.den)))=same x e y from rfl,List.any_cons]
  cases same x e y
  ·simp only[cond_false,ag,Bool.false_or]
   exact Bn x e l (i+1)
  ·rfl
theorem xq {a b:an}(c:SR a)(hb:SR b):gU a b=some (cG a b):=by
 unfold gU cG;simp only[(lg c hb).1,ag];cases bA a b<;>rfl
theorem ql {a b:an}(c:SR a)(hb:SR b):SR (cG a b):=by unfold cG;cases bA a b;exact c;exact hb
def sX:List bt->an
 |[]=>⟨0,0⟩
 |c::l=>(foldI gC 0 l c).high
theorem Bo {α σ:Type}{g:Nat->α->σ->σ}:∀(l:List α) (i:Nat) (y:α) (s:σ),foldI g i (l++[y]) s=g (i+l.length) y (foldI g i l s)
 |[],i,y,s=>rfl
 |x::l,i,y,s=>by
  simp only[List.cons_append,foldI,List.length_cons]
  rw[Bo l (i+1) y]
  congr 1
  omega
theorem Hq (c:bt)(l:List bt)(y:bt):sX (c::l++[y])=cG (sX (c::l)) y.high:=by
 show (foldI gC 0 (l++[y]) c).high=_;rw[Bo];show (cond (bA (foldI gC 0 l c).high y.high) y (foldI gC 0 l c)).high=cond (bA (foldI gC 0 l c).high y.high) y.high (foldI gC 0 l c).high;cases bA (foldI gC 0 l c).high y.high<;>rfl
structure Tp (u:ak)(s:aY)(st:List bt)(b:an):Prop where
 ne:st≠[]
 Bp:b=sX st
 sm:SR b
 le:∀y∈st,bA b y.high=false/\SR y.high/\y.high=xo u s y.spot.aM y.spot.high
theorem Tp.step {u:ak}{s:aY}{st:List bt}{b:an}(h:Tp u s st b){x:cm}(d:SR (eC u s x))(i:Nat):Tp u s (gT u s i x st) (cG b (eC u s x)):=by
 unfold gT;cases k:st.any (same x (dI u x)) with
 |true=>
  simp only[cond_true];obtain ⟨y,a,f⟩:=List.any_eq_true.1 k;have hl:=h.le y a;have e:y.high=eC u s x:=by
   rw[hl.2.2];unfold same at f;simp only[Bool.and_eq_true,beq_iff_eq] at f;obtain ⟨e1,e2,g⟩:=f;unfold eC;have:y.spot.high=dI u x:=by
    cases m:y.spot.high;cases n:dI u x;rw[m,n] at e2 g;simp only at e2 g;rw[e2,g]
   rw[e1,this]
  have:cG b (eC u s x)=b:=by
   unfold cG;rw[<-e,hl.1];rfl
  rw[this];exact h
 |false=>
  simp only[cond_false];obtain ⟨c,l,rfl⟩:∃c l,st=c::l:=by
   cases st with
   |nil=>exact absurd rfl h.ne
   |cons c l=>exact ⟨c,l,rfl⟩
  refine ⟨by simp,?_,ql h.sm d,fun y a=>?_⟩
  ·rw[Hq,<-h.Bp]
  ·rcases List.mem_append.1 a with a|a
   ·have hl:=h.le y a;refine ⟨?_,hl.2⟩;unfold cG;cases j:bA b (eC u s x) with
    |false=>exact hl.1
    |true=>exact Bm hl.2.1.den.1 h.sm.den.1 d.den.1 hl.1 j
   ·simp at a;subst a;refine ⟨?_,d,rfl⟩;unfold cG;cases j:bA b (eC u s x) with
    |false=>exact j
    |true=>exact jg _
theorem Tp.fold {u:ak}{s:aY}:∀(l:List cm) (i:Nat) (st:List bt) (b:an),1<=i->(∀x∈l,SR (eC u s x))->Tp u s st b->Tp u s (foldI (gT u s) i l st) (foldI (gM u s) i l b)
 |[],_,_,_,_,_,h=>h
 |x::l,i,st,b,hi,hl,h=>by
  unfold foldI
  have e:gM u s i x b=cG b (eC u s x):=if_neg (by omega)
  rw[e]
  exact Tp.fold l (i+1) _ _ (by omega) (fun y a=>hl y (List.mem_cons_of_mem _ a)) (h.step (hl x (List.mem_cons_self ..)) i)
theorem Tp.all {u:ak}{s:aY}(x:cm)(l:List cm)(hl:∀y∈x::l,SR (eC u s y)):Tp u s (foldI (gT u s) 0 (x::l) []) (foldI (gM u s) 0 (x::l) ⟨0,0⟩):=by
 unfold foldI;have hx:=hl x (List.mem_cons_self ..);refine Tp.fold l 1 _ _ (Nat.le_refl _) (fun y a=>hl y (List.mem_cons_of_mem _ a)) ⟨by simp[gT],?_,?_,?_⟩
 ·simp[gT,gM,sX,foldI]
 ·exact hx
 ·intro y a;simp[gT] at a;subst a;exact ⟨by simp[gM];exact jg _,hx,rfl⟩
section
variable {u : ak} {s : aY} (F : Fit u) (hs : (1 ≤ s.back ∧ s.back ≤ 20) ∧ 0 ≤ s.high ∧ s.high ≤ 60)
include F hs
theorem Hr:∀x∈u.props,SR (eC u s x):=fun x hx=>by
 obtain ⟨i,hi,rfl⟩:=List.getElem_of_mem hx
 obtain ⟨r,_,_,_,_,_,_,h⟩:=xp F hs (i:=i) (List.getElem?_eq_getElem hi)
 exact h
theorem Hs:jB u s=some (foldI (gT u s) 0 u.props []):=by
 have hl:=F.props;unfold jB
 have:=iB (f:=pV u s) (ρ:=List bt) (g:=gT u s) (I:=fun i st=>st.length<=i) u.props 0 [] (Nat.le_refl _) (fun j x st a b=>by
  have h:j<u.props.length:=(List.getElem?_eq_some_iff.1 a).1;obtain ⟨r,c,k,d,l,e,m,n⟩:=xp F hs a;rw[Nat.zero_add] at b ⊢;unfold pV;simp only[c,ag,xl,d,Bn];unfold gT;cases o:st.any (same x (dI u x)) with
  |true=>exact ⟨rfl,by simp only[cond_true];omega⟩
  |false=>
   simp only[cond_false,aA,ag,e];unfold cZ;rw[if_pos (by simp;omega)]
   exact ⟨rfl,by simp;omega⟩)
 rw[this.1];rfl
theorem Ht:k8 u s=some (foldI (gM u s) 0 u.props ⟨0,0⟩,decide (0<(u.props.length:Int))):=by
 have hl:=F.props;unfold k8
 have:=ob (f:=sN u s) (g:=gM u s) (I:=fun i b=>i=0\/SR b) (fun b i=>(i,b)) u.props (by omega) (fun i x b hx d=>by
  have l:i<u.props.length:=(List.getElem?_eq_some_iff.1 hx).1;obtain ⟨r,m,h,n,j,o,k,a⟩:=xp F hs hx;unfold sN;simp only;rw[show decide ((i:Int)<(u.props.length:Int))=true by simp;omega];simp only[cond_true];rw[show bh u.props (i:Int)=some x by unfold bh;rw[if_pos (by omega)];simpa using hx];have hw:IntKind.i64.wrap ((i:Int)+1)=((i+1:Nat):Int):=by rw[cP (by omega)];rfl
  simp only[ag,h,j,k,hw];unfold gM;by_cases c:i=0
  ·subst c;have e:cG (eC u s x) (eC u s x)=eC u s x:=by unfold cG;rw[jg];rfl
   rw[show (((0:Nat):Int)==0)=true from rfl];simp only[cond_true,xq a a,e,if_pos];exact ⟨trivial,.inr a⟩
  ·have hb:SR b:=d.resolve_left c;rw[show (((i:Nat):Int)==0)=false by simp;omega];simp only[cond_false,xq hb a,if_neg c]
   exact ⟨trivial,.inr (ql hb a)⟩) (fun b=>by unfold sN;simp) (⟨0,0⟩:an) (.inl rfl)
 rw[this.1];rfl
theorem Hu:(u.props=[]/\jB u s=some []/\k8 u s=some (⟨0,0⟩,false))\/
  ∃st b,jB u s=some st/\k8 u s=some (b,true)/\Tp u s st b:=by
 have a:=Hs F hs
 have c:=Ht F hs
 have d:=Hr F hs
 cases e:u.props with
 |nil=>
  rw[e] at a c
  exact .inl ⟨rfl,a,c⟩
 |cons x l=>
  rw[e] at a c d
  refine .inr ⟨_,_,a,?_,Tp.all x l d⟩
  rw[c]
  rw[show decide (0<((x::l).length:Int))=true by simp]
end
theorem lp {a b c:an}(e:0<a.den)(hb:0<b.den)(f:0<c.den)(d:bA a b=false)(g:bA b c=false):bA a c=false:=by
 cases h:bA a c with
 |false=>rfl
 |true=>
  have:=Bm hb e f d h;unfold bA at*;simp only[decide_eq_false_iff_not,decide_eq_true_eq,Int.not_lt] at*;have k1:b.num*a.den*c.den<=a.num*b.den*c.den:=Int.mul_le_mul_of_nonneg_right d (by omega);have i:a.num*c.den*b.den<c.num*a.den*b.den:=Int.mul_lt_mul_of_pos_right h hb;have j:c.num*b.den*a.den<=b.num*c.den*a.den:=Int.mul_le_mul_of_nonneg_right g (by omega);have e1:a.num*b.den*c.den=a.num*c.den*b.den:=by grind
  have e2:c.num*b.den*a.den=c.num*a.den*b.den:=by grind
  have k:b.num*c.den*a.den=b.num*a.den*c.den:=by grind
  omega
theorem Hv {a b c:an}(d:0<a.den)(hb:0<b.den)(e:0<c.den)(f:bA a b=true)(g:bA b c=true):bA a c=true:=by
 unfold bA at*;simp only[decide_eq_true_eq] at*;have k1:a.num*b.den*c.den<b.num*a.den*c.den:=Int.mul_lt_mul_of_pos_right f e;have i:b.num*c.den*a.den<c.num*b.den*a.den:=Int.mul_lt_mul_of_pos_right g d;have h:b.den*(a.num*c.den)<b.den*(c.num*a.den):=by
  have e1:b.den*(a.num*c.den)=a.num*b.den*c.den:=by grind
  have e2:b.den*(c.num*a.den)=c.num*b.den*a.den:=by grind
  have j:b.num*a.den*c.den=b.num*c.den*a.den:=by grind
  omega
 exact Int.lt_of_mul_lt_mul_left h (by omega)
theorem Bq {e y:an}(he:SR e)(a:SR y):∀(l:List bt) (b:an),(∀x∈l,SR x.high)->SR b->∀(i j:Nat),
  foldI (fun _ (x:bt) st=>cG st x.high) i l (cG e b)=cG e (foldI (fun _ (x:bt) st=>cG st x.high) j l b)
 |[],b,_,_,i,j=>rfl
 |x::l,b,hl,hb,i,j=>by
  unfold foldI
  have hx:=hl x (List.mem_cons_self ..)
  have key:cG (cG e b) x.high=cG e (cG b x.high):=by
   unfold cG
   cases c:bA e b<;>cases d:bA b x.high<;>simp only[cond_true,cond_false,c,d]
   ·have:=lp he.den.1 hb.den.1 hx.den.1 c d
    rw[this];rfl
   ·rw[Hv he.den.1 hb.den.1 hx.den.1 c d]
    rfl
  rw[key]
  exact Bq he a l _ (fun y a=>hl y (List.mem_cons_of_mem _ a)) (ql hb hx) (i+1) (j+1)
theorem xu:∀(l:List bt) (i:Nat) (c:bt),(foldI gC i l c).high=foldI (fun _ (x:bt) st=>cG st x.high) i l c.high
 |[],_,_=>rfl
 |x::l,i,c=>by
  unfold foldI
  rw[xu l (i+1)]
  congr 1
  unfold gC cG
  cases bA c.high x.high<;>rfl
theorem Br {a b:an}(c:SR a)(hb:SR b):iu eA a [b]=some (cG a b):=by
 unfold iu bE pR;simp only[(lg c hb).2,ag];unfold cG;cases bA a b<;>rfl
theorem Hw {f:Nat->bt->an->Option (Fl an an)}(hf:f=mm\/f=mo){st:List bt}(b:∀x∈st,SR x.high){e:an}(he:SR e):
  bE f 0 st e=some (.nx (foldI (fun _ (x:bt) st=>cG st x.high) 0 st e))/\SR (foldI (fun _ (x:bt) st=>cG st x.high) 0 st e):=
 iB (I:=fun _ r=>SR r) st 0 e he (fun j x r c a=>by
  have hx:=b x (List.mem_of_getElem? c)
  rcases hf with rfl|rfl
  ·unfold mm
   simp only[Br a hx,ag]
   exact ⟨trivial,ql a hx⟩
  ·unfold mo
   simp only[Br a hx,ag]
   exact ⟨trivial,ql a hx⟩)
section
variable {u : ak} {s : aY} (F : Fit u) (hs : (1 ≤ s.back ∧ s.back ≤ 20) ∧ 0 ≤ s.high ∧ s.high ≤ 60)
include F hs
theorem Bs {a b:an}(c:SR a)(hb:SR b):∃d,jb a b=some d/\fc a b=some d/\Sm d 40000000000 64000000:=by
 have e:=xh c hb (by decide) (by decide) (by decide);have f:=sS c hb (by decide) (by decide);refine ⟨_,e,f,?_⟩;have g:=dN c.num (show b.den.natAbs<=8000 by have:=hb.den;omega);have h:=dN hb.num (show a.den.natAbs<=8000 by have:=c.den;omega);have i:=dN (show a.den.natAbs<=8000 by have:=c.den;omega) (show b.den.natAbs<=8000 by have:=hb.den;omega);have j:0<a.den*b.den:=Int.mul_pos c.den.1 hb.den.1;have:=jf (a.num*b.den - b.num*a.den) (a.den*b.den).toNat (by omega);exact ⟨Nat.le_trans this.num (by omega),this.den.1,by have:=this.den.2;omega⟩
theorem Bt:Sm (⟨0,1⟩:an) 1 1:=⟨by decide,by decide,by decide⟩
theorem Bu {d:an}(hd:Sm d 40000000000 64000000):∃m,iu eA d [⟨0,1⟩]=some m/\gU d ⟨0,1⟩=some m/\Sm m 40000000000 64000000:=by
 have hl:=mL hd (Bt F hs) (by decide) (by decide);refine ⟨cond (bA d ⟨0,1⟩) ⟨0,1⟩ d,?_,?_,?_⟩
 ·unfold iu bE pR;simp only[hl.2,ag];unfold bA;cases decide (d.num*(⟨0,1⟩:an).den<(⟨0,1⟩:an).num*d.den)<;>rfl
 ·unfold gU;simp only[hl.1,ag];unfold bA;cases decide (d.num*(⟨0,1⟩:an).den<(⟨0,1⟩:an).num*d.den)<;>rfl
 ·cases bA d ⟨0,1⟩
  ·exact hd
  ·exact (Bt F hs).mono (by decide) (by decide)
theorem Bv {f:Nat->bt->an->Option (Fl an an)}(hf:f=mm\/f=mo){e:an}(he:SR e):
  ∃st m,jB u s=some st/\bE f 0 st e=some (.nx m)/\SR m/\((k8 u s=some (⟨0,0⟩,false)/\m=e)\/∃b,k8 u s=some (b,true)/\gU e b=some m):=by
 rcases Hu F hs with ⟨_,d,g⟩|⟨st,b,d,g,a⟩
 ·exact ⟨[],e,d,rfl,he,.inl ⟨g,rfl⟩⟩
 ·have h:∀x∈st,SR x.high:=fun x hx=>(a.le x hx).2.1
  obtain ⟨k1,j⟩:=Hw hf h he
  refine ⟨st,_,d,k1,j,.inr ⟨b,g,?_⟩⟩
  rw[xq he a.sm]
  obtain ⟨c,l,rfl⟩:∃c l,st=c::l:=by
   cases st with
   |nil=>exact absurd rfl a.ne
   |cons c l=>exact ⟨c,l,rfl⟩
  have i:=h c (List.mem_cons_self ..)
  have e1:b=foldI (fun _ (x:bt) st=>cG st x.high) 0 l c.high:=by rw[a.Bp];exact xu l 0 c
  have e2:=Bq he i l c.high (fun x hx=>h x (List.mem_cons_of_mem _ hx)) i 1 0
  congr 1
  rw[e1,<-e2]
  rfl
theorem Hx:∃r,kZ u s=some r/\wY u s=some r/\Sm r 40000000000 64000000:=by
 obtain ⟨c,j,k,g,l⟩:=sW F hs;have e2:c.high=(c6 u s).2:=by rw[<-k]
 have p:SR (⟨u.bV,1⟩:an):=(Ho F hs).mono (by decide) (by decide);unfold kZ wY;rw[j,l];simp only[ag,xl,<-e2,(lg g p).1,(lg g p).2];cases bA c.high ⟨u.bV,1⟩ with
 |true=>
  simp only[cond_true];obtain ⟨st,m,t1,t2,t3,t4⟩:=Bv F hs (.inl rfl) (f:=mm) g;obtain ⟨d,d1,d2,d3⟩:=Bs F hs p t3;obtain ⟨z,h,a,e⟩:=Bu F hs d3;simp only[t1,t2,aA,d1,h];rcases t4 with ⟨k1,rfl⟩|⟨b,k1,i⟩
  ·simp only[k1,cond_false,d2,a];exact ⟨z,rfl,rfl,e⟩
  ·simp only[k1,cond_true,i,d2,a];exact ⟨z,rfl,rfl,e⟩
 |false=>
  simp only[cond_false];obtain ⟨st,m,t1,t2,t3,t4⟩:=Bv F hs (.inr rfl) (f:=mo) p;obtain ⟨d,d1,d2,d3⟩:=Bs F hs g t3;obtain ⟨z,h,a,e⟩:=Bu F hs d3;simp only[t1,t2,aA,d1,h];rcases t4 with ⟨k1,rfl⟩|⟨b,k1,i⟩
  ·simp only[k1,cond_false,d2,a];exact ⟨z,rfl,rfl,e⟩
  ·simp only[k1,cond_true,i,d2,a];exact ⟨z,rfl,rfl,e⟩
theorem Hy:∃b,gy u s=some b/\sO u s=some b:=by
 obtain ⟨r,a,c,d⟩:=Hx F hs;have hf:Sm u.aF 20 20:=⟨by have:=F.num;omega,by have:=F.den;omega,by have:=F.den;omega⟩
 have hl:=mL hf d (by decide) (by decide);unfold gy sO;simp only[a,c,hl.1,hl.2,ag];exact ⟨_,rfl,rfl⟩
end
def qm (a:(List (List Int)))(b:Int)(c:b6)(st:((List (List Int))×Int)):Option (Fl ((List (List Int))×Int) (List (List Int))):=
 cond (decide (st.2<=c.high.high)) (ag (bh a b) fun d=>ag (cZ ([]:List Int) d) fun e=>ag (cZ e ([st.2])) fun f=>ag (cZ st.1 ([f])) fun g=>some (.nx (g,(IntKind.i64.wrap (st.2+1))))) (some (.bk (st.1,st.2)))
def qn (u0:ak)(a:(List (List Int)))(c:Int)(st:((List (List Int))×Int)):Option (Fl ((List (List Int))×Int) (List (List Int))):=
 cond (decide (st.2<(a.length:Int))) (ag (bh u0.aH c) fun b=>ag (aS (qm a st.2 b) fu (st.1,b.high.low)) fun o=>aA o (fun d=>some (.nx (d.1,(IntKind.i64.wrap (st.2+1))))) (fun _ _=>none) (fun r=>some (.rt r))) (some (.bk (st.1,st.2)))
def sY (u0:ak)(st:((List (List Int))×Int)):Option (Fl ((List (List Int))×Int) (List (List Int))):=
 cond (decide (st.2<(u0.aH.length:Int))) (ag (aS (qn u0 st.1 st.2) fu (([]:List (List Int)),0)) fun o=>aA o (fun a=>some (.nx (a.1,(IntKind.i64.wrap (st.2+1))))) (fun _ _=>none) (fun r=>some (.rt r))) (some (.bk (st.1,st.2)))
def sZ (u0:ak)(a:(List (List Int)))(st:((List (List Int))×Int)):Option (Fl ((List (List Int))×Int) (List (List Int))):=
 cond (decide (st.2<(a.length:Int))) (ag (bh a st.2) fun b=>ag (w5 u0 b) fun c=>cond (c) (ag (cZ st.1 ([b])) fun d=>some (.nx (d,(IntKind.i64.wrap (st.2+1))))) (some (.nx (st.1,(IntKind.i64.wrap (st.2+1)))))) (some (.bk (st.1,st.2)))
def Bw (u0:ak):Option (List (List Int)):=
 ag (aS (sY u0) fu (([([]:(List Int))]),0)) fun o=>aA o (fun a=>ag (aS (sZ u0 a.1) fu (([]:List (List Int)),0)) fun o=>aA o (fun b=>some b.1) (fun _ _=>none) (fun r=>some r)) (fun _ _=>none) (fun r=>some r)
def iD {α ρ:Type}(t:Nat->α->Option ρ):Nat->List α->Option ρ
 |_,[]=>none
 |i,x::l=>match t i x with
  |some r=>some r
  |none=>iD t (i+1) l
def lq {σ ρ:Type}(o:Option ρ)(s:σ):Fl σ ρ:=match o with
 |some r=>.rt r
 |none=>.nx s
theorem s0 {α σ ρ:Type}{f:Nat->α->σ->Option (Fl σ ρ)}{t:Nat->α->Option ρ}:∀(l:List α) (i:Nat) (s:σ),(∀j x s,l[j]?=some x->f (i+j) x s=some (lq (t (i+j) x) s))->bE f i l s=some (lq (iD t i l) s)
 |[],i,s,_=>rfl
 |x::l,i,s,h=>by
  have a:=h 0 x s rfl
  simp only[Nat.add_zero] at a
  unfold bE iD
  rw[a]
  cases ht:t i x with
  |some r=>rfl
  |none=>
   show bE f (i+1) l s=_
   exact s0 l (i+1) s fun j y s b=>by
    have:=h (j+1) y s (by simpa using b)
    rwa [show i+(j+1)=i+1+j by omega] at this
theorem Bx {α σ ρ:Type}{f:σ×Int->Option (Fl (σ×Int) ρ)}{t:Nat->α->Option ρ}(l:List α)(h:∀(i:Nat) x s,l[i]?=some x->f (s,(i:Int))=some (lq (t i x) (s,((i+1:Nat):Int))))(a:∀s,f (s,(l.length:Int))=some (.bk (s,(l.length:Int)))):
  ∀(k i n:Nat) (s:σ),i+k=l.length->k<n->aS f n (s,(i:Int))=some (lq (iD t i (l.drop i)) (s,(l.length:Int)))
 |0,i,n+1,s,hi,_=>by
  obtain rfl:i=l.length:=by omega
  unfold aS
  rw[a,List.drop_length]
  rfl
 |k+1,i,n+1,s,hi,c=>by
  have b:i<l.length:=by omega
  have hx:l[i]?=some l[i]:=List.getElem?_eq_getElem b
  unfold aS
  rw[h i _ s hx,List.drop_eq_getElem_cons b]
  unfold iD
  cases ht:t i l[i] with
  |some r=>rfl
  |none=>exact Bx l h a k (i+1) n s (by omega) (by omega)
theorem Hz {α σ ρ:Type}{f:σ×Int->Option (Fl (σ×Int) ρ)}{t:Nat->α->Option ρ}(l:List α)(hl:l.length<=1000)(h:∀(i:Nat) x s,l[i]?=some x->f (s,(i:Int))=some (lq (t i x) (s,((i+1:Nat):Int))))(a:∀s,f (s,(l.length:Int))=some (.bk (s,(l.length:Int))))(s:σ):
  aS f fu (s,0)=some (lq (iD t 0 l) (s,(l.length:Int))):=by
 have:=Bx l h a l.length 0 fu s (by omega) (Nat.lt_of_le_of_lt hl (by decide))
 simpa using this
theorem By {α ρ:Type}{g:α->Bool}{r:ρ}:∀(l:List α) (i:Nat),iD (fun _ x=>if g x then none else some r) i l=if l.all g then none else some r
 |[],_=>rfl
 |x::l,i=>by
  unfold iD
  cases h:g x with
  |false=>simp[h]
  |true=>
   simp only[h,if_true,List.all_cons,Bool.true_and]
   exact By l (i+1)
theorem xw {α:Type}{g:α->Bool}:∀(l:List α) (i:Nat),∃r,iD (fun i x=>if g x then some (i:Int) else none) i l=r/\decide (0<=r.getD (-1))=l.any g
 |[],_=>⟨none,rfl,rfl⟩
 |x::l,i=>by
  unfold iD
  cases h:g x with
  |true=>exact ⟨_,rfl,by simp[h]⟩
  |false=>
   obtain ⟨r,a,b⟩:=xw l (i+1) (g:=g)
   exact ⟨r,by simpa using a,by simpa [h] using b⟩
theorem iE {α:Type}{l:List α}{i:Nat}{x:α}(h:l[i]?=some x):bh l (i:Int)=some x:=by
 unfold bh;rw[if_pos (by omega)];simpa using h
theorem xx {α:Type}{l:List α}{i:Int}{x:α}(a:0<=i)(h:l[i.toNat]?=some x):bh l i=some x:=by
 unfold bh;rw[if_pos a,h]
theorem contains_eq {f:bU->Option Bool}{g:bU->Bool}(l:List bU)(h:∀x,x∈l->f x=some (g x)):pY l f=some (l.any g):=by
 unfold pY rV
 rw[s0 (t:=fun i x=>if g x then some (i:Int) else none) l 0 0 fun j x s hx=>by
  unfold rU;rw[h x (List.mem_of_getElem? hx)]
  cases g x<;>rfl]
 obtain ⟨r,a,b⟩:=xw (g:=g) l 0;rw[a,<-b];cases r<;>rfl
def gD (u:ak)(s:aY):Bool:=(gy u s).getD false
theorem xy {u:ak}(F:Fit u){s:aY}(hs:(1<=s.back/\s.back<=20)/\0<=s.high/\s.high<=60):gy u s=some (gD u s)/\sO u s=some (gD u s):=by
 obtain ⟨b,a,c⟩:=Hy F hs;have e:gD u s=b:=by unfold gD;rw[a];rfl
 rw[e];exact ⟨a,c⟩
def ff (u:ak)(i:Nat)(n:Int):aY:=⟨(u.aH[i]?.map (·.back)).getD 0,n⟩
structure od (u:ak)(h:List Int):Prop where
 len:h.length=u.aH.length
 xz:∀(i:Nat) e,u.aH[i]?=some e->∃n,h[i]?=some n/\e.high.low<=n/\n<=e.high.high
def kA (u:ak)(h:List Int)(t:bU):Bool:=gD u (ff u t.aX.toNat (h[t.aX.toNat]?.getD 0))==t.bu
def fJ (u:ak)(h:List Int):Bool:=u.told.all (kA u h)
theorem Bz {u:ak}{h:List Int}(H:od u h){i:Int}(d:0<=i)(f:i<u.aH.length)(F:Fit u):∃e n,u.aH[i.toNat]?=some e/\h[i.toNat]?=some n/\ff u i.toNat n=⟨e.back,n⟩/\(1<=e.back/\e.back<=20)/\0<=n/\n<=60:=by
 have hx:u.aH[i.toNat]?=some (u.aH[i.toNat]'(by omega)):=List.getElem?_eq_getElem _;obtain ⟨n,c,a,b⟩:=H.xz _ _ hx;obtain ⟨c1,c2,c3,c4,g⟩:=F.aX _ _ hx;refine ⟨_,n,hx,c,?_,c1,by omega,by omega⟩;unfold ff;rw[hx];rfl
theorem HA {u:ak}(F:Fit u){h:List Int}(H:od u h):w5 u h=some (fJ u h):=by
 unfold w5;rw[Hz (t:=fun _ x=>if kA u h x then none else some false) u.told (by have:=F.told;omega) (s:=false) (fun i x s hx=>?_) (fun s=>?_)]
 ·rw[By];unfold fJ;cases u.told.all (kA u h)<;>rfl
 ·obtain ⟨a,b⟩:=F.xd i x hx;obtain ⟨e,n,d,c,f,g,j⟩:=Bz H a b F;have k:i<u.told.length:=(List.getElem?_eq_some_iff.1 hx).1;have ht:=F.told;unfold wZ AU;rw[show decide (((i:Nat):Int)<(u.told.length:Int))=true by simp;omega];simp only[cond_true,iE hx,ag,xx a d,xx a c,(xy F (s:=⟨e.back,n⟩) ⟨g,j⟩).2];rw[cP (n:=(i:Int)+1) (by omega)];unfold kA;rw[c];show _=some (lq (if gD u (ff u x.aX.toNat n)==x.bu then none else some false) (s,((i+1:Nat):Int)));rw[f];cases gD u ⟨e.back,n⟩==x.bu<;>rfl
 ·unfold wZ;rw[show decide ((u.told.length:Int)<(u.told.length:Int))=false by simp];rfl
def c9 (l:List Int):aV:=⟨l[0]?.getD 0,l[1]?.getD 0,l[2]?.getD 0⟩
theorem s3 {l:List Int}{i:Int}{n:Int}(a:0<=i)(b:i<3)(h:l[i.toNat]?=some n):aV.get (c9 l) i=some n:=by
 unfold aV.get c9;rcases (show i=0\/i=1\/i=2 by omega) with rfl|rfl|rfl<;>simp at h<;>simp[h]
theorem HB {u:ak}(F:Fit u){h:List Int}(H:od u h):nL u (c9 h)=some (fJ u h):=by
 unfold nL
 rw[contains_eq (g:=fun t=>!kA u h t) u.told fun x hx=>by
  obtain ⟨i,hi⟩:=List.mem_iff_getElem?.1 hx;obtain ⟨a,b⟩:=F.xd i x hi;obtain ⟨e,n,d,c,f,j,k⟩:=Bz H a b F;have:=F.aH;unfold p5 ir;simp only[s3 a (by omega) c,ag,xx a d,(xy F (s:=⟨e.back,n⟩) ⟨j,k⟩).1];unfold kA;rw[c];show _=some (!(gD u (ff u x.aX.toNat n)==x.bu))
  rw[f]]
 simp only[ag];unfold fJ;rw[show (u.told.any fun t=>!kA u h t)=!(u.told.all (kA u h)) by rw[List.all_eq_not_any_not];simp];simp
theorem BA {α σ τ ρ:Type}{f:τ->Option (Fl τ ρ)}{I:Nat->σ->Prop}(e:σ->Int->τ)(l:List α)(h:∀(i:Nat) x s,l[i]?=some x->I i s->∃s',f (e s (i:Int))=some (.nx (e s' ((i+1:Nat):Int)))/\I (i+1) s')(a:∀s,f (e s (l.length:Int))=some (.bk (e s (l.length:Int)))):
  ∀(k i n:Nat) (s:σ),I i s->i+k=l.length->k<n->∃s',aS f n (e s (i:Int))=some (.nx (e s' (l.length:Int)))/\I l.length s'
 |0,i,n+1,s,hs,hi,_=>by
  obtain rfl:i=l.length:=by omega
  unfold aS
  rw[a]
  exact ⟨s,rfl,hs⟩
 |k+1,i,n+1,s,hs,hi,g=>by
  have b:i<l.length:=by omega
  have hx:l[i]?=some l[i]:=List.getElem?_eq_getElem b
  obtain ⟨s1,c,d⟩:=h i _ s hx hs
  unfold aS
  rw[c]
  exact BA e l h a k (i+1) n _ d (by omega) (by omega)
theorem qo {α σ τ ρ:Type}{f:τ->Option (Fl τ ρ)}(I:Nat->σ->Prop)(e:σ->Int->τ)(l:List α)(hl:l.length<=1000)(h:∀(i:Nat) x s,l[i]?=some x->I i s->∃s',f (e s (i:Int))=some (.nx (e s' ((i+1:Nat):Int)))/\I (i+1) s')(a:∀s,f (e s (l.length:Int))=some (.bk (e s (l.length:Int))))(s:σ)(hs:I 0 s):
  ∃s',aS f fu (e s 0)=some (.nx (e s' (l.length:Int)))/\I l.length s':=
 BA e l h a l.length 0 fu s hs (by omega) (Nat.lt_of_le_of_lt hl (by decide))
theorem BB {a b c:an}(d:0<a.den)(hb:0<b.den)(e:0<c.den)(f:bA b a=false)(g:bA b c=true):bA a c=true:=by
 cases h:bA a c with
 |true=>rfl
 |false=>
  have:=lp hb d e f h;rw[g] at this;cases this
section
variable {u : ak} {s : aY} (F : Fit u) (hs : (1 ≤ s.back ∧ s.back ≤ 20) ∧ 0 ≤ s.high ∧ s.high ≤ 60)
include F hs
structure xA (u:ak)(s:aY)(i:Nat)(st:Int×an):Prop where
 there:∃(n:Nat) (p:b8),n<i/\st=((n:Int),dO u s p)/\u.aD[n]?=some p/\∀(j:Nat) q,j<n->u.aD[j]?=some q->bA (dO u s q) (dO u s p)=true
 Q1:∀(j:Nat) q,j<i->u.aD[j]?=some q->bA st.2 (dO u s q)=false
theorem BC:∀(l:List b8) (i:Nat) (st:Int×an),(∀(j:Nat) x,l[j]?=some x->u.aD[i+j]?=some x)->xA u s i st->xA u s (i+l.length) (foldI (gB u s) i l st)
 |[],i,st,_,h=>h
 |x::l,i,st,hl,h=>by
  have hx:u.aD[i]?=some x:=hl 0 x rfl
  have hd:∀(j:Nat) q,u.aD[j]?=some q->0<(dO u s q).den:=fun j q a=>(sV u F s hs j q a).den.1
  unfold foldI
  have key:xA u s (i+1) (gB u s i x st):=by
   obtain ⟨⟨n,p,k,e,b,f⟩,hm⟩:=h
   subst e
   unfold gB
   cases c:bA (dO u s p) (dO u s x) with
   |true=>
    simp only[c,cond_true]
    refine ⟨⟨i,x,by omega,rfl,hx,fun j q d a=>?_⟩,fun j q d a=>?_⟩
    ·exact BB (hd j q a) (hd n p b) (hd i x hx) (hm j q d a) c
    ·by_cases e:j=i
     ·subst e;rw[hx] at a;cases a;exact jg _
     ·exact xm (BB (hd j q a) (hd n p b) (hd i x hx) (hm j q (by omega) a) c)
   |false=>
    simp only[c,cond_false]
    refine ⟨⟨n,p,by omega,rfl,b,f⟩,fun j q d a=>?_⟩
    by_cases e:j=i
    ·subst e;rw[hx] at a;cases a;exact c
    ·exact hm j q (by omega) a
  have:=BC l (i+1) _ (fun j y g=>by have:=hl (j+1) y (by simpa using g);rwa [show i+(j+1)=i+1+j by omega] at this) key
  rwa [show i+1+l.length=i+(x::l).length by simp;omega] at this
theorem HC:∃(n:Nat) (p:b8),c6 u s=((n:Int),dO u s p)/\u.aD[n]?=some p/\(∀(j:Nat) q,u.aD[j]?=some q->bA (dO u s p) (dO u s q)=false)/\∀(j:Nat) q,j<n->u.aD[j]?=some q->bA (dO u s q) (dO u s p)=true:=by
 have hl:=F.aD;cases he:u.aD with
 |nil=>rw[he] at hl;simp at hl
 |cons x l=>
  have hx:u.aD[0]?=some x:=by rw[he];rfl
  have hb:=BC F hs l 1 (0,dO u s x) (fun j y c=>by rw[he,Nat.add_comm];simpa using c)
   ⟨⟨0,x,by omega,rfl,hx,fun j q b=>absurd b (by omega)⟩,fun j q b a=>by
    obtain rfl:j=0:=by omega
    rw[hx] at a;cases a;exact jg _⟩
  have ev:c6 u s=foldI (gB u s) 1 l (0,dO u s x):=by unfold c6;rw[he]
  obtain ⟨⟨n,p,g,e,d,f⟩,hm⟩:=hb;rw[e] at hm ev;refine ⟨n,p,ev,by rw[<-he];exact d,fun j q a=>?_,fun j q b a=>f j q b (by rw[he];exact a)⟩;refine hm j q ?_ (by rw[he];exact a);have:=(List.getElem?_eq_some_iff.1 a).1;simp at this;omega
end
theorem xB (n:Int)(d:Nat)(hd:0<d):bw (bw n d).num (bw n d).den.toNat=bw n d:=by
 obtain ⟨a,b⟩:=lf n d hd;refine xj (by omega) hd ?_;rw[show (((bw n d).den.toNat:Nat):Int)=(bw n d).den by omega];exact a
def bO (a b:an):an:=bw (a.num*b.den - b.num*a.den) (a.den*b.den).toNat
structure Vl (r:an)(n d:Int):Prop where
 eq:r.num*d=n*r.den
 d:0<d
 den:0<r.den
theorem lt_mul {a b c:Int}(d:0<c):(a*c<b*c)↔a<b:=Int.mul_lt_mul_right d
theorem Vl.lt {r a:an}{n d e b:Int}(h:Vl r n d)(c:Vl a e b):bA r a=decide (n*b<e*d):=by
 unfold bA;rw[decide_eq_decide];have e1:r.num*a.den*(d*b)=n*b*(r.den*a.den):=by have:=h.eq;have:=c.eq;grind
 have e2:a.num*r.den*(d*b)=e*d*(r.den*a.den):=by have:=h.eq;have:=c.eq;grind
 rw[<-lt_mul (Int.mul_pos h.d c.d),e1,e2,lt_mul (Int.mul_pos h.den c.den)]
theorem kB {a b:an}(c:0<a.den)(hb:0<b.den):Vl (bO a b) (a.num*b.den - b.num*a.den) (a.den*b.den):=by
 have hd:0<a.den*b.den:=Int.mul_pos c hb;have h:=lf (a.num*b.den - b.num*a.den) (a.den*b.den).toNat (by omega);rw[show (((a.den*b.den).toNat:Nat):Int)=a.den*b.den by omega] at h;exact ⟨h.1,hd,h.2⟩
theorem Vl.neg {r:an}{n d:Int}(h:Vl r n d):r.num<0↔n<0:=by
 have a:Vl ⟨0,1⟩ 0 1:=⟨rfl,by decide,by decide⟩
 have:=h.lt a;unfold bA at this;simpa [decide_eq_decide] using this
theorem HD {u:ak}(h:e8 u=some 0):gV u=0:=by
 have a:kg u=some 0:=h;unfold kg at a;rw[w7] at a;simp only[ag] at a;cases hg:(gV u != 0) with
 |true=>rw[hg] at a;exact Option.some.inj a
 |false=>simpa using hg
def dn (b:dh):List Int:=(List.range (b.high - b.low+1).toNat).map fun k=>b.low+(k:Nat)
theorem HE {b:dh}{i:Nat}{x:Int}(h:(dn b)[i]?=some x):x=b.low+i/\b.low+i<=b.high:=by
 unfold dn at h;rw[List.getElem?_map,Option.map_eq_some_iff] at h;obtain ⟨k,c,rfl⟩:=h;obtain ⟨d,a⟩:=List.getElem?_eq_some_iff.1 c;simp at d a;subst a;exact ⟨rfl,by omega⟩
theorem qp (b:dh):(dn b).length=(b.high - b.low+1).toNat:=by simp[dn]
theorem BD {b:dh}{x:Int}:x∈dn b↔b.low<=x/\x<=b.high:=by
 unfold dn;rw[List.mem_map];constructor
 ·rintro ⟨k,a,rfl⟩;rw[List.mem_range] at a;omega
 ·rintro ⟨c,d⟩;exact ⟨(x - b.low).toNat,by rw[List.mem_range];omega,by omega⟩
def kC (b:dh)(all:List (List Int)):List (List Int):=all.flatMap fun p=>(dn b).map fun n=>p++[n]
def er (p:List Int):List b6->List (List Int)
 |[]=>[p]
 |e::l=>(dn e.high).flatMap fun n=>er (p++[n]) l
def bQ (u:ak):List (List Int):=(er [] u.aH).filter (fJ u)
theorem qq {α β:Type}(g:α->List β):∀(l:List α) (i:Nat) (s:List β),foldI (fun _ x s=>s++g x) i l s=s++l.flatMap g
 |[],_,s=>by simp[foldI]
 |x::l,i,s=>by
  unfold foldI
  rw[qq g l]
  simp[List.flatMap_cons]
theorem BE:∀(l:List b6) (i:Nat) (all:List (List Int)),foldI (fun _ (e:b6) all=>kC e.high all) i l all=all.flatMap fun p=>er p l
 |[],_,all=>by
  unfold foldI
  show all=all.flatMap fun p=>[p]
  induction all with
  |nil=>rfl
  |cons a l ih=>rw[List.flatMap_cons,<-ih];rfl
 |e::l,i,all=>by
  unfold foldI
  rw[BE l]
  unfold kC
  rw[List.flatMap_assoc]
  congr 1
  funext p
  rw[List.flatMap_map]
  rfl
theorem BG:∀(l:List b6) (p h:List Int),h∈er p l->h.length=p.length+l.length/\(∀(j:Nat) e,l[j]?=some e->∃n,h[p.length+j]?=some n/\e.high.low<=n/\n<=e.high.high)/\∀j,j<p.length->h[j]?=p[j]?
 |[],p,h,hm=>by
  simp only[er,List.mem_singleton] at hm
  subst hm
  exact ⟨rfl,fun j e he=>by simp at he,fun _ _=>rfl⟩
 |e::l,p,h,hm=>by
  unfold er at hm
  rw[List.mem_flatMap] at hm
  obtain ⟨n,c,hm⟩:=hm
  obtain ⟨d,b,a⟩:=BG l _ _ hm
  rw[List.length_append,List.length_singleton] at d b a
  refine ⟨by simp;omega,fun j x hx=>?_,fun j f=>?_⟩
  ·cases j with
   |zero=>
    simp at hx;subst hx
    refine ⟨n,?_,BD.1 c⟩
    rw[Nat.add_zero,a _ (by omega),List.getElem?_append_right (Nat.le_refl _)]
    simp
   |succ j=>
    obtain ⟨m,hm,hb⟩:=b j x (by simpa using hx)
    exact ⟨m,by rw[<-hm];congr 1;omega,hb⟩
  ·rw[a j (by omega),List.getElem?_append_left f]
theorem xC {u:ak}{h:List Int}(hm:h∈er [] u.aH):od u h:=by
 obtain ⟨a,b,_⟩:=BG _ _ _ hm;exact ⟨by simpa using a,fun i e he=>by simpa using b i e he⟩
theorem BH {b:dh}(hb:b.high - b.low<3):∀(all:List (List Int)),(kC b all).length<=all.length*3
 |[]=>by simp[kC]
 |p::all=>by
  have:=BH hb all
  unfold kC at this ⊢
  rw[List.flatMap_cons,List.length_append,List.length_map,qp,List.length_cons]
  omega
theorem oe {α:Type}{l xs:List α}(h:l.length+xs.length<=1000000):cZ l xs=some (l++xs):=by
 unfold cZ;rw[if_pos h]
theorem HF {all:List (List Int)}{k:Nat}{p:List Int}{e:b6}(b:all[k]?=some p)(c:p.length<=100)(he:0<=e.high.low/\e.high.low<=e.high.high/\e.high.high<=60/\e.high.high - e.high.low<3)(s:List (List Int))(hs:s.length<=1000):
  aS (qm all (k:Int) e) fu (s,e.high.low)=some (.nx (s++(dn e.high).map (fun n=>p++[n]),e.high.high+1)):=by
 have key:=ob (f:=qm all (k:Int) e) (g:=fun _ x s=>s++[p++[x]]) (I:=fun i s=>s.length<=1000+i) (fun s i=>(s,e.high.low+i)) (dn e.high) (by rw[qp];omega)
  (fun i x s hx d=>by
   obtain ⟨rfl,hb⟩:=HE hx
   refine ⟨?_,by simp;omega⟩
   unfold qm
   rw[show decide ((s,e.high.low+(i:Int)).2<=e.high.high)=true by simpa using hb]
   simp only[cond_true,iE b,ag,oe (l:=([]:List Int)) (xs:=p) (by simp;omega),List.nil_append,oe (l:=p) (xs:=[e.high.low+(i:Int)]) (by simp;omega),oe (l:=s) (xs:=[p++[e.high.low+(i:Int)]]) (by simp;omega)]
   rw[cP (n:=e.high.low+(i:Int)+1) (by omega)]
   simp;omega)
  (fun s=>by
   unfold qm
   rw[show decide ((s,e.high.low+((dn e.high).length:Int)).2<=e.high.high)=false by rw[qp];simp;omega]
   rfl) s (by omega)
 have:=key.1
 rw[qq (fun x=>[p++[x]])] at this
 simp only[Int.add_zero] at this
 rw[this]
 congr 2
 refine Prod.ext ?_ ?_
 ·simp only[List.append_cancel_left_eq]
  induction dn e.high with
  |nil=>rfl
  |cons a l ih=>simp[ih]
 ·simp only[qp];omega
theorem HG {u:ak}{all:List (List Int)}{i:Nat}{e:b6}(hi:u.aH[i]?=some e)(b:∀p∈all,p.length<=100)(hl:all.length<=100)(he:0<=e.high.low/\e.high.low<=e.high.high/\e.high.high<=60/\e.high.high - e.high.low<3):
  aS (qn u all (i:Int)) fu (([]:List (List Int)),0)=some (.nx (kC e.high all,(all.length:Int))):=by
 have key:=ob (f:=qn u all (i:Int)) (g:=fun _ p s=>s++(dn e.high).map fun n=>p++[n]) (I:=fun i s=>s.length<=3*i/\i<=all.length) (fun s i=>(s,i)) all (by omega)
  (fun k p s a c=>by
   have d:k<all.length:=(List.getElem?_eq_some_iff.1 a).1
   refine ⟨?_,by simp[qp];omega,by omega⟩
   unfold qn
   rw[show decide ((s,(k:Int)).2<(all.length:Int))=true by simp;omega]
   simp only[cond_true,iE hi,ag,HF a (b p (List.mem_of_getElem? a)) he s (by omega),aA]
   rw[cP (n:=(k:Int)+1) (by omega)]
   rfl)
  (fun s=>by
   unfold qn
   rw[show decide ((s,(all.length:Int)).2<(all.length:Int))=false by simp]
   rfl) ([]:List (List Int)) ⟨by simp,by omega⟩
 have:=key.1
 rw[qq (fun p=>(dn e.high).map fun n=>p++[n])] at this
 simpa [kC] using this
theorem BI {u:ak}:∀(l:List (List Int)) (i:Nat) (s:List (List Int)),foldI (fun _ x s=>if fJ u x then s++[x] else s) i l s=s++l.filter (fJ u)
 |[],_,s=>by simp[foldI]
 |x::l,i,s=>by
  unfold foldI
  rw[BI l]
  cases h:fJ u x<;>simp[h]
theorem three (i:Nat)(h:i<=3):3 ^ i<=27:=by
 rcases (show i=0\/i=1\/i=2\/i=3 by omega) with rfl|rfl|rfl|rfl<;>decide
theorem xD {u:ak}(F:Fit u):Bw u=some (bQ u)/\(bQ u).length<=27:=by
 have r:=F.aH;have key:=ob (f:=sY u) (g:=fun _ (e:b6) all=>kC e.high all) (I:=fun i all=>(∀p∈all,p.length=i)/\all.length<=3 ^ i/\i<=u.aH.length) (fun s i=>(s,i)) u.aH (by omega)
  (fun i e all hi c=>by
   obtain ⟨d,t,v⟩:=c;have k:i<u.aH.length:=(List.getElem?_eq_some_iff.1 hi).1;have he:=(F.aX i e hi).2;have w:=three i (by omega);have hs:=BH he.2.2.2 all;refine ⟨?_,fun p a=>?_,by rw[Nat.pow_succ];omega,by omega⟩
   ·unfold sY;rw[show decide ((all,(i:Int)).2<(u.aH.length:Int))=true by simp;omega];simp only[cond_true,HG hi (fun p a=>by have:=d p a;omega) (by omega) he,ag,aA];rw[cP (n:=(i:Int)+1) (by omega)];rfl
   ·unfold kC at a;rw[List.mem_flatMap] at a;obtain ⟨q,m,a⟩:=a;rw[List.mem_map] at a;obtain ⟨n,_,rfl⟩:=a
    simp[d q m])
  (fun s=>by
   unfold sY;rw[show decide ((s,(u.aH.length:Int)).2<(u.aH.length:Int))=false by simp]
   rfl) [[]] ⟨by simp,by simp,by omega⟩
 obtain ⟨k1,b⟩:=key;rw[BE] at k1 b;simp only[List.flatMap_cons,List.flatMap_nil,List.append_nil] at k1 b;have hlen:(er [] u.aH).length<=27:=Nat.le_trans b.2.1 (three _ (by omega));have j:=ob (f:=sZ u (er [] u.aH)) (g:=fun _ x s=>if fJ u x then s++[x] else s) (I:=fun i s=>s.length<=i/\i<=(er [] u.aH).length) (fun s i=>(s,i)) (er [] u.aH) (by omega)
  (fun i h s hi c=>by
   have k:i<(er [] u.aH).length:=(List.getElem?_eq_some_iff.1 hi).1;have o:=HA F (xC (List.mem_of_getElem? hi));refine ⟨?_,by cases fJ u h<;>simp<;>omega,by omega⟩;unfold sZ;rw[show decide ((s,(i:Int)).2<((er [] u.aH).length:Int))=true by simp;omega];simp only[cond_true,iE hi,ag,o];rw[cP (n:=(i:Int)+1) (by omega)];cases fJ u h with
   |false=>rfl
   |true=>simp only[cond_true,oe (l:=s) (xs:=[h]) (by simp;omega)];rfl)
  (fun s=>by
   unfold sZ;rw[show decide ((s,((er [] u.aH).length:Int)).2<((er [] u.aH).length:Int))=false by simp]
   rfl) ([]:List (List Int)) ⟨by simp,by omega⟩
 rw[BI] at j;refine ⟨?_,Nat.le_trans (List.length_filter_le _ _) hlen⟩;unfold Bw;rw[k1];simp only[ag,aA];rw[j.1];simp only[List.nil_append];rfl
def co (h:aV)(j:Nat):Int:=if j=0 then h.e0 else if j=1 then h.e1 else if j=2 then h.e2 else 0
theorem HH (h:aV){j:Nat}(d:j<3)(n:Int):∃a,h.setAt (j:Int) n=some a/\∀i,co a i=if i=j then n else co h i:=by
 rcases (show j=0\/j=1\/j=2 by omega) with rfl|rfl|rfl
 ·refine ⟨{h with e0:=n},rfl,fun i=>?_⟩;unfold co;split<;>rfl
 ·refine ⟨{h with e1:=n},rfl,fun i=>?_⟩;unfold co;by_cases b:i=0<;>by_cases a:i=1<;>simp[b,a]<;>omega
 ·refine ⟨{h with e2:=n},rfl,fun i=>?_⟩;unfold co;by_cases b:i=0<;>by_cases a:i=1<;>by_cases c:i=2<;>simp[b,a,c]<;>omega
structure Ag (u:ak)(p:List Int)(h:aV):Prop where
 at_:∀(j:Nat) n,p[j]?=some n->co h j=n
 no:∀j,u.aH.length<=j->co h j=0
theorem Ag.c9 {u:ak}{p:List Int}{h:aV}(H:Ag u p h)(a:p.length=u.aH.length):h=c9 p:=by
 have key:∀j,co h j=p[j]?.getD 0:=fun j=>by
  cases e:p[j]? with
  |some n=>exact H.at_ j n e
  |none=>exact H.no j (by rw[<-a];exact List.getElem?_eq_none_iff.1 e)
 have b:=key 0;have k1:=key 1;have c:=key 2;cases h;unfold Go.Proofs.YtpgcmoanfifglaaGreatDoor.c9;rw[<-b,<-k1,<-c];rfl
theorem Ag.set {u:ak}{p:List Int}{h:aV}(H:Ag u p h)(c:p.length<u.aH.length)(d:u.aH.length<=3)(n:Int):∃a,h.setAt (p.length:Int) n=some a/\Ag u (p++[n]) a:=by
 obtain ⟨a,e1,e2⟩:=HH h (j:=p.length) (by omega) n;refine ⟨a,e1,fun j m hm=>?_,fun j b=>?_⟩
 ·rw[e2];by_cases e:j=p.length
  ·subst e;rw[if_pos rfl];simpa using hm
  ·rw[if_neg e];refine H.at_ j m ?_;rw[<-hm,List.getElem?_append_left];have:=(List.getElem?_eq_some_iff.1 hm).1;simp at this;omega
 ·rw[e2,if_neg (by omega)];exact H.no j b
theorem Ag.cut {u:ak}{p:List Int}{n:Int}{h:aV}(H:Ag u (p++[n]) h):Ag u p h:=
 ⟨fun j m hm=>H.at_ j m (by rw[List.getElem?_append_left (List.getElem?_eq_some_iff.1 hm).1];exact hm),H.no⟩
theorem HI {a b:Int}(h:a<=b):dn ⟨a,b⟩=a::dn ⟨a+1,b⟩:=by
 unfold dn;simp only;rw[show (b - a+1).toNat=(b - (a+1)+1).toNat+1 by omega,List.range_succ_eq_map];simp only[List.map_cons,List.map_map,Function.comp_def];congr 1
 ·simp
 ·apply List.map_congr_left;intro k _;simp only[Nat.succ_eq_add_one];omega
theorem HJ {a b:Int}(h:¬a<=b):dn ⟨a,b⟩=[]:=by
 unfold dn;simp only;rw[show (b - a+1).toNat=0 by omega];rfl
theorem BJ {u:ak}{p:List Int}(a:p.length<u.aH.length)(b:u.aH.length<=3){f:aV->List (Option aV)×aV}{G:Int->List (Option aV)}{lo hi:Int}(hb:0<=lo/\hi<=60)
  (hf:∀n,lo<=n->n<=hi->∀h,Ag u (p++[n]) h->(f h).1=G n/\Ag u (p++[n]) (f h).2):
  ∀(k:Nat) (n:Int) (h:aV),Ag u p h->lo<=n->n<=61->61 - n<k->(je f (p.length:Int) hi k n h).1=(dn ⟨n,hi⟩).flatMap G/\Ag u p (je f (p.length:Int) hi k n h).2
 |0,n,h,H,d,e,g=>by omega
 |k+1,n,h,H,d,e,g=>by
  unfold je
  by_cases c:n<=hi
  ·rw[if_pos c,HI c]
   obtain ⟨x,e1,e2⟩:=H.set a b n
   rw[e1]
   obtain ⟨i,j⟩:=hf n d c x e2
   have w:IntKind.i64.wrap (n+1)=n+1:=cP (by omega)
   obtain ⟨r1,r2⟩:=BJ a b hb hf k (n+1) (f x).2 j.cut (by omega) (by omega) (by omega)
   simp only[w]
   exact ⟨by rw[i,r1,List.flatMap_cons],r2⟩
  ·rw[if_neg c,HJ c]
   exact ⟨rfl,H⟩
theorem BK {u:ak}(F:Fit u):∀(l:List b6) (p:List Int) (fuel:Nat) (h:aV),u.aH.drop p.length=l->p.length+l.length=u.aH.length->l.length<fuel->
  (∀(j:Nat) e,u.aH[j]?=some e->j<p.length->∃n,p[j]?=some n/\e.high.low<=n/\n<=e.high.high)->Ag u p h->
  (eL u fuel (p.length:Int) h).1=((er p l).filter (fJ u)).map (fun x=>some (c9 x))/\Ag u p (eL u fuel (p.length:Int) h).2
 |l,p,0,h,hd,hl,hf,hb,H=>by omega
 |[],p,fuel+1,h,hd,hl,hf,hb,H=>by
  have hl:p.length=u.aH.length:=by simpa using hl
  unfold eL
  rw[if_pos (by omega)]
  obtain rfl:=H.c9 hl
  have R:=HB F (h:=p) ⟨hl,fun i e he=>hb i e he (by have:=(List.getElem?_eq_some_iff.1 he).1;omega)⟩
  refine ⟨?_,H⟩
  rw[R]
  unfold er
  cases e:fJ u p<;>simp[e]
 |e::l,p,fuel+1,h,hd,hl,hf,hb,H=>by
  simp only[List.length_cons] at hl hf
  have he:u.aH[p.length]?=some e:=by
   have:=congrArg List.head? hd
   simpa [List.head?_drop] using this
  have d:u.aH.drop (p.length+1)=l:=by
   have:=congrArg List.tail hd
   simpa [List.tail_drop] using this
  have g:=F.aH
  have b:=(F.aX _ _ he).2
  unfold eL
  rw[if_neg (by omega),iE he]
  have w:IntKind.i64.wrap ((p.length:Int)+1)=((p.length+1:Nat):Int):=by rw[cP (by omega)];omega
  simp only[w]
  have key:=BJ (u:=u) (p:=p) (by omega) g.2 (f:=eL u fuel ((p.length+1:Nat):Int)) (G:=fun n=>((er (p++[n]) l).filter (fJ u)).map (fun x=>some (c9 x))) (lo:=e.high.low) (hi:=e.high.high) ⟨b.1,b.2.2.1⟩
   (fun n n1 n2 x k=>by
    have:=BK F l (p++[n]) fuel x (by simpa using d) (by simp;omega) (by omega) (fun j y a o=>by
     by_cases c:j<p.length
     ·obtain ⟨m,hm,q⟩:=hb j y a c
      exact ⟨m,by rw[List.getElem?_append_left c];exact hm,q⟩
     ·simp at o
      obtain rfl:j=p.length:=by omega
      rw[he] at a;cases a
      exact ⟨n,by simp,n1,n2⟩) k
    simpa using this) 100 e.high.low h H (Int.le_refl _) (by omega) (by omega)
  refine ⟨?_,key.2⟩
  rw[key.1,show er p (e::l)=(dn e.high).flatMap fun n=>er (p++[n]) l from rfl,List.filter_flatMap,List.map_flatMap]
theorem HK (j:Nat):co ⟨0,0,0⟩ j=0:=by
 unfold co;split
 ·rfl
 ·split
  ·rfl
  ·split<;>rfl
theorem HL {u:ak}(F:Fit u):mz u=(bQ u).map (fun x=>some (c9 x)):=by
 have c:=F.aH;exact (BK F u.aH [] 5 ⟨0,0,0⟩ rfl (by simp) (by omega) (fun j e _ a=>absurd a (by simp)) ⟨fun j n b=>by simp at b,fun j _=>HK j⟩).1
theorem BL:∀(l:List aV) (s:List aV),s.length+l.length<=1000000->iX nO (l.map some) s=some (.nx (s++l))
 |[],s,_=>by simp[iX]
 |x::l,s,h=>by
  simp only[List.length_cons] at h
  simp only[List.map_cons]
  have:=BL l (s++[x]) (by simp;omega)
  rw[show s++x::l=s++[x]++l by simp,<-this]
  have e:nO x s=some (.nx (s++[x])):=by
   unfold nO
   rw[oe (by simp;omega)]
   rfl
  show iX _ (some x::l.map some) s=_
  rw[iX,e]
  rfl
theorem HM {l:List aV}(h:l.length<=1000):p7 (l.map some)=some l:=by
 unfold p7 se;rw[BL l [] (by simp;omega)];simp[ag,aA]
def HN:cM:=⟨Ba,[]⟩
theorem s4 {u:ak}(F:Fit u){b:List (ak->Option Int)}(h:e9 u b=some (u,0)):gz u b=some (if (bQ u).isEmpty then (HN,9) else (⟨u,(bQ u).map c9⟩,0)):=by
 unfold gz;rw[h];simp only[ag];rw[show ((0:Int) != 0)=false by decide];simp only[cond_false];have hl:=(xD F).2;rw[HL F,show (bQ u).map (fun x=>some (c9 x))=((bQ u).map c9).map some by simp,HM (by simp;omega)];simp only[ag];cases bQ u with
 |nil=>rfl
 |cons a l=>
  rw[show ((((a::l).map c9).length:Int)==0)=false by simp;omega];rfl
structure xE (u:ak):Prop where
 e:u.aD.length<=20
 p:u.props.length<=20
 y:u.aH.length<=20
 t:u.told.length<=20
theorem bars {u:ak}(L:xE u):∃c,e8 u=some c/\mH u=some c:=by
 obtain ⟨b,c,a⟩:=G6 u L.e L.p L.y L.t;exact ⟨c,a,b▸a⟩
theorem xF {u:ak}(h:e8 u=some 0):e9 u []=some (u,0):=by
 unfold e9;rw[h];rfl
theorem HO (u:ak)(n:Int):eK n u=some (cond (iA u n) 0 6):=by
 unfold eK;rw[(w6 u n).2];simp only[ag];cases iA u n<;>rfl
theorem HP {u:ak}(F:Fit u){n:Int}:iA u n=true↔0<=n/\n<u.aH.length:=by
 have:=F.aH;unfold iA;rw[cP (by omega),fS];omega
theorem s5 {α β σ:Type}(f:α->β)(g:Nat->β->σ->σ):∀(l:List α) (i:Nat) (s:σ),foldI g i (l.map f) s=foldI (fun i x s=>g i (f x) s) i l s
 |[],_,_=>rfl
 |x::l,i,s=>by
  simp only[List.map_cons]
  unfold foldI
  exact s5 f g l (i+1) _
theorem BM {α σ:Type}{g g':Nat->α->σ->σ}:∀(l:List α) (i:Nat) (s:σ),(∀j x s,x∈l->g j x s=g' j x s)->foldI g i l s=foldI g' i l s
 |[],_,_,_=>rfl
 |x::l,i,s,h=>by
  unfold foldI
  rw[h i x s (List.mem_cons_self ..)]
  exact BM l (i+1) _ fun j y s a=>h j y s (List.mem_cons_of_mem _ a)
theorem BN {u:ak}{h:List Int}(hm:h∈bQ u):od u h/\fJ u h=true:=by
 obtain ⟨a,b⟩:=List.mem_filter.1 hm;exact ⟨xC a,b⟩
section
variable {u : ak} (F : Fit u) {i : Nat} {e : b6} (he : u.aH[i]? = some e)
include F he
theorem xG {h:List Int}(hm:h∈bQ u):∃n,h[i]?=some n/\ff u i (h[i]?.getD 0)=⟨e.back,n⟩/\(1<=e.back/\e.back<=20)/\0<=n/\n<=60:=by
 obtain ⟨n,c,a,b⟩:=(BN hm).1.xz i e he;obtain ⟨c1,c2,c3,c4,d⟩:=F.aX _ _ he;refine ⟨n,c,?_,c1,by omega,by omega⟩;rw[c];unfold ff;rw[he];rfl
end
end Go.Proofs.YtpgcmoanfifglaaGreatDoor
end
section
namespace Go.Sep
open Go Go.Conc
def mM (P:Program)(J:Goroutine->aa->Prop)(ops:Array Oper)(F0:aa)(Q:Act->aa->Prop):List Oper->Bool->Act->aa->Prop
 |[],_,a,F=>Q a F
 |o::rest,_,a,F=>match cz ops o a with
  |some true=>cI P J o (fun v F'=>Knows F0 F'/\mM P J ops F0 Q rest (!Oper.calls o) (bf a o.dst v) F') a F
  |some false=>mM P J ops F0 Q rest true (bf a o.dst undef) F
  |none=>False
theorem HQ {P:Program}{J:Goroutine->aa->Prop}{ops:Array Oper}{F0:aa}{Q:Act->aa->Prop}{go:Bool}{a:Act}{F:aa}:mM P J ops F0 Q [] go a F=Q a F:=rfl
theorem HR {P:Program}{J:Goroutine->aa->Prop}{ops:Array Oper}{F0:aa}{Q:Act->aa->Prop}{o:Oper}{rest:List Oper}{a:Act}{F:aa}:mM P J ops F0 Q (o::rest) true a F=match cz ops o a with
  |some true=>cI P J o (fun v F'=>Knows F0 F'/\mM P J ops F0 Q rest (!Oper.calls o) (bf a o.dst v) F') a F
  |some false=>mM P J ops F0 Q rest true (bf a o.dst undef) F
  |none=>False:=(Eq.refl _).trans (Eq.refl _)
attribute [irreducible] mM
attribute [go_sem] HQ HR
end Go.Sep
end
section
namespace Go.Proofs.YtpgcmoanfifglaaGreatDoor
open Go Go.Sep Go.Proofs
set_option maxRecDepth 100000
set_option maxHeartbeats 4000000
def kD (u:ak)(h:List Int):Bool:=(List.range u.aH.length).all fun i=>!gD u (ff u i (h[i]?.getD 0))
theorem BO {α:Type}{g:Nat->Bool}:∀(l:List α) (i:Nat),iD (fun i _=>if g i then none else some false) i l=if (List.range' i l.length).all g then none else some false
 |[],_=>rfl
 |x::l,i=>by
  unfold iD
  rw[List.length_cons,List.range'_succ,List.all_cons]
  cases h:g i with
  |false=>simp[h]
  |true=>
   simp only[h,if_true,Bool.true_and]
   exact BO l (i+1)
theorem BP {u:ak}(F:Fit u){h:List Int}(hm:h∈bQ u)(all:List aV):jD (c9 h) ⟨u,all⟩=some (kD u h):=by
 have b:=F.aH;unfold jD
 rw[s0 (t:=fun i _=>if !gD u (ff u i (h[i]?.getD 0)) then none else some false) u.aH 0 false fun j e s he=>by
  rw[Nat.zero_add];have c:j<u.aH.length:=(List.getElem?_eq_some_iff.1 he).1;obtain ⟨m,a,hs,hb⟩:=xG F he hm;have hg:aV.get (c9 h) (j:Int)=some m:=s3 (by omega) (by omega) (by simpa using a);unfold rY ir;simp only[hg,ag,iE he,(xy F (s:=⟨e.back,m⟩) hb).1,hs]
  cases gD u ⟨e.back,m⟩<;>rfl]
 rw[BO (g:=fun i=>!gD u (ff u i (h[i]?.getD 0)))];simp only[ag];unfold kD;rw[List.range_eq_range'];cases (List.range' 0 u.aH.length).all fun i=>!gD u (ff u i (h[i]?.getD 0))<;>rfl
def mN (n m:Nat):Int:=if n=m then 1 else if n=0 then 2 else 0
theorem HS {k:cM}{f:aV->Option Bool}{g:aV->Bool}(hl:k.all.length<=1000)(h:∀x,x∈k.all->f x=some (g x)):nJ k f=some (mN (k.all.countP g) k.all.length):=by
 have key:=iB (f:=pZ f) (ρ:=Int) (g:=fun _ x (n:Int)=>cond (g x) (n+1) n) (I:=fun j n=>0<=n/\n<=j/\j<=k.all.length) k.all 0 0 ⟨by omega,by omega,by omega⟩
  (fun j x n hx b=>by
   have e:j<k.all.length:=(List.getElem?_eq_some_iff.1 hx).1;refine ⟨?_,by cases g x<;>simp<;>omega⟩;unfold pZ;rw[h x (List.mem_of_getElem? hx)];simp only[ag];rw[cP (n:=n+1) (by omega)]
   cases g x<;>rfl)
 have a:∀(l:List aV) (j:Nat) (n:Int),foldI (fun _ x (n:Int)=>cond (g x) (n+1) n) j l n=n+(l.countP g:Nat):=by
  intro l
  induction l with
  |nil=>intro j n;simp[foldI]
  |cons x l ih=>
   intro j n;unfold foldI;rw[ih,List.countP_cons];cases g x<;>simp<;>omega
 rw[a] at key;unfold nJ;rw[key.1];simp only[ag,aA,Int.zero_add];unfold mN;by_cases c:k.all.countP g=k.all.length
 ·rw[if_pos c,show (((k.all.countP g:Nat):Int)==(k.all.length:Int))=true by rw[c];simp];rfl
 ·rw[if_neg c,show (((k.all.countP g:Nat):Int)==(k.all.length:Int))=false by simp;omega];simp only[cond_false];by_cases d:k.all.countP g=0
  ·rw[if_pos d,d];rfl
  ·rw[if_neg d,show (((k.all.countP g:Nat):Int)==0)=false by rw[beq_eq_false_iff_ne];omega];rfl
theorem BQ {u:ak}(F:Fit u)(h:e8 u=some 0):ko u=some (if (bQ u).isEmpty then (0,9) else (mN ((bQ u).countP (kD u)) (bQ u).length,0)):=by
 have hl:=(xD F).2;unfold ko;rw[s4 F (xF h)];simp only[ag];cases hs:(bQ u).isEmpty with
 |true=>rfl
 |false=>
  simp only[Bool.false_eq_true,if_false];rw[show ((0:Int) != 0)=false by decide];simp only[cond_false];have key:∀x,x∈(bQ u).map c9->jD x ⟨u,(bQ u).map c9⟩=some ((jD x ⟨u,(bQ u).map c9⟩).getD false):=fun x hx=>by
   rw[List.mem_map] at hx;obtain ⟨y,a,rfl⟩:=hx;rw[BP F a];rfl
  rw[HS (k:=⟨u,(bQ u).map c9⟩) (g:=fun x=>(jD x ⟨u,(bQ u).map c9⟩).getD false) (by simp;omega) key];simp only[List.countP_map,List.length_map];have e:(bQ u).countP ((fun x=>(jD x ⟨u,(bQ u).map c9⟩).getD false) ∘ c9)=(bQ u).countP (kD u):=List.countP_congr fun y a=>by
   simp only[Function.comp];rw[BP F a];rfl
  rw[e]
structure Q2 (u o:ak):Prop where
 bH:o.bH=u.bH
 bV:o.bV=u.bV
 aF:o.aF=u.aF
 props:o.props=u.props
 aH:o.aH=u.aH
 told:o.told=u.told
 dF:∀x,x∈u.props->jd o x.place=jd u x.place
 xH:∀s:aY,(1<=s.back/\s.back<=20)/\0<=s.high/\s.high<=60->(c6 o s).2=(c6 u s).2
theorem mO {n a b:Int}(c:a<=n)(d:n<=b):bK n a b=true:=fS.2 ⟨c,d⟩
section
variable {u : ak} {s : aY} (F : Fit u) (h : e8 u = some 0) (hs : (1 ≤ s.back ∧ s.back ≤ 20) ∧ 0 ≤ s.high ∧ s.high ≤ 60)
include F h hs
theorem HT:e9 u [eJ s]=some (u,0):=by
 have hb:eJ s u=some 0:=by
  rw[Hi,Hj];unfold xk;rw[mO hs.1.1 hs.1.2,mO hs.2.1 hs.2.2];rfl
 rw[Bb h hb];rfl
theorem HU:nN u s=some ((c6 u s).1,(c6 u s).2,0):=by
 unfold nN;obtain ⟨c,k1,a,b,d⟩:=sW F hs;simp only[HT F h hs,ag,bne_self_eq_false,cond_false,k1];rw[<-a]
end
def lu (o:Nat)(S:List Int)(i:Nat):List Int:=(List.replicate o (S.flatMap fun n=>List.replicate i n)).flatten
def og:List (List Int):=[[0],[0,1],[0,2],[0,1,2]]
def mP:List (Nat×Nat):=[(1,1),(1,2),(1,3),(1,4),(1,6),(1,9),(2,1),(3,1),(4,1),(6,1),(9,1),(2,2),(2,3),(3,2),(3,3)]
def xI (l:List Int):Option (List Int):=ag (p9 l) fun x=>sw x.2
def oh (c:Nat):Bool:=mP.all fun p=>og.all fun S=>xI (lu p.1 (S.map (· +(c:Int))) p.2)==some (S.map (· +(c:Int)))
theorem HV:∀c:Fin 16,oh c.val=true:=by decide+kernel
theorem HW:∀c:Fin 16,oh (16+c.val)=true:=by decide+kernel
theorem HX:∀c:Fin 16,oh (32+c.val)=true:=by decide+kernel
theorem HY:∀c:Fin 13,oh (48+c.val)=true:=by decide+kernel
theorem HZ {c:Nat}(h:c<=60):oh c=true:=by
 rcases Nat.lt_or_ge c 16 with x|x
 ·exact HV ⟨c,x⟩
 rcases Nat.lt_or_ge c 32 with y|y
 ·have:=HW ⟨c - 16,by omega⟩
  rwa [show 16+(c - 16)=c by omega] at this
 rcases Nat.lt_or_ge c 48 with z|z
 ·have:=HX ⟨c - 32,by omega⟩
  rwa [show 32+(c - 32)=c by omega] at this
 ·have:=HY ⟨c - 48,by omega⟩
  rwa [show 48+(c - 48)=c by omega] at this
theorem H6 {c:Nat}(h:c<=60){p:Nat×Nat}(a:p∈mP){S:List Int}(b:S∈og):xI (lu p.1 (S.map (· +(c:Int))) p.2)=some (S.map (· +(c:Int))):=by
 have:=HZ h;unfold oh at this;rw[List.all_eq_true] at this;have:=this p a;rw[List.all_eq_true] at this;simpa using this S b
def om (u:ak)(i:Nat)(n:Int):Bool:=u.told.all fun t=>t.aX != (i:Int)||(gD u (ff u i n)==t.bu)
def pL:List (List Int)->List (List Int)
 |[]=>[[]]
 |s::r=>s.flatMap fun n=>(pL r).map (n::·)
def jI (P:Nat->Int->Bool):Nat->List Int->Bool
 |_,[]=>true
 |i,x::r=>P i x&&jI P (i+1) r
def gY (P:Nat->Int->Bool):Nat->List (List Int)->List (List Int)
 |_,[]=>[]
 |i,s::r=>s.filter (P i)::gY P (i+1) r
def lz (u:ak):List (List Int):=gY (om u) 0 (u.aH.map fun e=>dn e.high)
theorem BR:∀(l:List b6) (p:List Int),er p l=(pL (l.map fun e=>dn e.high)).map (p++·)
 |[],p=>by simp[er,pL]
 |e::l,p=>by
  unfold er
  rw[List.map_cons]
  unfold pL
  rw[List.map_flatMap]
  congr 1
  funext n
  rw[BR l (p++[n]),List.map_map]
  refine List.map_congr_left fun q _=>?_
  simp
theorem BS {α β:Type}(p:α->Bool)(f:α->List β):∀l:List α,(l.filter p).flatMap f=l.flatMap fun x=>if p x then f x else []
 |[]=>rfl
 |x::l=>by
  rw[List.flatMap_cons,<-BS p f l,List.filter_cons]
  cases p x<;>simp
theorem BT (P:Nat->Int->Bool):∀(S:List (List Int)) (i:Nat),(pL S).filter (jI P i)=pL (gY P i S)
 |[],i=>rfl
 |s::r,i=>by
  rw[show gY P i (s::r)=s.filter (P i)::gY P (i+1) r from rfl,show pL (s::r)=s.flatMap fun n=>(pL r).map (n::·) from rfl,
   show pL (s.filter (P i)::gY P (i+1) r)=(s.filter (P i)).flatMap fun n=>(pL (gY P (i+1) r)).map (n::·) from rfl]
  rw[BS,List.filter_flatMap]
  congr 1
  funext n
  rw[List.filter_map]
  cases h:P i n with
  |false=>
   rw[show (jI P i ∘ fun x=>n::x)=fun _=>false by funext q;simp[jI,h]]
   simp
  |true=>
   rw[show (jI P i ∘ fun x=>n::x)=jI P (i+1) by funext q;simp[jI,h],BT P r (i+1)]
   rfl
theorem BU (P:Nat->Int->Bool):∀(h:List Int) (i:Nat),jI P i h=(List.range h.length).all fun j=>P (i+j) (h[j]?.getD 0)
 |[],i=>rfl
 |x::r,i=>by
  unfold jI
  rw[BU P r (i+1),List.length_cons,List.range_succ_eq_map,List.all_cons,List.all_map]
  congr 1
  refine congrArg (fun f=>List.all _ f) ?_
  funext j
  simp only[Function.comp]
  rw[show i+1+j=i+(j+1) by omega]
  rfl
theorem H7 {u:ak}(F:Fit u){h:List Int}(H:od u h):fJ u h=jI (om u) 0 h:=by
 rw[BU,Bool.eq_iff_iff];unfold fJ;rw[List.all_eq_true,List.all_eq_true];constructor
 ·intro a j d;rw[Nat.zero_add];unfold om;rw[List.all_eq_true];intro t ht;by_cases c:t.aX=(j:Int)
  ·have:=a t ht;unfold kA at this;rw[c,Int.toNat_natCast] at this;rw[this,Bool.or_true]
  ·rw[show (t.aX != (j:Int))=true by simpa using c,Bool.true_or]
 ·intro a t ht;obtain ⟨k,b⟩:=List.mem_iff_getElem?.1 ht;obtain ⟨e,b2⟩:=F.xd k t b;have hl:=H.len;have:=a t.aX.toNat (by rw[List.mem_range];omega);rw[Nat.zero_add] at this;unfold om at this;rw[List.all_eq_true] at this;have:=this t ht;rw[show (t.aX != (t.aX.toNat:Int))=false by rw[bne_eq_false_iff_eq];omega,Bool.false_or] at this;exact this
theorem BV {u:ak}(F:Fit u):bQ u=pL (lz u):=by
 unfold bQ lz;rw[<-BT];have e:er [] u.aH=pL (u.aH.map fun e=>dn e.high):=by rw[BR];simp
 rw[<-e];refine List.filter_congr fun h hm=>?_;exact H7 F (xC hm)
theorem BW:∀S:List (List Int),(pL S).length=(S.map List.length).foldr (· *·) 1
 |[]=>rfl
 |s::r=>by
  unfold pL
  rw[List.length_flatMap,List.map_cons,List.foldr_cons,<-BW r]
  simp only[List.length_map]
  rw[List.map_const',List.sum_replicate_nat]
theorem BX {α:Type}(x:List α)(m:Nat):∀o:Nat,(List.replicate o (List.replicate m x).flatten).flatten=(List.replicate (o*m) x).flatten
 |0=>by simp
 |o+1=>by
  rw[List.replicate_succ,List.flatten_cons,BX x m o,<-List.flatten_append,List.replicate_append_replicate]
  congr 2
  rw[Nat.add_mul];omega
theorem BY {α β:Type}(x:List β):∀l:List α,l.flatMap (fun _=>x)=(List.replicate l.length x).flatten
 |[]=>rfl
 |a::l=>by rw[List.flatMap_cons,BY x l,List.length_cons,List.replicate_succ,List.flatten_cons]
theorem BZ:∀(S:List (List Int)) (i:Nat) (s:List Int),S[i]?=some s->(pL S).map (fun h=>h[i]?.getD 0)=lu (((S.take i).map List.length).foldr (· *·) 1) s (((S.drop (i+1)).map List.length).foldr (· *·) 1)
 |[],i,s,h=>by simp at h
 |a::r,0,s,h=>by
  have h:a=s:=by simpa using h
  subst h
  unfold pL lu
  rw[List.map_flatMap]
  simp only[List.take_zero,List.map_nil,List.foldr_nil,List.replicate_one,List.flatten_cons,List.flatten_nil,List.append_nil,Nat.zero_add,List.drop_succ_cons,List.drop_zero]
  rw[<-BW]
  congr 1
  funext n
  rw[List.map_map,show ((fun h:List Int=>h[0]?.getD 0) ∘ fun x=>n::x)=fun _=>n from rfl,List.map_const']
 |a::r,i+1,s,h=>by
  have h:r[i]?=some s:=by simpa using h
  have ih:=BZ r i s h
  unfold pL
  rw[List.map_flatMap]
  have e:(fun n:Int=>List.map (fun h:List Int=>h[i+1]?.getD 0) (List.map (fun x=>n::x) (pL r)))=fun _=>(pL r).map fun h=>h[i]?.getD 0:=by
   funext n
   rw[List.map_map]
   rfl
  rw[e,ih,BY]
  unfold lu
  rw[BX]
  congr 2
theorem B1 (P:Nat->Int->Bool):∀(S:List (List Int)) (i j:Nat),(gY P i S)[j]?=S[j]?.map (List.filter (P (i+j)))
 |[],i,j=>by simp[gY]
 |s::r,i,0=>by simp[gY]
 |s::r,i,j+1=>by
  have:=B1 P r (i+1) j
  rw[show i+1+j=i+(j+1) by omega] at this
  simpa [gY] using this
theorem B2 (P:Nat->Int->Bool):∀(S:List (List Int)) (i:Nat),(gY P i S).length=S.length
 |[],i=>rfl
 |s::r,i=>by simp[gY,B2 P r (i+1)]
def de (u:ak)(i:Nat)(e:b6):List Int:=(dn e.high).filter (om u i)
theorem xJ {u:ak}{i:Nat}{e:b6}(he:u.aH[i]?=some e):(lz u)[i]?=some (de u i e):=by
 unfold lz;rw[B1,List.getElem?_map,he];simp[de]
theorem xK (u:ak):(lz u).length=u.aH.length:=by unfold lz;rw[B2,List.length_map]
theorem H8 (P:Int->Bool){b:dh}(f:0<=b.low)(g:b.low<=b.high)(i:b.high<=60)(j:b.high - b.low<3):
  (dn b).filter P=[]\/∃(c:Nat) (T:List Int),c<=60/\T∈og/\(dn b).filter P=T.map (· +(c:Int)):=by
 obtain ⟨c,d⟩:∃c:Nat,b.low=(c:Int):=⟨b.low.toNat,by omega⟩
 rcases (show b.high=c\/b.high=c+1\/b.high=c+2 by omega) with h|h|h
 ·have e:dn b=[(c:Int)]:=by unfold dn;rw[h,d,show ((c:Int) - c+1).toNat=1 by omega];simp[List.range,List.range.loop]
  rw[e]
  cases p0:P c
  ·left;simp[List.filter,p0]
  ·right;exact ⟨c,[0],by omega,by decide,by simp[List.filter,p0]⟩
 ·have e:dn b=[(c:Int),c+1]:=by unfold dn;rw[h,d,show ((c:Int)+1 - c+1).toNat=2 by omega];simp[List.range,List.range.loop]
  rw[e]
  cases p0:P c<;>cases a:P (c+1)
  ·left;simp[List.filter,p0,a]
  ·right;exact ⟨c+1,[0],by omega,by decide,by simp[List.filter,p0,a]⟩
  ·right;exact ⟨c,[0],by omega,by decide,by simp[List.filter,p0,a]⟩
  ·right;exact ⟨c,[0,1],by omega,by decide,by simp[List.filter,p0,a];omega⟩
 ·have e:dn b=[(c:Int),c+1,c+2]:=by unfold dn;rw[h,d,show ((c:Int)+2 - c+1).toNat=3 by omega];simp[List.range,List.range.loop]
  rw[e]
  cases p0:P c<;>cases a:P (c+1)<;>cases p2:P (c+2)
  ·left;simp[List.filter,p0,a,p2]
  ·right;exact ⟨c+2,[0],by omega,by decide,by simp[List.filter,p0,a,p2]⟩
  ·right;exact ⟨c+1,[0],by omega,by decide,by simp[List.filter,p0,a,p2]⟩
  ·right;exact ⟨c+1,[0,1],by omega,by decide,by simp[List.filter,p0,a,p2];omega⟩
  ·right;exact ⟨c,[0],by omega,by decide,by simp[List.filter,p0,a,p2]⟩
  ·right;exact ⟨c,[0,2],by omega,by decide,by simp[List.filter,p0,a,p2];omega⟩
  ·right;exact ⟨c,[0,1],by omega,by decide,by simp[List.filter,p0,a,p2];omega⟩
  ·right;exact ⟨c,[0,1,2],by omega,by decide,by simp[List.filter,p0,a,p2];omega⟩
theorem B3:∀{S:List (List Int)},pL S≠[]->∀s,s∈S->s≠[]
 |[],_,s,h=>by simp at h
 |a::r,b,s,h=>by
  have e:pL (a::r)=a.flatMap fun n=>(pL r).map (n::·):=rfl
  rcases List.mem_cons.1 h with rfl|h
  ·intro he;rw[e,he] at b;exact b rfl
  ·refine B3 (S:=r) (fun he=>?_) s h
   rw[e,he] at b
   exact b (by simp)
theorem H9 {o k:Nat}(c:1<=o)(d:1<=k){s:List Int}{n:Int}:n∈lu o s k↔n∈s:=by
 unfold lu;rw[List.mem_flatten];constructor
 ·rintro ⟨l,hl,a⟩;rw[List.mem_replicate] at hl;rw[hl.2,List.mem_flatMap] at a;obtain ⟨m,hm,b⟩:=a;rw[(List.mem_replicate.1 b).2];exact hm
 ·intro a;exact ⟨_,List.mem_replicate.2 ⟨by omega,rfl⟩,List.mem_flatMap.2 ⟨n,a,List.mem_replicate.2 ⟨by omega,rfl⟩⟩⟩
def mQ (l:List Nat):Nat:=l.foldr (· *·) 1
theorem Ia {L:List Nat}(d:L.length<=3)(h:∀x,x∈L->1<=x/\x<=3){i:Nat}(hi:i<L.length):(mQ (L.take i),mQ (L.drop (i+1)))∈mP:=by
 match L,d,h,hi with
 |[a],_,h,hi=>
  obtain rfl:i=0:=by simpa using hi
  show (1,1)∈mP;decide
 |[a,b],_,h,hi=>
  have e:=h a (by simp);have hb:=h b (by simp);rcases (show a=1\/a=2\/a=3 by omega) with rfl|rfl|rfl<;>rcases (show b=1\/b=2\/b=3 by omega) with rfl|rfl|rfl<;>rcases (show i=0\/i=1 by simp at hi;omega) with rfl|rfl<;>decide
 |[a,b,c],_,h,hi=>
  have e:=h a (by simp);have hb:=h b (by simp);have f:=h c (by simp);rcases (show a=1\/a=2\/a=3 by omega) with rfl|rfl|rfl<;>rcases (show b=1\/b=2\/b=3 by omega) with rfl|rfl|rfl<;>rcases (show c=1\/c=2\/c=3 by omega) with rfl|rfl|rfl<;>rcases (show i=0\/i=1\/i=2 by simp at hi;omega) with rfl|rfl|rfl<;>decide
theorem xL {α β:Type}(f:α->β):∀l:List α,(l.flatMap fun x=>[f x])=l.map f
 |[]=>rfl
 |a::l=>by rw[List.flatMap_cons,xL f l];rfl
theorem B4 {T:List Int}(h:T∈og):1<=T.length/\T.length<=3:=by
 unfold og at h;simp only[List.mem_cons,List.not_mem_nil,or_false] at h;rcases h with rfl|rfl|rfl|rfl<;>decide
variable {u : ak} (F : Fit u) (aG : bQ u ≠ []) {i : Nat} {e : b6} (he : u.aH[i]? = some e)
include F aG he
theorem xM:∃(c:Nat) (T:List Int),c<=60/\T∈og/\de u i e=T.map (· +(c:Int)):=by
 obtain ⟨c1,c2,c3,c4,a⟩:=F.aX _ _ he;rcases H8 (om u i) (b:=e.high) c2 c3 c4 a with h|h
 ·rw[BV F] at aG;exact absurd h (B3 aG _ (List.mem_of_getElem? (xJ he)))
 ·exact h
theorem B5:∃p,p∈mP/\1<=p.1/\1<=p.2/\(bQ u).map (fun h=>h[i]?.getD 0)=lu p.1 (de u i e) p.2:=by
 have hi:i<u.aH.length:=(List.getElem?_eq_some_iff.1 he).1;have m:=F.aH;have hl:∀x,x∈(lz u).map List.length->1<=x/\x<=3:=fun x hx=>by
  rw[List.mem_map] at hx;obtain ⟨s,hs,rfl⟩:=hx;obtain ⟨j,f⟩:=List.mem_iff_getElem?.1 hs;have g:j<u.aH.length:=by rw[<-xK u];exact (List.getElem?_eq_some_iff.1 f).1
  have k:=xJ (u:=u) (List.getElem?_eq_getElem g);rw[f] at k;obtain ⟨c,T,-,l,e2⟩:=xM F aG (List.getElem?_eq_getElem g);rw[Option.some.inj k,e2,List.length_map];exact B4 l
 have d:=Ia (L:=(lz u).map List.length) (by simp[xK];omega) hl (i:=i) (by simp[xK];omega);refine ⟨_,d,?_,?_,?_⟩
 ·revert d;generalize mQ _=a;generalize mQ _=b;intro d;have:∀q,q∈mP->1<=q.1:=by decide
  exact this _ d
 ·revert d;generalize mQ _=a;generalize mQ _=b;intro d;have:∀q,q∈mP->1<=q.2:=by decide
  exact this _ d
 ·rw[BV F,BZ _ i _ (xJ he)];unfold mQ;rw[List.map_take,List.map_drop]
theorem B6 {n:Int}:n∈de u i e↔∃h,h∈bQ u/\h[i]?=some n:=by
 obtain ⟨p,f,a,p2,b⟩:=B5 F aG he;rw[<-H9 a p2,<-b,List.mem_map];constructor
 ·rintro ⟨h,hm,rfl⟩;obtain ⟨m,c,_⟩:=(BN hm).1.xz i e he;exact ⟨h,hm,by rw[c];rfl⟩
 ·rintro ⟨h,hm,d⟩;exact ⟨h,hm,by rw[d];rfl⟩
theorem Ib:bE (nU (i:Int)) 0 ((bQ u).map c9) []=some (.nx ((bQ u).map fun h=>h[i]?.getD 0)):=by
 have hi:i<u.aH.length:=(List.getElem?_eq_some_iff.1 he).1;have c:=F.aH;have hl:=(xD F).2;have key:=iB (f:=nU (i:Int)) (g:=fun _ x (s:List Int)=>s++[(aV.get x (i:Int)).getD 0]) (I:=fun j s=>s.length<=j/\j<=(bQ u).length) ((bQ u).map c9) 0 [] ⟨by simp,by omega⟩
  (fun j x s hx d=>by
   rw[List.getElem?_map,Option.map_eq_some_iff] at hx;obtain ⟨h,a,rfl⟩:=hx;have e:j<(bQ u).length:=(List.getElem?_eq_some_iff.1 a).1;obtain ⟨m,hm,hs,hb⟩:=xG F he (List.mem_of_getElem? a);have hg:aV.get (c9 h) (i:Int)=some m:=s3 (by omega) (by omega) (by simpa using hm);refine ⟨?_,?_⟩
   ·unfold nU;simp only[hg,ag,Option.getD_some];unfold cZ;rw[if_pos (by simp;omega)]
   ·simp only[List.length_append,List.length_singleton];omega)
 rw[key.1,s5];congr 2;have e1:foldI (fun k x s=>s++[((c9 x).get (i:Int)).getD 0]) 0 (bQ u) []=foldI (fun _ x (s:List Int)=>s++(fun x:List Int=>[x[i]?.getD 0]) x) 0 (bQ u) []:=by
  refine BM _ _ _ fun j h s hm=>?_;obtain ⟨m,b,hs,hb⟩:=xG F he hm;have hg:aV.get (c9 h) (i:Int)=some m:=s3 (by omega) (by omega) (by simpa using b);rw[hg];show _=s++[h[i]?.getD 0];rw[b]
 rw[e1,qq,List.nil_append];exact xL _ _
theorem B7:k4 ⟨u,(bQ u).map c9⟩ (i:Int)=some (de u i e):=by
 obtain ⟨p,a,j,p2,b⟩:=B5 F aG he;obtain ⟨c,T,d,f,g⟩:=xM F aG he;have hs:=H6 d a f;rw[<-g,<-b] at hs;unfold k4;rw[Ib F aG he];unfold xI at hs;simp only[ag,aA] at hs ⊢;cases h:p9 ((bQ u).map fun h=>h[i]?.getD 0) with
 |none=>rw[h] at hs;cases hs
 |some x=>
  rw[h] at hs;simp only at hs ⊢;rw[hs]
omit F aG he in
theorem B8 {x y:an}(hx:∃n d,0<d/\x=bw n d)(b:∃n d,0<d/\y=bw n d)(h:x.num*y.den=y.num*x.den):x=y:=by
 obtain ⟨n,d,hd,ex⟩:=hx;obtain ⟨m,e,he,a⟩:=b;have f:0<x.den:=by rw[ex];exact (lf n d hd).2
 have g:0<y.den:=by rw[a];exact (lf m e he).2
 have k1:bw x.num x.den.toNat=x:=by rw[ex];exact xB n d hd
 have c:bw y.num y.den.toNat=y:=by rw[a];exact xB m e he
 rw[<-k1,<-c];refine xj (by omega) (by omega) ?_;rw[show ((y.den.toNat:Nat):Int)=y.den by omega,show ((x.den.toNat:Nat):Int)=x.den by omega];exact h
end Go.Proofs.YtpgcmoanfifglaaGreatDoor
end

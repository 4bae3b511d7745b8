/- A part of the proof of a row and its tied card: Q5. -/
import Derived.Test.YtjepffnffjdloaaGreatDoorQ4
set_option linter.all false
section
namespace Go.Proofs.YtjepffnffjdloaaGreatDoor
open Go Go.Sep Go.Proofs
set_option maxRecDepth 100000
set_option maxHeartbeats 4000000
section
variable {u : ak} {s : aO} (F : Fit u) (hs : (1 ≤ s.back ∧ s.back ≤ 20) ∧ 0 ≤ s.high ∧ s.high ≤ 60)
include F hs
theorem BU {a b:av}(c:SR a)(hb:SR b):∃d,jI a b=some d/\hU a b=some d/\Sm d 40000000000 64000000:=by
 have e:=xH c hb (by decide) (by decide) (by decide)
 have f:=xG c hb (by decide) (by decide)
 refine ⟨_,e,f,?_⟩
 have h1:=cJ c.num (show b.den.natAbs<=8000 by have:=hb.den;omega)
 have h2:=cJ hb.num (show a.den.natAbs<=8000 by have:=c.den;omega)
 have h3:=cJ (show a.den.natAbs<=8000 by have:=c.den;omega) (show b.den.natAbs<=8000 by have:=hb.den;omega)
 have g:0<a.den*b.den:=Int.mul_pos c.den.1 hb.den.1
 have:=jk (a.num*b.den - b.num*a.den) (a.den*b.den).toNat (by omega)
 exact ⟨Nat.le_trans this.num (by omega),this.den.1,by have:=this.den.2;omega⟩
theorem BV:Sm (⟨0,1⟩:av) 1 1:=⟨by decide,by decide,by decide⟩
theorem BW {d:av}(hd:Sm d 40000000000 64000000):∃m,iB eL d [⟨0,1⟩]=some m/\gd d ⟨0,1⟩=some m/\Sm m 40000000000 64000000:=by
 have a:=qA hd (BV F hs) (by decide) (by decide)
 refine ⟨cond (bP d ⟨0,1⟩) ⟨0,1⟩ d,?_,?_,?_⟩
 ·unfold iB bG qg
  simp only[a.2,ah]
  unfold bP
  cases decide (d.num*(⟨0,1⟩:av).den<(⟨0,1⟩:av).num*d.den)<;>rfl
 ·unfold gd
  simp only[a.1,ah]
  unfold bP
  cases decide (d.num*(⟨0,1⟩:av).den<(⟨0,1⟩:av).num*d.den)<;>rfl
 ·cases bP d ⟨0,1⟩
  ·exact hd
  ·exact (BV F hs).mono (by decide) (by decide)
theorem BX {f:Nat->bA->av->Option (Fl av av)}(h:f=mS\/f=mT){e:av}(he:SR e):
  ∃st m,jJ u s=some st/\bG f 0 st e=some (.nx m)/\SR m/\((kP u s=some (⟨0,0⟩,false)/\m=e)\/∃b,kP u s=some (b,true)/\gd e b=some m):=by
 rcases tK F hs with ⟨_,h1,h2⟩|⟨st,b,h1,h2,h3⟩
 ·exact ⟨[],e,h1,rfl,he,.inl ⟨h2,rfl⟩⟩
 ·have a:∀x∈st,SR x.high:=fun x d=>(h3.le x d).2.1
  obtain ⟨k1,i⟩:=HD h a he
  refine ⟨st,_,h1,k1,i,.inr ⟨b,h2,?_⟩⟩
  rw[qE he h3.sm]
  obtain ⟨c,l,rfl⟩:∃c l,st=c::l:=by
   cases st with
   |nil=>exact absurd rfl h3.ne
   |cons c l=>exact ⟨c,l,rfl⟩
  have g:=a c (List.mem_cons_self ..)
  have e1:b=foldI (fun _ (x:bA) st=>cZ st x.high) 0 l c.high:=by rw[h3.xN];exact BS l 0 c
  have e2:=BR he g l c.high (fun x d=>a x (List.mem_cons_of_mem _ d)) g 1 0
  congr 1
  rw[e1,<-e2]
  rfl
theorem xO:∃r,kG u s=some r/\qw u s=some r/\Sm r 40000000000 64000000:=by
 obtain ⟨c,h1,h2,h3,i⟩:=oJ F hs
 have e2:c.high=(c8 u s).2:=by rw[<-h2]
 have p:SR (⟨u.bD,1⟩:av):=(tF F hs).mono (by decide) (by decide)
 unfold kG qw
 rw[h1,i]
 simp only[ah,tE,<-e2,(lT h3 p).1,(lT h3 p).2]
 cases bP c.high ⟨u.bD,1⟩ with
 |true=>
  simp only[cond_true]
  obtain ⟨st,m,t1,t2,t3,t4⟩:=BX F hs (.inl rfl) (f:=mS) h3
  obtain ⟨d,d1,d2,d3⟩:=BU F hs p t3
  obtain ⟨z,g,a,e⟩:=BW F hs d3
  simp only[t1,t2,aG,d1,g]
  rcases t4 with ⟨k1,rfl⟩|⟨b,k1,h⟩
  ·simp only[k1,cond_false,d2,a]
   exact ⟨z,rfl,rfl,e⟩
  ·simp only[k1,cond_true,h,d2,a]
   exact ⟨z,rfl,rfl,e⟩
 |false=>
  simp only[cond_false]
  obtain ⟨st,m,t1,t2,t3,t4⟩:=BX F hs (.inr rfl) (f:=mT) p
  obtain ⟨d,d1,d2,d3⟩:=BU F hs h3 t3
  obtain ⟨z,g,a,e⟩:=BW F hs d3
  simp only[t1,t2,aG,d1,g]
  rcases t4 with ⟨k1,rfl⟩|⟨b,k1,h⟩
  ·simp only[k1,cond_false,d2,a]
   exact ⟨z,rfl,rfl,e⟩
  ·simp only[k1,cond_true,h,d2,a]
   exact ⟨z,rfl,rfl,e⟩
theorem HE:∃b,gv u s=some b/\th u s=some b:=by
 obtain ⟨r,h1,h2,h3⟩:=xO F hs
 have c:Sm u.aR 20 20:=⟨by have:=F.num;omega,by have:=F.den;omega,by have:=F.den;omega⟩
 have a:=qA c h3 (by decide) (by decide)
 unfold gv th
 simp only[h1,h2,a.1,a.2,ah]
 exact ⟨_,rfl,rfl⟩
end
section
variable (u : ak) (h0 : u.aj.length ≤ 20) (h1 : u.props.length ≤ 20) (h2 : u.aE.length ≤ 20) (h3 : u.told.length ≤ 20) (s : aO)
include h0 h1 h2 h3
theorem HF:(∃c,c≠0/\eT u [er s]=some (tC,c)/\s8 u s=some c)\/
  (Fit u/\((1<=s.back/\s.back<=20)/\0<=s.high/\s.high<=60)/\eT u [er s]=some (u,0)/\s8 u s=some 0):=by
 obtain ⟨e,c,a⟩:=By u h0 h1 h2 h3
 unfold s8
 rw[<-e,a]
 by_cases b:c=0
 ·subst b
  have F:=Bz u h0 a
  have hb:er s u=some (lS s):=by rw[BD];exact xL s
  rw[xJ a hb,xL]
  simp only[ah,bne_self_eq_false,cond_false]
  by_cases d:lS s=0
  ·rw[d]
   exact .inr ⟨F,Hv d,rfl,rfl⟩
  ·have:(lS s != 0)=true:=by simpa using d
   rw[this]
   exact .inl ⟨_,d,rfl,rfl⟩
 ·rw[Ht _ a b]
  have:(c != 0)=true:=by simpa using b
  simp only[ah,this,cond_true]
  exact .inl ⟨c,b,rfl,rfl⟩
theorem HG:∃r,kI u s=some r/\Bn u s=some r:=by
 unfold kI Bn
 rcases HF u h0 h1 h2 h3 s with ⟨c,d,e1,e2⟩|⟨F,hs,e1,e2⟩
 ·have:(c != 0)=true:=by simpa using d
  simp only[e1,e2,ah,this,cond_true]
  exact ⟨_,rfl,rfl⟩
 ·simp only[e1,e2,ah,bne_self_eq_false,cond_false]
  rcases tK F hs with ⟨_,k1,a⟩|⟨st,b,k1,a,e⟩
  ·simp only[k1,a]
   exact ⟨_,rfl,rfl⟩
  ·obtain ⟨c,l,rfl,m,f,g⟩:=BP F hs e
   simp only[k1,a]
   have z:((((c::l).length:Nat):Int)==0)=false:=by simp;omega
   have y:eA (c::l) 1 (((c::l).length:Nat):Int)=some l:=by
    unfold eA
    rw[if_pos (by simp only[List.length_cons];omega)]
    simp
   rw[z]
   simp only[cond_false]
   rw[show bw (c::l) 0=some c from rfl,y]
   simp only[f]
   rw[g]
   exact ⟨_,rfl,rfl⟩
end
theorem BY {a b c:av}(d:0<a.den)(hb:0<b.den)(e:0<c.den)(h1:bP b a=false)(h2:bP b c=true):bP a c=true:=by
 cases h:bP a c with
 |true=>rfl
 |false=>
  have:=BQ hb d e h1 h
  rw[h2] at this;cases this
section
variable {u : ak} {s : aO} (F : Fit u) (hs : (1 ≤ s.back ∧ s.back ≤ 20) ∧ 0 ≤ s.high ∧ s.high ≤ 60)
include F hs
structure xP (u:ak)(s:aO)(i:Nat)(st:Int×av):Prop where
 there:∃(n:Nat) (p:bH),n<i/\st=((n:Int),cE u s p)/\u.aj[n]?=some p/\∀(j:Nat) q,j<n->u.aj[j]?=some q->bP (cE u s q) (cE u s p)=true
 Rl:∀(j:Nat) q,j<i->u.aj[j]?=some q->bP st.2 (cE u s q)=false
theorem BZ:∀(l:List bH) (i:Nat) (st:Int×av),(∀(j:Nat) x,l[j]?=some x->u.aj[i+j]?=some x)->xP u s i st->xP u s (i+l.length) (foldI (gB u s) i l st)
 |[],i,st,_,h=>h
 |x::l,i,st,d,h=>by
  have a:u.aj[i]?=some x:=d 0 x rfl
  have hd:∀(j:Nat) q,u.aj[j]?=some q->0<(cE u s q).den:=fun j q hq=>(qB u F s hs j q hq).den.1
  unfold foldI
  have key:xP u s (i+1) (gB u s i x st):=by
   obtain ⟨⟨n,p,hn,e,hp,f⟩,hm⟩:=h
   subst e
   unfold gB
   cases c:bP (cE u s p) (cE u s x) with
   |true=>
    simp only[c,cond_true]
    refine ⟨⟨i,x,by omega,rfl,a,fun j q b hq=>?_⟩,fun j q b hq=>?_⟩
    ·exact BY (hd j q hq) (hd n p hp) (hd i x a) (hm j q b hq) c
    ·by_cases e:j=i
     ·subst e;rw[a] at hq;cases hq;exact qD _
     ·exact Hy (BY (hd j q hq) (hd n p hp) (hd i x a) (hm j q (by omega) hq) c)
   |false=>
    simp only[c,cond_false]
    refine ⟨⟨n,p,by omega,rfl,hp,f⟩,fun j q b hq=>?_⟩
    by_cases e:j=i
    ·subst e;rw[a] at hq;cases hq;exact c
    ·exact hm j q (by omega) hq
  have:=BZ l (i+1) _ (fun j y g=>by have:=d (j+1) y (by simpa using g);rwa [show i+(j+1)=i+1+j by omega] at this) key
  rwa [show i+1+l.length=i+(x::l).length by simp;omega] at this
theorem tL:∃(n:Nat) (p:bH),c8 u s=((n:Int),cE u s p)/\u.aj[n]?=some p/\(∀(j:Nat) q,u.aj[j]?=some q->bP (cE u s p) (cE u s q)=false)/\∀(j:Nat) q,j<n->u.aj[j]?=some q->bP (cE u s q) (cE u s p)=true:=by
 have b:=F.aj
 cases he:u.aj with
 |nil=>rw[he] at b;simp at b
 |cons x l=>
  have c:u.aj[0]?=some x:=by rw[he];rfl
  have hb:=BZ F hs l 1 (0,cE u s x) (fun j y d=>by rw[he,Nat.add_comm];simpa using d)
   ⟨⟨0,x,by omega,rfl,c,fun j q a=>absurd a (by omega)⟩,fun j q a hq=>by
    obtain rfl:j=0:=by omega
    rw[c] at hq;cases hq;exact qD _⟩
  have ev:c8 u s=foldI (gB u s) 1 l (0,cE u s x):=by unfold c8;rw[he]
  obtain ⟨⟨n,p,hn,e,hp,f⟩,hm⟩:=hb
  rw[e] at hm ev
  refine ⟨n,p,ev,by rw[<-he];exact hp,fun j q hq=>?_,fun j q a hq=>f j q a (by rw[he];exact hq)⟩
  refine hm j q ?_ (by rw[he];exact hq)
  have:=(List.getElem?_eq_some_iff.1 hq).1
  simp at this;omega
theorem oK {i:Nat}{p:bH}(hp:u.aj[i]?=some p):((cE u s p).num - s.high*(cE u s p).den)*(p.an+s.back)=(p.high - s.high)*(u.aZ+s.back)*(cE u s p).den/\0<(cE u s p).den:=by
 have a:=F.dn i p hp
 have hd:0<(1*(p.an+s.back)).toNat:=by omega
 have h:=lR (s.high*1*(p.an+s.back)+(p.high - s.high*1)*(u.aZ+s.back)) (1*(p.an+s.back)).toNat hd
 have e:(((1*(p.an+s.back)).toNat:Nat):Int)=p.an+s.back:=by omega
 rw[e] at h
 refine ⟨?_,h.2⟩
 have h1:=h.1
 show ((cE u s p).num - s.high*(cE u s p).den)*(p.an+s.back)=_
 have h2:(cE u s p).num*(p.an+s.back)=(s.high*1*(p.an+s.back)+(p.high - s.high*1)*(u.aZ+s.back))*(cE u s p).den:=h1
 grind
end
theorem xQ {A D X E f H h:Int}(a:0<D)(b:0<f)(e:(A - h*D)*f=H*D)(l:¬X*D<A*E):H*E<=(X - h*E)*f:=by
 rcases Int.lt_or_le ((X - h*E)*f) (H*E) with c|c
 ·exfalso
  have h1:=Int.mul_lt_mul_of_pos_right c a
  have h2:(A - h*D)*f*E=H*D*E:=by rw[e]
  have h3:=Int.mul_le_mul_of_nonneg_right (Int.not_lt.1 l) (Int.le_of_lt b)
  grind
 ·exact c
theorem HH {A D X E f H h:Int}(a:0<D)(b:0<f)(e:(A - h*D)*f=H*D)(l:A*E<X*D):H*E<(X - h*E)*f:=by
 rcases Int.lt_or_le (H*E) ((X - h*E)*f) with c|c
 ·exact c
 ·exfalso
  have h1:=Int.mul_le_mul_of_nonneg_right c (Int.le_of_lt a)
  have h2:(A - h*D)*f*E=H*D*E:=by rw[e]
  have h3:=Int.mul_lt_mul_of_pos_right l b
  grind
theorem xR (n:Int)(d:Nat)(hd:0<d):bt (bt n d).num (bt n d).den.toNat=bt n d:=by
 obtain ⟨h1,h2⟩:=lR n d hd
 refine xK (by omega) hd ?_
 rw[show (((bt n d).den.toNat:Nat):Int)=(bt n d).den by omega]
 exact h1
section
variable {u : ak} {s : aO} (F : Fit u) (hs : (1 ≤ s.back ∧ s.back ≤ 20) ∧ 0 ≤ s.high ∧ s.high ≤ 60)
include F hs
theorem HI:∃(n:Nat) (x:av),c8 u s=((n:Int),x)/\n<u.aj.length/\SR x/\(∃a b,0<b/\x=bt a b)/\∀(i:Nat) p,u.aj[i]?=some p->
  (i=n->(x.num - s.high*x.den)*(p.an+s.back)=(p.high - s.high)*(u.aZ+s.back)*x.den)/\(p.high - s.high)*(u.aZ+s.back)*x.den<=(x.num - s.high*x.den)*(p.an+s.back)/\
  (i<n->(p.high - s.high)*(u.aZ+s.back)*x.den<(x.num - s.high*x.den)*(p.an+s.back)):=by
 obtain ⟨n,c,e1,d,hm,g⟩:=tL F hs
 have j:=F.dn n c d
 refine ⟨n,cE u s c,e1,(List.getElem?_eq_some_iff.1 d).1,qB u F s hs n c d,⟨_,_,by omega,rfl⟩,fun i p hp=>⟨fun e=>?_,?_,fun hi=>?_⟩⟩
 ·subst e;rw[d] at hp;cases hp
  exact (oK F hs d).1
 ·have h:=F.dn i p hp
  obtain ⟨k1,f⟩:=oK F hs hp
  have:=hm i p hp
  unfold bP at this
  exact xQ f (by omega) k1 (by simpa using this)
 ·have h:=F.dn i p hp
  obtain ⟨k1,f⟩:=oK F hs hp
  have:=g i p hi hp
  unfold bP at this
  exact HH f (by omega) k1 (by simpa using this)
end
theorem tN {u:ak}(F:Fit u):∀(n i:Nat) (x y:bH),u.aj[i]?=some x->u.aj[i+1+n]?=some y->x.an<y.an
 |0,i,x,y,b,a=>F.kS i x y b a
 |n+1,i,x,y,b,a=>by
  have c:i+1+(n+1)<u.aj.length:=(List.getElem?_eq_some_iff.1 a).1
  have hm:u.aj[i+1+n]?=some (u.aj[i+1+n]'(by omega)):=List.getElem?_eq_getElem _
  have h1:=tN F n i x _ b hm
  have h2:=F.kS _ _ y hm (by rw[<-a];congr 1)
  omega
theorem HJ {b a h1 h2 f1 f2 p d:Int}(hd:f2 - f1=d)(h:b*d=(h1*d+(h2 - h1)*(p - f1))*a):(b - h1*a)*(f2 - f1)=(h2 - h1)*(p - f1)*a:=by
 subst hd;grind
theorem HK {b c h1 h2 f1 p d:Int}(hd:p - f1=d)(h0:0<d)(h:b*d=(h1*d+(h2 - h1)*(p - f1))*c):b=h2*c:=by
 rw[hd] at h
 refine Int.eq_of_mul_eq_mul_right (a:=d) (by omega) ?_
 grind
theorem HL {b c h1 h2 f1 p d:Int}(hd:p=f1)(h0:0<d)(h:b*d=(h1*d+(h2 - h1)*(p - f1))*c):b=h1*c:=by
 subst hd
 refine Int.eq_of_mul_eq_mul_right (a:=d) (by omega) ?_
 grind
theorem B1 {u:ak}(F:Fit u){p:Int}{a z:bH}(q:u.aj[0]?=some a)(r:u.aj[u.aj.length - 1]?=some z)(s:a.an<=p)(hp:p<=z.an):
  ∃g,gu u p=some g/\oG u p=some g/\Sm g 7200 60/\(∃n d,0<d/\g=bt n d)/\∀(i:Nat) (x y:bH),u.aj[i]?=some x->u.aj[i+1]?=some y->x.an<=p->p<=y.an->(g.num - x.high*g.den)*(y.an - x.an)=(y.high - x.high)*(p - x.an)*g.den:=by
 obtain ⟨g,h1,h2,h3,k,b,y',d,f,h,t,v,hd,o,hg⟩:=xI u F p a z q r s hp
 refine ⟨g,h1,h2,h3,⟨_,d,o,hg⟩,fun i x y l m w p2=>?_⟩
 have j:=(lR (b.high*d+(y'.high - b.high)*(p - b.an)) d o).1
 rw[<-hg] at j
 rcases Nat.lt_trichotomy i k with c|c|c
 ·have e:i+1=k:=by
   rcases Nat.lt_or_ge (i+1) k with c2|c2
   ·have:=tN F (k - (i+1) - 1) (i+1) y b m (by rw[<-f];congr 1;omega)
    omega
   ·omega
  subst e
  rw[m] at f;cases f
  have:=HL (by omega) (by omega) j
  rw[this,show p=b.an by omega]
  grind
 ·subst c
  rw[l] at f;cases f
  rw[m] at h;cases h
  exact HJ hd j
 ·have e:k+1=i:=by
   rcases Nat.lt_or_ge (k+1) i with c2|c2
   ·have:=tN F (i - (k+1) - 1) (k+1) y' x h (by rw[<-l];congr 1;omega)
    omega
   ·omega
  subst e
  rw[l] at h;cases h
  have:=HK (by omega) (by omega) j
  rw[this,show p=y'.an by omega]
  grind
def ij (a b:av):av:=bt (a.num*b.den - b.num*a.den) (a.den*b.den).toNat
def jS (u:ak)(s:aO):av:=foldI (gM u s) 0 u.props ⟨0,0⟩
def m9 (u:ak)(s:aO):av:=cond (bP (c8 u s).2 ⟨u.bD,1⟩) ⟨u.bD,1⟩ (c8 u s).2
def oL (u:ak)(s:aO):av:=cond (bP (c8 u s).2 ⟨u.bD,1⟩) (c8 u s).2 ⟨u.bD,1⟩
def nc (u:ak)(s:aO):av:=cond (decide (0<(u.props.length:Int))) (cZ (oL u s) (jS u s)) (oL u s)
def kU (u:ak)(s:aO):av:=cZ (ij (m9 u s) (nc u s)) ⟨0,1⟩
theorem HM:Sm (⟨0,1⟩:av) 1 1:=⟨by decide,by decide,by decide⟩
theorem HN {a b:av}(c:SR a)(hb:SR b):Sm (ij a b) 40000000000 64000000:=by
 have h1:=cJ c.num (show b.den.natAbs<=8000 by have:=hb.den;omega)
 have h2:=cJ hb.num (show a.den.natAbs<=8000 by have:=c.den;omega)
 have h3:=cJ (show a.den.natAbs<=8000 by have:=c.den;omega) (show b.den.natAbs<=8000 by have:=hb.den;omega)
 have d:0<a.den*b.den:=Int.mul_pos c.den.1 hb.den.1
 have:=jk (a.num*b.den - b.num*a.den) (a.den*b.den).toNat (by omega)
 unfold ij
 exact ⟨Nat.le_trans this.num (by omega),this.den.1,by have:=this.den.2;omega⟩
theorem xS {a b:av}(c:SR a)(hb:SR b):hU a b=some (ij a b):=xG c hb (by decide) (by decide)
theorem HO {d:av}(hd:Sm d 40000000000 64000000):gd d ⟨0,1⟩=some (cZ d ⟨0,1⟩):=by
 have a:=qA hd HM (by decide) (by decide)
 unfold gd
 simp only[a.1,ah]
 unfold cZ bP
 cases decide (d.num*(⟨0,1⟩:av).den<(⟨0,1⟩:av).num*d.den)<;>rfl
section
variable {u : ak} {s : aO} (F : Fit u) (hs : (1 ≤ s.back ∧ s.back ≤ 20) ∧ 0 ≤ s.high ∧ s.high ≤ 60)
include F hs
theorem qF:SR (⟨u.bD,1⟩:av):=(tF F hs).mono (by decide) (by decide)
theorem HP:SR (m9 u s):=by
 unfold m9
 cases bP (c8 u s).2 ⟨u.bD,1⟩
 ·exact qC F hs
 ·exact qF F hs
theorem B2:SR (oL u s):=by
 unfold oL
 cases bP (c8 u s).2 ⟨u.bD,1⟩
 ·exact qF F hs
 ·exact qC F hs
theorem xT (h:u.props≠[]):SR (jS u s):=by
 rcases tK F hs with ⟨h0,_,_⟩|⟨st,b,_,h2,h3⟩
 ·exact absurd h0 h
 ·rw[tJ F hs] at h2
  have e:jS u s=b:=(Prod.mk.inj (Option.some.inj h2)).1
  rw[e];exact h3.sm
theorem HQ:SR (nc u s):=by
 unfold nc
 cases h:decide (0<(u.props.length:Int)) with
 |false=>exact B2 F hs
 |true=>
  refine lU (B2 F hs) (xT F hs fun e=>?_)
  rw[e] at h;simp at h
theorem HR:qw u s=some (kU u s):=by
 obtain ⟨c,h1,h2,h3,f⟩:=oJ F hs
 have es:SR (c8 u s).2:=qC F hs
 have ps:=qF F hs
 unfold qw
 rw[f,tJ F hs]
 simp only[ah,(lT es ps).1]
 have g:=HQ F hs
 have h:=HP F hs
 have key:∀a b:av,SR a->SR b->ah (hU a b) (fun x=>ah (gd x ⟨0,1⟩) fun y=>some y)=some (cZ (ij a b) ⟨0,1⟩):=fun a b d hb=>by
  rw[xS d hb]
  simp only[ah]
  rw[HO (HN d hb)]
 simp only[ah] at key
 unfold kU nc m9 oL
 cases i:bP (c8 u s).2 ⟨u.bD,1⟩ with
 |true=>
  simp only[cond_true]
  cases hp:decide (0<(u.props.length:Int)) with
  |true=>
   have cs:=xT F hs (fun e=>by rw[e] at hp;simp at hp)
   simp only[cond_true]
   rw[show foldI (gM u s) 0 u.props ⟨0,0⟩=jS u s from rfl,qE es cs]
   exact key _ _ ps (lU es cs)
  |false=>exact key _ _ ps es
 |false=>
  simp only[cond_false]
  cases hp:decide (0<(u.props.length:Int)) with
  |true=>
   have cs:=xT F hs (fun e=>by rw[e] at hp;simp at hp)
   simp only[cond_true]
   rw[show foldI (gM u s) 0 u.props ⟨0,0⟩=jS u s from rfl,qE ps cs]
   exact key _ _ es (lU ps cs)
  |false=>exact key _ _ es ps
theorem xU:kG u s=some (kU u s):=by
 obtain ⟨r,h1,h2,_⟩:=xO F hs
 rw[HR F hs] at h2
 rw[h1,<-h2]
end
section
variable {u : ak} {s : aO} (F : Fit u) (hs : (1 ≤ s.back ∧ s.back ≤ 20) ∧ 0 ≤ s.high ∧ s.high ≤ 60)
include F hs
end
theorem qG {α:Type}{t:Nat->α->Option Int}:∀(l:List α) (i:Nat),(∀j x,l[j]?=some x->t (i+j) x=none)->dm t i l=none
 |[],i,_=>rfl
 |y::l,i,h=>by
  unfold dm
  have h0:=h 0 y rfl
  rw[Nat.add_zero] at h0
  rw[h0]
  exact qG l (i+1) fun j x a=>by
   have:=h (j+1) x (by simpa using a)
   rwa [show i+(j+1)=i+1+j by omega] at this
theorem xV {u:ak}(h:dM u=some 0):gV u=0:=by
 have a:je u=some 0:=h
 unfold je at a
 rw[tq] at a
 simp only[ah] at a
 cases hg:(gV u != 0) with
 |true=>rw[hg] at a;exact Option.some.inj a
 |false=>simpa using hg
theorem xW {u:ak}(hg:gV u=0)(F:Fit u):dM u=some 0:=by
 have h:=F.aj
 have i:=F.aZ
 have k:=F.props
 have l:=F.aE
 have m:=F.told
 show je u=some 0
 unfold je
 rw[tq,hg]
 show lI u=some 0
 unfold lI
 rw[(xC u (by omega)).1,qG u.aj 0 fun j x c=>?_,dV.2 (show (2:Int)<=(u.aj.length:Int)/\(u.aj.length:Int)<=5 by omega)]
 ·show lH u=some 0
  unfold lH
  obtain ⟨f,d⟩:=xD u (by omega) (by omega)
  rw[tv u f d,qG u.props 0 fun j x c=>?_,show decide (3<(u.props.length:Int))=false by simp;omega]
  ·show lG u=some 0
   unfold lG
   rw[tu,qG u.aE 0 fun j x c=>?_,dV.2 (show (1:Int)<=(u.aE.length:Int)/\(u.aE.length:Int)<=3 by omega)]
   ·show lF u=some 0
    unfold lF n8
    rw[tr,qG u.told 0 fun j x c=>?_,show decide (3<(u.told.length:Int))=false by simp;omega]
    ·rfl
    ·obtain ⟨a,b⟩:=F.m8 j x c
     unfold jj kR
     rw[bR (by omega),dV.2 ⟨a,by omega⟩]
     rfl
   ·obtain ⟨a,g,b2,b3,b4⟩:=F.aQ j x c
    unfold ig kQ
    rw[dV.2 a,bR (by omega),show decide (3<=x.high.high - x.high.low)=false by simp;omega,decide_eq_true g,decide_eq_true b2,decide_eq_true b3]
    rfl
  ·obtain ⟨a,b⟩:=F.prop j x c
   have:=(d x.place).1
   rw[a] at this
   unfold ie
   rw[<-Option.some.inj this,dV.2 b]
   rfl
 ·obtain ⟨a,b⟩:=F.dn j x c
  unfold gx
  rw[bR (by omega),dV.2 a,dV.2 b]
  simp only[cond_true,Nat.zero_add]
  cases j with
  |zero=>rfl
  |succ j=>
   have n:=(List.getElem?_eq_some_iff.1 c).1
   have e:u.aj[j]?=some (u.aj[j]'(by omega)):=List.getElem?_eq_getElem _
   have:=F.kS j _ x e c
   simp only[e]
   rw[show decide (x.an<=(u.aj[j]'(by omega)).an)=false by simp;omega]
   rfl
section
variable {u : ak} {s : aO} (F : Fit u) (hs : (1 ≤ s.back ∧ s.back ≤ 20) ∧ 0 ≤ s.high ∧ s.high ≤ 60)
include F hs
end
def qH (a:(List (List Int)))(b:Int)(c:b6)(st:((List (List Int))×Int)):Option (Fl ((List (List Int))×Int) (List (List Int))):=
 cond (decide (st.2<=c.high.high)) (ah (bw a b) fun d=>ah (cB ([]:List Int) d) fun e=>ah (cB e ([st.2])) fun f=>ah (cB st.1 ([f])) fun g=>some (.nx (g,(IntKind.i64.wrap (st.2+1))))) (some (.bk (st.1,st.2)))
def qI (u0:ak)(a:(List (List Int)))(c:Int)(st:((List (List Int))×Int)):Option (Fl ((List (List Int))×Int) (List (List Int))):=
 cond (decide (st.2<(a.length:Int))) (ah (bw u0.aE c) fun b=>ah (bg (qH a st.2 b) fu (st.1,b.high.low)) fun o=>aG o (fun d=>some (.nx (d.1,(IntKind.i64.wrap (st.2+1))))) (fun _ _=>none) (fun r=>some (.rt r))) (some (.bk (st.1,st.2)))
def tO (u0:ak)(st:((List (List Int))×Int)):Option (Fl ((List (List Int))×Int) (List (List Int))):=
 cond (decide (st.2<(u0.aE.length:Int))) (ah (bg (qI u0 st.1 st.2) fu (([]:List (List Int)),0)) fun o=>aG o (fun a=>some (.nx (a.1,(IntKind.i64.wrap (st.2+1))))) (fun _ _=>none) (fun r=>some (.rt r))) (some (.bk (st.1,st.2)))
def tP (u0:ak)(a:(List (List Int)))(st:((List (List Int))×Int)):Option (Fl ((List (List Int))×Int) (List (List Int))):=
 cond (decide (st.2<(a.length:Int))) (ah (bw a st.2) fun b=>ah (xB u0 b) fun c=>cond (c) (ah (cB st.1 ([b])) fun d=>some (.nx (d,(IntKind.i64.wrap (st.2+1))))) (some (.nx (st.1,(IntKind.i64.wrap (st.2+1)))))) (some (.bk (st.1,st.2)))
def tQ (u0:ak):Option (List (List Int)):=
 ah (bg (tO u0) fu (([([]:(List Int))]),0)) fun o=>aG o (fun a=>ah (bg (tP u0 a.1) fu (([]:List (List Int)),0)) fun o=>aG o (fun b=>some b.1) (fun _ _=>none) (fun r=>some r)) (fun _ _=>none) (fun r=>some r)
def gR {α ρ:Type}(t:Nat->α->Option ρ):Nat->List α->Option ρ
 |_,[]=>none
 |i,x::l=>match t i x with
  |some r=>some r
  |none=>gR t (i+1) l
def ng {σ ρ:Type}(o:Option ρ)(s:σ):Fl σ ρ:=match o with
 |some r=>.rt r
 |none=>.nx s
theorem xX {α σ ρ:Type}{f:Nat->α->σ->Option (Fl σ ρ)}{t:Nat->α->Option ρ}:∀(l:List α) (i:Nat) (s:σ),(∀j x s,l[j]?=some x->f (i+j) x s=some (ng (t (i+j) x) s))->bG f i l s=some (ng (gR t i l) s)
 |[],i,s,_=>rfl
 |x::l,i,s,h=>by
  have h0:=h 0 x s rfl
  simp only[Nat.add_zero] at h0
  unfold bG gR
  rw[h0]
  cases ht:t i x with
  |some r=>rfl
  |none=>
   show bG f (i+1) l s=_
   exact xX l (i+1) s fun j y s a=>by
    have:=h (j+1) y s (by simpa using a)
    rwa [show i+(j+1)=i+1+j by omega] at this
theorem B3 {α σ ρ:Type}{f:σ×Int->Option (Fl (σ×Int) ρ)}{t:Nat->α->Option ρ}(l:List α)(h:∀(i:Nat) x s,l[i]?=some x->f (s,(i:Int))=some (ng (t i x) (s,((i+1:Nat):Int))))(a:∀s,f (s,(l.length:Int))=some (.bk (s,(l.length:Int)))):
  ∀(k i n:Nat) (s:σ),i+k=l.length->k<n->bg f n (s,(i:Int))=some (ng (gR t i (l.drop i)) (s,(l.length:Int)))
 |0,i,n+1,s,hi,_=>by
  obtain rfl:i=l.length:=by omega
  unfold bg
  rw[a,List.drop_length]
  rfl
 |k+1,i,n+1,s,hi,hn=>by
  have b:i<l.length:=by omega
  have c:l[i]?=some l[i]:=List.getElem?_eq_getElem b
  unfold bg
  rw[h i _ s c,List.drop_eq_getElem_cons b]
  unfold gR
  cases ht:t i l[i] with
  |some r=>rfl
  |none=>exact B3 l h a k (i+1) n s (by omega) (by omega)
theorem B4 {α σ ρ:Type}{f:σ×Int->Option (Fl (σ×Int) ρ)}{t:Nat->α->Option ρ}(l:List α)(a:l.length<=1000)(h:∀(i:Nat) x s,l[i]?=some x->f (s,(i:Int))=some (ng (t i x) (s,((i+1:Nat):Int))))(b:∀s,f (s,(l.length:Int))=some (.bk (s,(l.length:Int))))(s:σ):
  bg f fu (s,0)=some (ng (gR t 0 l) (s,(l.length:Int))):=by
 have:=B3 l h b l.length 0 fu s (by omega) (Nat.lt_of_le_of_lt a (by decide))
 simpa using this
theorem B5 {α ρ:Type}{g:α->Bool}{r:ρ}:∀(l:List α) (i:Nat),gR (fun _ x=>if g x then none else some r) i l=if l.all g then none else some r
 |[],_=>rfl
 |x::l,i=>by
  unfold gR
  cases h:g x with
  |false=>simp[h]
  |true=>
   simp only[h,if_true,List.all_cons,Bool.true_and]
   exact B5 l (i+1)
theorem B6 {α:Type}{g:α->Bool}:∀(l:List α) (i:Nat),∃r,gR (fun i x=>if g x then some (i:Int) else none) i l=r/\decide (0<=r.getD (-1))=l.any g
 |[],_=>⟨none,rfl,rfl⟩
 |x::l,i=>by
  unfold gR
  cases h:g x with
  |true=>exact ⟨_,rfl,by simp[h]⟩
  |false=>
   obtain ⟨r,h1,h2⟩:=B6 l (i+1) (g:=g)
   exact ⟨r,by simpa using h1,by simpa [h] using h2⟩
theorem gy {α:Type}{l:List α}{i:Nat}{x:α}(h:l[i]?=some x):bw l (i:Int)=some x:=by
 unfold bw
 rw[if_pos (by omega)]
 simpa using h
theorem xY {α:Type}{l:List α}{i:Int}{x:α}(h0:0<=i)(h:l[i.toNat]?=some x):bw l i=some x:=by
 unfold bw
 rw[if_pos h0,h]
theorem contains_eq {f:bB->Option Bool}{g:bB->Bool}(l:List bB)(h:∀x,x∈l->f x=some (g x)):ql l f=some (l.any g):=by
 unfold ql sC
 rw[xX (t:=fun i x=>if g x then some (i:Int) else none) l 0 0 fun j x s a=>by
  unfold sB
  rw[h x (List.mem_of_getElem? a)]
  cases g x<;>rfl]
 obtain ⟨r,h1,h2⟩:=B6 (g:=g) l 0
 rw[h1,<-h2]
 cases r<;>rfl
def de (u:ak)(s:aO):Bool:=(gv u s).getD false
theorem qJ {u:ak}(F:Fit u){s:aO}(hs:(1<=s.back/\s.back<=20)/\0<=s.high/\s.high<=60):gv u s=some (de u s)/\th u s=some (de u s):=by
 obtain ⟨b,h1,h2⟩:=HE F hs
 have e:de u s=b:=by unfold de;rw[h1];rfl
 rw[e];exact ⟨h1,h2⟩
def dJ (u:ak)(i:Nat)(n:Int):aO:=⟨(u.aE[i]?.map (·.back)).getD 0,n⟩
structure oM (u:ak)(h:List Int):Prop where
 len:h.length=u.aE.length
 B7:∀(i:Nat) e,u.aE[i]?=some e->∃n,h[i]?=some n/\e.high.low<=n/\n<=e.high.high
def fV (u:ak)(h:List Int)(t:bB):Bool:=de u (dJ u t.aQ.toNat (h[t.aQ.toNat]?.getD 0))==t.bh
def eM (u:ak)(h:List Int):Bool:=u.told.all (fV u h)
theorem xZ {u:ak}{h:List Int}(H:oM u h){i:Int}(h0:0<=i)(h1:i<u.aE.length)(F:Fit u):∃e n,u.aE[i.toNat]?=some e/\h[i.toNat]?=some n/\dJ u i.toNat n=⟨e.back,n⟩/\(1<=e.back/\e.back<=20)/\0<=n/\n<=60:=by
 have c:u.aE[i.toNat]?=some (u.aE[i.toNat]'(by omega)):=List.getElem?_eq_getElem _
 obtain ⟨n,hn,a,b⟩:=H.B7 _ _ c
 obtain ⟨c1,c2,c3,c4,d⟩:=F.aQ _ _ c
 refine ⟨_,n,c,hn,?_,c1,by omega,by omega⟩
 unfold dJ;rw[c];rfl
theorem HS {u:ak}(F:Fit u){h:List Int}(H:oM u h):xB u h=some (eM u h):=by
 unfold xB
 rw[B4 (t:=fun _ x=>if fV u h x then none else some false) u.told (by have:=F.told;omega) (s:=false) (fun i x s c=>?_) (fun s=>?_)]
 ·rw[B5]
  unfold eM
  cases u.told.all (fV u h)<;>rfl
 ·obtain ⟨a,b⟩:=F.m8 i x c
  obtain ⟨e,n,h1,h2,h3,d,f⟩:=xZ H a b F
  have g:i<u.told.length:=(List.getElem?_eq_some_iff.1 c).1
  have ht:=F.told
  unfold xA Bh
  rw[show decide (((i:Nat):Int)<(u.told.length:Int))=true by simp;omega]
  simp only[cond_true,gy c,ah,xY a h1,xY a h2,(qJ F (s:=⟨e.back,n⟩) ⟨d,f⟩).2]
  rw[bR (n:=(i:Int)+1) (by omega)]
  unfold fV
  rw[h2]
  show _=some (ng (if de u (dJ u x.aQ.toNat n)==x.bh then none else some false) (s,((i+1:Nat):Int)))
  rw[h3]
  cases de u ⟨e.back,n⟩==x.bh<;>rfl
 ·unfold xA
  rw[show decide ((u.told.length:Int)<(u.told.length:Int))=false by simp]
  rfl
def cN (l:List Int):aS:=⟨l[0]?.getD 0,l[1]?.getD 0,l[2]?.getD 0⟩
theorem tR {l:List Int}{i:Int}{n:Int}(h0:0<=i)(h1:i<3)(h:l[i.toNat]?=some n):aS.get (cN l) i=some n:=by
 unfold aS.get cN
 rcases (show i=0\/i=1\/i=2 by omega) with rfl|rfl|rfl<;>simp at h<;>simp[h]
theorem HT {u:ak}(F:Fit u){h:List Int}(H:oM u h):og u (cN h)=some (eM u h):=by
 unfold og
 rw[contains_eq (g:=fun t=>!fV u h t) u.told fun x c=>by
  obtain ⟨i,hi⟩:=List.mem_iff_getElem?.1 c
  obtain ⟨a,b⟩:=F.m8 i x hi
  obtain ⟨e,n,h1,h2,h3,d,f⟩:=xZ H a b F
  have:=F.aE
  unfold qn iA
  simp only[tR a (by omega) h2,ah,xY a h1,(qJ F (s:=⟨e.back,n⟩) ⟨d,f⟩).1]
  unfold fV
  rw[h2]
  show _=some (!(de u (dJ u x.aQ.toNat n)==x.bh))
  rw[h3]]
 simp only[ah]
 unfold eM
 rw[show (u.told.any fun t=>!fV u h t)=!(u.told.all (fV u h)) by rw[List.all_eq_not_any_not];simp]
 simp
def eF (b:c6):List Int:=(List.range (b.high - b.low+1).toNat).map fun k=>b.low+(k:Nat)
theorem HU {b:c6}{i:Nat}{x:Int}(h:(eF b)[i]?=some x):x=b.low+i/\b.low+i<=b.high:=by
 unfold eF at h
 rw[List.getElem?_map,Option.map_eq_some_iff] at h
 obtain ⟨k,a,rfl⟩:=h
 obtain ⟨h1,h2⟩:=List.getElem?_eq_some_iff.1 a
 simp at h1 h2
 subst h2
 exact ⟨rfl,by omega⟩
theorem qK (b:c6):(eF b).length=(b.high - b.low+1).toNat:=by simp[eF]
theorem HV {b:c6}{x:Int}:x∈eF b↔b.low<=x/\x<=b.high:=by
 unfold eF
 rw[List.mem_map]
 constructor
 ·rintro ⟨k,a,rfl⟩;rw[List.mem_range] at a;omega
 ·rintro ⟨h1,h2⟩;exact ⟨(x - b.low).toNat,by rw[List.mem_range];omega,by omega⟩
def kV (b:c6)(all:List (List Int)):List (List Int):=all.flatMap fun p=>(eF b).map fun n=>p++[n]
def dz (p:List Int):List b6->List (List Int)
 |[]=>[p]
 |e::l=>(eF e.high).flatMap fun n=>dz (p++[n]) l
def bp (u:ak):List (List Int):=(dz [] u.aE).filter (eM u)
theorem x2 {α β:Type}(g:α->List β):∀(l:List α) (i:Nat) (s:List β),foldI (fun _ x s=>s++g x) i l s=s++l.flatMap g
 |[],_,s=>by simp[foldI]
 |x::l,i,s=>by
  unfold foldI
  rw[x2 g l]
  simp[List.flatMap_cons]
theorem B8:∀(l:List b6) (i:Nat) (all:List (List Int)),foldI (fun _ (e:b6) all=>kV e.high all) i l all=all.flatMap fun p=>dz p l
 |[],_,all=>by
  unfold foldI
  show all=all.flatMap fun p=>[p]
  induction all with
  |nil=>rfl
  |cons a l ih=>rw[List.flatMap_cons,<-ih];rfl
 |e::l,i,all=>by
  unfold foldI
  rw[B8 l]
  unfold kV
  rw[List.flatMap_assoc]
  congr 1
  funext p
  rw[List.flatMap_map]
  rfl
theorem x3:∀(l:List b6) (p h:List Int),h∈dz p l->h.length=p.length+l.length/\(∀(j:Nat) e,l[j]?=some e->∃n,h[p.length+j]?=some n/\e.high.low<=n/\n<=e.high.high)/\∀j,j<p.length->h[j]?=p[j]?
 |[],p,h,hm=>by
  simp only[dz,List.mem_singleton] at hm
  subst hm
  exact ⟨rfl,fun j e he=>by simp at he,fun _ _=>rfl⟩
 |e::l,p,h,hm=>by
  unfold dz at hm
  rw[List.mem_flatMap] at hm
  obtain ⟨n,hn,hm⟩:=hm
  obtain ⟨h1,h2,h3⟩:=x3 l _ _ hm
  rw[List.length_append,List.length_singleton] at h1 h2 h3
  refine ⟨by simp;omega,fun j x a=>?_,fun j b=>?_⟩
  ·cases j with
   |zero=>
    simp at a;subst a
    refine ⟨n,?_,HV.1 hn⟩
    rw[Nat.add_zero,h3 _ (by omega),List.getElem?_append_right (Nat.le_refl _)]
    simp
   |succ j=>
    obtain ⟨m,hm,hb⟩:=h2 j x (by simpa using a)
    exact ⟨m,by rw[<-hm];congr 1;omega,hb⟩
  ·rw[h3 j (by omega),List.getElem?_append_left b]
theorem x4 {u:ak}{h:List Int}(hm:h∈dz [] u.aE):oM u h:=by
 obtain ⟨h1,h2,_⟩:=x3 _ _ _ hm
 exact ⟨by simpa using h1,fun i e he=>by simpa using h2 i e he⟩
theorem B9 {b:c6}(hb:b.high - b.low<3):∀(all:List (List Int)),(kV b all).length<=all.length*3
 |[]=>by simp[kV]
 |p::all=>by
  have:=B9 hb all
  unfold kV at this ⊢
  rw[List.flatMap_cons,List.length_append,List.length_map,qK,List.length_cons]
  omega
theorem iE {α:Type}{l xs:List α}(h:l.length+xs.length<=1000000):cB l xs=some (l++xs):=by
 unfold cB;rw[if_pos h]
theorem HW {all:List (List Int)}{k:Nat}{p:List Int}{e:b6}(b:all[k]?=some p)(hp:p.length<=100)(he:0<=e.high.low/\e.high.low<=e.high.high/\e.high.high<=60/\e.high.high - e.high.low<3)(s:List (List Int))(hs:s.length<=1000):
  bg (qH all (k:Int) e) fu (s,e.high.low)=some (.nx (s++(eF e.high).map (fun n=>p++[n]),e.high.high+1)):=by
 have key:=kT (f:=qH all (k:Int) e) (g:=fun _ x s=>s++[p++[x]]) (I:=fun i s=>s.length<=1000+i) (fun s i=>(s,e.high.low+i)) (eF e.high) (by rw[qK];omega)
  (fun i x s c d=>by
   obtain ⟨rfl,hb⟩:=HU c
   refine ⟨?_,by simp;omega⟩
   unfold qH
   rw[show decide ((s,e.high.low+(i:Int)).2<=e.high.high)=true by simpa using hb]
   simp only[cond_true,gy b,ah,iE (l:=([]:List Int)) (xs:=p) (by simp;omega),List.nil_append,iE (l:=p) (xs:=[e.high.low+(i:Int)]) (by simp;omega),iE (l:=s) (xs:=[p++[e.high.low+(i:Int)]]) (by simp;omega)]
   rw[bR (n:=e.high.low+(i:Int)+1) (by omega)]
   simp;omega)
  (fun s=>by
   unfold qH
   rw[show decide ((s,e.high.low+((eF e.high).length:Int)).2<=e.high.high)=false by rw[qK];simp;omega]
   rfl) s (by omega)
 have:=key.1
 rw[x2 (fun x=>[p++[x]])] at this
 simp only[Int.add_zero] at this
 rw[this]
 congr 2
 refine Prod.ext ?_ ?_
 ·simp only[List.append_cancel_left_eq]
  induction eF e.high with
  |nil=>rfl
  |cons a l ih=>simp[ih]
 ·simp only[qK];omega
theorem HX {u:ak}{all:List (List Int)}{i:Nat}{e:b6}(hi:u.aE[i]?=some e)(hp:∀p∈all,p.length<=100)(b:all.length<=100)(he:0<=e.high.low/\e.high.low<=e.high.high/\e.high.high<=60/\e.high.high - e.high.low<3):
  bg (qI u all (i:Int)) fu (([]:List (List Int)),0)=some (.nx (kV e.high all,(all.length:Int))):=by
 have key:=kT (f:=qI u all (i:Int)) (g:=fun _ p s=>s++(eF e.high).map fun n=>p++[n]) (I:=fun i s=>s.length<=3*i/\i<=all.length) (fun s i=>(s,i)) all (by omega)
  (fun k p s a c=>by
   have d:k<all.length:=(List.getElem?_eq_some_iff.1 a).1
   refine ⟨?_,by simp[qK];omega,by omega⟩
   unfold qI
   rw[show decide ((s,(k:Int)).2<(all.length:Int))=true by simp;omega]
   simp only[cond_true,gy hi,ah,HW a (hp p (List.mem_of_getElem? a)) he s (by omega),aG]
   rw[bR (n:=(k:Int)+1) (by omega)]
   rfl)
  (fun s=>by
   unfold qI
   rw[show decide ((s,(all.length:Int)).2<(all.length:Int))=false by simp]
   rfl) ([]:List (List Int)) ⟨by simp,by omega⟩
 have:=key.1
 rw[x2 (fun p=>(eF e.high).map fun n=>p++[n])] at this
 simpa [kV] using this
theorem Ca {u:ak}:∀(l:List (List Int)) (i:Nat) (s:List (List Int)),foldI (fun _ x s=>if eM u x then s++[x] else s) i l s=s++l.filter (eM u)
 |[],_,s=>by simp[foldI]
 |x::l,i,s=>by
  unfold foldI
  rw[Ca l]
  cases h:eM u x<;>simp[h]
theorem three (i:Nat)(h:i<=3):3 ^ i<=27:=by
 rcases (show i=0\/i=1\/i=2\/i=3 by omega) with rfl|rfl|rfl|rfl<;>decide
theorem oN {u:ak}(F:Fit u):tQ u=some (bp u)/\(bp u).length<=27:=by
 have k:=F.aE
 have key:=kT (f:=tO u) (g:=fun _ (e:b6) all=>kV e.high all) (I:=fun i all=>(∀p∈all,p.length=i)/\all.length<=3 ^ i/\i<=u.aE.length) (fun s i=>(s,i)) u.aE (by omega)
  (fun i e all hi b=>by
   obtain ⟨h1,h2,h3⟩:=b
   have d:i<u.aE.length:=(List.getElem?_eq_some_iff.1 hi).1
   have he:=(F.aQ i e hi).2
   have m:=three i (by omega)
   have hs:=B9 he.2.2.2 all
   refine ⟨?_,fun p hp=>?_,by rw[Nat.pow_succ];omega,by omega⟩
   ·unfold tO
    rw[show decide ((all,(i:Int)).2<(u.aE.length:Int))=true by simp;omega]
    simp only[cond_true,HX hi (fun p hp=>by have:=h1 p hp;omega) (by omega) he,ah,aG]
    rw[bR (n:=(i:Int)+1) (by omega)]
    rfl
   ·unfold kV at hp
    rw[List.mem_flatMap] at hp
    obtain ⟨q,hq,hp⟩:=hp
    rw[List.mem_map] at hp
    obtain ⟨n,_,rfl⟩:=hp
    simp[h1 q hq])
  (fun s=>by
   unfold tO
   rw[show decide ((s,(u.aE.length:Int)).2<(u.aE.length:Int))=false by simp]
   rfl) [[]] ⟨by simp,by simp,by omega⟩
 obtain ⟨k1,a⟩:=key
 rw[B8] at k1 a
 simp only[List.flatMap_cons,List.flatMap_nil,List.append_nil] at k1 a
 have hlen:(dz [] u.aE).length<=27:=Nat.le_trans a.2.1 (three _ (by omega))
 have c:=kT (f:=tP u (dz [] u.aE)) (g:=fun _ x s=>if eM u x then s++[x] else s) (I:=fun i s=>s.length<=i/\i<=(dz [] u.aE).length) (fun s i=>(s,i)) (dz [] u.aE) (by omega)
  (fun i h s hi b=>by
   have d:i<(dz [] u.aE).length:=(List.getElem?_eq_some_iff.1 hi).1
   have j:=HS F (x4 (List.mem_of_getElem? hi))
   refine ⟨?_,by cases eM u h<;>simp<;>omega,by omega⟩
   unfold tP
   rw[show decide ((s,(i:Int)).2<((dz [] u.aE).length:Int))=true by simp;omega]
   simp only[cond_true,gy hi,ah,j]
   rw[bR (n:=(i:Int)+1) (by omega)]
   cases eM u h with
   |false=>rfl
   |true=>simp only[cond_true,iE (l:=s) (xs:=[h]) (by simp;omega)];rfl)
  (fun s=>by
   unfold tP
   rw[show decide ((s,((dz [] u.aE).length:Int)).2<((dz [] u.aE).length:Int))=false by simp]
   rfl) ([]:List (List Int)) ⟨by simp,by omega⟩
 rw[Ca] at c
 refine ⟨?_,Nat.le_trans (List.length_filter_le _ _) hlen⟩
 unfold tQ
 rw[k1]
 simp only[ah,aG]
 rw[c.1]
 simp only[List.nil_append]
 rfl
def co (h:aS)(j:Nat):Int:=if j=0 then h.e0 else if j=1 then h.e1 else if j=2 then h.e2 else 0
theorem HY (h:aS){j:Nat}(a:j<3)(n:Int):∃h1,h.setAt (j:Int) n=some h1/\∀i,co h1 i=if i=j then n else co h i:=by
 rcases (show j=0\/j=1\/j=2 by omega) with rfl|rfl|rfl
 ·refine ⟨{h with e0:=n},rfl,fun i=>?_⟩
  unfold co;split<;>rfl
 ·refine ⟨{h with e1:=n},rfl,fun i=>?_⟩
  unfold co
  by_cases h0:i=0<;>by_cases h1:i=1<;>simp[h0,h1]<;>omega
 ·refine ⟨{h with e2:=n},rfl,fun i=>?_⟩
  unfold co
  by_cases h0:i=0<;>by_cases h1:i=1<;>by_cases h2:i=2<;>simp[h0,h1,h2]<;>omega
structure Ag (u:ak)(p:List Int)(h:aS):Prop where
 at_:∀(j:Nat) n,p[j]?=some n->co h j=n
 no:∀j,u.aE.length<=j->co h j=0
theorem Ag.cN {u:ak}{p:List Int}{h:aS}(H:Ag u p h)(hp:p.length=u.aE.length):h=cN p:=by
 have key:∀j,co h j=p[j]?.getD 0:=fun j=>by
  cases e:p[j]? with
  |some n=>exact H.at_ j n e
  |none=>exact H.no j (by rw[<-hp];exact List.getElem?_eq_none_iff.1 e)
 have a:=key 0
 have k1:=key 1
 have b:=key 2
 cases h
 unfold Go.Proofs.YtjepffnffjdloaaGreatDoor.cN
 rw[<-a,<-k1,<-b]
 rfl
theorem Ag.set {u:ak}{p:List Int}{h:aS}(H:Ag u p h)(b:p.length<u.aE.length)(h3:u.aE.length<=3)(n:Int):∃h1,h.setAt (p.length:Int) n=some h1/\Ag u (p++[n]) h1:=by
 obtain ⟨h1,e1,e2⟩:=HY h (j:=p.length) (by omega) n
 refine ⟨h1,e1,fun j m hm=>?_,fun j a=>?_⟩
 ·rw[e2]
  by_cases e:j=p.length
  ·subst e
   rw[if_pos rfl]
   simpa using hm
  ·rw[if_neg e]
   refine H.at_ j m ?_
   rw[<-hm,List.getElem?_append_left]
   have:=(List.getElem?_eq_some_iff.1 hm).1
   simp at this;omega
 ·rw[e2,if_neg (by omega)];exact H.no j a
theorem Ag.cut {u:ak}{p:List Int}{n:Int}{h:aS}(H:Ag u (p++[n]) h):Ag u p h:=
 ⟨fun j m hm=>H.at_ j m (by rw[List.getElem?_append_left (List.getElem?_eq_some_iff.1 hm).1];exact hm),H.no⟩
theorem Cb {a b:Int}(h:a<=b):eF ⟨a,b⟩=a::eF ⟨a+1,b⟩:=by
 unfold eF
 simp only
 rw[show (b - a+1).toNat=(b - (a+1)+1).toNat+1 by omega,List.range_succ_eq_map]
 simp only[List.map_cons,List.map_map,Function.comp_def]
 congr 1
 ·simp
 ·apply List.map_congr_left;intro k _;simp only[Nat.succ_eq_add_one];omega
theorem HZ {a b:Int}(h:¬a<=b):eF ⟨a,b⟩=[]:=by
 unfold eF
 simp only
 rw[show (b - a+1).toNat=0 by omega]
 rfl
theorem Cc {u:ak}{p:List Int}(hp:p.length<u.aE.length)(h3:u.aE.length<=3){f:aS->List (Option aS)×aS}{G:Int->List (Option aS)}{lo hi:Int}(hb:0<=lo/\hi<=60)
  (a:∀n,lo<=n->n<=hi->∀h,Ag u (p++[n]) h->(f h).1=G n/\Ag u (p++[n]) (f h).2):
  ∀(k:Nat) (n:Int) (h:aS),Ag u p h->lo<=n->n<=61->61 - n<k->(jf f (p.length:Int) hi k n h).1=(eF ⟨n,hi⟩).flatMap G/\Ag u p (jf f (p.length:Int) hi k n h).2
 |0,n,h,H,h1,h2,b=>by omega
 |k+1,n,h,H,h1,h2,b=>by
  unfold jf
  by_cases c:n<=hi
  ·rw[if_pos c,Cb c]
   obtain ⟨x,e1,e2⟩:=H.set hp h3 n
   rw[e1]
   obtain ⟨d,e⟩:=a n h1 c x e2
   have w:IntKind.i64.wrap (n+1)=n+1:=bR (by omega)
   obtain ⟨r1,r2⟩:=Cc hp h3 hb a k (n+1) (f x).2 e.cut (by omega) (by omega) (by omega)
   simp only[w]
   exact ⟨by rw[d,r1,List.flatMap_cons],r2⟩
  ·rw[if_neg c,HZ c]
   exact ⟨rfl,H⟩
theorem Ce {u:ak}(F:Fit u):∀(l:List b6) (p:List Int) (fuel:Nat) (h:aS),u.aE.drop p.length=l->p.length+l.length=u.aE.length->l.length<fuel->
  (∀(j:Nat) e,u.aE[j]?=some e->j<p.length->∃n,p[j]?=some n/\e.high.low<=n/\n<=e.high.high)->Ag u p h->
  (eR u fuel (p.length:Int) h).1=((dz p l).filter (eM u)).map (fun x=>some (cN x))/\Ag u p (eR u fuel (p.length:Int) h).2
 |l,p,0,h,hd,a,b,hb,H=>by omega
 |[],p,fuel+1,h,hd,a,b,hb,H=>by
  have a:p.length=u.aE.length:=by simpa using a
  unfold eR
  rw[if_pos (by omega)]
  obtain rfl:=H.cN a
  have R:=HT F (h:=p) ⟨a,fun i e he=>hb i e he (by have:=(List.getElem?_eq_some_iff.1 he).1;omega)⟩
  refine ⟨?_,H⟩
  rw[R]
  unfold dz
  cases e:eM u p<;>simp[e]
 |e::l,p,fuel+1,h,hd,a,b,hb,H=>by
  simp only[List.length_cons] at a b
  have he:u.aE[p.length]?=some e:=by
   have:=congrArg List.head? hd
   simpa [List.head?_drop] using this
  have k:u.aE.drop (p.length+1)=l:=by
   have:=congrArg List.tail hd
   simpa [List.tail_drop] using this
  have o:=F.aE
  have g:=(F.aQ _ _ he).2
  unfold eR
  rw[if_neg (by omega),gy he]
  have w:IntKind.i64.wrap ((p.length:Int)+1)=((p.length+1:Nat):Int):=by rw[bR (by omega)];omega
  simp only[w]
  have key:=Cc (u:=u) (p:=p) (by omega) o.2 (f:=eR u fuel ((p.length+1:Nat):Int)) (G:=fun n=>((dz (p++[n]) l).filter (eM u)).map (fun x=>some (cN x))) (lo:=e.high.low) (hi:=e.high.high) ⟨g.1,g.2.2.1⟩
   (fun n n1 n2 x q=>by
    have:=Ce F l (p++[n]) fuel x (by simpa using k) (by simp;omega) (by omega) (fun j y d r=>by
     by_cases c:j<p.length
     ·obtain ⟨m,hm,s⟩:=hb j y d c
      exact ⟨m,by rw[List.getElem?_append_left c];exact hm,s⟩
     ·simp at r
      obtain rfl:j=p.length:=by omega
      rw[he] at d;cases d
      exact ⟨n,by simp,n1,n2⟩) q
    simpa using this) 100 e.high.low h H (Int.le_refl _) (by omega) (by omega)
  refine ⟨?_,key.2⟩
  rw[key.1,show dz p (e::l)=(eF e.high).flatMap fun n=>dz (p++[n]) l from rfl,List.filter_flatMap,List.map_flatMap]
theorem H6 (j:Nat):co ⟨0,0,0⟩ j=0:=by
 unfold co
 split
 ·rfl
 ·split
  ·rfl
  ·split<;>rfl
theorem x5 {u:ak}(F:Fit u):mW u=(bp u).map (fun x=>some (cN x)):=by
 have b:=F.aE
 exact (Ce F u.aE [] 5 ⟨0,0,0⟩ rfl (by simp) (by omega) (fun j e _ a=>absurd a (by simp)) ⟨fun j n hn=>by simp at hn,fun j _=>H6 j⟩).1
theorem Cf:∀(l:List aS) (s:List aS),s.length+l.length<=1000000->gq oq (l.map some) s=some (.nx (s++l))
 |[],s,_=>by simp[gq]
 |x::l,s,h=>by
  simp only[List.length_cons] at h
  simp only[List.map_cons]
  have:=Cf l (s++[x]) (by simp;omega)
  rw[show s++x::l=s++[x]++l by simp,<-this]
  have e:oq x s=some (.nx (s++[x])):=by
   unfold oq
   rw[iE (by simp;omega)]
   rfl
  show gq _ (some x::l.map some) s=_
  rw[gq,e]
  rfl
theorem H7 {l:List aS}(h:l.length<=1000):qp (l.map some)=some l:=by
 unfold qp sQ
 rw[Cf l [] (by simp;omega)]
 simp[ah,aG]
theorem x6 {u:ak}(F:Fit u):oo u=some (!(bp u).isEmpty):=by
 unfold oo
 rw[x5 F]
 cases bp u with
 |nil=>rfl
 |cons a l=>rfl
def H8:cI:=⟨tC,[]⟩
theorem Cg {u:ak}(F:Fit u){fs:List (ak->Option Int)}(h:eT u fs=some (u,0)):gO u fs=some (if (bp u).isEmpty then (H8,9) else (⟨u,(bp u).map cN⟩,0)):=by
 unfold gO
 rw[h]
 simp only[ah]
 rw[show ((0:Int) != 0)=false by decide]
 simp only[cond_false]
 have b:=(oN F).2
 rw[x5 F,show (bp u).map (fun x=>some (cN x))=((bp u).map cN).map some by simp,H7 (by simp;omega)]
 simp only[ah]
 cases bp u with
 |nil=>rfl
 |cons a l=>
  rw[show ((((a::l).map cN).length:Int)==0)=false by simp;omega]
  rfl
structure tS (u:ak):Prop where
 e:u.aj.length<=20
 p:u.props.length<=20
 y:u.aE.length<=20
 t:u.told.length<=20
theorem bars {u:ak}(L:tS u):∃c,dM u=some c/\ji u=some c:=by
 obtain ⟨h1,c,h2⟩:=By u L.e L.p L.y L.t
 exact ⟨c,h2,h1▸h2⟩
theorem qL {u:ak}(h:dM u=some 0):eT u []=some (u,0):=by
 unfold eT
 rw[h]
 rfl
theorem x7 {α β σ:Type}(f:α->β)(g:Nat->β->σ->σ):∀(l:List α) (i:Nat) (s:σ),foldI g i (l.map f) s=foldI (fun i x s=>g i (f x) s) i l s
 |[],_,_=>rfl
 |x::l,i,s=>by
  simp only[List.map_cons]
  unfold foldI
  exact x7 f g l (i+1) _
theorem x8 {α σ:Type}{g g':Nat->α->σ->σ}:∀(l:List α) (i:Nat) (s:σ),(∀j x s,x∈l->g j x s=g' j x s)->foldI g i l s=foldI g' i l s
 |[],_,_,_=>rfl
 |x::l,i,s,h=>by
  unfold foldI
  rw[h i x s (List.mem_cons_self ..)]
  exact x8 l (i+1) _ fun j y s a=>h j y s (List.mem_cons_of_mem _ a)
theorem x9 {u:ak}{h:List Int}(hm:h∈bp u):oM u h/\eM u h=true:=by
 obtain ⟨h1,h2⟩:=List.mem_filter.1 hm
 exact ⟨x4 h1,h2⟩
def ew (u:ak)(i:Nat):Int:=foldI (fun _ h n=>cond (de u (dJ u i (h[i]?.getD 0))) (n+1) n) 0 (bp u) 0
section
variable {u : ak} (F : Fit u) {i : Nat} {e : b6} (he : u.aE[i]? = some e)
include F he
theorem tT {h:List Int}(hm:h∈bp u):∃n,h[i]?=some n/\dJ u i (h[i]?.getD 0)=⟨e.back,n⟩/\(1<=e.back/\e.back<=20)/\0<=n/\n<=60:=by
 obtain ⟨n,hn,a,b⟩:=(x9 hm).1.B7 i e he
 obtain ⟨c1,c2,c3,c4,c⟩:=F.aQ _ _ he
 refine ⟨n,hn,?_,c1,by omega,by omega⟩
 rw[hn]
 unfold dJ;rw[he];rfl
theorem H9:bG (ov (⟨u,(bp u).map cN⟩,0) i) 0 ((bp u).map cN) 0=some (.nx (ew u i))/\0<=ew u i/\ew u i<=(bp u).length:=by
 have hi:i<u.aE.length:=(List.getElem?_eq_some_iff.1 he).1
 have h3:=F.aE
 have k:=(oN F).2
 have key:=jR (f:=ov (⟨u,(bp u).map cN⟩,0) i) (g:=fun _ x (n:Int)=>cond (de u ⟨e.back,(aS.get x i).getD 0⟩) (n+1) n) (I:=fun j n=>0<=n/\n<=j/\j<=(bp u).length) ((bp u).map cN) 0 0 ⟨by omega,by omega,by omega⟩
  (fun j x n a l=>by
   rw[List.getElem?_map,Option.map_eq_some_iff] at a
   obtain ⟨h,b,rfl⟩:=a
   have o:j<(bp u).length:=(List.getElem?_eq_some_iff.1 b).1
   obtain ⟨m,hm,hs,hb⟩:=tT F he (List.mem_of_getElem? b)
   have hg:aS.get (cN h) (i:Int)=some m:=tR (by omega) (by omega) (by simpa using hm)
   refine ⟨?_,?_⟩
   ·unfold ov iA
    simp only[hg,ah,gy he,(qJ F (s:=⟨e.back,m⟩) hb).1,Option.getD_some]
    rw[bR (n:=n+1) (by omega)]
    cases de u ⟨e.back,m⟩<;>rfl
   ·simp only[hg,Option.getD_some]
    cases de u ⟨e.back,m⟩<;>simp<;>omega)
 have c:foldI (fun _ x (n:Int)=>cond (de u ⟨e.back,(aS.get x i).getD 0⟩) (n+1) n) 0 ((bp u).map cN) 0=ew u i:=by
  rw[x7]
  unfold ew
  refine x8 _ _ _ fun j h n hm=>?_
  obtain ⟨m,d,hs,hb⟩:=tT F he hm
  have hg:aS.get (cN h) (i:Int)=some m:=tR (by omega) (by omega) (by simpa using d)
  rw[hs,hg];rfl
 rw[c] at key
 refine ⟨key.1,key.2.1,?_⟩
 have:=key.2.2.1
 simp at this
 omega
end
def oO (u:ak)(i:Nat)(st:Int×Int):Int×Int:=
 cond (decide ((if ew u i<((bp u).length:Int) - ew u i then ((bp u).length:Int) - ew u i else ew u i)<st.2)) ((i:Int),(if ew u i<((bp u).length:Int) - ew u i then ((bp u).length:Int) - ew u i else ew u i)) st
theorem Ia {u:ak}(F:Fit u):bG (ow (⟨u,(bp u).map cN⟩,0)) 0 u.aE (-1,((bp u).length:Int))=some (.nx (foldI (fun i _ st=>oO u i st) 0 u.aE (-1,((bp u).length:Int)))):=by
 have b:=(oN F).2
 exact (jR (f:=ow (⟨u,(bp u).map cN⟩,0)) (g:=fun i _ st=>oO u i st) (I:=fun _ _=>True) u.aE 0 (-1,((bp u).length:Int)) trivial (fun j x st a _=>by
  obtain ⟨k1,c,d⟩:=H9 F a
  refine ⟨?_,trivial⟩
  rw[Nat.zero_add]
  unfold ow
  simp only[k1,ah,aG]
  rw[show (((bp u).map cN).length:Int)=((bp u).length:Int) by simp,bR (n:=((bp u).length:Int) - ew u j) (by omega)]
  unfold oO
  cases decide ((if ew u j<((bp u).length:Int) - ew u j then ((bp u).length:Int) - ew u j else ew u j)<st.2)<;>rfl)).1
end Go.Proofs.YtjepffnffjdloaaGreatDoor
end
section
namespace Go.Sep
open Go Go.Conc
def nh (P:Program)(J:Goroutine->af->Prop)(ops:Array Oper)(F0:af)(Q:Act->af->Prop):List Oper->Bool->Act->af->Prop
 |[],_,a,F=>Q a F
 |o::rest,_,a,F=>match cu ops o a with
  |some true=>cD P J o (fun v F'=>Knows F0 F'/\nh P J ops F0 Q rest (!Oper.calls o) (aX a o.dst v) F') a F
  |some false=>nh P J ops F0 Q rest true (aX a o.dst undef) F
  |none=>False
theorem Ib {P:Program}{J:Goroutine->af->Prop}{ops:Array Oper}{F0:af}{Q:Act->af->Prop}{go:Bool}{a:Act}{F:af}:nh P J ops F0 Q [] go a F=Q a F:=rfl
theorem Ic {P:Program}{J:Goroutine->af->Prop}{ops:Array Oper}{F0:af}{Q:Act->af->Prop}{o:Oper}{rest:List Oper}{a:Act}{F:af}:nh P J ops F0 Q (o::rest) true a F=match cu ops o a with
  |some true=>cD P J o (fun v F'=>Knows F0 F'/\nh P J ops F0 Q rest (!Oper.calls o) (aX a o.dst v) F') a F
  |some false=>nh P J ops F0 Q rest true (aX a o.dst undef) F
  |none=>False:=(Eq.refl _).trans (Eq.refl _)
section
variable {P : Program} {main : Bool} {J : Goroutine → af → Prop} {ops : Array Oper} {Q : Act → af → Prop} {F0 : af}
end
attribute [irreducible] nh
attribute [go_sem] Ib Ic
end Go.Sep
end
section
namespace Go.Proofs.YtjepffnffjdloaaGreatDoor
open Go Go.Sep Go.Proofs
set_option maxRecDepth 100000
set_option maxHeartbeats 4000000
def Ie (b:Int)(c:Int)(st:((List (List Int))×Int)):Option (Fl ((List (List Int))×Int) (List (List Int))):=
 cond (decide (0<=st.2)) (ah (bw st.1 st.2) fun a=>cond (decide ((a.length:Int)<b)) (ah (cB ([]:List Int) a) fun d=>ah (cB d ([c])) fun e=>ah (cB st.1 ([e])) fun f=>some (.nx (f,(IntKind.i64.wrap (st.2 - 1))))) (some (.nx (st.1,(IntKind.i64.wrap (st.2 - 1)))))) (some (.bk (st.1,st.2)))
def Ig (u0:Int)(a:Int)(st:((List (List Int))×Int)):Option (Fl ((List (List Int))×Int) (List (List Int))):=
 cond (decide (st.2<u0)) (ah (bg (Ie a st.2) fu (st.1,(IntKind.i64.wrap ((st.1.length:Int) - 1)))) fun o=>aG o (fun b=>some (.nx (b.1,(IntKind.i64.wrap (st.2+1))))) (fun _ _=>none) (fun r=>some (.rt r))) (some (.bk (st.1,st.2)))
def Ch (u0:Int)(a:Int):Option (List (List Int)):=
 ah (bg (Ig u0 a) fu (([([]:(List Int))]),0)) fun o=>aG o (fun b=>some b.1) (fun _ _=>none) (fun r=>some r)
def qM (u0:ak)(b:(List (List Int)))(st:((List Int)×Int)):Option (Fl ((List Int)×Int) ((List Int)×Int)):=
 cond (decide (st.2<(b.length:Int))) (ah (bw b st.2) fun a=>ah (kN a st.1) fun c=>cond (c) (ah (kM u0 a) fun d=>ah (tQ d) fun e=>cond (((e.length:Int)==0)) (some (.nx (a,(IntKind.i64.wrap (st.2+1))))) (some (.nx (st.1,(IntKind.i64.wrap (st.2+1)))))) (some (.nx (st.1,(IntKind.i64.wrap (st.2+1)))))) (some (.bk (st.1,st.2)))
def Ci (u0:ak):Option ((List Int)×Int):=
 ah (ji u0) fun a=>cond ((a != 0)) (some (([]:(List Int)),a)) (ah (tQ u0) fun b=>cond (decide (0<(b.length:Int))) (some (([]:(List Int)),0)) (ah (Bi (u0.told.length:Int)) fun c=>ah (Ch (u0.told.length:Int) (u0.told.length:Int)) fun d=>ah (bg (qM u0 d) fu (c,0)) fun o=>aG o (fun e=>some (e.1,0)) (fun _ _=>none) (fun r=>some r)))
def wt (u:ak)(S:List bB):ak:=⟨u.aZ,u.bD,u.aR,u.aj,u.props,u.aE,S⟩
theorem ya {u:ak}(F:Fit u){S:List bB}(h:∀t,t∈S->t∈u.told)(a:S.length<=3):Fit (wt u S):=
 ⟨F.aZ,F.bD,F.den,F.num,F.aj,F.dn,F.kS,F.props,F.prop,F.aE,F.aQ,a,fun i x b=>by
  obtain ⟨j,c⟩:=List.mem_iff_getElem?.1 (h x (List.mem_of_getElem? b))
  exact F.m8 j x c⟩
def bZ (u:ak)(S:List bB):Bool:=(bp (wt u S)).isEmpty
def lV (x y:List Int):Bool:=(iC x y).getD false
def jl (x y:List Int):Bool:=(kN x y).getD false
def oP (P:List (List Int×Bool)):Option (List Int):=match (P.filter (·.2)).map (·.1) with
 |[]=>none
 |a::l=>some (foldI (fun _ y st=>cond (lV st y) y st) 0 l a)
def iq (Q:List (List Int×Bool))(b:List Int):List Int:=foldI (fun _ (x:List Int×Bool) b=>cond (jl x.1 b) (cond x.2 x.1 b) b) 0 Q b
theorem Ih {u:ak}(F:Fit u)(P:List (List Int×List bB))(b:∀(i:Nat) x,P[i]?=some x->bG (qq (i:Int)) 0 u.told (([]:List Int),([]:List bB))=some (.nx x))
  (hs:∀x,x∈P->(∀t,t∈x.2->t∈u.told)/\x.2.length<=3) (d:P.length<=8):
  bg (mY u (u,0) (P.length:Int)) fu (([]:List (List Int)),0)=some (.nx (((P.map fun x=>(x.1,bZ u x.2)).filter (·.2)).map (·.1),(P.length:Int))):=by
 have key:=kT (f:=mY u (u,0) (P.length:Int)) (g:=fun _ (x:List Int×List bB) (s:List (List Int))=>cond (bZ u x.2) (s++[x.1]) s) (I:=fun i s=>s.length<=i/\i<=P.length) (fun s i=>(s,i)) P (by omega)
  (fun i x s a e=>by
   have j:i<P.length:=(List.getElem?_eq_some_iff.1 a).1
   have hm:=hs x (List.mem_of_getElem? a)
   refine ⟨?_,by cases bZ u x.2<;>simp<;>omega,by omega⟩
   unfold mY
   rw[show decide ((s,(i:Int)).2<(P.length:Int))=true by simp;omega]
   simp only[cond_true,b i x a,ah,aG]
   have hb:=x6 (ya F hm.1 hm.2)
   unfold wt at hb
   simp only[hb,Bool.not_not]
   rw[bR (n:=(i:Int)+1) (by omega)]
   show (cond (bZ u x.2) _ _:Option _)=_
   cases bZ u x.2 with
   |false=>rfl
   |true=>simp only[cond_true,iE (l:=s) (xs:=[x.1]) (by simp;omega)];rfl)
  (fun s=>by
   unfold mY
   rw[show decide ((s,(P.length:Int)).2<(P.length:Int))=false by simp]
   rfl) ([]:List (List Int)) ⟨by simp,by omega⟩
 have c:∀(P:List (List Int×List bB)) (i:Nat) (s:List (List Int)),foldI (fun _ (x:List Int×List bB) (s:List (List Int))=>cond (bZ u x.2) (s++[x.1]) s) i P s=s++((P.map fun x=>(x.1,bZ u x.2)).filter (·.2)).map (·.1):=by
  intro P
  induction P with
  |nil=>intro i s;simp[foldI]
  |cons x P ih=>
   intro i s
   unfold foldI
   rw[ih]
   cases h:bZ u x.2<;>simp[h]
 rw[c] at key
 simpa using key.1
theorem Ii {S:List (List Int)}(c:∀x,x∈S->∀y,y∈S->iC x y=some (lV x y)){a:List Int}{l:List (List Int)}(d:a∈S)(e:∀x,x∈l->x∈S):
  od iC a l=some (foldI (fun _ y st=>cond (lV st y) y st) 0 l a):=by
 unfold od
 rw[(jR (f:=qj iC) (g:=fun _ y st=>cond (lV st y) y st) (I:=fun _ st=>st∈S) l 0 a d fun j x s b hs=>by
  have b:=e x (List.mem_of_getElem? b)
  refine ⟨?_,by cases lV s x<;>assumption⟩
  unfold qj
  rw[c s hs x b]
  simp only[ah]
  cases lV s x<;>rfl).1]
 rfl
theorem Ij {u:ak}(F:Fit u)(Q:List (List Int×List bB))(c:∀x,x∈Q->kM u x.1=some (wt u x.2)/\(∀t,t∈x.2->t∈u.told)/\x.2.length<=3){S:List (List Int)}(d:∀x,x∈S->∀y,y∈S->kN x y=some (jl x y))
  (hq:∀x,x∈Q->x.1∈S) {b:List Int} (hb:b∈S) (e:Q.length<=8):
  bg (qM u (Q.map (·.1))) fu (b,0)=some (.nx (iq (Q.map fun x=>(x.1,bZ u x.2)) b,(Q.length:Int))):=by
 have key:=kT (f:=qM u (Q.map (·.1))) (g:=fun _ (x:List Int×List bB) (b:List Int)=>cond (jl x.1 b) (cond (bZ u x.2) x.1 b) b) (I:=fun _ b=>b∈S) (fun s i=>(s,i)) Q (by omega)
  (fun i x b a hb=>by
   have h:i<Q.length:=(List.getElem?_eq_some_iff.1 a).1
   have hm:=List.mem_of_getElem? a
   obtain ⟨h1,h2,h3⟩:=c x hm
   refine ⟨?_,?_⟩
   ·unfold qM
    rw[show decide ((b,(i:Int)).2<((Q.map (·.1)).length:Int))=true by simp;omega]
    have hi:(Q.map (·.1))[i]?=some x.1:=by rw[List.getElem?_map,a];rfl
    simp only[cond_true,gy hi,ah,d x.1 (hq x hm) b hb,h1,(oN (ya F h2 h3)).1]
    rw[bR (n:=(i:Int)+1) (by omega),show (((bp (wt u x.2)).length:Int)==0)=bZ u x.2 by unfold bZ;cases bp (wt u x.2)<;>simp;omega]
    cases jl x.1 b<;>cases bZ u x.2<;>rfl
   ·have:=hq x hm
    cases jl x.1 b<;>cases bZ u x.2<;>assumption)
  (fun s=>by
   unfold qM
   rw[show decide ((s,(Q.length:Int)).2<((Q.map (·.1)).length:Int))=false by simp]
   rfl) b hb
 rw[key.1]
 unfold iq
 rw[x7]
def S3:List (List Int):=[[],[0],[1],[0,1],[2],[0,2],[1,2],[0,1,2]]
theorem Ik:∀x,x∈S3->∀y,y∈S3->iC x y=some (lV x y):=by
 have h:(S3.all fun x=>S3.all fun y=>(iC x y).isSome)=true:=by decide+kernel
 intro x a y c
 have:=List.all_eq_true.1 (List.all_eq_true.1 h x a) y c
 unfold lV
 cases e:iC x y with
 |none=>rw[e] at this;cases this
 |some b=>rfl
theorem Cj:∀x,x∈S3->∀y,y∈S3->kN x y=some (jl x y):=by
 have h:(S3.all fun x=>S3.all fun y=>(kN x y).isSome)=true:=by decide+kernel
 intro x a y c
 have:=List.all_eq_true.1 (List.all_eq_true.1 h x a) y c
 unfold jl
 cases e:kN x y with
 |none=>rw[e] at this;cases this
 |some b=>rfl
theorem Il:∀e0 e1 e2 a b c d:Bool,oP [([],e0),([0],e1),([1],e2),([0,1],a),([2],b),([0,2],c),([1,2],d),([0,1,2],true)]=some (iq [([],e0),([0],e1),([0,1],a),([1],e2),([1,2],d),([0,1,2],true),([0,2],c),([2],b)] [0,1,2]):=by decide+kernel
theorem Im:∀e0 e1 e2:Bool,oP [([],e0),([0],e1),([1],e2),([0,1],true)]=some (iq [([],e0),([0],e1),([0,1],true),([1],e2)] [0,1]):=by decide+kernel
theorem Io:∀e0:Bool,oP [([],e0),([0],true)]=some (iq [([],e0),([0],true)] [0]):=by decide+kernel
theorem Ip {u:ak}(P Q:List (List Int×List bB)){b:List Int}(hp:∀x,x∈P->x.1∈S3)(g:P.length<=8)
  (c:oP (P.map fun x=>(x.1,bZ u x.2))=some (iq (Q.map fun x=>(x.1,bZ u x.2)) b)):
  ∃a l,bw (((P.map fun x=>(x.1,bZ u x.2)).filter (·.2)).map (·.1)) 0=some a/\eA (((P.map fun x=>(x.1,bZ u x.2)).filter (·.2)).map (·.1)) 1 (((((P.map fun x=>(x.1,bZ u x.2)).filter (·.2)).map (·.1)).length:Nat):Int)=some l/\
   od iC a l=some (iq (Q.map fun x=>(x.1,bZ u x.2)) b):=by
 unfold oP at c
 have hm:∀x,x∈((P.map fun x=>(x.1,bZ u x.2)).filter (·.2)).map (·.1)->x∈S3:=fun x d=>by
  rw[List.mem_map] at d
  obtain ⟨y,e,rfl⟩:=d
  obtain ⟨e,-⟩:=List.mem_filter.1 e
  rw[List.mem_map] at e
  obtain ⟨z,f,rfl⟩:=e
  exact hp z f
 generalize ((P.map fun x=>(x.1,bZ u x.2)).filter (·.2)).map (·.1)=o at c hm
 cases o with
 |nil=>cases c
 |cons a l=>
  refine ⟨a,l,rfl,?_,?_⟩
  ·unfold eA
   rw[if_pos (by simp;omega)]
   simp
  ·rw[Ii Ik (hm a (List.mem_cons_self ..)) (fun x d=>hm x (List.mem_cons_of_mem _ d))]
   exact c
theorem Iq {S:List (List Int)}:∀(Q:List (List Int×Bool)) (b:List Int),(∀x,x∈Q->x.1∈S)->b∈S->iq Q b∈S:=by
 have key:∀(Q:List (List Int×Bool)) (i:Nat) (b:List Int),(∀x,x∈Q->x.1∈S)->b∈S->foldI (fun _ (x:List Int×Bool) b=>cond (jl x.1 b) (cond x.2 x.1 b) b) i Q b∈S:=by
  intro Q
  induction Q with
  |nil=>intro i b _ hb;exact hb
  |cons x Q ih=>
   intro i b hq hb
   unfold foldI
   refine ih (i+1) _ (fun y a=>hq y (List.mem_cons_of_mem _ a)) ?_
   have:=hq x (List.mem_cons_self ..)
   cases jl x.1 b<;>cases x.2<;>assumption
 exact fun Q b=>key Q 0 b
theorem yb {x:List Int}(h:x∈S3):x.length<=3:=by
 have:(S3.all fun x=>decide (x.length<=3))=true:=by decide
 simpa using List.all_eq_true.1 this x h
structure Cd (u:ak)(P Q:List (List Int×List bB))(b:List Int):Prop where
 fP:∀(i:Nat) x,P[i]?=some x->bG (qq (i:Int)) 0 u.told (([]:List Int),([]:List bB))=some (.nx x)
 fs:∀x,x∈P->(∀t,t∈x.2->t∈u.told)/\x.2.length<=3
 fl:P.length<=8
 fp:∀x,x∈P->x.1∈S3
 Ir:rK 1 (u.told.length:Int)=some (P.length:Int)
 fQ:∀x,x∈Q->kM u x.1=some (wt u x.2)/\(∀t,t∈x.2->t∈u.told)/\x.2.length<=3
 fq:∀x,x∈Q->x.1∈S3
 fb:b∈S3
 It:Q.length<=8
 fU:Bi (u.told.length:Int)=some b
 fS:Ch (u.told.length:Int) (u.told.length:Int)=some (Q.map (·.1))
 ff:bZ u u.told=true->oP (P.map fun x=>(x.1,bZ u x.2))=some (iq (Q.map fun x=>(x.1,bZ u x.2)) b)
theorem yc {u:ak}(F:Fit u)(h1:dM u=some 0)(h2:ji u=some 0){P Q:List (List Int×List bB)}{b:List Int}(D:Cd u P Q b):
  ∃r,kJ u=some r/\Ci u=some r/\r.1.length<=3/\((bp u).isEmpty=false->r=([],0))/\((bp u).isEmpty=true->r=(iq (Q.map fun x=>(x.1,bZ u x.2)) b,0)):=by
 unfold kJ Ci
 rw[qL h1,h2,(oN F).1]
 simp only[ah,x6 F]
 rw[show ((0:Int) != 0)=false by decide]
 simp only[cond_false]
 cases c:(bp u).isEmpty with
 |false=>
  rw[show decide (0<((bp u).length:Int))=true by cases h:bp u<;>simp[h] at c ⊢]
  exact ⟨_,rfl,rfl,by simp,fun _=>rfl,fun e=>by cases e⟩
 |true=>
  rw[show decide (0<((bp u).length:Int))=false by cases h:bp u<;>simp[h] at c ⊢]
  obtain ⟨a,l,e1,e2,f⟩:=Ip (u:=u) P Q D.fp D.fl (D.ff c)
  simp only[Bool.not_true,cond_false,D.Ir,Ih F P D.fP D.fs D.fl,aG,e1,e2,f,D.fU,D.fS,Ij F Q D.fQ Cj D.fq D.fb D.It]
  exact ⟨_,rfl,rfl,yb (Iq _ _ (fun x d=>by rw[List.mem_map] at d;obtain ⟨y,g,rfl⟩:=d;exact D.fq y g) D.fb),(fun e=>by cases e),fun _=>rfl⟩
theorem Iu (c d:Int)(f:av)(g:List bH)(h:List cg)(j:List b6)(a:bB):Cd ⟨c,d,f,g,h,j,[a]⟩ [([],[]),([0],[a])] [([],[]),([0],[a])] [0]:=by
 refine ⟨fun i x b=>?_,fun x b=>?_,by simp,by simp[S3],rfl,fun x b=>?_,by simp[S3],by simp[S3],by simp,by kernel_rfl,by kernel_rfl,fun e=>?_⟩
 ·have k:=(List.getElem?_eq_some_iff.1 b).1
  simp only[List.length_cons,List.length_nil] at k
  rcases (show i=0\/i=1 by omega) with rfl|rfl
  ·cases b;show (_:Option _)=_;kernel_rfl
  ·cases b;show (_:Option _)=_;kernel_rfl
 ·simp only[List.mem_cons,List.not_mem_nil,or_false] at b
  rcases b with rfl|rfl<;>exact ⟨by simp,by simp⟩
 ·simp only[List.mem_cons,List.not_mem_nil,or_false] at b
  rcases b with rfl|rfl<;>exact ⟨by kernel_rfl,by simp,by simp⟩
 ·simp only[List.map_cons,List.map_nil,show bZ ⟨c,d,f,g,h,j,[a]⟩ [a]=true from e]
  exact Io _
theorem Iv (d f:Int)(g:av)(h:List bH)(j:List cg)(k:List b6)(a b:bB):Cd ⟨d,f,g,h,j,k,[a,b]⟩ [([],[]),([0],[a]),([1],[b]),([0,1],[a,b])] [([],[]),([0],[a]),([0,1],[a,b]),([1],[b])] [0,1]:=by
 refine ⟨fun i x c=>?_,fun x c=>?_,by simp,by simp[S3],rfl,fun x c=>?_,by simp[S3],by simp[S3],by simp,by kernel_rfl,by kernel_rfl,fun e=>?_⟩
 ·have l:=(List.getElem?_eq_some_iff.1 c).1
  simp only[List.length_cons,List.length_nil] at l
  rcases (show i=0\/i=1\/i=2\/i=3 by omega) with rfl|rfl|rfl|rfl
  all_goals cases c;show (_:Option _)=_;kernel_rfl
 ·simp only[List.mem_cons,List.not_mem_nil,or_false] at c
  rcases c with rfl|rfl|rfl|rfl<;>exact ⟨by simp,by simp⟩
 ·simp only[List.mem_cons,List.not_mem_nil,or_false] at c
  rcases c with rfl|rfl|rfl|rfl<;>exact ⟨by kernel_rfl,by simp,by simp⟩
 ·simp only[List.map_cons,List.map_nil,show bZ ⟨d,f,g,h,j,k,[a,b]⟩ [a,b]=true from e]
  exact Im _ _ _
theorem Iw (f g:Int)(h:av)(j:List bH)(k:List cg)(l:List b6)(a b c:bB):Cd ⟨f,g,h,j,k,l,[a,b,c]⟩ [([],[]),([0],[a]),([1],[b]),([0,1],[a,b]),([2],[c]),([0,2],[a,c]),([1,2],[b,c]),([0,1,2],[a,b,c])] [([],[]),([0],[a]),([0,1],[a,b]),([1],[b]),([1,2],[b,c]),([0,1,2],[a,b,c]),([0,2],[a,c]),([2],[c])] [0,1,2]:=by
 refine ⟨fun i x d=>?_,fun x d=>?_,by simp,by simp[S3],rfl,fun x d=>?_,by simp[S3],by simp[S3],by simp,by kernel_rfl,by kernel_rfl,fun e=>?_⟩
 ·have m:=(List.getElem?_eq_some_iff.1 d).1
  simp only[List.length_cons,List.length_nil] at m
  rcases (show i=0\/i=1\/i=2\/i=3\/i=4\/i=5\/i=6\/i=7 by omega) with rfl|rfl|rfl|rfl|rfl|rfl|rfl|rfl
  all_goals cases d;show (_:Option _)=_;kernel_rfl
 ·simp only[List.mem_cons,List.not_mem_nil,or_false] at d
  rcases d with rfl|rfl|rfl|rfl|rfl|rfl|rfl|rfl<;>exact ⟨by simp,by simp⟩
 ·simp only[List.mem_cons,List.not_mem_nil,or_false] at d
  rcases d with rfl|rfl|rfl|rfl|rfl|rfl|rfl|rfl<;>exact ⟨by kernel_rfl,by simp,by simp⟩
 ·simp only[List.map_cons,List.map_nil,show bZ ⟨f,g,h,j,k,l,[a,b,c]⟩ [a,b,c]=true from e]
  exact Il _ _ _ _ _ _ _
theorem Ix {s:List aS}{y:aS}:kK s y=true↔y∈s:=by
 rw[xe,List.mem_map]
 constructor
 ·rintro ⟨z,a,h⟩
  obtain rfl:=xd h
  exact a
 ·exact fun h=>⟨y,h,rfl⟩
theorem Ck:∀(l s:List aS),(s++l).Nodup->gq oB (l.map some) s=some (.nx (s++l))
 |[],s,_=>by simp[gq]
 |x::l,s,h=>by
  have e:oB x s=some (.nx (s++[x])):=by
   unfold oB
   have:kK s x=false:=by
    cases c:kK s x with
    |false=>rfl
    |true=>
     have h2:=(List.nodup_append.1 h).2.2
     exact absurd rfl (h2 x (Ix.1 c) x (List.mem_cons_self ..))
   rw[this];rfl
  show gq oB (some x::l.map some) s=_
  rw[gq,e]
  have:=Ck l (s++[x]) (by simpa using h)
  rw[show s++x::l=s++[x]++l by simp]
  exact this
theorem Cl:∀(l:List b6) (p h:List Int),h∈dz p l->∀j,j<p.length->h[j]?=p[j]?:=fun l p h hm=>(x3 l p h hm).2.2
theorem Iy (b:c6):(eF b).Nodup:=by
 unfold eF
 refine List.Pairwise.map _ ?_ (List.nodup_range (n:=(b.high - b.low+1).toNat))
 intro a c h e
 exact h (by omega)
theorem Cm:∀(l:List b6) (p:List Int),(dz p l).Nodup
 |[],p=>by simp[dz]
 |e::l,p=>by
  unfold dz
  rw[List.flatMap_def]
  unfold List.Nodup
  rw[List.pairwise_flatten]
  refine ⟨fun x c=>?_,?_⟩
  ·rw[List.mem_map] at c
   obtain ⟨n,_,rfl⟩:=c
   exact Cm l _
  ·rw[List.pairwise_map]
   refine (Iy e.high).imp ?_
   intro a b d x f y g h
   subst h
   have h1:=Cl l _ _ f p.length (by simp)
   have h2:=Cl l _ _ g p.length (by simp)
   rw[h1] at h2
   simp at h2
   exact d h2
theorem Iz {l m:List Int}(h:l.length=m.length)(h3:l.length<=3)(e:cN l=cN m):l=m:=by
 unfold cN at e
 rw[aS.mk.injEq] at e
 obtain ⟨e0,e1,e2⟩:=e
 refine List.ext_getElem? fun i=>?_
 by_cases hi:i<l.length
 ·have hm:i<m.length:=by omega
  have key:l[i]?.getD 0=m[i]?.getD 0:=by
   rcases (show i=0\/i=1\/i=2 by omega) with rfl|rfl|rfl<;>assumption
  rw[List.getElem?_eq_getElem hi,List.getElem?_eq_getElem hm] at key ⊢
  simpa using key
 ·rw[List.getElem?_eq_none (by omega),List.getElem?_eq_none (by omega)]
theorem IA {u:ak}(F:Fit u):((bp u).map cN).Nodup:=by
 have hn:(bp u).Nodup:=(Cm u.aE []).filter _
 unfold List.Nodup at hn ⊢
 rw[List.pairwise_map]
 refine List.Pairwise.imp_of_mem ?_ hn
 intro a b c hb d e
 have h1:=(x9 c).1.len
 have h2:=(x9 hb).1.len
 have:=F.aE
 exact d (Iz (by omega) (by omega) e)
theorem lW {u:ak}(F:Fit u)(h:dM u=some 0):fy u=some (((bp u).length:Int),0):=by
 unfold fy
 rw[qL h]
 simp only[ah]
 rw[show ((0:Int) != 0)=false by decide]
 simp only[cond_false]
 rw[x5 F,show (bp u).map (fun x=>some (cN x))=((bp u).map cN).map some by simp,Ck _ [] (by simpa using IA F)]
 simp[aG]
theorem IB (u:ak)(t:bB)(h:List Int):eM (wt u (u.told++[t])) h=(eM u h&&fV u h t):=by
 unfold eM
 show (u.told++[t]).all (fV (wt u (u.told++[t])) h)=_
 rw[List.all_append]
 have e:fV (wt u (u.told++[t])) h=fV u h:=rfl
 rw[e]
 simp
theorem IC (u:ak)(t:bB):bp (wt u (u.told++[t]))=(bp u).filter fun h=>fV u h t:=by
 unfold bp
 rw[List.filter_filter]
 congr 1
 funext h
 rw[IB,Bool.and_comm]
def gz (u:ak)(i:Nat):Nat:=(bp u).countP fun h=>de u (dJ u i (h[i]?.getD 0))
theorem ID (u:ak)(i:Nat):ew u i=gz u i:=by
 unfold ew gz
 have key:∀(l:List (List Int)) (j:Nat) (n:Int),foldI (fun _ (h:List Int) (n:Int)=>cond (de u (dJ u i (h[i]?.getD 0))) (n+1) n) j l n=n+(l.countP fun h=>de u (dJ u i (h[i]?.getD 0)):Nat):=by
  intro l
  induction l with
  |nil=>intro j n;simp[foldI]
  |cons x l ih=>
   intro j n
   unfold foldI
   rw[ih,List.countP_cons]
   cases de u (dJ u i (x[i]?.getD 0))<;>simp<;>omega
 have:=key (bp u) 0 0
 rw[this];omega
theorem IE (u:ak)(i:Nat)(b:Bool):(bp (wt u (u.told++[⟨(i:Int),b⟩]))).length=if b then gz u i else (bp u).length - gz u i:=by
 rw[IC,<-List.countP_eq_length_filter]
 have e:∀h,fV u h ⟨(i:Int),b⟩=(de u (dJ u i (h[i]?.getD 0))==b):=fun h=>by
  unfold fV;rw[Int.toNat_natCast]
 cases b with
 |true=>
  simp only[if_true]
  unfold gz
  congr 1
  funext h
  rw[e];simp
 |false=>
  simp only[Bool.false_eq_true,if_false]
  have h2:=List.length_eq_countP_add_countP (fun h=>de u (dJ u i (h[i]?.getD 0))) (l:=bp u)
  have e2:(bp u).countP (fun h=>fV u h ⟨(i:Int),false⟩)=(bp u).countP (fun h=>decide ¬de u (dJ u i (h[i]?.getD 0))=true):=by
   congr 1
   funext h
   rw[e]
   cases de u (dJ u i (h[i]?.getD 0))<;>rfl
  rw[e2]
  unfold gz
  omega
def ni (u:ak)(h:List Int):Bool:=(List.range u.aE.length).all fun i=>!de u (dJ u i (h[i]?.getD 0))
theorem Cn {α:Type}{g:Nat->Bool}:∀(l:List α) (i:Nat),gR (fun i _=>if g i then none else some false) i l=if (List.range' i l.length).all g then none else some false
 |[],_=>rfl
 |x::l,i=>by
  unfold gR
  rw[List.length_cons,List.range'_succ,List.all_cons]
  cases h:g i with
  |false=>simp[h]
  |true=>
   simp only[h,if_true,Bool.true_and]
   exact Cn l (i+1)
theorem Co {u:ak}(F:Fit u){h:List Int}(hm:h∈bp u)(all:List aS):jK (cN h) ⟨u,all⟩=some (ni u h):=by
 have h3:=F.aE
 unfold jK
 rw[xX (t:=fun i _=>if !de u (dJ u i (h[i]?.getD 0)) then none else some false) u.aE 0 false fun j e s he=>by
  rw[Nat.zero_add]
  have b:j<u.aE.length:=(List.getElem?_eq_some_iff.1 he).1
  obtain ⟨m,a,hs,hb⟩:=tT F he hm
  have hg:aS.get (cN h) (j:Int)=some m:=tR (by omega) (by omega) (by simpa using a)
  unfold sF iA
  simp only[hg,ah,gy he,(qJ F (s:=⟨e.back,m⟩) hb).1,hs]
  cases de u ⟨e.back,m⟩<;>rfl]
 rw[Cn (g:=fun i=>!de u (dJ u i (h[i]?.getD 0)))]
 simp only[ah]
 unfold ni
 rw[List.range_eq_range']
 cases (List.range' 0 u.aE.length).all fun i=>!de u (dJ u i (h[i]?.getD 0))<;>rfl
def yd (n m:Nat):Int:=if n=m then 1 else if n=0 then 2 else 0
theorem IF {k:cI}{f:aS->Option Bool}{g:aS->Bool}(e:k.all.length<=1000)(h:∀x,x∈k.all->f x=some (g x)):oe k f=some (yd (k.all.countP g) k.all.length):=by
 have key:=jR (f:=qm f) (ρ:=Int) (g:=fun _ x (n:Int)=>cond (g x) (n+1) n) (I:=fun j n=>0<=n/\n<=j/\j<=k.all.length) k.all 0 0 ⟨by omega,by omega,by omega⟩
  (fun j x n a i=>by
   have m:j<k.all.length:=(List.getElem?_eq_some_iff.1 a).1
   refine ⟨?_,by cases g x<;>simp<;>omega⟩
   unfold qm
   rw[h x (List.mem_of_getElem? a)]
   simp only[ah]
   rw[bR (n:=n+1) (by omega)]
   cases g x<;>rfl)
 have b:∀(l:List aS) (j:Nat) (n:Int),foldI (fun _ x (n:Int)=>cond (g x) (n+1) n) j l n=n+(l.countP g:Nat):=by
  intro l
  induction l with
  |nil=>intro j n;simp[foldI]
  |cons x l ih=>
   intro j n
   unfold foldI
   rw[ih,List.countP_cons]
   cases g x<;>simp<;>omega
 rw[b] at key
 unfold oe
 rw[key.1]
 simp only[ah,aG,Int.zero_add]
 unfold yd
 by_cases c:k.all.countP g=k.all.length
 ·rw[if_pos c,show (((k.all.countP g:Nat):Int)==(k.all.length:Int))=true by rw[c];simp]
  rfl
 ·rw[if_neg c,show (((k.all.countP g:Nat):Int)==(k.all.length:Int))=false by simp;omega]
  simp only[cond_false]
  by_cases d:k.all.countP g=0
  ·rw[if_pos d,d];rfl
  ·rw[if_neg d,show (((k.all.countP g:Nat):Int)==0)=false by rw[beq_eq_false_iff_ne];omega]
   rfl
theorem tU {u:ak}(F:Fit u)(h:dM u=some 0):jg u=some (if (bp u).isEmpty then (0,9) else (yd ((bp u).countP (ni u)) (bp u).length,0)):=by
 have c:=(oN F).2
 unfold jg
 rw[Cg F (qL h)]
 simp only[ah]
 cases hs:(bp u).isEmpty with
 |true=>rfl
 |false=>
  simp only[Bool.false_eq_true,if_false]
  rw[show ((0:Int) != 0)=false by decide]
  simp only[cond_false]
  have key:∀x,x∈(bp u).map cN->jK x ⟨u,(bp u).map cN⟩=some ((jK x ⟨u,(bp u).map cN⟩).getD false):=fun x b=>by
   rw[List.mem_map] at b
   obtain ⟨y,a,rfl⟩:=b
   rw[Co F a];rfl
  rw[IF (k:=⟨u,(bp u).map cN⟩) (g:=fun x=>(jK x ⟨u,(bp u).map cN⟩).getD false) (by simp;omega) key]
  simp only[List.countP_map,List.length_map]
  have e:(bp u).countP ((fun x=>(jK x ⟨u,(bp u).map cN⟩).getD false) ∘ cN)=(bp u).countP (ni u):=List.countP_congr fun y a=>by
   simp only[Function.comp]
   rw[Co F a];rfl
  rw[e]
theorem ye {u:ak}{s:aO}(F:Fit u)(hs:(1<=s.back/\s.back<=20)/\0<=s.high/\s.high<=60):de u s=bP u.aR (kU u s):=by
 obtain ⟨r,h1,h2,h3⟩:=xO F hs
 rw[xU F hs] at h1
 obtain rfl:=Option.some.inj h1
 have a:Sm u.aR 20 20:=⟨by have:=F.num;omega,by have:=F.den;omega,by have:=F.den;omega⟩
 have b:=qA a h3 (by decide) (by decide)
 unfold de gv
 rw[xU F hs]
 simp only[ah,b.2]
 rfl
structure Cp (u o:ak):Prop where
 aZ:o.aZ=u.aZ
 bD:o.bD=u.bD
 aR:o.aR=u.aR
 props:o.props=u.props
 aE:o.aE=u.aE
 told:o.told=u.told
 di:∀x,x∈u.props->gu o x.place=gu u x.place
 qN:∀s:aO,(1<=s.back/\s.back<=20)/\0<=s.high/\s.high<=60->(c8 o s).2=(c8 u s).2
section
variable {u o : ak} (F : Fit u) (G : Fit o) (K : Cp u o)
include F G K
theorem Cq (s:aO):jS o s=jS u s:=by
 unfold jS
 rw[K.props]
 refine x8 _ _ _ fun j x b a=>?_
 have e:dW o s x=dW u s x:=by
  unfold dW tG dy
  rw[K.di x a,K.aZ]
 unfold gM
 rw[e]
theorem IG {s:aO}(hs:(1<=s.back/\s.back<=20)/\0<=s.high/\s.high<=60):m9 o s=m9 u s/\nc o s=nc u s:=by
 have e:=K.qN s hs
 unfold m9 nc oL
 rw[e,K.bD,K.props,Cq F G K s]
 exact ⟨rfl,rfl⟩
theorem Cr {s:aO}(hs:(1<=s.back/\s.back<=20)/\0<=s.high/\s.high<=60):kU o s=kU u s:=by
 obtain ⟨h1,h2⟩:=IG F G K hs
 unfold kU
 rw[h1,h2]
theorem Cs {s:aO}(hs:(1<=s.back/\s.back<=20)/\0<=s.high/\s.high<=60):de o s=de u s:=by
 rw[ye F hs,ye G hs,K.aR,Cr F G K hs]
theorem II {h:List Int}(H:oM u h):eM o h=eM u h:=by
 unfold eM
 rw[K.told]
 rw[Bool.eq_iff_iff,List.all_eq_true,List.all_eq_true]
 refine forall_congr' fun t=>forall_congr' fun ht=>?_
 obtain ⟨i,hi⟩:=List.mem_iff_getElem?.1 ht
 obtain ⟨a,b⟩:=F.m8 i t hi
 obtain ⟨e,n,h1,h2,h3,c,d⟩:=xZ H a b F
 unfold fV
 have e2:dJ o t.aQ.toNat (h[t.aQ.toNat]?.getD 0)=dJ u t.aQ.toNat (h[t.aQ.toNat]?.getD 0):=by unfold dJ;rw[K.aE]
 rw[e2,h2]
 show (de o (dJ u t.aQ.toNat n)==t.bh)=true↔(de u (dJ u t.aQ.toNat n)==t.bh)=true
 rw[h3,Cs F G K ⟨c,d⟩]
theorem IJ:bp o=bp u:=by
 unfold bp
 rw[K.aE]
 exact List.filter_congr fun h hm=>II F G K (x4 hm)
theorem IK {h:List Int}(hm:h∈bp u):ni o h=ni u h:=by
 unfold ni
 rw[K.aE,Bool.eq_iff_iff,List.all_eq_true,List.all_eq_true]
 refine forall_congr' fun i=>forall_congr' fun hi=>?_
 rw[List.mem_range] at hi
 obtain ⟨m,a,hs,hb⟩:=tT F (List.getElem?_eq_getElem hi) hm
 have e2:dJ o i (h[i]?.getD 0)=dJ u i (h[i]?.getD 0):=by unfold dJ;rw[K.aE]
 rw[e2,hs,Cs F G K hb]
theorem IL (h1:dM u=some 0)(h2:dM o=some 0):jg o=jg u/\fy o=fy u:=by
 rw[tU F h1,tU G h2,lW F h1,lW G h2,IJ F G K]
 refine ⟨?_,rfl⟩
 rw[List.countP_congr fun h hm=>by rw[IK F G K hm]]
end
theorem lX {n a b:Int}(h1:a<=n)(h2:n<=b):bJ n a b=true:=dV.2 ⟨h1,h2⟩
section
variable {u : ak} {s : aO} (F : Fit u) (h : dM u = some 0) (hs : (1 ≤ s.back ∧ s.back ≤ 20) ∧ 0 ≤ s.high ∧ s.high ≤ 60)
include F h hs
theorem tV:eT u [er s]=some (u,0):=by
 have hb:er s u=some 0:=by
  rw[BD,xL]
  unfold lS
  rw[lX hs.1.1 hs.1.2,lX hs.2.1 hs.2.2]
  rfl
 rw[xJ h hb]
 rfl
theorem IM:om u s=some ((c8 u s).1,(c8 u s).2,0):=by
 unfold om
 obtain ⟨c,k1,a,b,d⟩:=oJ F hs
 simp only[tV F h hs,ah,bne_self_eq_false,cond_false,k1]
 rw[<-a]
theorem yf:lM u s=some (ij ⟨u.bD,1⟩ (c8 u s).2,0):=by
 unfold lM
 obtain ⟨r,k1,a⟩:=Hx F hs
 obtain ⟨c,-,e2,h3,b⟩:=oJ F hs
 have e:r=ij ⟨u.bD,1⟩ (c8 u s).2:=by
  unfold xz at a
  rw[b] at a
  simp only[ah,xS (qF F hs) (qC F hs)] at a
  exact (Option.some.inj a).symm
 simp only[tV F h hs,ah,bne_self_eq_false,cond_false,k1,e]
theorem Ct:kI u s=some (jS u s,decide (0<(u.props.length:Int)),0):=by
 have k:=HG
 unfold kI
 simp only[tV F h hs,ah,bne_self_eq_false,cond_false]
 rcases tK F hs with ⟨h0,k1,a⟩|⟨st,b,k1,a,d⟩
 ·simp only[k1]
  unfold jS
  rw[h0]
  rfl
 ·obtain ⟨c,l,rfl,m,f,g⟩:=BP F hs d
  rw[tJ F hs] at a
  have e:=Prod.mk.inj (Option.some.inj a)
  simp only[k1]
  have z:((((c::l).length:Nat):Int)==0)=false:=by simp;omega
  have y:eA (c::l) 1 (((c::l).length:Nat):Int)=some l:=by
   unfold eA
   rw[if_pos (by simp only[List.length_cons];omega)]
   simp
  rw[z]
  simp only[cond_false]
  rw[show bw (c::l) 0=some c from rfl,y]
  simp only[f]
  rw[g,<-e.1,e.2]
  rfl
theorem Cu:lN u s=some (kU u s,bP u.aR (kU u s),0):=by
 unfold lN
 have e1:=(qJ F hs).1
 rw[ye F hs] at e1
 simp only[tV F h hs,ah,bne_self_eq_false,cond_false,xU F hs,e1]
end
theorem yg {u:ak}(F:Fit u)(h:dM u=some 0){p:Int}{a z:bH}{g:av}(d:u.aj[0]?=some a)(e:u.aj[u.aj.length - 1]?=some z)(f:a.an<=p)(hp:p<=z.an)(hg:gu u p=some g):lK u p=some (g,0):=by
 obtain ⟨i,j,b,c,k1,k⟩:=tD u F p
 rw[d] at b;cases b
 rw[e] at c;cases c
 rw[lX f hp] at k1
 unfold lK
 rw[xJ h (x:=0) (by unfold mM;simp only[k1,ah];rfl)]
 simp only[ah,bne_self_eq_false,cond_false,hg]
def nj (u0:ak)(c:Int):Option (Int×Bool):=
 ah (jO c true) fun d=>ah (kL u0 d) fun e=>ah (fy e) fun a=>ah (jO c false) fun f=>ah (kL u0 f) fun g=>ah (fy g) fun b=>cond ((a.2==0)) (some ((if a.1<b.1 then b.1 else a.1),(b.2==0))) (some ((if a.1<b.1 then b.1 else a.1),false))
theorem yj {ro:Addr->Option Value}(a:cU ro)(u0:ak){s1 b c d:Value}(i:bI ro u0 s1 b c d)(j:Int){r:(Int×Bool)}(h:nj u0 j=some r):aC Tryz.prog 37 #[bv u0 s1 b c d,.int .i64 j] ⟨ro,[]⟩ (fun v _=>v= .tuple #[.int .i64 r.1,.bool r.2]):=by
 unfold nj at h
 have w:=i.oc;simp only[bC] at w
 refine aC.go Tryz.func37 rfl Tryz.ntmps37 Tryz.results37 (by simp) fun main J hJ A R hd hs=>?_
 have S:=hs 0
 have k1:=hs 1
 clear hs
 refine aa hJ (ag hJ ?_)
 simp only[*,go_sem]
 refine ax fun k m x=>?_;try simp only[au] at x
 try simp only[*,go_sem]
 refine aa hJ ?_
 refine fN hJ mixed [] (.rd 0 (.pure 1 (.rd 2 (.one 3 (.one 4 (.pure 5 (.pure 6 (.pure 7 (.pure 8 (.pure 9 .done)))))))))) ⟨ro,[(k,bk u0 s1 b c d)]⟩ (by simp only[*,go_sem]) (by kernel_rfl) ?_
 revert h;refine bS fun z B h=>?_
 simp only[*,go_sem]
 refine ⟨_,bE hJ fun F C=>jh j true B,bN ?_⟩
 revert h;refine bS fun D E h=>?_
 try simp only[*,go_sem]
 refine bV hJ _ (lQ u0 i z E) fun v G n q o=>?_
 obtain ⟨T,U,V,W,rfl,f⟩:=o
 have H:=f.oc;simp only[bC] at H
 replace i:=i.mono n
 replace m:=q.hd
 replace a:=a.mono n
 simp only[bf] at q
 obtain ⟨d39,X,rfl,Y,Z,-⟩:=id f.e
 obtain ⟨d46,ab,rfl,ad,ae,-⟩:=id f.p
 obtain ⟨d53,al,rfl,ao,ar,-⟩:=id f.y
 obtain ⟨d60,a0,rfl,a2,a3,-⟩:=id f.t
 have a4:=eo (l:=[(k,bk u0 s1 b c d)]) n (aA.cons m (aA.nil _))
 refine ⟨by simp only[*,go_sem],?_⟩
 refine bN ?_
 revert h;refine bS fun a5 I h=>?_
 try simp only[*,go_sem]
 refine aM hJ _ (jN (a.mono aH) D (f.mono aH) I) ⟨by simp only[*,go_sem],bN ?_⟩
 try simp only[*,go_sem]
 refine aa hJ ?_
 refine fN hJ mixed [] (.rd 0 (.pure 1 (.rd 2 (.one 3 (.one 4 (.pure 5 (.pure 6 (.pure 7 (.pure 8 (.pure 9 .done)))))))))) ⟨G,[(k,bk u0 s1 b c d)]⟩ (by simp only[*,go_sem]) (by kernel_rfl) ?_
 revert h;refine bS fun K L h=>?_
 simp only[*,go_sem]
 refine ⟨_,bE hJ fun F C=>jh j false L,bN ?_⟩
 revert h;refine bS fun M N h=>?_
 try simp only[*,go_sem]
 refine bV hJ _ (lQ u0 i K N) fun v a6 s u o=>?_
 obtain ⟨a7,a8,a9,ba,rfl,g⟩:=o
 have O:=g.oc;simp only[bC] at O
 replace m:=u.hd
 replace a:=a.mono s
 simp only[bf] at u
 obtain ⟨d77,bb,rfl,bc,bd,-⟩:=id g.e
 obtain ⟨d84,bj,rfl,bl,bm,-⟩:=id g.p
 obtain ⟨d91,bo,rfl,br,bs,-⟩:=id g.y
 obtain ⟨d98,bz,rfl,b0,b1,-⟩:=id g.t
 have b2:=eo (l:=[(k,bk u0 s1 b c d)]) s (aA.cons m (aA.nil _))
 refine ⟨by simp only[*,go_sem],?_⟩
 refine bN ?_
 revert h;refine bS fun b3 P h=>?_
 try simp only[*,go_sem]
 refine aM hJ _ (jN (a.mono aH) M (g.mono aH) P) ⟨by simp only[*,go_sem],bN ?_⟩
 try simp only[*,go_sem]
 refine aa hJ (ag hJ ?_)
 revert h;refine cS (fun Q h=>?_) fun Q h=>?_
 ·obtain rfl:=sI h
  try simp only[*,go_sem]
  refine ay ?_
  simp only[*,go_sem]
 obtain rfl:=sI h
 try simp only[*,go_sem]
 refine ay ?_
 simp only[*,go_sem]
def oQ (u0:ak)(e:Int)(f:Int):Option (ak×Bool):=
 ah (eO (IntKind.i64.wrap e) (IntKind.i64.wrap ((u0.aj.length:Int) - 1))) fun c=>ah (bw u0.aj c) fun a=>ah (bw u0.aj (IntKind.i64.wrap (c+1))) fun b=>ah (eO (IntKind.i64.wrap f) (if 1<IntKind.i64.wrap ((IntKind.i64.wrap (b.an - a.an)) - 1) then IntKind.i64.wrap ((IntKind.i64.wrap (b.an - a.an)) - 1) else 1)) fun d=>cond (decide (5<=(u0.aj.length:Int))) (some (u0,false)) (cond (decide ((IntKind.i64.wrap (b.an - a.an))<2)) (some (u0,false)) (ah (eO (IntKind.i64.wrap ((IntKind.i64.wrap (b.high - a.high))*(IntKind.i64.wrap (1+d)))) (IntKind.i64.wrap (b.an - a.an))) fun g=>cond ((g != 0)) (some (u0,false)) (ah (eA u0.aj 0 (IntKind.i64.wrap (c+1))) fun h=>ah (cB ([]:List bH) h) fun i=>ah (fK (IntKind.i64.wrap ((IntKind.i64.wrap (b.high - a.high))*(IntKind.i64.wrap (1+d)))) (IntKind.i64.wrap (b.an - a.an))) fun j=>ah (cB i ([(⟨IntKind.i64.wrap (a.an+(IntKind.i64.wrap (1+d))),IntKind.i64.wrap (a.high+j)⟩:bH)])) fun k=>ah (eA u0.aj (IntKind.i64.wrap (c+1)) (u0.aj.length:Int)) fun l=>ah (cB k l) fun m=>some ((⟨u0.aZ,u0.bD,u0.aR,m,u0.props,u0.aE,u0.told⟩:ak),true))))
theorem IV {ro:Addr->Option Value}(u0:ak){s1 b c d:Value}(k:bI ro u0 s1 b c d)(O:Int)(P:Int){r:(ak×Bool)}(h:oQ u0 O P=some r):en Tryz.prog 19 #[bv u0 s1 b c d,.int .u8 O,.int .u8 P] ro (fun v aK=>∃Q w1 w2 w3,v= .tuple #[bv r.1 Q w1 w2 w3,.bool r.2]/\bI aK r.1 Q w1 w2 w3):=by
 obtain ⟨d3,c4,rfl,fU,gg,-⟩:=id k.e
 unfold oQ at h
 have br:=k.oc;simp only[bC] at br
 refine aC.go Tryz.func19 rfl Tryz.ntmps19 Tryz.results19 (by simp) fun main J hJ A bs hd hs=>?_
 have b0:=hs 0
 have k1:=hs 1
 have b1:=hs 2
 clear hs
 refine aa hJ (ag hJ ?_)
 simp only[*,go_sem,-h]
 refine ax fun i b2 b3=>?_;try simp only[au] at b3
 refine ax fun j b4 b5=>?_;try simp only[au] at b5
 try simp only[*,go_sem,-h]
 refine aa hJ (ag hJ ?_)
 revert h;refine bS fun u R h=>?_
 obtain ⟨gl,gn⟩:=iY R
 clear R
 try simp only[*,go_sem,-h]
 refine aa hJ ?_
 refine rV hJ mixed 11 ⟨ro,[(j,bz 29),(i,bk u0 (sl d3 u0.aj c4) b c d)]⟩ (by simp only[*,go_sem,-h]) (by kernel_rfl) 45 rfl mH ?_
 revert h;refine bS fun a ca h=>?_
 obtain ⟨gp,gB,S⟩:=cw ca
 obtain ⟨g,cb,cd,cf,F⟩:=k.e.el _ _ S
 obtain rfl:cb=a.cells:=cf
 cases cd
 have cl:=F 0 _ rfl;simp only[go_sem] at cl
 have cy:=F 1 _ rfl;simp only[go_sem] at cy
 clear F S
 revert h;refine bS fun f c0 h=>?_
 obtain ⟨gC,gM,T⟩:=cw c0
 obtain ⟨gT,da,db,dd,G⟩:=k.e.el _ _ T
 obtain rfl:da=f.cells:=dd
 cases db
 have df:=G 0 _ rfl;simp only[go_sem] at df
 have dk:=G 1 _ rfl;simp only[go_sem] at dk
 clear G T
 try simp only[*,go_sem,-h]
 refine ax fun m dp dq=>?_;try simp only[au] at dq
 try simp only[*,go_sem,-h]
 refine ax fun n ds dt=>?_;try simp only[au] at dt
 try simp only[*,go_sem,-h]
 refine aa hJ ?_
 refine e5 hJ mixed 18 ⟨ro,[(n,.cells #[.int .i64 f.an,.int .i64 f.high] 45),(m,.cells #[.int .i64 a.an,.int .i64 a.high] 45),(j,bz 29),(i,bk u0 (sl (some g) u0.aj c4) b c d)]⟩ (by simp only[*,go_sem,-h]) (by kernel_rfl) ?_
 revert h;refine bS fun q U h=>?_
 obtain ⟨gV,g0⟩:=iY U
 clear U
 try simp only[*,go_sem,-h]
 refine aa hJ (aa hJ ?_)
 refine eC [3,6,7,8,9,10,11,12] fun g1 V W X=>?_
 simp only[*,go_sem,-h] at V W X
 clear bs hd b0 k1 b1
 refine ag hJ ?_
 revert h;refine cS (fun du h=>?_) fun du h=>?_
 ·try simp only[*,go_sem,-h]
  refine bK hJ (by simp only[*,go_sem,-h]) ?_
  refine aa hJ (ag hJ ?_)
  simp only[*,go_sem,-h]
  obtain rfl:=sI h
  refine ay ?_
  simp only[*,go_sem]
  exact ⟨_,Ext.refl _,Le.sub (List.nil_sublist _),_,_,_,_,rfl,k⟩
 revert h;refine cS (fun dv h=>?_) fun dv h=>?_
 ·try simp only[*,go_sem,-h]
  refine bK hJ (by simp only[*,go_sem,-h]) ?_
  refine aa hJ (ag hJ ?_)
  simp only[*,go_sem,-h]
  obtain rfl:=sI h
  refine ay ?_
  simp only[*,go_sem]
  exact ⟨_,Ext.refl _,Le.sub (List.nil_sublist _),_,_,_,_,rfl,k⟩
 revert h;refine bS fun g2 Y h=>?_
 obtain ⟨g3,g4⟩:=iY Y
 clear Y
 try simp only[*,go_sem,-h]
 revert h;refine jC hJ (by simp only[*,go_sem]) (fun dC h=>?_) fun dC h=>?_
 ·refine aa hJ (ag hJ ?_)
  simp only[*,go_sem,-h]
  obtain rfl:=sI h
  refine ay ?_
  simp only[*,go_sem]
  exact ⟨_,Ext.refl _,Le.sub (List.nil_sublist _),_,_,_,_,rfl,k⟩
 refine aF hJ (aa hJ ?_)
 refine ag hJ ?_
 simp only[*,go_sem,-h]
 refine ax fun o dE dT=>?_;try simp only[au] at dT
 try simp only[*,go_sem,-h]
 refine aa hJ ?_
 refine aL hJ fun ea=>?_
 refine ag hJ ?_
 revert h;refine bS fun eb ec h=>?_
 obtain ⟨ha,hc,hf,Z⟩:=j9 ec
 have ab:(0:Int).toNat<=(IntKind.i64.wrap (u+1)).toNat:=by omega
 have ed:(IntKind.i64.wrap (u+1)).toNat<=c4:=by omega
 have hg:0<=(IntKind.i64.wrap (u+1)):=by omega
 obtain ⟨d54,eh,et,ad⟩:=aB.kg k.e (0:Int).toNat (IntKind.i64.wrap (u+1)).toNat ab (by omega) Z
 simp only[go_sem] at eh et ab ed
 obtain ⟨_,_,hq,hh,hi,hj⟩:=id ad;cases hq
 clear Z
 revert h;refine bS fun D ev h=>?_
 obtain ⟨eQ,ae⟩:=cT ev
 try simp only[*,go_sem,-h]
 refine ax fun al eS ao=>?_;have e0:=aN.cons ao ea;try simp only[au] at ao
 try simp only[*,go_sem,-h]
 have e1:aW eD ro 45 (.slice (some ⟨al,0,none⟩) 0 0) ([]:List bH) [(al,.cells #[] 45)]:=aW.empty eS
 refine kB (r:=eD) (l:=([]:List bH)) (xs:=eb) [] ((o,bk u0 (sl (some g) u0.aj c4) b c d)::(n,.cells #[.int .i64 f.an,.int .i64 f.high] 45)::(m,.cells #[.int .i64 a.an,.int .i64 a.high] 45)::(j,bz 29)::(i,bk u0 (sl (some g) u0.aj c4) b c d)::[]) e1 e0 eQ ad rfl rfl lq lq rN mH rfl rO (by decide) (by decide) (fun hk z H B C ar=>?_)
 simp only[List.append_nil,List.cons_append,List.nil_append,List.append_assoc] at C
 subst B
 rw[<-ae] at H;clear ae
 obtain ⟨d68,I,rfl,hl⟩:=H.len
 have hn:=aN.back (l:=(o,bk u0 (sl (some g) u0.aj c4) b c d)::(n,.cells #[.int .i64 f.an,.int .i64 f.high] 45)::(m,.cells #[.int .i64 a.an,.int .i64 a.high] 45)::(j,bz 29)::(i,bk u0 (sl (some g) u0.aj c4) b c d)::z) (l':=[]++(z++([(o,bk u0 (sl (some g) u0.aj c4) b c d),(n,.cells #[.int .i64 f.an,.int .i64 f.high] 45),(m,.cells #[.int .i64 a.an,.int .i64 a.high] 45),(j,bz 29),(i,bk u0 (sl (some g) u0.aj c4) b c d)]++[]))) [] [(o,bk u0 (sl (some g) u0.aj c4) b c d),(n,.cells #[.int .i64 f.an,.int .i64 f.high] 45),(m,.cells #[.int .i64 a.an,.int .i64 a.high] 45),(j,bz 29),(i,bk u0 (sl (some g) u0.aj c4) b c d)] z [] (by first|rfl|simp only[List.append_nil,List.cons_append,List.nil_append,List.append_assoc]|(simp only[List.append_nil,List.cons_append,List.nil_append,List.append_assoc];rfl)) (by first|rfl|simp only[List.append_nil,List.cons_append,List.nil_append,List.append_assoc]|(simp only[List.append_nil,List.cons_append,List.nil_append,List.append_assoc];rfl)) (by first|exact ar|simpa only[List.append_nil,List.nil_append,List.cons_append,List.append_assoc] using ar)
 refine ⟨⟨ro,(o,bk u0 (sl (some g) u0.aj c4) b c d)::(n,.cells #[.int .i64 f.an,.int .i64 f.high] 45)::(m,.cells #[.int .i64 a.an,.int .i64 a.high] 45)::(j,bz 29)::(i,bk u0 (sl (some g) u0.aj c4) b c d)::z⟩,Le.back [] [(o,bk u0 (sl (some g) u0.aj c4) b c d),(n,.cells #[.int .i64 f.an,.int .i64 f.high] 45),(m,.cells #[.int .i64 a.an,.int .i64 a.high] 45),(j,bz 29),(i,bk u0 (sl (some g) u0.aj c4) b c d)] z [] (by first|rfl|simp only[List.append_nil,List.cons_append,List.nil_append,List.append_assoc]|(simp only[List.append_nil,List.cons_append,List.nil_append,List.append_assoc];rfl)) (by first|rfl|simp only[List.append_nil,List.cons_append,List.nil_append,List.append_assoc]|(simp only[List.append_nil,List.cons_append,List.nil_append,List.append_assoc];rfl)),?_⟩
 refine aD ?_
 try simp only[*,go_sem,-h]
 refine aa hJ ?_
 refine eC [3,6,7,8,9,10,11,12,13] fun ho a0 a2 a3=>?_
 simp only[*,go_sem,-h] at a0 a2 a3
 clear V W X
 refine aL hJ fun e3=>?_
 refine fN hJ mixed [22] (.pure 0 (.rd 1 (.pure 2 (.rd 3 (.pure 4 (.pure 5 (.pure 6 (.rd 7 (.pure 8 (.rd 9 (.pure 10 (.rd 11 (.pure 12 (.pure 13 (.pure 14 (.pure 15 (.pure 16 (.pure 17 (.pure 18 (.one 19 (.one 20 (.pure 21 (.last 22 .done))))))))))))))))))))))) ⟨ro,[(o,bk u0 (sl d68 D I) b c d),(n,.cells #[.int .i64 f.an,.int .i64 f.high] 45),(m,.cells #[.int .i64 a.an,.int .i64 a.high] 45),(j,bz 29),(i,bk u0 (sl (some g) u0.aj c4) b c d)]⟩ (by simp only[*,go_sem,-h]) (by kernel_rfl) ?_
 revert h;refine bS fun s a4 h=>?_
 obtain ⟨hp,hr⟩:=mF a4
 clear a4
 revert h;refine bS fun E fa h=>?_
 obtain ⟨fb,a5⟩:=cT fa
 try simp only[*,go_sem,-h]
 refine ax fun w a6 a7=>?_;have ff:=aN.cons a7 e3;try simp only[au] at a7
 try simp only[*,go_sem,-h]
 refine dG (r:=eD) (l:=D) (x:=(⟨IntKind.i64.wrap (a.an+(IntKind.i64.wrap (1+q))),IntKind.i64.wrap (a.high+s)⟩:bH)) (cs:=#[.int .i64 (IntKind.i64.wrap (a.an+(IntKind.i64.wrap (1+q)))),.int .i64 (IntKind.i64.wrap (a.high+s))]) (e2:=45) [(w,.cells #[.int .i64 (IntKind.i64.wrap (a.an+(IntKind.i64.wrap (1+q)))),.int .i64 (IntKind.i64.wrap (a.high+s))] 45),(o,bk u0 (sl d68 D I) b c d),(n,.cells #[.int .i64 f.an,.int .i64 f.high] 45),(m,.cells #[.int .i64 a.an,.int .i64 a.high] 45),(j,bz 29),(i,bk u0 (sl (some g) u0.aj c4) b c d)] [] H ff fb rfl (by simp only[*,go_sem,-h]) a6 rfl rfl lq lq rN mH rfl rO (by decide) (by decide) (fun ht fg K B C hv=>?_)
 simp only[List.append_nil,List.cons_append,List.nil_append,List.append_assoc] at C
 subst B
 rw[<-a5] at K;clear a5
 obtain ⟨L,M,rfl,hx⟩:=K.len
 refine ⟨⟨ro,(w,.cells #[.int .i64 (IntKind.i64.wrap (a.an+(IntKind.i64.wrap (1+q)))),.int .i64 (IntKind.i64.wrap (a.high+s))] 45)::(o,bk u0 (sl d68 D I) b c d)::(n,.cells #[.int .i64 f.an,.int .i64 f.high] 45)::(m,.cells #[.int .i64 a.an,.int .i64 a.high] 45)::(j,bz 29)::(i,bk u0 (sl (some g) u0.aj c4) b c d)::fg⟩,Le.refl _,?_⟩
 refine ⟨by simp only[*,go_sem,-h],bN ?_⟩
 try simp only[*,go_sem,-h]
 refine aa hJ ?_
 refine aL hJ fun fi=>?_
 refine fN hJ mixed [9] (.pure 0 (.rd 1 (.pure 2 (.rd 3 (.pure 4 (.pure 5 (.pure 6 (.one 7 (.pure 8 (.last 9 .done)))))))))) ⟨ro,[(w,.cells #[.int .i64 (IntKind.i64.wrap (a.an+(IntKind.i64.wrap (1+q)))),.int .i64 (IntKind.i64.wrap (a.high+s))] 45),(o,bk u0 (sl L E M) b c d),(n,.cells #[.int .i64 f.an,.int .i64 f.high] 45),(m,.cells #[.int .i64 a.an,.int .i64 a.high] 45),(j,bz 29),(i,bk u0 (sl (some g) u0.aj c4) b c d)]⟩ (by simp only[*,go_sem,-h]) (by kernel_rfl) ?_
 revert h;refine bS fun fl fp h=>?_
 obtain ⟨hy,hz,hA,a8⟩:=j9 fp
 have a9:(IntKind.i64.wrap (u+1):Int).toNat<=((u0.aj.length:Int)).toNat:=by omega
 have fq:((u0.aj.length:Int)).toNat<=c4:=by omega
 have hB:0<=((u0.aj.length:Int)):=by omega
 obtain ⟨hD,fr,fs,ba⟩:=aB.kg k.e (IntKind.i64.wrap (u+1):Int).toNat ((u0.aj.length:Int)).toNat a9 (by omega) a8
 simp only[go_sem] at fr fs a9 fq
 obtain ⟨_,_,hq,hE,hF,hG⟩:=id ba;cases hq
 clear a8
 revert h;refine bS fun bb ft h=>?_
 obtain ⟨fu,bc⟩:=cT ft
 try simp only[*,go_sem,-h]
 refine kB (r:=eD) (l:=E) (xs:=fl) [(w,.cells #[.int .i64 (IntKind.i64.wrap (a.an+(IntKind.i64.wrap (1+q)))),.int .i64 (IntKind.i64.wrap (a.high+s))] 45),(o,bk u0 (sl L E M) b c d),(n,.cells #[.int .i64 f.an,.int .i64 f.high] 45),(m,.cells #[.int .i64 a.an,.int .i64 a.high] 45),(j,bz 29),(i,bk u0 (sl (some g) u0.aj c4) b c d)] [] K fi fu ba rfl rfl lq lq rN mH rfl rO (by decide) (by decide) (fun hI fv N B C hK=>?_)
 simp only[List.append_nil,List.cons_append,List.nil_append,List.append_assoc] at C
 subst B
 rw[<-bc] at N;clear bc
 obtain ⟨bd,bj,rfl,hL⟩:=N.len
 refine ⟨⟨ro,(w,.cells #[.int .i64 (IntKind.i64.wrap (a.an+(IntKind.i64.wrap (1+q)))),.int .i64 (IntKind.i64.wrap (a.high+s))] 45)::(o,bk u0 (sl L E M) b c d)::(n,.cells #[.int .i64 f.an,.int .i64 f.high] 45)::(m,.cells #[.int .i64 a.an,.int .i64 a.high] 45)::(j,bz 29)::(i,bk u0 (sl (some g) u0.aj c4) b c d)::fv⟩,Le.refl _,?_⟩
 refine ⟨by simp only[*,go_sem,-h],bN ?_⟩
 try simp only[*,go_sem,-h]
 refine aa hJ ?_
 refine eC [6,7,13] fun hM fw fx fP=>?_
 simp only[*,go_sem,-h] at fw fx fP
 clear a0 a2 a3
 refine aL hJ fun hN=>?_
 refine ag hJ ?_
 simp only[*,go_sem,-h]
 obtain rfl:=sI h
 refine aL hJ fun bl=>?_
 obtain ⟨hP,bm,fQ,bo,fS⟩:=N.eB [(w,.cells #[.int .i64 (IntKind.i64.wrap (a.an+(IntKind.i64.wrap (1+q)))),.int .i64 (IntKind.i64.wrap (a.high+s))] 45),(o,bk u0 (sl bd bb bj) b c d),(n,.cells #[.int .i64 f.an,.int .i64 f.high] 45),(m,.cells #[.int .i64 a.an,.int .i64 a.high] 45),(j,bk u0 (sl bd bb bj) b c d),(i,bk u0 (sl (some g) u0.aj c4) b c d)] [] bl (aA.cons a6 (aA.cons dE (aA.cons ds (aA.cons dp (aA.cons b4 (aA.cons b2 (aA.nil _)))))))
 clear bl
 refine cH hJ fS ?_
 obtain ⟨hQ,hR,-⟩:=bo.op
 replace k:=k.mono bm
 simp only[bf] at fQ
 refine ay ?_
 simp only[*,go_sem]
 exact ⟨_,bm,Le.sub (List.nil_sublist _),_,_,_,_,rfl,⟨bo,k.p,k.y,k.t⟩⟩
end Go.Proofs.YtjepffnffjdloaaGreatDoor
end

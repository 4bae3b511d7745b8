/- A part of the proof of a row and its tied card: VP1. -/
import Derived.Test.YtjepffnffjdloaaGreatDoorQ5
set_option linter.all false
section
namespace Go.Proofs.YtjepffnffjdloaaGreatDoor
open Go Go.Sep Go.Proofs
set_option maxRecDepth 100000
set_option maxHeartbeats 4000000
theorem Cx {x y:av}(b:∃n d,0<d/\x=bt n d)(c:∃n d,0<d/\y=bt n d)(h:x.num*y.den=y.num*x.den):x=y:=by
 obtain ⟨n,d,hd,ex⟩:=b
 obtain ⟨m,e,he,a⟩:=c
 have g:0<x.den:=by rw[ex];exact (lR n d hd).2
 have i:0<y.den:=by rw[a];exact (lR m e he).2
 have k1:bt x.num x.den.toNat=x:=by rw[ex];exact xR n d hd
 have f:bt y.num y.den.toNat=y:=by rw[a];exact xR m e he
 rw[<-k1,<-f]
 refine xK (by omega) (by omega) ?_
 rw[show ((y.den.toNat:Nat):Int)=y.den by omega,show ((x.den.toNat:Nat):Int)=x.den by omega]
 exact h
theorem IW {x y:av}(a:∃n d,0<d/\x=bt n d)(b:∃n d,0<d/\y=bt n d)(h1:bP x y=false)(h2:bP y x=false):x=y:=by
 refine Cx a b ?_
 unfold bP at h1 h2
 rw[decide_eq_false_iff_not] at h1 h2
 omega
theorem IX {A D X E f H h:Int}(a:0<D)(b:0<f)(e:(A - h*D)*f=H*D)(l:H*E<=(X - h*E)*f):¬X*D<A*E:=by
 intro c
 have h1:=Int.mul_le_mul_of_nonneg_right l (Int.le_of_lt a)
 have h2:(A - h*D)*f*E=H*D*E:=by rw[e]
 have h3:=Int.mul_lt_mul_of_pos_right c b
 grind
theorem IY {c b hp hq ht fp k n d:Int}(hd:0<d)(e:(ht - hp)*d=(hq - hp)*n)(l:(c - hp*b)*d=(hq - hp)*(k - fp)*b):(hp*n+(ht - hp)*(k - fp))*b=c*n:=by
 refine Int.eq_of_mul_eq_mul_right (a:=d) (by omega) ?_
 have:(ht - hp)*d*((k - fp)*b)=(hq - hp)*n*((k - fp)*b):=by rw[e]
 have:(c - hp*b)*d*n=(hq - hp)*(k - fp)*b*n:=by rw[l]
 grind
theorem IZ {c b hp hq ht fp k n d:Int}(hd:0<d)(e:(ht - hp)*d=(hq - hp)*n)(l:(c - hp*b)*d=(hq - hp)*(k - fp)*b):(ht*(d - n)+(hq - ht)*(k - (fp+n)))*b=c*(d - n):=by
 refine Int.eq_of_mul_eq_mul_right (a:=d) (by omega) ?_
 have e1:(ht - hp)*d*((d - n)*b)=(hq - hp)*n*((d - n)*b):=by rw[e]
 have e2:(ht - hp)*d*((k - (fp+n))*b)=(hq - hp)*n*((k - (fp+n))*b):=by rw[e]
 have f:(c - hp*b)*d*(d - n)=(hq - hp)*(k - fp)*b*(d - n):=by rw[l]
 grind
structure Pt (u o:ak)(i:Nat)(p q t:bH)(n d:Int):Prop where
 aZ:o.aZ=u.aZ
 hp:u.aj[i]?=some p
 hq:u.aj[i+1]?=some q
 hd:q.an - p.an=d
 hn:0<n/\n<d
 an:t.an=p.an+n
 high:(t.high - p.high)*d=(q.high - p.high)*n
 low:∀j,j<=i->o.aj[j]?=u.aj[j]?
 fA:o.aj[i+1]?=some t
 up:∀j,i+1<=j->o.aj[j+1]?=u.aj[j]?
section
variable {u o : ak} {i : Nat} {p q t : bH} {n d : Int} (F : Fit u) (G : Fit o) (K : Pt u o i p q t n d)
include F G K
theorem Cz:o.aj[0]?=u.aj[0]?/\o.aj[o.aj.length - 1]?=u.aj[u.aj.length - 1]?:=by
 refine ⟨K.low 0 (by omega),?_⟩
 have b:o.aj.length=u.aj.length+1:=by
  have h1:i+1<u.aj.length:=(List.getElem?_eq_some_iff.1 K.hq).1
  have h2:=K.up (u.aj.length - 1) (by omega)
  rw[List.getElem?_eq_getElem (show u.aj.length - 1<u.aj.length by omega)] at h2
  have h3:=(List.getElem?_eq_some_iff.1 h2).1
  have a:=K.up u.aj.length (by omega)
  rw[List.getElem?_eq_none (Nat.le_refl _)] at a
  have c:=List.getElem?_eq_none_iff.1 a
  omega
 have h1:i+1<u.aj.length:=(List.getElem?_eq_some_iff.1 K.hq).1
 rw[b,show u.aj.length+1 - 1=u.aj.length - 1+1 by omega]
 exact K.up _ (by omega)
theorem CA {k:Int}(w:eP u k=some true):∃g,gu u k=some g/\gu o k=some g:=by
 obtain ⟨a,z,p,q,hq,-⟩:=tD u F k
 rw[w] at hq
 have hb:=dV.1 (Option.some.inj hq).symm
 obtain ⟨g,A,-,-,B,m⟩:=B1 F p q hb.1 hb.2
 obtain ⟨e0,e1⟩:=Cz F G K
 obtain ⟨g',h1,-,-,f,x,y,b,h,j,r,s,hd,t,hg⟩:=xI o G k a z (e0.trans p) (e1.trans q) hb.1 hb.2
 refine ⟨g,A,?_⟩
 rw[h1]
 congr 1
 refine Cx ⟨_,b,t,hg⟩ B ?_
 have v:=(lR (x.high*b+(y.high - x.high)*(k - x.an)) b t)
 rw[<-hg] at v
 have key:(x.high*b+(y.high - x.high)*(k - x.an))*g.den=g.num*b:=by
  have kd:=K.hd
  have kn:=K.hn
  have kf:=K.an
  rcases Nat.lt_trichotomy f i with c|c|c
  ·rw[K.low f (by omega)] at h
   rw[K.low (f+1) (by omega)] at j
   have:=m f x y h j r s
   rw[hd] at this
   grind
  ·subst c
   rw[K.low f (Nat.le_refl _),K.hp] at h
   rw[K.fA] at j
   cases h;cases j
   have:=m f _ _ K.hp K.hq (by omega) (by omega)
   rw[kd] at this
   have e:(b:Int)=n:=by omega
   rw[e]
   exact IY (by omega) K.high this
  ·rcases Nat.lt_or_ge (i+1) f with c2|c2
   ·obtain ⟨l,rfl⟩:∃l,f=l+1:=⟨f - 1,by omega⟩
    rw[K.up l (by omega)] at h
    rw[K.up (l+1) (by omega)] at j
    have:=m l x y h j r s
    rw[hd] at this
    grind
   ·obtain rfl:f=i+1:=by omega
    rw[K.fA] at h
    rw[K.up (i+1) (Nat.le_refl _),K.hq] at j
    cases h;cases j
    have:=m i _ _ K.hp K.hq (by omega) (by omega)
    rw[kd] at this
    have e:(b:Int)=d - n:=by omega
    rw[e,kf]
    exact IZ (by omega) K.high this
 have C:0<(b:Int):=by omega
 refine Int.eq_of_mul_eq_mul_right (a:=(b:Int)) (by omega) ?_
 have h2:g'.num*b*g.den=(x.high*b+(y.high - x.high)*(k - x.an))*g'.den*g.den:=by rw[v.1]
 have h3:(x.high*b+(y.high - x.high)*(k - x.an))*g.den*g'.den=g.num*b*g'.den:=by rw[key]
 grind
end
theorem I0 {hp hq ht h W X E fp fq n d:Int}(hd:0<d)(hn:0<=n/\n<=d)(e1:fq - fp=d)(e2:(ht - hp)*d=(hq - hp)*n)(b:(hp - h)*W*E<=(X - h*E)*fp)(c:(hq - h)*W*E<=(X - h*E)*fq):(ht - h)*W*E<=(X - h*E)*(fp+n):=by
 refine Int.le_of_mul_le_mul_right (a:=d) ?_ hd
 have e:=Int.mul_le_mul_of_nonneg_right b (show 0<=d - n by omega)
 have f:=Int.mul_le_mul_of_nonneg_right c hn.1
 have g:(ht - hp)*d*(W*E)=(hq - hp)*n*(W*E):=by rw[e2]
 have i:(X - h*E)*n*(fq - fp)=(X - h*E)*n*d:=by rw[e1]
 grind
theorem CB {u:ak}{s:aO}(p:bH)(h:0<p.an+s.back):∃n d,0<d/\cE u s p=bt n d:=⟨_,_,by omega,rfl⟩
section
variable {u o : ak} {i : Nat} {p q t : bH} {n d : Int} (F : Fit u) (G : Fit o) (K : Pt u o i p q t n d)
include F G K
theorem qP (s:aO)(x:bH):cE o s x=cE u s x:=by
 unfold cE
 rw[K.aZ]
theorem I1 {s:aO}(hs:(1<=s.back/\s.back<=20)/\0<=s.high/\s.high<=60):(c8 o s).2=(c8 u s).2:=by
 obtain ⟨m,x,e1,e,hm,-⟩:=tL F hs
 obtain ⟨b,y,e2,a,r,-⟩:=tL G hs
 have I:=F.dn _ _ e
 have J:=G.dn _ _ a
 rw[e1,e2]
 show cE o s y=cE u s x
 rw[qP F G K]
 refine IW (CB y (by omega)) (CB x (by omega)) ?_ ?_
 ·
  have key:∃j:Nat,o.aj[j]?=some x:=by
   rcases Nat.lt_or_ge i m with c|c
   ·exact ⟨m+1,by rw[K.up m (by omega)];exact e⟩
   ·exact ⟨m,by rw[K.low m c];exact e⟩
  obtain ⟨j,v⟩:=key
  have:=r j x v
  rwa [qP F G K,qP F G K] at this
 ·rcases Nat.lt_trichotomy b (i+1) with c|c|c
  ·rw[K.low b (by omega)] at a
   exact hm b y a
  ·subst c
   rw[K.fA] at a
   cases a
   have kf:=K.an
   have kn:=K.hn
   have kd:=K.hd
   have fp:=F.dn _ _ K.hp
   have fq:=F.dn _ _ K.hq
   have g:=hm _ _ K.hp
   have l:=hm _ _ K.hq
   obtain ⟨w,z⟩:=oK F hs K.hp
   obtain ⟨A,B⟩:=oK F hs K.hq
   obtain ⟨ct,dt⟩:=oK G hs K.fA
   rw[qP F G K,K.aZ] at ct
   rw[qP F G K] at dt
   unfold bP at g l ⊢
   rw[decide_eq_false_iff_not] at g l ⊢
   have C:=xQ z (by omega) w g
   have D:=xQ B (by omega) A l
   have E:=I0 (ht:=t.high) (n:=n) (d:=d) (by omega) ⟨by omega,by omega⟩ (show (q.an+s.back) - (p.an+s.back)=d by omega) K.high C D
   refine IX dt (f:=t.an+s.back) (H:=(t.high - s.high)*(u.aZ+s.back)) (h:=s.high) (by omega) ct ?_
   rw[show t.an+s.back=p.an+s.back+n by omega]
   exact E
  ·obtain ⟨k,rfl⟩:∃k,b=k+1:=⟨b - 1,by omega⟩
   rw[K.up k (by omega)] at a
   exact hm k y a
theorem I2 (h1:o.bD=u.bD)(h2:o.aR=u.aR)(h3:o.props=u.props)(c:o.aE=u.aE)(d:o.told=u.told):Cp u o:=
 ⟨K.aZ,h1,h2,h3,c,d,fun x e=>by
  obtain ⟨j,f⟩:=List.mem_iff_getElem?.1 e
  obtain ⟨g,a,b⟩:=CA F G K (F.prop j x f).1
  rw[a,b],fun s hs=>I1 F G K hs⟩
end
end Go.Proofs.YtjepffnffjdloaaGreatDoor
end

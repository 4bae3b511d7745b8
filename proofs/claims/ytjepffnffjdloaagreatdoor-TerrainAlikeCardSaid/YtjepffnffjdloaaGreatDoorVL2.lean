/- A part of the proof of a row and its tied card: VL2. -/
import Derived.Test.YtjepffnffjdloaaGreatDoorQ10
import Derived.Test.YtjepffnffjdloaaGreatDoorVL1
set_option linter.all false
section
namespace Go.Proofs.YtjepffnffjdloaaGreatDoor
open Go Go.Sep Go.Proofs
set_option maxRecDepth 100000
set_option maxHeartbeats 4000000
structure Af (k n:Int)(a a':ak):Prop where
 eq:a'.num*a.den=(k*a.num+n*a.den)*a'.den
 d:0<a.den
 d':0<a'.den
theorem Af.lt {k n:Int}(hk:0<k){a a' b e:ak}(h:Af k n a a')(g:Af k n b e):bg a' e=bg a b:=by
 unfold bg
 rw[decide_eq_decide]
 have e1:a'.num*e.den*(a.den*b.den)=(k*(a.num*b.den)+n*(a.den*b.den))*(a'.den*e.den):=by have:=h.eq;have:=g.eq;grind
 have e2:e.num*a'.den*(a.den*b.den)=(k*(b.num*a.den)+n*(a.den*b.den))*(a'.den*e.den):=by have:=h.eq;have:=g.eq;grind
 rw[<-lt_mul (Int.mul_pos h.d g.d),e1,e2,lt_mul (Int.mul_pos h.d' g.d')]
 constructor
 ·intro c
  exact Int.lt_of_mul_lt_mul_left (show k*(a.num*b.den)<k*(b.num*a.den) by omega) (by omega)
 ·intro c
  have:=Int.mul_lt_mul_of_pos_left c hk
  omega
theorem Af.more {k n:Int}(hk:0<k){a a' b c:ak}(h:Af k n a a')(g:Af k n b c):Af k n (cg a b) (cg a' c):=by
 unfold cg
 rw[h.lt hk g]
 cases bg a b<;>assumption
theorem Af.of {k n N c D b:Int}{a a':ak}(h:Vl a N D)(g:Vl a' c b)(e:c*D=(k*N+n*D)*b):Af k n a a':=by
 refine ⟨?_,h.den,g.den⟩
 refine Int.eq_of_mul_eq_mul_right (a:=D*b) (Int.ne_of_gt (Int.mul_pos h.d g.d)) ?_
 have e1:a'.num*b*(a.den*D)=c*a'.den*(a.den*D):=by rw[g.eq]
 have e2:c*D*(a'.den*a.den)=(k*N+n*D)*b*(a'.den*a.den):=by rw[e]
 have f:k*(a.num*D)*(a'.den*b)=k*(N*a.den)*(a'.den*b):=by rw[h.eq]
 grind
def sc (k:Int)(r:ak):ak:=bp (k*r.num) r.den.toNat
theorem CL {k:Int}{r:ak}(h:0<r.den):Vl (sc k r) (k*r.num) r.den:=by
 have:=fE (k*r.num) r.den.toNat (by omega)
 rw[show ((r.den.toNat:Nat):Int)=r.den by omega] at this
 exact ⟨this.1,h,this.2⟩
theorem yb {r:ak}(h:∃n d,0<d/\r=bp n d):sc 1 r=r:=by
 obtain ⟨n,d,hd,e⟩:=h
 unfold sc
 rw[Int.one_mul,e,sW n d hd]
theorem Af.min {k n:Int}(hk:0<k){a a' b c:ak}(h:Af k n a a')(g:Af k n b c):bY a' c=sc k (bY a b):=by
 have v:=mE h.d g.d
 have hd:=Int.mul_pos h.d g.d
 have i:=Int.mul_pos h.d' g.d'
 have hm:=v.den
 unfold sc
 show bp _ _=_
 refine p8 (by omega) (by omega) ?_
 rw[show (((bY a b).den.toNat:Nat):Int)=(bY a b).den by omega,show (((a'.den*c.den).toNat:Nat):Int)=a'.den*c.den by omega]
 refine Int.eq_of_mul_eq_mul_right (a:=a.den*b.den) (by omega) ?_
 have e1:a'.num*c.den*(a.den*b.den)=(k*(a.num*b.den)+n*(a.den*b.den))*(a'.den*c.den):=by have:=h.eq;have:=g.eq;grind
 have e2:c.num*a'.den*(a.den*b.den)=(k*(b.num*a.den)+n*(a.den*b.den))*(a'.den*c.den):=by have:=h.eq;have:=g.eq;grind
 have e:=v.eq
 generalize (bY a b).num=x at*
 generalize (bY a b).den=y at*
 have f:(a'.num*c.den - c.num*a'.den)*(a.den*b.den)=k*(a.num*b.den - b.num*a.den)*(a'.den*c.den):=by rw[Int.sub_mul,e1,e2];grind
 have j:(a'.num*c.den - c.num*a'.den)*(a.den*b.den)*y=k*(a.num*b.den - b.num*a.den)*(a'.den*c.den)*y:=by rw[f]
 have l:k*(x*(a.den*b.den))*(a'.den*c.den)=k*((a.num*b.den - b.num*a.den)*y)*(a'.den*c.den):=by rw[e]
 grind
theorem J5 (k:Int):sc k ⟨0,1⟩=⟨0,1⟩:=by
 unfold sc
 simp only[Int.mul_zero]
 decide
theorem J6 {k:Int}(hk:0<k){r:ak}(h:0<r.den):cg (sc k r) ⟨0,1⟩=sc k (cg r ⟨0,1⟩):=by
 have v:=CL (k:=k) h
 rw[mF v.den,mF h]
 have e:(sc k r).num<0↔r.num<0:=by
  rw[v.neg]
  constructor
  ·intro c
   rcases Int.lt_or_le r.num 0 with x|x
   ·exact x
   ·have:=Int.mul_nonneg (Int.le_of_lt hk) x;omega
  ·intro c
   have:=Int.mul_neg_of_pos_of_neg hk c;omega
 by_cases c:r.num<0
 ·rw[if_pos c,if_pos (e.2 c),J5]
 ·rw[if_neg c,if_neg (fun x=>c (e.1 x))]
theorem Af.J7 {k:Int}{a a':ak}(h:Af k 0 a a')(l:∃n d,0<d/\a'=bp n d):a'=sc k a:=by
 have v:=CL (k:=k) h.d
 refine Ho l ⟨_,_,by have:=h.d;omega,rfl⟩ ?_
 have e1:=h.eq
 have e2:=v.eq
 generalize (sc k a).num=x at*
 generalize (sc k a).den=y at*
 refine Int.eq_of_mul_eq_mul_right (a:=a.den) (by have:=h.d;omega) ?_
 grind
structure Lg (k n:Int)(u o:aj):Prop where
 aQ:o.aQ=k*u.aQ
 aN:o.aN=k*u.aN+n
 an:o.an=u.an.map fun p=>⟨k*p.ax,k*p.high+n⟩
 props:o.props=u.props.map fun p=>⟨k*p.place,k*p.cn⟩
def cY (k n:Int)(s:aP):aP:=⟨k*s.back,k*s.high+n⟩
section
variable {k n : Int} {u o : aj} {s : aP} (F : Fit u) (G : Fit o) (K : Lg k n u o) (hk : 0 < k) (hs : (1 ≤ s.back ∧ s.back ≤ 20) ∧ 0 ≤ s.high ∧ s.high ≤ 60) (ht : (1 ≤ (cY k n s).back ∧ (cY k n s).back ≤ 20) ∧ 0 ≤ (cY k n s).high ∧ (cY k n s).high ≤ 60)
include F G K hk hs ht
theorem CM {i:Nat}{p:bF}(a:u.an[i]?=some p):Af k n (cU u s p) (cU o (cY k n s) ⟨k*p.ax,k*p.high+n⟩):=by
 have b:=F.eH i p a
 have hm:=Int.mul_pos hk (show 0<p.ax+s.back by omega)
 have c:1*(k*p.ax+k*s.back)=k*(p.ax+s.back):=by grind
 have v1:Vl (cU u s p) (s.high*1*(p.ax+s.back)+(p.high - s.high*1)*(u.aQ+s.back)) (1*(p.ax+s.back)):=by
  have:=fE (s.high*1*(p.ax+s.back)+(p.high - s.high*1)*(u.aQ+s.back)) (1*(p.ax+s.back)).toNat (by omega)
  rw[show (((1*(p.ax+s.back)).toNat:Nat):Int)=1*(p.ax+s.back) by omega] at this
  exact ⟨this.1,by omega,this.2⟩
 have v2:Vl (cU o (cY k n s) ⟨k*p.ax,k*p.high+n⟩) ((k*s.high+n)*1*(k*p.ax+k*s.back)+(k*p.high+n - (k*s.high+n)*1)*(k*u.aQ+k*s.back)) (1*(k*p.ax+k*s.back)):=by
  have:=fE ((k*s.high+n)*1*(k*p.ax+k*s.back)+(k*p.high+n - (k*s.high+n)*1)*(k*u.aQ+k*s.back)) (1*(k*p.ax+k*s.back)).toNat (by omega)
  rw[show (((1*(k*p.ax+k*s.back)).toNat:Nat):Int)=1*(k*p.ax+k*s.back) by omega] at this
  have e:cU o (cY k n s) ⟨k*p.ax,k*p.high+n⟩=bp ((k*s.high+n)*1*(k*p.ax+k*s.back)+(k*p.high+n - (k*s.high+n)*1)*(k*u.aQ+k*s.back)) (1*(k*p.ax+k*s.back)).toNat:=by
   unfold cU cY
   rw[K.aQ]
  rw[e]
  exact ⟨this.1,by omega,this.2⟩
 exact Af.of v1 v2 (by grind)
theorem CN:∀(l:List bF) (i:Nat) (st a:Int×ak),(∀p,p∈l->p∈u.an)->a.1=st.1->Af k n st.2 a.2->
  (foldI (gB o (cY k n s)) i (l.map fun p=>(⟨k*p.ax,k*p.high+n⟩:bF)) a).1=(foldI (gB u s) i l st).1/\Af k n (foldI (gB u s) i l st).2 (foldI (gB o (cY k n s)) i (l.map fun p=>(⟨k*p.ax,k*p.high+n⟩:bF)) a).2
 |[],_,_,_,_,h1,h2=>⟨h1,h2⟩
 |p::l,i,st,a,c,h1,h2=>by
  obtain ⟨j,d⟩:=List.mem_iff_getElem?.1 (c p (List.mem_cons_self ..))
  have b:=CM F G K hk hs ht d
  rw[List.map_cons]
  unfold foldI
  refine CN l (i+1) _ _ (fun q e=>c q (List.mem_cons_of_mem _ e)) ?_ ?_
  ·unfold gB
   rw[h2.lt hk b]
   cases bg st.2 (cU u s p)
   ·exact h1
   ·rfl
  ·unfold gB
   rw[h2.lt hk b]
   cases bg st.2 (cU u s p)
   ·exact h2
   ·exact b
theorem yc:(bO o (cY k n s)).1=(bO u s).1/\Af k n (bO u s).2 (bO o (cY k n s)).2:=by
 have a:=F.an
 cases he:u.an with
 |nil=>rw[he] at a;simp at a
 |cons p l=>
  have b:u.an[0]?=some p:=by rw[he];rfl
  have c:=CM F G K hk hs ht b
  have:=CN F G K hk hs ht l 1 (0,cU u s p) (0,cU o (cY k n s) ⟨k*p.ax,k*p.high+n⟩) (fun q d=>by rw[he];exact List.mem_cons_of_mem _ d) rfl c
  unfold bO
  rw[K.an,he]
  exact this
omit hs ht in
theorem J8 {p:Int}(s:eo u p=some true):∃g g',gw u p=some g/\gw o (k*p)=some g'/\Af k n g g':=by
 obtain ⟨a,z,b,c,e,-⟩:=kz u F p
 rw[s] at e
 have hb:=dw.1 (Option.some.inj e).symm
 obtain ⟨g,t,-,v,-,w⟩:=Bg F b c hb.1 hb.2
 obtain ⟨_,_,_,_,j,x,y,d,f,l,q,r,hd,D,-⟩:=wT u F p a z b c hb.1 hb.2
 have A:o.an.length=u.an.length:=by rw[K.an,List.length_map]
 have m:∀(i:Nat) x,u.an[i]?=some x->o.an[i]?=some ⟨k*x.ax,k*x.high+n⟩:=fun i x h=>by rw[K.an,List.getElem?_map,h];rfl
 have mul:∀{x y:Int},x<=y->k*x<=k*y:=fun h=>Int.mul_le_mul_of_nonneg_left h (Int.le_of_lt hk)
 obtain ⟨g',h1,-,h3,-,B⟩:=Bg G (m 0 a b) (by rw[A];exact m _ z c) (mul hb.1) (mul hb.2)
 refine ⟨g,g',t,h1,?_,v.den.1,h3.den.1⟩
 have e1:=w j x y f l q r
 have e2:=B j _ _ (m j x f) (m (j+1) y l) (mul q) (mul r)
 simp only at e2
 have C:0<y.ax - x.ax:=by omega
 refine Int.eq_of_mul_eq_mul_right (a:=k*(y.ax - x.ax)) (Int.ne_of_gt (Int.mul_pos hk C)) ?_
 have E:k*k*((g.num - x.high*g.den)*(y.ax - x.ax))*g'.den=k*k*((y.high - x.high)*(p - x.ax)*g.den)*g'.den:=by rw[e1]
 have H:(g'.num - (k*x.high+n)*g'.den)*(k*y.ax - k*x.ax)*g.den=(k*y.high+n - (k*x.high+n))*(k*p - k*x.ax)*g'.den*g.den:=by rw[e2]
 grind
theorem J9 {i:Nat}{x:bH}(h:u.props[i]?=some x):Af k n (dc u s x) (dc o (cY k n s) ⟨k*x.place,k*x.cn⟩):=by
 obtain ⟨c,p2,p3⟩:=F.prop i x h
 obtain ⟨g,g',h1,h2,hg⟩:=J8 F G K hk c
 have e1:Vl (cC u x) (g.num+x.cn*g.den) g.den:=by
  have:=fE (g.num+x.cn*g.den) g.den.toNat (by have:=hg.d;omega)
  have hd:=hg.d
  rw[show ((g.den.toNat:Nat):Int)=g.den by omega] at this
  unfold cC
  simp only[h1]
  exact ⟨this.1,hd,this.2⟩
 have e2:Vl (cC o ⟨k*x.place,k*x.cn⟩) (g'.num+k*x.cn*g'.den) g'.den:=by
  have hd:=hg.d'
  have:=fE (g'.num+k*x.cn*g'.den) g'.den.toNat (by omega)
  rw[show ((g'.den.toNat:Nat):Int)=g'.den by omega] at this
  unfold cC
  simp only[h2]
  exact ⟨this.1,hd,this.2⟩
 have a:Af k n (cC u x) (cC o ⟨k*x.place,k*x.cn⟩):=Af.of e1 e2 (by have:=hg.eq;grind)
 obtain ⟨j,m,l,p,f,-⟩:=kz u F x.place
 rw[c] at f
 have hb:=dw.1 (Option.some.inj f).symm
 have f0:=F.eH 0 j l
 have hm:=Int.mul_pos hk (show 0<x.place+s.back by omega)
 have r:k*x.place+k*s.back=k*(x.place+s.back):=by grind
 unfold dc
 generalize cC u x=e at a
 generalize cC o ⟨k*x.place,k*x.cn⟩=b at a
 have d1:0<e.den*(x.place+s.back):=Int.mul_pos a.d (by omega)
 have d2:0<b.den*(k*x.place+k*s.back):=Int.mul_pos a.d' (by omega)
 have v1:Vl (jx u s x.place e) (s.high*e.den*(x.place+s.back)+(e.num - s.high*e.den)*(u.aQ+s.back)) (e.den*(x.place+s.back)):=by
  have:=fE (s.high*e.den*(x.place+s.back)+(e.num - s.high*e.den)*(u.aQ+s.back)) (e.den*(x.place+s.back)).toNat (by omega)
  rw[show (((e.den*(x.place+s.back)).toNat:Nat):Int)=e.den*(x.place+s.back) by omega] at this
  exact ⟨this.1,d1,this.2⟩
 have v2:Vl (jx o (cY k n s) (k*x.place) b) ((k*s.high+n)*b.den*(k*x.place+k*s.back)+(b.num - (k*s.high+n)*b.den)*(k*u.aQ+k*s.back)) (b.den*(k*x.place+k*s.back)):=by
  have:=fE ((k*s.high+n)*b.den*(k*x.place+k*s.back)+(b.num - (k*s.high+n)*b.den)*(k*u.aQ+k*s.back)) (b.den*(k*x.place+k*s.back)).toNat (by omega)
  rw[show (((b.den*(k*x.place+k*s.back)).toNat:Nat):Int)=b.den*(k*x.place+k*s.back) by omega] at this
  have q:jx o (cY k n s) (k*x.place) b=bp ((k*s.high+n)*b.den*(k*x.place+k*s.back)+(b.num - (k*s.high+n)*b.den)*(k*u.aQ+k*s.back)) (b.den*(k*x.place+k*s.back)).toNat:=by
   unfold jx cY
   rw[K.aQ]
  rw[q]
  exact ⟨this.1,d2,this.2⟩
 refine Af.of v1 v2 ?_
 have e0:=a.eq
 have t:k*((x.place+s.back)*(u.aQ+s.back))*(x.place+s.back)*k*(b.num*e.den)=k*((x.place+s.back)*(u.aQ+s.back))*(x.place+s.back)*k*((k*e.num+n*e.den)*b.den):=by rw[e0]
 have v:k*(u.aQ+s.back)*k*(x.place+s.back)*(b.num*e.den)=k*(u.aQ+s.back)*k*(x.place+s.back)*((k*e.num+n*e.den)*b.den):=by rw[e0]
 have w:k*(u.aQ+s.back)*(x.place+s.back)*(b.num*e.den)=k*(u.aQ+s.back)*(x.place+s.back)*((k*e.num+n*e.den)*b.den):=by rw[e0]
 grind
theorem Ka (hn:u.props≠[]):Af k n (c6 u s) (c6 o (cY k n s)):=by
 have key:∀(l:List bH) (i:Nat) (b a:ak),(∀x,x∈l->x∈u.props)->(i=0/\l≠[]\/Af k n b a)->Af k n (foldI (gM u s) i l b) (foldI (gM o (cY k n s)) i (l.map fun p=>(⟨k*p.place,k*p.cn⟩:bH)) a):=by
  intro l
  induction l with
  |nil=>intro i b a _ hb;rcases hb with ⟨_,hb⟩|hb;exact absurd rfl hb;exact hb
  |cons x l ih=>
   intro i b a d hb
   rw[List.map_cons]
   unfold foldI
   refine ih (i+1) _ _ (fun y f=>d y (List.mem_cons_of_mem _ f)) (.inr ?_)
   obtain ⟨j,g⟩:=List.mem_iff_getElem?.1 (d x (List.mem_cons_self ..))
   have e:=J9 F G K hk hs ht g
   unfold gM
   by_cases c:i=0
   ·rw[if_pos c,if_pos c];exact e
   ·rw[if_neg c,if_neg c]
    exact Af.more hk (hb.resolve_left fun y=>c y.1) e
 unfold c6
 rw[K.props]
 exact key u.props 0 ⟨0,0⟩ ⟨0,0⟩ (fun _ h=>h) (.inl ⟨rfl,hn⟩)
theorem CO:Af k n ⟨u.aN,1⟩ ⟨o.aN,1⟩:=⟨by rw[K.aN];simp,by show (0:Int)<1;decide,by show (0:Int)<1;decide⟩
theorem CP:bY ⟨o.aN,1⟩ (bO o (cY k n s)).2=sc k (bY ⟨u.aN,1⟩ (bO u s).2):=(CO F G K hk hs ht).min hk (yc F G K hk hs ht).2
theorem yd:b6 o (cY k n s)=sc k (b6 u s):=by
 have P:=CO F G K hk hs ht
 have E:=(yc F G K hk hs ht).2
 have a:=E.lt hk P
 have b:Af k n (fc u s) (fc o (cY k n s)):=by
  unfold fc
  rw[a]
  cases bg (bO u s).2 ⟨u.aN,1⟩
  ·exact E
  ·exact P
 have c:Af k n (fY u s) (fY o (cY k n s)):=by
  unfold fY
  rw[a]
  cases bg (bO u s).2 ⟨u.aN,1⟩
  ·exact P
  ·exact E
 have f:Af k n (dL u s) (dL o (cY k n s)):=by
  unfold dL
  rw[show (o.props.length:Int)=(u.props.length:Int) by rw[K.props,List.length_map]]
  cases h:decide (0<(u.props.length:Int)) with
  |false=>exact c
  |true=>
   refine Af.more hk c (Ka F G K hk hs ht fun e=>?_)
   rw[e] at h
   simp at h
 unfold b6
 rw[b.min hk f,J6 hk (mE b.d f.d).den]
end
def lC (u0:aj)(e:aP)(a:Int)(c:(Int×ak×Int))(h:(ak×Int)):Option Bool:=
 ah (j8 (⟨u0.aQ,(if IntKind.i64.wrap (u0.aN+a)<60 then IntKind.i64.wrap (u0.aN+a) else 60),u0.aE,u0.an,u0.props,u0.aF,u0.told⟩:aj) e) fun b=>ah (iM (⟨u0.aQ,(if IntKind.i64.wrap (u0.aN+a)<60 then IntKind.i64.wrap (u0.aN+a) else 60),u0.aE,u0.an,u0.props,u0.aF,u0.told⟩:aj) e) fun d=>cond ((b.2.2==0)) (cond ((d.2==0)) (cond ((b.1==c.1)) (cond (((b.2.1.num==c.2.1.num)&&(b.2.1.den==c.2.1.den))) (ah (dU d.1) fun i=>cond (i) (ah (gx d.1 h.1) fun f=>ah (fD (IntKind.i64.wrap ((if IntKind.i64.wrap (u0.aN+a)<60 then IntKind.i64.wrap (u0.aN+a) else 60) - u0.aN)) 1) fun g=>cond (((f.num==g.num)&&(f.den==g.den))) (ah (gD) fun j=>some j) (some false)) (some false)) (some false)) (some false)) (some false)) (some false)
def mQ (u0:aj)(a:aP)(d:Int)(b:(Int×ak×Int))(c:(ak×Int))(j:(ak×Bool×Int)):Option Bool:=
 ah (qm u0) fun e=>cond (e.2) (cond (decide ((IntKind.i64.wrap (2*a.high))<=60)) (cond (decide ((IntKind.i64.wrap (2*a.back))<=20)) (ah (hO (IntKind.i64.wrap (2*a.back)) (IntKind.i64.wrap (2*a.high))) fun g=>ah (j8 e.1 g) fun f=>ah (iM e.1 g) fun h=>ah (fV e.1 g) fun i=>cond ((f.2.2 != 0)) (some false) (cond ((h.2 != 0)) (some false) (cond ((i.2.2 != 0)) (some false) (cond ((f.1 != b.1)) (some false) (ah (e8 (IntKind.i64.wrap (2*b.2.1.num)) b.2.1.den) fun k=>cond (!((f.2.1.num==k.num)&&(f.2.1.den==k.den))) (some false) (ah (e8 (IntKind.i64.wrap (2*c.1.num)) c.1.den) fun l=>cond (!((h.1.num==l.num)&&(h.1.den==l.den))) (some false) (ah (e8 (IntKind.i64.wrap (2*j.1.num)) j.1.den) fun m=>cond (!((i.1.num==m.num)&&(i.1.den==m.den))) (some false) (lC u0 a d b c)))))))) (lC u0 a d b c)) (lC u0 a d b c)) (lC u0 a d b c)
def tH (u0:aj)(l:Int)(m:Int)(n:Int):Option Bool:=
 ah (mB u0) fun o=>cond (!o) (ah (gD) fun p=>some p) (ah (nM l m) fun a=>ah (eU (IntKind.i64.wrap n) 20) fun d=>ah (j8 u0 a) fun e=>ah (iM u0 a) fun c=>ah (fV u0 a) fun b=>cond ((e.2.2 != 0)) (some false) (cond ((c.2 != 0)) (some false) (cond ((b.2.2 != 0)) (some false) (ah (dU e.2.1) fun q=>cond (!q) (some false) (ah (dU c.1) fun r=>cond (!r) (some false) (ah (dU b.1) fun s=>cond (!s) (some false) (ah (qk u0 d) fun f=>cond (f.2) (cond (decide ((IntKind.i64.wrap (a.high+d))<=60)) (ah (hO a.back (IntKind.i64.wrap (a.high+d))) fun i=>ah (iM f.1 i) fun h=>ah (fV f.1 i) fun g=>ah (mh u0) fun j=>ah (mh f.1) fun k=>cond ((h.2 != 0)) (some false) (cond ((g.2.2 != 0)) (some false) (cond ((j.2 != 0)) (some false) (cond ((k.2 != 0)) (some false) (cond (!((h.1.num==c.1.num)&&(h.1.den==c.1.den))) (some false) (cond (!((g.1.num==b.1.num)&&(g.1.den==b.1.den))) (some false) (cond (!(g.2.1==b.2.1)) (some false) (cond ((j.1 != k.1)) (some false) (mQ u0 a d e c b))))))))) (mQ u0 a d e c b)) (mQ u0 a d e c b))))))))
theorem fold_map {α β:Type}(f:α->β):∀(l:List α) (i:Nat) (s:List β),foldI (fun _ x s=>s++[f x]) i l s=s++l.map f
 |[],_,s=>by simp[foldI]
 |x::l,i,s=>by
  unfold foldI
  rw[fold_map f l]
  simp
theorem tJ {α β ρ:Type}{f:Int×List β->Option (Fl (Int×List β) ρ)}(g:α->β)(l:List α)(d:l.length<=20)(h:∀(i:Nat) x s,l[i]?=some x->i<l.length->s.length<=20->f ((i:Int),s)=some (.nx (IntKind.i64.wrap ((i:Int)+1),s++[g x])))(b:∀s,f ((l.length:Int),s)=some (.bk ((l.length:Int),s))):
  bD f fu (0,[])=some (.nx ((l.length:Int),l.map g)):=by
 have:=sO (f:=f) (ρ:=ρ) (g:=fun _ x s=>s++[g x]) (I:=fun i s=>s.length<=i/\i<=l.length) (fun s i=>(i,s)) l (by omega) (fun i x s a e=>by
  have c:=(List.getElem?_eq_some_iff.1 a).1
  refine ⟨?_,by simp only[List.length_append,List.length_singleton];omega,by omega⟩
  rw[h i x s a c (by omega),bZ (by omega)]
  rfl) b [] ⟨by simp,by omega⟩
 rw[fold_map] at this
 simpa using this.1
def qx (n:Int)(p:bF):bF:=⟨p.ax,p.high+n⟩
def jb (n:Int)(e:bR):bR:=⟨e.back,⟨e.high.low+n,e.high.high+n⟩⟩
def gd (u:aj)(n:Int):aj:=⟨u.aQ,u.aN+n,u.aE,u.an.map (qx n),u.props,u.aF.map (jb n),u.told⟩
theorem Kb {u:aj}(F:Fit u){n:Int}(hn:0<=n/\n<=20):∃b,qk u n=some (gd u n,b)/\(b=true->eF (gd u n)=some 0/\Fit (gd u n)):=by
 have he:=F.an
 have g:=F.aF
 have h:=F.props
 have ht:=F.told
 have j:=F.aN
 unfold qk
 rw[tJ (qx n) u.an (by omega) (fun i p s a d hs=>by
  have e:=F.eH i p a
  unfold qj
  rw[show decide ((((i:Int),s):Int×List bF).1<(u.an.length:Int))=true by simp;omega]
  simp only[cond_true,mG a,ah]
  rw[bZ (n:=p.high+n) (by omega),n7 (by simp only[List.length_singleton];omega)]
  rfl) (fun s=>by unfold qj;simp)]
 simp only[ah,aO]
 rw[tJ (jb n) u.aF (by omega) (fun i p s a d hs=>by
  have e:=F.aW i p a
  unfold xk
  rw[show decide ((((i:Int),s):Int×List bR).1<(u.aF.length:Int))=true by simp;omega]
  simp only[cond_true,mG a,ah]
  rw[bZ (n:=p.high.low+n) (by omega),bZ (n:=p.high.high+n) (by omega),show k5 (p.high.low+n) (p.high.high+n)=some ⟨p.high.low+n,p.high.high+n⟩ from rfl]
  simp only
  rw[n7 (by simp only[List.length_singleton];omega)]
  rfl) (fun s=>by unfold xk;simp)]
 simp only[bZ (n:=u.aN+n) (by omega)]
 obtain ⟨c,h1,h2⟩:=bars (u:=gd u n) ⟨by show (u.an.map (qx n)).length<=20;rw[List.length_map];omega,by show u.props.length<=20;omega,by show (u.aF.map (jb n)).length<=20;rw[List.length_map];omega,by show u.told.length<=20;omega⟩
 refine ⟨c==0,?_,fun hb=>?_⟩
 ·rw[show (⟨u.aQ,u.aN+n,u.aE,u.an.map (qx n),u.props,u.aF.map (jb n),u.told⟩:aj)=gd u n from rfl,h2]
 ·have f:c=0:=by simpa using hb
  subst f
  exact ⟨h1,sK (gd u n) (by show (u.an.map (qx n)).length<=20;rw[List.length_map];omega) h1⟩
theorem ye (u:aj)(n:Int):Lg 1 n u (gd u n):=
 ⟨by rw[Int.one_mul];rfl,by rw[Int.one_mul];rfl,by simp only[Int.one_mul];rfl,by simp only[Int.one_mul];show u.props=u.props.map fun p=>p;rw[List.map_id']⟩
theorem yf (n:Int)(s:aP):cY 1 n s=⟨s.back,s.high+n⟩:=by unfold cY;rw[Int.one_mul,Int.one_mul]
def jK (u:aj):aj:=⟨2*u.aQ,2*u.aN,u.aE,u.an.map fun p=>⟨2*p.ax,2*p.high⟩,u.props.map fun p=>⟨2*p.place,2*p.cn⟩,[⟨1,⟨0,0⟩⟩],[]⟩
theorem Kc {u:aj}(F:Fit u):∃b,qm u=some (jK u,b)/\(b=true->eF (jK u)=some 0/\Fit (jK u)):=by
 have he:=F.an
 have l:=F.props
 have m:=F.aN
 have e:=F.aQ
 unfold qm
 rw[tJ (fun p:bF=>(⟨2*p.ax,2*p.high⟩:bF)) u.an (by omega) (fun i p s d g hs=>by
  have o:=F.eH i p d
  unfold ql
  rw[show decide ((((i:Int),s):Int×List bF).1<(u.an.length:Int))=true by simp;omega]
  simp only[cond_true,mG d,ah]
  rw[bZ (n:=2*p.high) (by omega),bZ (n:=2*p.ax) (by omega),n7 (by simp only[List.length_singleton];omega)]) (fun s=>by unfold ql;simp)]
 simp only[ah,aO]
 rw[tJ (fun p:bH=>(⟨2*p.place,2*p.cn⟩:bH)) u.props (by omega) (fun i p s d g hs=>by
  obtain ⟨h,p2,p3⟩:=F.prop i p d
  obtain ⟨a,z,j,k,f,-⟩:=kz u F p.place
  rw[h] at f
  have hb:=dw.1 (Option.some.inj f).symm
  have q:=F.eH 0 a j
  have r:=F.eH _ z k
  unfold xl
  rw[show decide ((((i:Int),s):Int×List bH).1<(u.props.length:Int))=true by simp;omega]
  simp only[cond_true,mG d,ah]
  rw[bZ (n:=2*p.place) (by omega),bZ (n:=2*p.cn) (by omega),n7 (by simp only[List.length_singleton];omega)]) (fun s=>by unfold xl;simp)]
 simp only[bZ (n:=2*u.aQ) (by omega),bZ (n:=2*u.aN) (by omega)]
 obtain ⟨c,h1,h2⟩:=bars (u:=jK u) ⟨by unfold jK;simp only[List.length_map];omega,by unfold jK;simp only[List.length_map];omega,by show 1<=20;decide,by show 0<=20;decide⟩
 refine ⟨c==0,?_,fun hb=>?_⟩
 ·show ah (iN (jK u)) _=_
  rw[h2]
  rfl
 ·have e:c=0:=by simpa using hb
  subst e
  exact ⟨h1,sK (jK u) (by unfold jK;simp only[List.length_map];omega) h1⟩
theorem yg (u:aj):Lg 2 0 u (jK u):=⟨rfl,by show 2*u.aN=_;omega,by simp only[Int.add_zero];rfl,rfl⟩
theorem CQ (s:aP):cY 2 0 s=⟨2*s.back,2*s.high⟩:=by unfold cY;rw[Int.add_zero]
theorem Ke (n:Int)(b:cV):fL ⟨b.low+n,b.high+n⟩=(fL b).map (· +n):=by
 unfold fL
 rw[List.map_map,show b.high+n - (b.low+n)=b.high - b.low by omega]
 refine List.map_congr_left fun x _=>?_
 simp only[Function.comp]
 omega
theorem CR (n:Int):∀(l:List bR) (p:List Int),eI (p.map (· +n)) (l.map (jb n))=(eI p l).map fun h=>h.map (· +n)
 |[],p=>rfl
 |e::l,p=>by
  rw[List.map_cons]
  unfold eI
  show (fL ⟨e.high.low+n,e.high.high+n⟩).flatMap _=_
  rw[Ke n e.high,List.flatMap_map,List.map_flatMap]
  congr 1
  funext m
  rw[<-CR n l (p++[m]),List.map_append]
  rfl
section
variable {u : aj} (F : Fit u) {n : Int} (G : Fit (gd u n))
include F G
theorem Kf {s:aP}(hs:(1<=s.back/\s.back<=20)/\0<=s.high/\s.high<=60)(ht:(1<=(⟨s.back,s.high+n⟩:aP).back/\(⟨s.back,s.high+n⟩:aP).back<=20)/\0<=(⟨s.back,s.high+n⟩:aP).high/\(⟨s.back,s.high+n⟩:aP).high<=60):
  b6 (gd u n) ⟨s.back,s.high+n⟩=b6 u s/\jy (gd u n) ⟨s.back,s.high+n⟩=jy u s:=by
 rw[<-yf] at ht ⊢
 have e:=yd F G (ye u n) (by decide) hs ht
 rw[yb (jJ F hs).2] at e
 refine ⟨e,?_⟩
 rw[xg F hs,xg G ht,e]
 rfl
theorem Kg {h:List Int}(hm:h∈eI [] u.aF):jz (gd u n) (h.map (· +n))=jz u h:=by
 have H:=Bt hm
 unfold jz
 show u.told.all _=u.told.all _
 rw[Bool.eq_iff_iff,List.all_eq_true,List.all_eq_true]
 refine forall_congr' fun t=>forall_congr' fun ht=>?_
 obtain ⟨i,hi⟩:=List.mem_iff_getElem?.1 ht
 obtain ⟨a,b⟩:=F.p6 i t hi
 obtain ⟨e,m,h1,h2,h3,c,f⟩:=Bs H a b F
 obtain ⟨g,d,j,b2⟩:=H.Br _ _ h1
 rw[h2] at d
 cases d
 have ge:=G.aW t.aW.toNat (jb n e) (by show (u.aF.map (jb n))[_]?=_;rw[List.getElem?_map,h1];rfl)
 have k1:e.back=(jb n e).back:=rfl
 have k:(jb n e).high.low=e.high.low+n:=rfl
 have l:(jb n e).high.high=e.high.high+n:=rfl
 have e1:n5 (gd u n) t.aW.toNat (m+n)=⟨e.back,m+n⟩:=by
  unfold n5
  show (⟨((u.aF.map (jb n))[t.aW.toNat]?.map (·.back)).getD 0,m+n⟩:aP)=_
  rw[List.getElem?_map,h1]
  rfl
 have e2:=(Kf F G (s:=⟨e.back,m⟩) ⟨c,f⟩ ⟨c,by simp only;omega,by simp only;omega⟩).2
 unfold n6
 rw[List.getElem?_map,h2]
 simp only[Option.map_some,Option.getD_some]
 rw[e1,e2,h3]
theorem Kh:(jA (gd u n)).length=(jA u).length:=by
 unfold jA
 have e:eI [] (gd u n).aF=(eI [] u.aF).map fun h=>h.map (· +n):=CR n u.aF []
 rw[e,List.filter_map,List.length_map]
 congr 1
 refine List.filter_congr fun h hm=>?_
 exact Kg F G hm
end
def pB (u:aj)(P:Int):aj:=⟨u.aQ,P,u.aE,u.an,u.props,u.aF,u.told⟩
theorem Ki {u:aj}(F:Fit u)(h:eF u=some 0){P:Int}(a:0<=P/\P<=60):Fit (pB u P)/\eF (pB u P)=some 0:=by
 have G:Fit (pB u P):=⟨F.aQ,a,F.den,F.num,F.an,F.eH,F.nP,F.props,F.prop,F.aF,F.aW,F.told,F.p6⟩
 refine ⟨G,sZ ?_ G⟩
 have g:=sY h
 unfold gV at g ⊢
 show cond (bI u.aQ 2 60) (cond (bI P 0 60) _ 1) 1=0
 rw[n8 F.aN.1 F.aN.2] at g
 rw[n8 a.1 a.2]
 exact g
theorem Kj {u:aj}{s:aP}(F:Fit u)(hs:(1<=s.back/\s.back<=20)/\0<=s.high/\s.high<=60){P:Int}(g:0<=P/\P<=60)(G:Fit (pB u P)):
  gx (bY ⟨P,1⟩ (bO u s).2) (bY ⟨u.aN,1⟩ (bO u s).2)=some ⟨P - u.aN,1⟩:=by
 have s1:=(mP F hs).1
 have s2:Sm (bY ⟨P,1⟩ (bO u s).2) 16000 100:=(mP G hs).1
 have e:=sM s2 s1 (by decide) (by decide)
 rw[e]
 have hd:=(nW F hs).den.1
 have v1:=mE (a:=⟨P,1⟩) (b:=(bO u s).2) (by show (0:Int)<1;decide) hd
 have v2:=mE (a:=⟨u.aN,1⟩) (b:=(bO u s).2) (by show (0:Int)<1;decide) hd
 have d1:=s1.den.1
 have d2:=s2.den.1
 have hm:=Int.mul_pos d2 d1
 congr 1
 have e0:(⟨P - u.aN,1⟩:ak)=bp (P - u.aN) 1:=by
  unfold bp
  simp
 rw[e0]
 refine p8 (by omega) (by decide) ?_
 rw[show ((((bY ⟨P,1⟩ (bO u s).2).den*(bY ⟨u.aN,1⟩ (bO u s).2).den).toNat:Nat):Int)=(bY ⟨P,1⟩ (bO u s).2).den*(bY ⟨u.aN,1⟩ (bO u s).2).den by omega]
 have d:=v1.eq
 have f:=v2.eq
 simp only[Int.one_mul,Int.mul_one] at d f
 generalize (bY ⟨P,1⟩ (bO u s).2).num=a1 at*
 generalize (bY ⟨P,1⟩ (bO u s).2).den=c at*
 generalize (bY ⟨u.aN,1⟩ (bO u s).2).num=a2 at*
 generalize (bY ⟨u.aN,1⟩ (bO u s).2).den=b2 at*
 refine Int.eq_of_mul_eq_mul_right (a:=(bO u s).2.den) (by omega) ?_
 have h:a1*(bO u s).2.den*b2=(P*(bO u s).2.den - (bO u s).2.num)*c*b2:=by rw[d]
 have i:a2*(bO u s).2.den*c=(u.aN*(bO u s).2.den - (bO u s).2.num)*b2*c:=by rw[f]
 grind
theorem yh {x:ak}(hs:Sm x 1000000000 100000000):e8 (IntKind.i64.wrap (2*x.num)) x.den=some (sc 2 x):=by
 have h1:=hs.num
 have h2:=hs.den
 have:=mC (2*x.num) x.den.toNat (by omega) (by omega) (by omega)
 rw[show ((x.den.toNat:Nat):Int)=x.den by omega] at this
 rw[bZ (by omega),this]
 rfl
section
variable {u : aj} {s : aP} (F : Fit u) (h : eF u = some 0) (hs : (1 ≤ s.back ∧ s.back ≤ 20) ∧ 0 ≤ s.high ∧ s.high ≤ 60) {n : Int} (hn : 0 ≤ n ∧ n ≤ 20)
include F h hs hn
theorem Kk:lC u s n ((bO u s).1,(bO u s).2,0) (bY ⟨u.aN,1⟩ (bO u s).2,0)=some true:=by
 have f:=F.aN
 unfold lC
 rw[bZ (n:=u.aN+n) (by omega)]
 obtain ⟨P,a⟩:∃P,(if u.aN+n<60 then u.aN+n else 60)=P:=⟨_,rfl⟩
 have hb:0<=P/\P<=60:=by rw[<-a];split<;>omega
 rw[a]
 obtain ⟨G,b⟩:=Ki F h hb
 have c:j8 (⟨u.aQ,P,u.aE,u.an,u.props,u.aF,u.told⟩:aj) s=some ((bO u s).1,(bO u s).2,0):=xj G b hs
 have d:iM (⟨u.aQ,P,u.aE,u.an,u.props,u.aF,u.told⟩:aj) s=some (bY ⟨P,1⟩ (bO u s).2,0):=qh G b hs
 have e:dU (bY ⟨P,1⟩ (bO u s).2)=some true:=x9 G hs
 simp only[c,d,ah,beq_self_eq_true,cond_true,Bool.and_self,e,Kj F hs hb G,bZ (n:=P - u.aN) (by omega),show fD (P - u.aN) 1=some ⟨P - u.aN,1⟩ from rfl,mO]
theorem Kl:mQ u s n ((bO u s).1,(bO u s).2,0) (bY ⟨u.aN,1⟩ (bO u s).2,0) (b6 u s,bg u.aE (b6 u s),0)=some true:=by
 have f:=Kk F h hs hn
 unfold mQ
 obtain ⟨b,e1,e2⟩:=Kc F
 simp only[e1,ah,f]
 cases b with
 |false=>rfl
 |true=>
  obtain ⟨a,G⟩:=e2 rfl
  rw[bZ (n:=2*s.high) (by omega),bZ (n:=2*s.back) (by omega)]
  by_cases c1:2*s.high<=60
  ·by_cases c2:2*s.back<=20
   ·have ht:(1<=(cY 2 0 s).back/\(cY 2 0 s).back<=20)/\0<=(cY 2 0 s).high/\(cY 2 0 s).high<=60:=by rw[CQ];exact ⟨⟨by simp only;omega,c2⟩,by simp only;omega,c1⟩
    obtain ⟨k1,g⟩:=yc F G (yg u) (by decide) hs ht
    have i:=CP F G (yg u) (by decide) hs ht
    have j:=yd F G (yg u) (by decide) hs ht
    have k:=g.J7 (qw G ht).2
    have c:=xj G a ht
    have d:=qh G a ht
    have e:=qi G a ht
    rw[k1,k] at c
    rw[i] at d
    rw[j] at e
    rw[CQ] at c d e
    have l:=yh ((qw F hs).1.mono (by decide) (by decide))
    have m:=yh ((mP F hs).1.mono (by decide) (by decide))
    have o:=yh ((jJ F hs).1.mono (by decide) (by decide))
    rw[decide_eq_true c1,decide_eq_true c2]
    simp only[cond_true,show hO (2*s.back) (2*s.high)=some ⟨2*s.back,2*s.high⟩ from rfl,c,d,e,bne_self_eq_false,cond_false,l,m,o,beq_self_eq_true,Bool.and_self,Bool.not_true]
   ·rw[decide_eq_true c1,decide_eq_false c2]
    rfl
  ·rw[decide_eq_false c1]
   rfl
end
theorem Km (u:aj)(a:Int)(l:0<=a/\a<=255)(b:Int)(hb:0<=b/\b<=255)(c:Int)(m:0<=c/\c<=255):tH u a b c=some true:=by
 unfold tH
 rcases CC u with k|⟨k,L,h,F⟩
 ·simp only[k,ah,Bool.not_false,cond_true,mO]
 obtain ⟨s,es,hs⟩:=CD l hb
 have t1:=oA (a:=c) (b:=20) m.1 (by decide)
 have g:eU (IntKind.i64.wrap c) 20=some (c.tmod 20):=by rw[bZ (by omega)];exact oz (by decide)
 generalize c.tmod 20=n at g t1
 have hn:0<=n/\n<=20:=by omega
 have o:=Kl F h hs hn
 obtain ⟨v,r1,r2⟩:=Kb F hn
 simp only[k,ah,Bool.not_true,cond_false,es,g,xj F h hs,qh F h hs,qi F h hs,bne_self_eq_false,JU F hs,x9 F hs,ya F hs,r1,o]
 cases v with
 |false=>rfl
 |true=>
  obtain ⟨d,G⟩:=r2 rfl
  rw[bZ (n:=s.high+n) (by omega)]
  by_cases c1:s.high+n<=60
  ·have ht:(1<=(cY 1 n s).back/\(cY 1 n s).back<=20)/\0<=(cY 1 n s).high/\(cY 1 n s).high<=60:=by rw[yf];exact ⟨hs.1,by simp only;omega,c1⟩
   have i:=CP F G (ye u n) (by decide) hs ht
   have j:=yd F G (ye u n) (by decide) hs ht
   rw[yb (mP F hs).2] at i
   rw[yb (jJ F hs).2] at j
   have e:=qh G d ht
   have f:=qi G d ht
   rw[i] at e
   rw[j,show (gd u n).aE=u.aE from rfl] at f
   rw[yf] at e f
   rw[decide_eq_true c1]
   simp only[cond_true,show hO s.back (s.high+n)=some ⟨s.back,s.high+n⟩ from rfl,e,f,BA F h,BA G d,Kh F G,bne_self_eq_false,cond_false,beq_self_eq_true,Bool.and_self,Bool.not_true]
  ·rw[decide_eq_false c1]
   rfl
set_option maxHeartbeats 40000000 in
theorem tK {Φ:Goroutine->af->Prop}(hJ:Closed Tryz.prog true (dm Tryz.prog Φ)){A:Act}{ro:Addr->Option Value}(u0:aj)(c:aP)(b:Int)(d:(Int×ak×Int))(f:(ak×Int)){i j k l:Nat}(g:cT ro){m n o q:Value}(a:bG ro u0 m n o q)(B:sz A=324/\A.defers=[]/\slot A 4= .pointer (some ⟨l,0,none⟩)/\slot A 8= .bool false/\slot A 9= .pointer (some ⟨k,0,none⟩)/\slot A 10= .int .i64 b/\slot A 11= .int .i64 d.1/\slot A 12= .pointer (some ⟨j,0,none⟩)/\slot A 14= .pointer (some ⟨i,0,none⟩))(h:lC u0 c b d f=some true):Wp (dm Tryz.prog Φ) (bh (bh (bh (bh (bh (bh (bh (bh (bh (Tryz.f5.body.getD .skip)))))))))) (gk Tryz.prog [.tmp 8] (fun v _=>v= .bool true)) A ⟨ro,(i,rt f.1.num f.1.den)::(j,rt d.2.1.num d.2.1.den)::(k,.cells #[.int .i64 c.back,.int .i64 c.high] 33)::(l,bk u0 m n o q)::[]⟩:=by
 obtain ⟨C,hd,D,E,G,H,I,J,K⟩:=B
 unfold lC at h
 have L:=a.oc;simp only[bx] at L
 refine e6 hJ fun r M=>?_
 have N:=r.nd
 try simp only[keys,List.map_cons,List.map_nil,List.map_append,List.cons_append,List.nil_append,List.nodup_cons,List.mem_cons,List.mem_append,List.not_mem_nil,or_false,not_or] at N
 simp only[bn] at M
 refine aa hJ (ag hJ ?_)
 try simp (maxSteps:=10000000) only[*,go_sem]
 refine av fun ar a0 s=>?_;have O:=aM.cons s r;try simp only[au] at s
 try simp (maxSteps:=10000000) only[*,go_sem]
 refine aa hJ (ag hJ ?_)
 try simp (maxSteps:=10000000) only[*,go_sem]
 refine aa hJ (ag hJ ?_)
 revert h;refine bS fun a2 P h=>?_
 try simp (maxSteps:=10000000) only[*,go_sem]
 refine aR hJ _ (rW (g.mono aJ) (⟨u0.aQ,(if IntKind.i64.wrap (u0.aN+b)<60 then IntKind.i64.wrap (u0.aN+b) else 60),u0.aE,u0.an,u0.props,u0.aF,u0.told⟩:aj) ⟨(a.e.mono aJ),(a.p.mono aJ),(a.y.mono aJ),(a.t.mono aJ)⟩ c P) (aD ?_)
 try simp (maxSteps:=10000000) only[*,go_sem]
 refine av fun a3 a4 u=>?_;have Q:=aM.cons u O;try simp only[au] at u
 try simp (maxSteps:=10000000) only[*,go_sem]
 refine aa hJ (ag hJ ?_)
 revert h;refine bS fun w R h=>?_
 try simp (maxSteps:=10000000) only[*,go_sem]
 refine aR hJ _ (nv (g.mono aJ) (⟨u0.aQ,(if IntKind.i64.wrap (u0.aN+b)<60 then IntKind.i64.wrap (u0.aN+b) else 60),u0.aE,u0.an,u0.props,u0.aF,u0.told⟩:aj) ⟨(a.e.mono aJ),(a.p.mono aJ),(a.y.mono aJ),(a.t.mono aJ)⟩ c R) (aD ?_)
 try simp (maxSteps:=10000000) only[*,go_sem]
 refine av fun a5 a6 x=>?_;have a7:=aM.cons x Q;try simp only[au] at x
 try simp (maxSteps:=10000000) only[*,go_sem]
 refine aa hJ ?_
 refine ew [4,8,11,12,13,14,15,42,43,44,45] fun a8 S T U=>?_
 simp only[*,go_sem] at S T U
 clear C hd D E G H I J K
 refine dh hJ mixed 33 7 (by simp (maxSteps:=10000000) only[*,go_sem]) (by kernel_rfl) ?_
 revert h;refine cS (fun V h=>?_) fun V h=>?_
 ·revert h;refine cS (fun W h=>?_) fun W h=>?_
  ·revert h;refine cS (fun X h=>?_) fun X h=>?_
   ·revert h;refine cS (fun Y h=>?_) fun Y h=>?_
    ·revert h;refine bS fun a9 Z h=>?_
     try simp (maxSteps:=10000000) only[*,go_sem]
     refine ⟨_,bA hJ fun F z=>iO w.1 Z,bV ?_⟩
     revert h;refine cS (fun ab h=>?_) fun ab h=>?_
     ·revert h;refine bS fun ba ad h=>?_
      try simp (maxSteps:=10000000) only[*,go_sem]
      refine ⟨_,bA hJ fun F z=>F5 w.1 f.1 ad,bV ?_⟩
      revert h;refine bS fun bb ae h=>?_
      try simp (maxSteps:=10000000) only[*,go_sem]
      refine ⟨_,bA hJ fun F z=>gy (IntKind.i64.wrap ((if IntKind.i64.wrap (u0.aN+b)<60 then IntKind.i64.wrap (u0.aN+b) else 60) - u0.aN)) 1 ae,bV ?_⟩
      revert h;refine cS (fun al h=>?_) fun al h=>?_
      ·revert h;refine bS fun bc ao h=>?_
       obtain rfl:=sI h
       try simp (maxSteps:=10000000) only[*,go_sem]
       refine jh _ (jI g ao) ⟨by simp (maxSteps:=10000000) only[*,go_sem],kM ?_⟩
       try simp (maxSteps:=10000000) only[*,go_sem]
       refine aB ?_
       try simp only[*,go_sem]
      cases h
     cases h
    cases h
   cases h
  cases h
 cases h
set_option maxHeartbeats 40000000 in
theorem yj {Φ:Goroutine->af->Prop}(hJ:Closed Tryz.prog true (dm Tryz.prog Φ)){A:Act}{ro:Addr->Option Value}(u0:aj)(b:aP)(f:Int)(a:(Int×ak×Int))(c:(ak×Int))(g:(ak×Bool×Int)){l m n o p:Nat}(d:cT ro){q r s t:Value}(e:bG ro u0 q r s t)(M:sz A=324/\A.defers=[]/\slot A 4= .pointer (some ⟨p,0,none⟩)/\slot A 8= .bool false/\slot A 9= .pointer (some ⟨o,0,none⟩)/\slot A 10= .int .i64 f/\slot A 11= .int .i64 a.1/\slot A 12= .pointer (some ⟨n,0,none⟩)/\slot A 14= .pointer (some ⟨m,0,none⟩)/\slot A 16= .pointer (some ⟨l,0,none⟩))(h:mQ u0 b f a c g=some true):Wp (dm Tryz.prog Φ) (bh (bh (bh (bh (bh (bh (bh (bh (Tryz.f5.body.getD .skip))))))))) (gk Tryz.prog [.tmp 8] (fun v _=>v= .bool true)) A ⟨ro,(l,rt g.1.num g.1.den)::(m,rt c.1.num c.1.den)::(n,rt a.2.1.num a.2.1.den)::(o,.cells #[.int .i64 b.back,.int .i64 b.high] 33)::(p,bk u0 q r s t)::[]⟩:=by
 obtain ⟨N,hd,O,P,Q,R,S,T,U,V⟩:=M
 unfold mQ at h
 have W:=e.oc;simp only[bx] at W
 refine e6 hJ fun u X=>?_
 have Y:=u.nd
 try simp only[keys,List.map_cons,List.map_nil,List.map_append,List.cons_append,List.nil_append,List.nodup_cons,List.mem_cons,List.mem_append,List.not_mem_nil,or_false,not_or] at Y
 simp only[bn] at X
 refine aa hJ (aa hJ (ag hJ ?_))
 revert h;refine bS fun j Z h=>?_
 try simp (maxSteps:=10000000) only[*,go_sem]
 refine b8 hJ _ (Hl u0 e Z) fun v br w ab ad=>?_
 obtain ⟨bs,bz,b0,b1,rfl,i⟩:=ad
 have ae:=i.oc;simp only[bx] at ae
 replace e:=e.mono w
 replace d:=d.mono w
 simp only[bn] at ab
 refine aD ?_
 try simp (maxSteps:=10000000) only[*,go_sem]
 refine av fun b2 b3 x=>?_;have al:=aM.cons x u;try simp only[au] at x
 try simp (maxSteps:=10000000) only[*,go_sem]
 refine aa hJ (ag hJ ?_)
 revert h;refine cS (fun ao h=>?_) fun ao h=>?_
 ·revert h;refine cS (fun ar h=>?_) fun ar h=>?_
  ·try simp (maxSteps:=10000000) only[*,go_sem]
   revert h;refine cS (fun y h=>?_) fun y h=>?_
   ·try simp only[Int.ofNat_lt] at y
    refine bM hJ (by simp (maxSteps:=10000000) only[*,go_sem]) ?_
    refine aa hJ (ag hJ ?_)
    revert h;refine bS fun k a0 h=>?_
    try simp (maxSteps:=10000000) only[*,go_sem]
    refine aR hJ _ (k6 (IntKind.i64.wrap (2*b.back)) (IntKind.i64.wrap (2*b.high)) a0) (aD ?_)
    try simp (maxSteps:=10000000) only[*,go_sem]
    refine av fun b4 b5 z=>?_;have a2:=aM.cons z al;try simp only[au] at z
    try simp (maxSteps:=10000000) only[*,go_sem]
    refine aa hJ ?_
    refine ew [4,8,9,10,11,12,14,16,31,33] fun ca B C D=>?_
    simp only[*,go_sem] at B C D
    clear N hd O P Q R S T U V
    refine ag hJ ?_
    revert h;refine bS fun cb a3 h=>?_
    try simp (maxSteps:=10000000) only[*,go_sem]
    refine aR hJ _ (rW (d.mono aJ) j.1 (i.mono aJ) k a3) (aD ?_)
    try simp (maxSteps:=10000000) only[*,go_sem]
    refine av fun cd cf E=>?_;have a4:=aM.cons E a2;try simp only[au] at E
    try simp (maxSteps:=10000000) only[*,go_sem]
    refine aa hJ (ag hJ ?_)
    revert h;refine bS fun cl a5 h=>?_
    try simp (maxSteps:=10000000) only[*,go_sem]
    refine aR hJ _ (nv (d.mono aJ) j.1 (i.mono aJ) k a5) (aD ?_)
    try simp (maxSteps:=10000000) only[*,go_sem]
    refine av fun cy c0 G=>?_;have a6:=aM.cons G a4;try simp only[au] at G
    try simp (maxSteps:=10000000) only[*,go_sem]
    refine aa hJ (ag hJ ?_)
    revert h;refine bS fun da a7 h=>?_
    try simp (maxSteps:=10000000) only[*,go_sem]
    refine aR hJ _ (k4 (d.mono aJ) j.1 (i.mono aJ) k a7) (aD ?_)
    try simp (maxSteps:=10000000) only[*,go_sem]
    refine av fun db dd H=>?_;have df:=aM.cons H a6;try simp only[au] at H
    try simp (maxSteps:=10000000) only[*,go_sem]
    refine aa hJ ?_
    refine ew [4,8,9,10,11,12,14,16,34,35,36,37,38,39,41] fun dk a8 a9 ba=>?_
    simp only[*,go_sem] at a8 a9 ba
    clear B C D
    refine dh hJ mixed 45 10 (by simp (maxSteps:=10000000) only[*,go_sem]) (by kernel_rfl) ?_
    revert h;refine cS (fun bb h=>?_) fun bb h=>?_
    ·cases h
    revert h;refine cS (fun bc h=>?_) fun bc h=>?_
    ·cases h
    revert h;refine cS (fun bd h=>?_) fun bd h=>?_
    ·cases h
    revert h;refine cS (fun bj h=>?_) fun bj h=>?_
    ·cases h
    revert h;refine bS fun dp bl h=>?_
    try simp (maxSteps:=10000000) only[*,go_sem]
    refine ⟨_,bA hJ fun F I=>nG (IntKind.i64.wrap (2*a.2.1.num)) a.2.1.den bl,bV ?_⟩
    revert h;refine cS (fun J h=>?_) fun J h=>?_
    ·cases h
    rw[Bool.not_eq_false'] at J
    revert h;refine bS fun dq bm h=>?_
    try simp (maxSteps:=10000000) only[*,go_sem]
    refine ⟨_,bA hJ fun F I=>nG (IntKind.i64.wrap (2*c.1.num)) c.1.den bm,bV ?_⟩
    revert h;refine cS (fun K h=>?_) fun K h=>?_
    ·cases h
    rw[Bool.not_eq_false'] at K
    revert h;refine bS fun ds bo h=>?_
    try simp (maxSteps:=10000000) only[*,go_sem]
    refine ⟨_,bA hJ fun F I=>nG (IntKind.i64.wrap (2*g.1.num)) g.1.den bo,bV ?_⟩
    try simp (maxSteps:=10000000) only[*,go_sem]
    revert h;refine cS (fun L h=>?_) fun L h=>?_
    ·cases h
    refine bJ hJ (by simp (maxSteps:=10000000) only[*,go_sem]) ?_
    rw[Bool.not_eq_false'] at L
    refine aG hJ ?_
    show Wp _ _ _ _ _
    exact cu hJ (Le.sub (.cons _ (.cons _ (.cons _ (.cons _ (.cons _ (.cons _ (.cons₂ _ (.cons₂ _ (.cons₂ _ (.cons₂ _ (List.Sublist.refl _)))))))))))) (tK hJ u0 b f a c d e (by simp (maxSteps:=10000000) only[*,go_sem]) h)
   refine bJ hJ (by simp (maxSteps:=10000000) only[*,go_sem]) ?_
   refine aG hJ ?_
   show Wp _ _ _ _ _
   exact cu hJ (Le.sub (.cons _ (.cons _ (.cons₂ _ (.cons₂ _ (.cons₂ _ (.cons₂ _ (List.Sublist.refl _)))))))) (tK hJ u0 b f a c d e (by simp (maxSteps:=10000000) only[*,go_sem]) h)
  try simp (maxSteps:=10000000) only[*,go_sem]
  refine bJ hJ (by simp (maxSteps:=10000000) only[*,go_sem]) ?_
  refine aG hJ ?_
  show Wp _ _ _ _ _
  exact cu hJ (Le.sub (.cons _ (.cons _ (.cons₂ _ (.cons₂ _ (.cons₂ _ (.cons₂ _ (List.Sublist.refl _)))))))) (tK hJ u0 b f a c d e (by simp (maxSteps:=10000000) only[*,go_sem]) h)
 try simp (maxSteps:=10000000) only[*,go_sem]
 refine bJ hJ (by simp (maxSteps:=10000000) only[*,go_sem]) ?_
 refine aG hJ ?_
 show Wp _ _ _ _ _
 exact cu hJ (Le.sub (.cons _ (.cons _ (.cons₂ _ (.cons₂ _ (.cons₂ _ (.cons₂ _ (List.Sublist.refl _)))))))) (tK hJ u0 b f a c d e (by simp (maxSteps:=10000000) only[*,go_sem]) h)
set_option maxHeartbeats 40000000 in
theorem Kn {ro:Addr->Option Value}(a:cT ro)(u0:aj){s1 o q s:Value}(b:bG ro u0 s1 o q s)(l:Int)(m:Int)(u:Int){r:Bool}(O:r=true)(h:tH u0 l m u=some r):ji Tryz.prog 5 #[bv u0 s1 o q s,.int .u8 l,.int .u8 m,.int .u8 u] ⟨ro,[]⟩ (fun v _=>v= .bool r):=by
 subst O
 unfold tH at h
 have P:=b.oc;simp only[bx] at P
 refine ji.go Tryz.func5 rfl Tryz.ntmps5 Tryz.results5 (by simp) (by kernel_rfl) fun Φ hJ A Q hd hs=>?_
 have R:=hs 0
 have k1:=hs 1
 have S:=hs 2
 have T:=hs 3
 clear hs
 refine aa hJ (ag hJ ?_)
 try simp (maxSteps:=10000000) only[*,go_sem]
 refine av fun ca cb U=>?_;try simp only[au] at U
 try simp (maxSteps:=10000000) only[*,go_sem]
 refine aa hJ (aa hJ (ag hJ ?_))
 revert h;refine bS fun cd V h=>?_
 try simp (maxSteps:=10000000) only[*,go_sem]
 refine aR hJ _ (AA u0 (b.mono aJ) V) (aD ?_)
 try simp (maxSteps:=10000000) only[*,go_sem]
 revert h;refine cS (fun g h=>?_) fun g h=>?_
 ·try simp only[Int.ofNat_lt] at g
  refine bM hJ (by simp (maxSteps:=10000000) only[*,go_sem]) ?_
  rw[Bool.not_eq_true'] at g
  refine aa hJ (ag hJ ?_)
  revert h;refine bS fun cf W h=>?_
  obtain rfl:=sI h
  try simp (maxSteps:=10000000) only[*,go_sem]
  refine jh _ (jI a W) (aD ?_)
  try simp (maxSteps:=10000000) only[*,go_sem]
  refine aB ?_
  try simp only[*,go_sem]
 refine bJ hJ (by simp (maxSteps:=10000000) only[*,go_sem]) ?_
 rw[Bool.not_eq_false'] at g
 refine aG hJ (aa hJ ?_)
 refine ag hJ ?_
 revert h;refine bS fun c X h=>?_
 try simp (maxSteps:=10000000) only[*,go_sem]
 refine aR hJ _ (AB l m X) (aD ?_)
 revert h;refine bS fun f w h=>?_
 obtain ⟨cl,cy⟩:=jS w
 clear w
 try simp (maxSteps:=10000000) only[*,go_sem]
 refine av fun c0 da Y=>?_;try simp only[au] at Y
 try simp (maxSteps:=10000000) only[*,go_sem]
 refine aa hJ (ag hJ ?_)
 revert h;refine bS fun i Z h=>?_
 try simp (maxSteps:=10000000) only[*,go_sem]
 refine aR hJ _ (rW (a.mono aJ) u0 (b.mono aJ) c Z) (aD ?_)
 try simp (maxSteps:=10000000) only[*,go_sem]
 refine av fun db dd ab=>?_;try simp only[au] at ab
 try simp (maxSteps:=10000000) only[*,go_sem]
 refine aa hJ (ag hJ ?_)
 revert h;refine bS fun j ad h=>?_
 try simp (maxSteps:=10000000) only[*,go_sem]
 refine aR hJ _ (nv (a.mono aJ) u0 (b.mono aJ) c ad) (aD ?_)
 try simp (maxSteps:=10000000) only[*,go_sem]
 refine av fun df dk ae=>?_;try simp only[au] at ae
 try simp (maxSteps:=10000000) only[*,go_sem]
 refine aa hJ ?_
 refine ew [4,8,9,10,11,12,13,14,15] fun dp x z B=>?_
 simp only[*,go_sem] at x z B
 clear Q hd R k1 S T
 refine ag hJ ?_
 revert h;refine bS fun k al h=>?_
 try simp (maxSteps:=10000000) only[*,go_sem]
 refine aR hJ _ (k4 (a.mono aJ) u0 (b.mono aJ) c al) (aD ?_)
 try simp (maxSteps:=10000000) only[*,go_sem]
 refine av fun dq ds ao=>?_;try simp only[au] at ao
 try simp (maxSteps:=10000000) only[*,go_sem]
 refine aa hJ (aa hJ (ag hJ ?_))
 revert h;refine cS (fun ar h=>?_) fun ar h=>?_
 ·cases h
 revert h;refine cS (fun a0 h=>?_) fun a0 h=>?_
 ·cases h
 revert h;refine cS (fun a2 h=>?_) fun a2 h=>?_
 ·cases h
 revert h;refine bS fun dt a3 h=>?_
 try simp (maxSteps:=10000000) only[*,go_sem]
 refine aR hJ _ (iO i.2.1 a3) (aD ?_)
 revert h;refine cS (fun C h=>?_) fun C h=>?_
 ·cases h
 rw[Bool.not_eq_false'] at C
 revert h;refine bS fun du a4 h=>?_
 try simp (maxSteps:=10000000) only[*,go_sem]
 refine aR hJ _ (iO j.1 a4) (aD ?_)
 revert h;refine cS (fun D h=>?_) fun D h=>?_
 ·cases h
 rw[Bool.not_eq_false'] at D
 revert h;refine bS fun dv a5 h=>?_
 try simp (maxSteps:=10000000) only[*,go_sem]
 refine aR hJ _ (iO k.1 a5) (aD ?_)
 try simp (maxSteps:=10000000) only[*,go_sem]
 revert h;refine cS (fun E h=>?_) fun E h=>?_
 ·cases h
 refine bJ hJ (by simp (maxSteps:=10000000) only[*,go_sem]) ?_
 rw[Bool.not_eq_false'] at E
 refine aG hJ (aa hJ ?_)
 refine aa hJ ?_
 refine ew [4,8,9,10,11,12,13,14,15,16,17] fun dC F G H=>?_
 simp only[*,go_sem] at F G H
 clear x z B
 refine ag hJ ?_
 revert h;refine bS fun n a6 h=>?_
 try simp (maxSteps:=10000000) only[*,go_sem]
 refine b8 hJ _ (Hj u0 b f a6) fun v dE I a7 a8=>?_
 obtain ⟨dT,ea,eb,ec,rfl,d⟩:=a8
 have a9:=d.oc;simp only[bx] at a9
 replace b:=b.mono I
 replace a:=a.mono I
 simp only[bn] at a7
 obtain ⟨d76,ed,rfl,eh,et,-⟩:=id d.e
 obtain ⟨d83,ev,rfl,eQ,eS,-⟩:=id d.p
 obtain ⟨d90,e0,rfl,e1,e2,-⟩:=id d.y
 obtain ⟨d97,e3,rfl,fa,fb,-⟩:=id d.t
 refine aD ?_
 try simp (maxSteps:=10000000) only[*,go_sem]
 refine av fun fg fi ba=>?_;try simp only[au] at ba
 try simp (maxSteps:=10000000) only[*,go_sem]
 refine aa hJ (ag hJ ?_)
 revert h;refine cS (fun bb h=>?_) fun bb h=>?_
 ·try simp (maxSteps:=10000000) only[*,go_sem]
  revert h;refine cS (fun J h=>?_) fun J h=>?_
  ·try simp only[Int.ofNat_lt] at J
   refine bM hJ (by simp (maxSteps:=10000000) only[*,go_sem]) ?_
   refine aa hJ (ag hJ ?_)
   revert h;refine bS fun K bc h=>?_
   try simp (maxSteps:=10000000) only[*,go_sem]
   refine aR hJ _ (k6 c.back (IntKind.i64.wrap (c.high+f)) bc) (aD ?_)
   try simp (maxSteps:=10000000) only[*,go_sem]
   refine av fun fp fr bd=>?_;try simp only[au] at bd
   try simp (maxSteps:=10000000) only[*,go_sem]
   refine aa hJ (ag hJ ?_)
   revert h;refine bS fun fs bj h=>?_
   try simp (maxSteps:=10000000) only[*,go_sem]
   refine aR hJ _ (nv (a.mono aJ) n.1 (d.mono aJ) K bj) (aD ?_)
   try simp (maxSteps:=10000000) only[*,go_sem]
   refine av fun ft fu bk=>?_;try simp only[au] at bk
   try simp (maxSteps:=10000000) only[*,go_sem]
   refine aa hJ ?_
   refine ew [4,8,9,10,11,12,13,14,15,16,17,19,21,22,23] fun fv bl bm bo=>?_
   simp only[*,go_sem] at bl bm bo
   clear F G H
   refine ag hJ ?_
   revert h;refine bS fun fw br h=>?_
   try simp (maxSteps:=10000000) only[*,go_sem]
   refine aR hJ _ (k4 (a.mono aJ) n.1 (d.mono aJ) K br) (aD ?_)
   try simp (maxSteps:=10000000) only[*,go_sem]
   refine av fun fx gg bs=>?_;try simp only[au] at bs
   try simp (maxSteps:=10000000) only[*,go_sem]
   refine aa hJ (ag hJ ?_)
   revert h;refine bS fun gl bz h=>?_
   try simp (maxSteps:=10000000) only[*,go_sem]
   refine aR hJ _ (wF (a.mono aJ) u0 (b.mono aJ) bz) (aD ?_)
   try simp (maxSteps:=10000000) only[*,go_sem]
   refine aa hJ (ag hJ ?_)
   revert h;refine bS fun gn b0 h=>?_
   try simp (maxSteps:=10000000) only[*,go_sem]
   refine aR hJ _ (wF (a.mono aJ) n.1 (d.mono aJ) b0) (aD ?_)
   try simp (maxSteps:=10000000) only[*,go_sem]
   refine aa hJ (ag hJ ?_)
   revert h;refine cS (fun b1 h=>?_) fun b1 h=>?_
   ·cases h
   revert h;refine cS (fun b2 h=>?_) fun b2 h=>?_
   ·cases h
   revert h;refine cS (fun b3 h=>?_) fun b3 h=>?_
   ·cases h
   revert h;refine cS (fun b4 h=>?_) fun b4 h=>?_
   ·cases h
   revert h;refine cS (fun L h=>?_) fun L h=>?_
   ·cases h
   rw[Bool.not_eq_false'] at L
   revert h;refine cS (fun M h=>?_) fun M h=>?_
   ·cases h
   rw[Bool.not_eq_false'] at M
   revert h;refine cS (fun N h=>?_) fun N h=>?_
   ·cases h
   rw[Bool.not_eq_false'] at N
   try simp (maxSteps:=10000000) only[*,go_sem]
   revert h;refine cS (fun b5 h=>?_) fun b5 h=>?_
   ·cases h
   refine bJ hJ (by simp (maxSteps:=10000000) only[*,go_sem]) ?_
   refine aG hJ ?_
   show Wp _ _ _ _ _
   exact cu hJ (Le.sub (.cons _ (.cons _ (.cons _ (.cons _ (.cons₂ _ (.cons₂ _ (.cons₂ _ (.cons₂ _ (.cons₂ _ (List.Sublist.refl _))))))))))) (yj hJ u0 c f i j k a b (by simp (maxSteps:=10000000) only[*,go_sem]) h)
  refine bJ hJ (by simp (maxSteps:=10000000) only[*,go_sem]) ?_
  refine aG hJ ?_
  show Wp _ _ _ _ _
  exact cu hJ (Le.sub (.cons _ (.cons₂ _ (.cons₂ _ (.cons₂ _ (.cons₂ _ (.cons₂ _ (List.Sublist.refl _)))))))) (yj hJ u0 c f i j k a b (by simp (maxSteps:=10000000) only[*,go_sem]) h)
 try simp (maxSteps:=10000000) only[*,go_sem]
 refine bJ hJ (by simp (maxSteps:=10000000) only[*,go_sem]) ?_
 refine aG hJ ?_
 show Wp _ _ _ _ _
 exact cu hJ (Le.sub (.cons _ (.cons₂ _ (.cons₂ _ (.cons₂ _ (.cons₂ _ (.cons₂ _ (List.Sublist.refl _)))))))) (yj hJ u0 c f i j k a b (by simp (maxSteps:=10000000) only[*,go_sem]) h)
end Go.Proofs.YtjepffnffjdloaaGreatDoor
end

/- A part of the proof: QX5. -/
import Derived.Test.YtdgblangfefjmaaGreatDoorQX4
set_option linter.all false
section
namespace Go.Proofs.YtdgblangfefjmaaGreatDoor
open Go Go.Sep Go.Proofs
set_option maxRecDepth 100000
set_option maxHeartbeats 4000000
theorem wZ (g:Nat)(hg:0<g)(n:Int)(d:Nat):bJ ((g:Int)*n) (g*d)=bJ n d:=by
 unfold bJ;have e1:((g:Int)*n).natAbs=g*n.natAbs:=by rw[Int.natAbs_mul,Int.natAbs_natCast]
 rw[e1,Nat.gcd_mul_left];have a:(0:Int)<(g:Int):=aa;congr 1
 .rw[Int.natCast_mul,Int.mul_tdiv_mul_of_pos _ _ a]
 .rw[Int.natCast_mul,Int.natCast_mul,Int.mul_tdiv_mul_of_pos _ _ a]
theorem w5 (n:Int)(d:Nat)(hd:0<d):∃g a:Nat,0<g/\0<a/\d=g*a/\n=(g:Int)*(bJ n d).num/\(bJ n d).den=(a:Int):=by
 have hg:0<Nat.gcd n.natAbs d:=Nat.gcd_pos_of_pos_right _ hd;obtain ⟨a,b⟩:=Nat.gcd_dvd_right n.natAbs d;refine ⟨Nat.gcd n.natAbs d,a,hg,?_,b,?_,?_⟩
 .rcases Nat.eq_zero_or_pos a with h|h
  .rw[h,Nat.mul_zero] at b;omega
  .exact h
 .have c:((Nat.gcd n.natAbs d:Nat):Int) ∣ n:=Int.ofNat_dvd_left.2 (Nat.gcd_dvd_left _ _);unfold bJ;exact (Int.mul_tdiv_cancel' c).symm
 .have:(d:Int)=((Nat.gcd n.natAbs d:Nat):Int)*(a:Int):=by rw[<-Int.natCast_mul];exact congrArg _ b
  show (d:Int).tdiv ((Nat.gcd n.natAbs d:Nat):Int)=_;have e:((Nat.gcd n.natAbs d:Nat):Int)≠0:=aa
  calc (d:Int).tdiv ((Nat.gcd n.natAbs d:Nat):Int)=(((Nat.gcd n.natAbs d:Nat):Int)*(a:Int)).tdiv ((Nat.gcd n.natAbs d:Nat):Int):=congrArg (fun z=>Int.tdiv z _) this
   _=(a:Int):=Int.mul_tdiv_cancel_left _ e
theorem fX {x y:Int}{A B:Nat}(a:x.natAbs<=A)(b:y.natAbs<=B):(x*y).natAbs<=A*B:=by
 rw[Int.natAbs_mul];exact Nat.mul_le_mul a b
theorem gx {n:Int}(h:n.natAbs<=9000000000000000000):IntKind.i64.wrap n=n:=eO aa
structure Sm (r:ay)(A B:Nat):Prop where
 num:r.num.natAbs<=A
 den:0<r.den/\r.den<=B
theorem AM {a b:ay}{A B C D:Nat}(c:Sm a A B)(hb:Sm b C D)(h:A*D+C*B<=900000000000000000)(hd:B*D<=800000000000000000):
  j8 a b=some (bJ (a.num*b.den+b.num*a.den) (a.den*b.den).toNat):=by
 have d:=fX c.num (show b.den.natAbs<=D by have:=hb.den;omega)
 have f:=fX hb.num (show a.den.natAbs<=B by have:=c.den;omega)
 have g:=fX (show a.den.natAbs<=B by have:=c.den;omega) (show b.den.natAbs<=D by have:=hb.den;omega)
 have i:0<a.den*b.den:=Int.mul_pos c.den.1 hb.den.1
 unfold j8
 rw[gx (n:=a.num*b.den) aa,gx (n:=b.num*a.den) aa,gx (n:=a.den*b.den) aa,gx aa]
 have e:a.den*b.den=(((a.den*b.den).toNat:Nat):Int):=aa
 have:=sB (a.num*b.den+b.num*a.den) (a.den*b.den).toNat aa aa aa
 rw[<-e] at this
 rw[this]
 rfl
theorem Gu {a b:ay}{A B C D:Nat}(c:Sm a A B)(hb:Sm b C D)(h:A*D+C*B<=900000000000000000)(hd:B*D<=800000000000000000)(hC:C<=9000000000000000000):
  j9 a b=some (bJ (a.num*b.den - b.num*a.den) (a.den*b.den).toNat):=by
 unfold j9
 have e:=hb.num
 rw[gx aa]
 have d:Sm (⟨0 - b.num,b.den⟩:ay) C D:=⟨by show (0 - b.num).natAbs<=C;omega,hb.den⟩
 rw[AM c d h hd]
 show some (bJ (a.num*b.den+(0 - b.num)*a.den) (a.den*b.den).toNat)=_
 rw[show a.num*b.den+(0 - b.num)*a.den=a.num*b.den - b.num*a.den by rw[Int.zero_sub,Int.neg_mul];omega]
theorem pU (n:Int)(d:Nat)(hd:0<d):Sm (bJ n d) n.natAbs d:=by
 obtain ⟨g,a,hg,c,e1,e2,b⟩:=w5 n d hd;refine ⟨?_,?_⟩
 .have:n.natAbs=g*(bJ n d).num.natAbs:=by
   have:=congrArg Int.natAbs e2
   rwa [Int.natAbs_mul,Int.natAbs_natCast] at this
  rw[this];exact Nat.le_mul_of_pos_left _ hg
 .rw[b];have:a<=d:=by rw[e1];exact Nat.le_mul_of_pos_left _ hg
  omega
theorem Gv (h:Int)(n:Int)(d:Nat)(hd:0<d):bJ (h*(bJ n d).den+(bJ n d).num) ((bJ n d).den).toNat=bJ (h*d+n) d:=by
 obtain ⟨g,a,hg,f,e1,e2,b⟩:=w5 n d hd;have k1:h*(d:Int)+n=(g:Int)*(h*(a:Int)+(bJ n d).num):=by
  rw[Int.mul_add,<-e2,e1,Int.natCast_mul,Int.mul_left_comm]
 rw[b];have c:((a:Nat):Int).toNat=a:=Int.toNat_natCast a;rw[c,k1];have e:bJ ((g:Int)*(h*(a:Int)+(bJ n d).num)) d=bJ ((g:Int)*(h*(a:Int)+(bJ n d).num)) (g*a):=congrArg _ e1;rw[e,wZ g hg]
def Gw:aC:=⟨0,0,(⟨0,0⟩:ay),([]:List b8),([]:List c7),([]:List dc),([]:List cn)⟩
theorem Gx {u:aC}{f:aC->Option Int}{x:Int}(h:jD u=some 0)(a:f u=some x):gO u [f]=some (cond (x != 0) (Gw,x) (u,0)):=by
 unfold gO;rw[h];simp only[aj,bne_self_eq_false,cond_false];unfold bQ rF;simp only[a,aj];cases (x != 0)<;>rfl
theorem pV {n m:Int}{d e:Nat}(hd:0<d)(he:0<e)(h:n*(e:Int)=m*(d:Int)):bJ n d=bJ m e:=by
 have a:=wZ e he n d;have b:=wZ d hd m e;rw[<-a,<-b];have e1:(e:Int)*n=(d:Int)*m:=by rw[Int.mul_comm,h,Int.mul_comm]
 rw[e1,Nat.mul_comm e d]
theorem pW (n:Int)(d:Nat)(hd:0<d):(bJ n d).num*(d:Int)=n*(bJ n d).den/\0<(bJ n d).den:=by
 obtain ⟨g,a,hg,c,e1,e2,b⟩:=w5 n d hd;refine ⟨?_,by rw[b];omega⟩;rw[b];have k1:(d:Int)=(g:Int)*(a:Int):=by rw[<-Int.natCast_mul];exact congrArg _ e1
 calc (bJ n d).num*(d:Int)=(bJ n d).num*((g:Int)*(a:Int)):=by rw[<-k1]
  _=((g:Int)*(bJ n d).num)*(a:Int):=by rw[<-Int.mul_assoc,Int.mul_comm (bJ n d).num]
  _=n*(a:Int):=by rw[<-e2]
theorem Gy {a b:ay}{A B C D:Nat}(c:Sm a A B)(hb:Sm b C D)(h:A*D<=9000000000000000000)(d:C*B<=9000000000000000000):pq a b=some (decide (a.num*b.den<b.num*a.den))/\fo a b=some (decide (a.num*b.den<b.num*a.den)):=by
 have e:=fX c.num (show b.den.natAbs<=D by have:=hb.den;omega);have f:=fX hb.num (show a.den.natAbs<=B by have:=c.den;omega);have k:pq a b=some (decide (a.num*b.den<b.num*a.den)):=by
  unfold pq;rw[gx (n:=a.num*b.den) aa,gx (n:=b.num*a.den) aa]
 exact ⟨k,k⟩
theorem Gz {h md a d e b f c N:Int}(g:d*b=N*md)(i:e*f=c*a):(h*(md*a)+d*e)*(b*f)=(h*b*f+N*c)*(md*a):=by
 grind
theorem GA (u:aC)(F:Fit u)(s:bM)(hs:(1<=s.back/\s.back<=20)/\0<=s.high/\s.high<=60)(at_:Int)(aQ:Int)(G:0<=aQ/\aQ<=60)(e:ay)(he:Sm e 10000 100):
  ∃c,l9 u s at_ ⟨aQ,e⟩=some ⟨⟨aQ,e⟩,at_,c⟩/\r6 u s aQ e=some c/\c=bJ (s.high*e.den*(aQ+s.back)+(e.num - s.high*e.den)*(u.bE+s.back)) (e.den*(aQ+s.back)).toNat:=by
 have H:=F.bE
 have w1:IntKind.i64.wrap (u.bE+s.back)=u.bE+s.back:=eO aa
 have w2:IntKind.i64.wrap (aQ+s.back)=aQ+s.back:=eO aa
 obtain ⟨f,b⟩:∃f:Nat,aQ+s.back=f:=⟨(aQ+s.back).toNat,aa⟩
 have d:0<f:=aa
 have I:f<=80:=aa
 generalize m:u.bE+s.back=c at*
 have o:c.natAbs<=80:=aa
 have p:Sm (⟨s.high,1⟩:ay) 60 1:=⟨by show s.high.natAbs<=60;omega,by show (0:Int)<1;omega,by show (1:Int)<=((1:Nat):Int);omega⟩
 obtain ⟨a,j⟩:∃n:Nat,e.den=n:=⟨e.den.toNat,by have:=he.den;omega⟩
 have g:0<a:=by have:=he.den;omega
 have J:a<=100:=by have:=he.den;omega
 have z:(s.high*e.den).natAbs<=60*100:=fX aa aa
 have b2:(e.num - s.high*e.den).natAbs<=16000:=by have:=he.num;omega
 have q:=Gu he p aa aa aa
 have e1:e.num*(1:Int) - s.high*e.den=e.num - s.high*e.den:=by rw[Int.mul_one]
 have e2:(e.den*(1:Int)).toNat=a:=by rw[Int.mul_one,j,Int.toNat_natCast]
 rw[show ((⟨s.high,1⟩:ay).den)=(1:Int) from rfl,show ((⟨s.high,1⟩:ay).num)=s.high from rfl,e1,e2] at q
 generalize A:e.num - s.high*e.den=N at*
 have sm:=pU N a g
 have r:=pU c f d
 have t:=pW N a g
 have v:=pW c f d
 have K:((bJ N a).num*(bJ c f).num).natAbs<=16000*80:=fX (Nat.le_trans sm.num b2) (Nat.le_trans r.num o)
 have L:((bJ N a).den*(bJ c f).den).natAbs<=100*80:=fX (by have:=sm.den;omega) (by have:=r.den;omega)
 have O:0<(bJ N a).den*(bJ c f).den:=Int.mul_pos t.2 v.2
 obtain ⟨M,hM⟩:∃M:Nat,(bJ N a).den*(bJ c f).den=M:=⟨((bJ N a).den*(bJ c f).den).toNat,aa⟩
 have h:0<M:=aa
 have B:=sB c f aa d aa
 have C:=sB ((bJ N a).num*(bJ c f).num) M aa h aa
 have sq:=pU ((bJ N a).num*(bJ c f).num) M h
 have D:Sm (bJ ((bJ N a).num*(bJ c f).num) M) 1280000 8000:=⟨Nat.le_trans sq.num aa,sq.den.1,by have:=sq.den.2;omega⟩
 have w:=AM p D aa aa
 have E:s.high*(bJ ((bJ N a).num*(bJ c f).num) M).den+(bJ ((bJ N a).num*(bJ c f).num) M).num*1=s.high*(bJ ((bJ N a).num*(bJ c f).num) M).den+(bJ ((bJ N a).num*(bJ c f).num) M).num:=by rw[Int.mul_one]
 rw[show ((⟨s.high,1⟩:ay).den)=(1:Int) from rfl,show ((⟨s.high,1⟩:ay).num)=s.high from rfl,E,Int.one_mul,Gv s.high _ M h] at w
 have k:e.den*(aQ+s.back)=((a*f:Nat):Int):=by rw[j,b,Int.natCast_mul]
 have i:(e.den*(aQ+s.back)).toNat=a*f:=by rw[k,Int.toNat_natCast]
 have x:bJ (s.high*(M:Int)+(bJ N a).num*(bJ c f).num) M=bJ (s.high*e.den*(aQ+s.back)+N*c) (a*f):=by
  refine pV h (Nat.mul_pos g d) ?_
  rw[Int.natCast_mul,<-hM,b,j]
  exact Gz (by rw[t.1]) (by rw[v.1])
 refine ⟨_,?_,?_,rfl⟩
 .unfold l9
  have l:IntKind.i64.wrap (f:Int)=f:=eO aa
  simp only[gN,aj,q,m,w1,b,l,B]
  rw[gx aa,gx (n:=(bJ N a).den*(bJ c f).den) aa,hM,C]
  simp only[w]
  rw[b] at i x
  rw[i,x]
 .unfold r6
  have l:IntKind.i64.wrap (f:Int)=f:=eO aa
  have P:(s.high*e.den*(f:Int)).natAbs<=6000*80:=fX z aa
  have p2:(N*c).natAbs<=16000*80:=fX b2 o
  have p3:(e.den*(f:Int)).natAbs<=100*80:=fX aa aa
  simp only[m,w1,b,l]
  rw[gx (n:=s.high*e.den) aa,A,gx (n:=N) aa,gx (n:=s.high*e.den*(f:Int)) aa,gx (n:=N*c) aa,gx (n:=s.high*e.den*(f:Int)+N*c) aa,gx (n:=e.den*(f:Int)) aa]
  rw[b] at k i
  have y:=pR (s.high*e.den*(f:Int)+N*c) (a*f) aa (Nat.mul_pos g d) aa
  rw[i]
  rw[<-k] at y
  rw[y]
  rfl
theorem GB (s:bM)(u:aC):e7 s u=wM s:=rfl
def w6 (s:bM):Int:=cond (bW s.back 1 20) (cond (bW s.high 0 60) 0 1) 1
theorem GC (s:bM):wM s=some (w6 s):=by
 unfold wM w6;simp only[eW,aj];cases bW s.back 1 20<;>cases bW s.high 0 60<;>rfl
def dz (u:aC)(s:bM)(x:b8):ay:=bJ (s.high*1*(x.aQ+s.back)+(x.high - s.high*1)*(u.bE+s.back)) (1*(x.aQ+s.back)).toNat
theorem AN (u:aC)(F:Fit u)(s:bM)(hs:(1<=s.back/\s.back<=20)/\0<=s.high/\s.high<=60)(i:Nat)(x:b8)(a:u.aR[i]?=some x)(at_:Int):
  l9 u s at_ ⟨x.aQ,⟨x.high,1⟩⟩=some ⟨⟨x.aQ,⟨x.high,1⟩⟩,at_,dz u s x⟩/\r6 u s x.aQ ⟨x.high,1⟩=some (dz u s x):=by
 have p:=F.lq i x a
 have f:=F.bE
 have he:Sm (⟨x.high,1⟩:ay) 10000 100:=⟨by show x.high.natAbs<=10000;omega,by show (0:Int)<1;omega,by show (1:Int)<=((100:Nat):Int);omega⟩
 obtain ⟨c,b,d,e⟩:=GA u F s hs at_ x.aQ aa ⟨x.high,1⟩ he
 have:c=dz u s x:=e
 subst this
 exact ⟨b,d⟩
theorem AO (u:aC)(F:Fit u)(s:bM)(hs:(1<=s.back/\s.back<=20)/\0<=s.high/\s.high<=60)(i:Nat)(x:b8)(a:u.aR[i]?=some x):Sm (dz u s x) 10000 100:=by
 have p:=F.lq i x a;have b:=F.bE;unfold dz;rw[Int.mul_one,Int.one_mul];have c:(s.high*(x.aQ+s.back)).natAbs<=60*79:=fX aa aa;have b2:((x.high - s.high)*(u.bE+s.back)).natAbs<=60*80:=fX aa aa;have h:=pU (s.high*(x.aQ+s.back)+(x.high - s.high)*(u.bE+s.back)) (x.aQ+s.back).toNat aa;exact ⟨Nat.le_trans h.num aa,h.den.1,by have:=h.den.2;omega⟩
def foldI {α σ:Type}(g:Nat->α->σ->σ):Nat->List α->σ->σ
 |_,[],s=>s
 |i,x::l,s=>foldI g (i+1) l (g i x s)
theorem w7 {α σ ρ:Type}{f:Nat->α->σ->Option (Fl σ ρ)}{g:Nat->α->σ->σ}{I:Nat->σ->Prop}:∀(l:List α) (i:Nat) (s:σ),I i s->(∀j x s,l[j]?=some x->I (i+j) s->f (i+j) x s=some (.nx (g (i+j) x s))/\I (i+j+1) (g (i+j) x s))->
  bQ f i l s=some (.nx (foldI g i l s))/\I (i+l.length) (foldI g i l s)
 |[],i,s,hs,_=>⟨rfl,hs⟩
 |x::l,i,s,hs,h=>by
  obtain ⟨a,b⟩:=h 0 x s rfl hs
  simp only[Nat.add_zero] at a b
  unfold bQ foldI
  rw[a]
  have:=w7 l (i+1) _ b fun j y s c hs=>by
   have:=h (j+1) y s (by simpa using c) (by rwa [show i+(j+1)=i+1+j by omega])
   rwa [show i+(j+1)=i+1+j by omega] at this
  rwa [show i+1+l.length=i+(x::l).length by simp;omega] at this
theorem AP {α σ τ ρ:Type}{f:τ->Option (Fl τ ρ)}{g:Nat->α->σ->σ}{I:Nat->σ->Prop}(e:σ->Int->τ)(l:List α)(h:∀(i:Nat) x s,l[i]?=some x->I i s->f (e s (i:Int))=some (.nx (e (g i x s) ((i+1:Nat):Int)))/\I (i+1) (g i x s))(a:∀s,f (e s (l.length:Int))=some (.bk (e s (l.length:Int)))):
  ∀(k i n:Nat) (s:σ),I i s->i+k=l.length->k<n->bB f n (e s (i:Int))=some (.nx (e (foldI g i (l.drop i) s) (l.length:Int)))/\I l.length (foldI g i (l.drop i) s)
 |0,i,n+1,s,hs,c,_=>by
  obtain rfl:i=l.length:=aa
  unfold bB
  rw[a,List.drop_length]
  exact ⟨rfl,hs⟩
 |k+1,i,n+1,s,hs,c,o=>by
  have b:i<l.length:=aa
  have d:l[i]?=some l[i]:=List.getElem?_eq_getElem b
  obtain ⟨j,m⟩:=h i _ s d hs
  unfold bB
  rw[j,List.drop_eq_getElem_cons b]
  unfold foldI
  exact AP e l h a k (i+1) n _ m aa aa
theorem GD {α σ τ ρ:Type}{f:τ->Option (Fl τ ρ)}{g:Nat->α->σ->σ}{I:Nat->σ->Prop}(e:σ->Int->τ)(l:List α)(a:l.length<=1000)(h:∀(i:Nat) x s,l[i]?=some x->I i s->f (e s (i:Int))=some (.nx (e (g i x s) ((i+1:Nat):Int)))/\I (i+1) (g i x s))(b:∀s,f (e s (l.length:Int))=some (.bk (e s (l.length:Int))))(s:σ)(hs:I 0 s):
  bB f fu (e s 0)=some (.nx (e (foldI g 0 l s) (l.length:Int)))/\I l.length (foldI g 0 l s):=by
 have:=AP e l h b l.length 0 fu s hs aa (Nat.lt_of_le_of_lt a aO)
 simpa using this
theorem AQ {α σ:Type}{g g':Nat->α->σ->σ}:∀(l:List α) (i:Nat) (s:σ),(∀j x s,i<=j->g j x s=g' j x s)->foldI g i l s=foldI g' i l s
 |[],_,_,_=>rfl
 |x::l,i,s,h=>by
  unfold foldI
  rw[h i x s (Nat.le_refl _)]
  exact AQ l (i+1) _ fun j x s a=>h j x s aa
def dN (a b:ay):Bool:=decide (a.num*b.den<b.num*a.den)
abbrev SR (r:ay):Prop:=Sm r 2000000 8000
theorem Sm.mono {r:ay}{A B a b:Nat}(h:Sm r A B)(c:A<=a)(hb:B<=b):Sm r a b:=⟨Nat.le_trans h.num c,h.den.1,by have:=h.den.2;omega⟩
theorem pX (u:aC)(F:Fit u)(s:bM)(hs:(1<=s.back/\s.back<=20)/\0<=s.high/\s.high<=60)(i:Nat)(x:b8)(a:u.aR[i]?=some x):SR (dz u s x):=(AO u F s hs i x a).mono aO aO
theorem AR {a b:ay}(c:SR a)(hb:SR b):pq a b=some (dN a b)/\fo a b=some (dN a b):=Gy c hb aO aO
def gB (u:aC)(s:bM)(i:Nat)(x:b8)(st:Int×ay):Int×ay:=cond (dN st.2 (dz u s x)) ((i:Int),dz u s x) st
def iG (u:aC)(s:bM)(i:Nat)(x:b8):b6:=⟨⟨x.aQ,⟨x.high,1⟩⟩,(i:Int),dz u s x⟩
def fK (u:aC)(s:bM):Nat->List b8->List b6
 |_,[]=>[]
 |i,x::l=>iG u s i x::fK u s (i+1) l
theorem AS (u:aC)(s:bM):∀(l:List b8) (i:Nat) (a:List b6),foldI (fun i x st=>st++[iG u s i x]) i l a=a++fK u s i l
 |[],i,a=>by simp[foldI,fK]
 |x::l,i,a=>by simp[foldI,fK,AS u s l (i+1)]
def gC (i:Nat)(x:b6)(st:b6):b6:=cond (dN st.high x.high) x st
theorem AT (u:aC)(s:bM):∀(l:List b8) (i j:Nat) (c:b6),let r:=foldI gC j (fK u s i l) c;(r.at_,r.high)=foldI (gB u s) i l (c.at_,c.high)
 |[],i,j,c=>rfl
 |x::l,i,j,c=>by
  simp only[fK,foldI]
  have:=AT u s l (i+1) (j+1) (gC j (iG u s i x) c)
  simp only at this
  rw[this]
  congr 1
  unfold gC gB iG
  cases dN c.high (dz u s x)<;>rfl
theorem GF (n:Int):gN n=some ⟨n,1⟩:=rfl
def gy (u:aC)(s:bM):Int×ay:=match u.aR with
 |[]=>(0,⟨0,0⟩)
 |x::l=>foldI (gB u s) 1 l (0,dz u s x)
section
variable {u:aC}{s:bM}(F:Fit u)(hs:(1<=s.back/\s.back<=20)/\0<=s.high/\s.high<=60)
include F hs
theorem GG:bQ (ng u s) 0 u.aR ([]:List b6)=some (.nx (fK u s 0 u.aR)):=by
 have c:=F.aR;have:=w7 (f:=ng u s) (ρ:=b6) (g:=fun i x st=>st++[iG u s i x]) (I:=fun i st=>st.length=i) u.aR 0 [] rfl (fun j x st a b=>?_)
 .rw[this.1,AS];rfl
 .have d:j<u.aR.length:=(List.getElem?_eq_some_iff.1 a).1;refine ⟨?_,by simp[b]⟩;unfold ng;rw[Nat.zero_add] at b ⊢;simp only[GF,aj,(AN u F s hs j x a (j:Int)).1];unfold eA;rw[if_pos (by simp;omega)];rfl
theorem AU:∀(l:List b8) (i:Nat),(∀(j:Nat) x,l[j]?=some x->u.aR[i+j]?=some x)->∀(j:Nat) c,(fK u s i l)[j]?=some c->SR c.high
 |[],_,_,j,c,h=>by simp[fK] at h
 |x::l,i,a,0,c,h=>by
  simp[fK] at h
  subst h
  exact pX u F s hs i x (a 0 x rfl)
 |x::l,i,a,j+1,c,h=>AU l (i+1) (fun j y b=>by have:=a (j+1) y (by simpa using b);rwa [show i+(j+1)=i+1+j by omega] at this) j c (by simpa [fK] using h)
theorem GH:∃c,k3 u s=some c/\(c.at_,c.high)=gy u s/\SR c.high/\AA u s=some (gy u s):=by
 have d:=F.aR;have p:=GG F hs;obtain ⟨a,rest,he⟩:∃x l,u.aR=x::l:=by
  cases h:u.aR with
  |nil=>rw[h] at d;simp at d
  |cons x l=>exact ⟨x,l,rfl⟩
 have q:u.aR[0]?=some a:=by rw[he];rfl
 have r:∀(j:Nat) x,rest[j]?=some x->u.aR[1+j]?=some x:=fun j x h=>by rw[he,Nat.add_comm];simpa using h
 have w:rest.length<=4:=by rw[he] at d;simp at d;omega
 have t:SR (dz u s a):=pX u F s hs 0 a q
 have hg:=w7 (f:=o6 jc) (ρ:=b6) (g:=gC) (I:=fun _ c=>SR c.high) (fK u s 1 rest) 0 (iG u s 0 a) t (fun j c st n e=>by
  have b:=AU F hs rest 1 r j c n;refine ⟨?_,?_⟩
  .unfold o6 jc gC;simp only[(AR e b).2,aj];cases dN st.high c.high<;>rfl
  .unfold gC;cases dN st.high c.high
   .exact e
   .exact b)
 refine ⟨foldI gC 0 (fK u s 1 rest) (iG u s 0 a),?_,?_,hg.2,?_⟩
 .unfold k3;rw[p,he];simp only[aj,aL,fK];rw[show bH (iG u s 0 a::fK u s (0+1) rest) 0=some (iG u s 0 a) from rfl];simp only;have:jv (iG u s 0 a::fK u s (0+1) rest) 1 (((iG u s 0 a::fK u s (0+1) rest).length:Nat):Int)=some (fK u s 1 rest):=by
   unfold jv;rw[if_pos (by simp only[List.length_cons];omega)];simp
  rw[this];simp only;unfold mc;rw[hg.1];rfl
 .have:=AT u s rest 1 0 (iG u s 0 a);simp only at this;rw[this];unfold gy;rw[he];rfl
 .unfold AA;have v:=GD (f:=su u s) (g:=fun i x st=>if i=0 then ((0:Int),dz u s x) else gB u s i x st) (I:=fun i st=>i=0\/SR st.2) (fun st i=>(st.1,i,st.2)) u.aR aa (fun i x st k e=>?_) (fun st=>?_) ((0:Int),(⟨0,0⟩:ay)) (.inl rfl)
  .rw[v.1,he];simp only[aj,aL,foldI,if_pos];rw[AQ (g':=gB u s) rest (0+1) _ (fun j x st n=>if_neg aa)];unfold gy;rw[he]
  .have y:i<u.aR.length:=(List.getElem?_eq_some_iff.1 k).1;have b:=pX u F s hs i x k;unfold su;simp only;rw[show decide ((i:Int)<(u.aR.length:Int))=true by simp;omega];simp only[cond_true];rw[show bH u.aR (i:Int)=some x by unfold bH;rw[if_pos aa];simpa using k];simp only[aj,(AN u F s hs i x k 0).2];have hw:IntKind.i64.wrap ((i:Int)+1)=((i+1:Nat):Int):=by rw[eO aa];rfl
   rw[hw];by_cases m:i=0
   .subst m;exact ⟨rfl,.inr b⟩
   .have o:SR st.2:=e.resolve_left m;rw[show (((i:Nat):Int)==0)=false by simp;omega];simp only[cond_false,(AR o b).1,if_neg m];unfold gB;cases dN st.2 (dz u s x)
    .exact ⟨rfl,.inr o⟩
    .exact ⟨rfl,.inr b⟩
  .unfold su;simp
end
theorem GI {a b c:ay}(d:0<a.den)(hb:0<b.den)(h:0<c.den)(e:dN b a=false)(f:dN b c=true):dN c a=false:=by
 unfold dN at*;simp only[decide_eq_false_iff_not,decide_eq_true_eq,Int.not_lt] at*;have k1:a.num*b.den*c.den<=b.num*a.den*c.den:=Int.mul_le_mul_of_nonneg_right e aa;have i:b.num*c.den*a.den<c.num*b.den*a.den:=Int.mul_lt_mul_of_pos_right f d;have g:b.den*(a.num*c.den)<b.den*(c.num*a.den):=by
  have e1:b.den*(a.num*c.den)=a.num*b.den*c.den:=by grind
  have e2:b.den*(c.num*a.den)=c.num*b.den*a.den:=by grind
  have j:b.num*a.den*c.den=b.num*c.den*a.den:=by grind
  omega
 exact Int.le_of_lt (Int.lt_of_mul_lt_mul_left g aa)
theorem AV (a:ay):dN a a=false:=by unfold dN;simp
theorem GJ {a b:ay}(h:dN a b=true):dN b a=false:=by
 unfold dN at*;simp only[decide_eq_false_iff_not,decide_eq_true_eq,Int.not_lt] at*;omega
theorem GK {a b c:ay}(e:0<a.den)(hb:0<b.den)(f:0<c.den)(d:dN a b=false)(g:dN b c=false):dN a c=false:=by
 cases h:dN a c with
 |false=>rfl
 |true=>
  have:=GI hb e f d h;unfold dN at*;simp only[decide_eq_false_iff_not,decide_eq_true_eq,Int.not_lt] at*;have k1:b.num*a.den*c.den<=a.num*b.den*c.den:=Int.mul_le_mul_of_nonneg_right d aa;have i:a.num*c.den*b.den<c.num*a.den*b.den:=Int.mul_lt_mul_of_pos_right h hb;have j:c.num*b.den*a.den<=b.num*c.den*a.den:=Int.mul_le_mul_of_nonneg_right g aa;have e1:a.num*b.den*c.den=a.num*c.den*b.den:=by grind
  have e2:c.num*b.den*a.den=c.num*a.den*b.den:=by grind
  have k:b.num*c.den*a.den=b.num*a.den*c.den:=by grind
  omega
theorem AW {a b c:ay}(d:0<a.den)(hb:0<b.den)(e:0<c.den)(f:dN b a=false)(g:dN b c=true):dN a c=true:=by
 cases h:dN a c with
 |true=>rfl
 |false=>
  have:=GK hb d e f h;rw[g] at this;cases this
section
variable {u:aC}{s:bM}(F:Fit u)(hs:(1<=s.back/\s.back<=20)/\0<=s.high/\s.high<=60)
include F hs
structure w8 (u:aC)(s:bM)(i:Nat)(st:Int×ay):Prop where
 there:∃(n:Nat) (p:b8),n<i/\st=((n:Int),dz u s p)/\u.aR[n]?=some p/\∀(j:Nat) q,j<n->u.aR[j]?=some q->dN (dz u s q) (dz u s p)=true
 QV:∀(j:Nat) q,j<i->u.aR[j]?=some q->dN st.2 (dz u s q)=false
theorem AX:∀(l:List b8) (i:Nat) (st:Int×ay),(∀(j:Nat) x,l[j]?=some x->u.aR[i+j]?=some x)->w8 u s i st->w8 u s (i+l.length) (foldI (gB u s) i l st)
 |[],i,st,_,h=>h
 |x::l,i,st,g,h=>by
  have b:u.aR[i]?=some x:=g 0 x rfl
  have hd:∀(j:Nat) q,u.aR[j]?=some q->0<(dz u s q).den:=fun j q a=>(pX u F s hs j q a).den.1
  unfold foldI
  have key:w8 u s (i+1) (gB u s i x st):=by
   obtain ⟨⟨n,p,o,e,d,k⟩,hm⟩:=h
   subst e
   unfold gB
   cases c:dN (dz u s p) (dz u s x) with
   |true=>
    simp only[c,cond_true]
    refine ⟨⟨i,x,aa,rfl,b,fun j q f a=>?_⟩,fun j q f a=>?_⟩
    .exact AW (hd j q a) (hd n p d) (hd i x b) (hm j q f a) c
    .by_cases e:j=i
     .subst e;rw[b] at a;cases a;exact AV _
     .exact GJ (AW (hd j q a) (hd n p d) (hd i x b) (hm j q aa a) c)
   |false=>
    simp only[c,cond_false]
    refine ⟨⟨n,p,aa,rfl,d,k⟩,fun j q f a=>?_⟩
    by_cases e:j=i
    .subst e;rw[b] at a;cases a;exact c
    .exact hm j q aa a
  have:=AX l (i+1) _ (fun j y m=>by have:=g (j+1) y (by simpa using m);rwa [show i+(j+1)=i+1+j by omega] at this) key
  rwa [show i+1+l.length=i+(x::l).length by simp;omega] at this
theorem AY:∃(n:Nat) (p:b8),gy u s=((n:Int),dz u s p)/\u.aR[n]?=some p/\(∀(j:Nat) q,u.aR[j]?=some q->dN (dz u s p) (dz u s q)=false)/\∀(j:Nat) q,j<n->u.aR[j]?=some q->dN (dz u s q) (dz u s p)=true:=by
 have c:=F.aR;cases he:u.aR with
 |nil=>rw[he] at c;simp at c
 |cons x l=>
  have d:u.aR[0]?=some x:=by rw[he];rfl
  have hb:=AX F hs l 1 (0,dz u s x) (fun j y f=>by rw[he,Nat.add_comm];simpa using f)
   ⟨⟨0,x,aa,rfl,d,fun j q b=>absurd b aa⟩,fun j q b a=>by
    obtain rfl:j=0:=aa
    rw[d] at a;cases a;exact AV _⟩
  have ev:gy u s=foldI (gB u s) 1 l (0,dz u s x):=by unfold gy;rw[he]
  obtain ⟨⟨n,p,i,e,g,h⟩,hm⟩:=hb;rw[e] at hm ev;refine ⟨n,p,ev,by rw[<-he];exact g,fun j q a=>?_,fun j q b a=>h j q b (by rw[he];exact a)⟩;refine hm j q ?_ (by rw[he];exact a);have:=(List.getElem?_eq_some_iff.1 a).1;simp at this;omega
theorem w9 {i:Nat}{p:b8}(a:u.aR[i]?=some p):((dz u s p).num - s.high*(dz u s p).den)*(p.aQ+s.back)=(p.high - s.high)*(u.bE+s.back)*(dz u s p).den/\0<(dz u s p).den:=by
 have c:=F.lq i p a;have hd:0<(1*(p.aQ+s.back)).toNat:=aa;have h:=pW (s.high*1*(p.aQ+s.back)+(p.high - s.high*1)*(u.bE+s.back)) (1*(p.aQ+s.back)).toNat hd;have e:(((1*(p.aQ+s.back)).toNat:Nat):Int)=p.aQ+s.back:=aa;rw[e] at h;refine ⟨?_,h.2⟩;have b:=h.1;show ((dz u s p).num - s.high*(dz u s p).den)*(p.aQ+s.back)=_;have d:(dz u s p).num*(p.aQ+s.back)=(s.high*1*(p.aQ+s.back)+(p.high - s.high*1)*(u.bE+s.back))*(dz u s p).den:=b;grind
end
theorem GL {A D X E f H h:Int}(a:0<D)(b:0<f)(e:(A - h*D)*f=H*D)(l:¬X*D<A*E):H*E<=(X - h*E)*f:=by
 rcases Int.lt_or_le ((X - h*E)*f) (H*E) with c|c
 .exfalso;have d:=Int.mul_lt_mul_of_pos_right c a;have g:(A - h*D)*f*E=H*D*E:=by rw[e]
  have i:=Int.mul_le_mul_of_nonneg_right (Int.not_lt.1 l) (Int.le_of_lt b);grind
 .exact c
theorem GM {A D X E f H h:Int}(a:0<D)(b:0<f)(e:(A - h*D)*f=H*D)(l:A*E<X*D):H*E<(X - h*E)*f:=by
 rcases Int.lt_or_le (H*E) ((X - h*E)*f) with c|c
 .exact c
 .exfalso;have d:=Int.mul_le_mul_of_nonneg_right c (Int.le_of_lt a);have g:(A - h*D)*f*E=H*D*E:=by rw[e]
  have i:=Int.mul_lt_mul_of_pos_right l b;grind
theorem xb (n:Int)(d:Nat)(hd:0<d):bJ (bJ n d).num (bJ n d).den.toNat=bJ n d:=by
 obtain ⟨a,b⟩:=pW n d hd;refine pV aa hd ?_;rw[show (((bJ n d).den.toNat:Nat):Int)=(bJ n d).den by omega];exact a
section
variable {u:aC}{s:bM}(F:Fit u)(hs:(1<=s.back/\s.back<=20)/\0<=s.high/\s.high<=60)
include F hs
theorem GN:∃(n:Nat) (x:ay),gy u s=((n:Int),x)/\n<u.aR.length/\SR x/\(∃a b,0<b/\x=bJ a b)/\∀(i:Nat) p,u.aR[i]?=some p->
  (i=n->(x.num - s.high*x.den)*(p.aQ+s.back)=(p.high - s.high)*(u.bE+s.back)*x.den)/\(p.high - s.high)*(u.bE+s.back)*x.den<=(x.num - s.high*x.den)*(p.aQ+s.back)/\
  (i<n->(p.high - s.high)*(u.bE+s.back)*x.den<(x.num - s.high*x.den)*(p.aQ+s.back)):=by
 obtain ⟨n,c,e1,f,hm,h⟩:=AY F hs
 have l:=F.lq n c f
 refine ⟨n,dz u s c,e1,(List.getElem?_eq_some_iff.1 f).1,pX u F s hs n c f,⟨_,_,aa,rfl⟩,fun i p d=>⟨fun e=>?_,?_,fun j=>?_⟩⟩
 .subst e;rw[f] at d;cases d
  exact (w9 F hs f).1
 .have k:=F.lq i p d
  obtain ⟨k1,g⟩:=w9 F hs d
  have:=hm i p d
  unfold dN at this
  exact GL g aa k1 (by simpa using this)
 .have k:=F.lq i p d
  obtain ⟨k1,g⟩:=w9 F hs d
  have:=h i p j d
  unfold dN at this
  exact GM g aa k1 (by simpa using this)
end
theorem GO {α:Type}{l:List α}{i:Nat}{x:α}(h:l[i]?=some x):bH l (i:Int)=some x:=by
 unfold bH;rw[if_pos aa];simpa using h
theorem three (i:Nat)(h:i<=3):3 ^ i<=27:=by
 rcases (show i=0\/i=1\/i=2\/i=3 by omega) with rfl|rfl|rfl|rfl<;>decide
structure xd (u:aC):Prop where
 e:u.aR.length<=20
 p:u.props.length<=20
 y:u.aU.length<=20
 t:u.told.length<=20
theorem bars {u:aC}(L:xd u):∃c,jD u=some c/\mC u=some c:=by
 obtain ⟨b,c,a⟩:=Gq u L.e L.p L.y L.t;exact ⟨c,a,b▸a⟩
end Go.Proofs.YtdgblangfefjmaaGreatDoor
end
section
namespace Go.Sep
open Go Go.Conc
def mF (P:Program)(J:Goroutine->af->Prop)(ops:Array Oper)(F0:af)(Q:Act->af->Prop):List Oper->Bool->Act->af->Prop
 |[],_,a,F=>Q a F
 |o::rest,_,a,F=>match cJ ops o a with
  |some true=>cV P J o (fun v F'=>Knows F0 F'/\mF P J ops F0 Q rest (!Oper.calls o) (bq a o.dst v) F') a F
  |some false=>mF P J ops F0 Q rest true (bq a o.dst undef) F
  |none=>False
theorem GP {P:Program}{J:Goroutine->af->Prop}{ops:Array Oper}{F0:af}{Q:Act->af->Prop}{go:Bool}{a:Act}{F:af}:mF P J ops F0 Q [] go a F=Q a F:=rfl
theorem GQ {P:Program}{J:Goroutine->af->Prop}{ops:Array Oper}{F0:af}{Q:Act->af->Prop}{o:Oper}{rest:List Oper}{a:Act}{F:af}:mF P J ops F0 Q (o::rest) true a F=match cJ ops o a with
  |some true=>cV P J o (fun v F'=>Knows F0 F'/\mF P J ops F0 Q rest (!Oper.calls o) (bq a o.dst v) F') a F
  |some false=>mF P J ops F0 Q rest true (bq a o.dst undef) F
  |none=>False:=(Eq.refl _).trans (Eq.refl _)
attribute [irreducible] mF
attribute [go_sem] GP GQ
end Go.Sep
end
section
namespace Go.Proofs.YtdgblangfefjmaaGreatDoor
open Go Go.Sep Go.Proofs
set_option maxRecDepth 100000
set_option maxHeartbeats 4000000
structure QW (u o:aC):Prop where
 bE:o.bE=u.bE
 cD:o.cD=u.cD
 bx:o.bx=u.bx
 props:o.props=u.props
 aU:o.aU=u.aU
 told:o.told=u.told
 fG:∀x,x∈u.props->nh o x.place=nh u x.place
 xe:∀s:bM,(1<=s.back/\s.back<=20)/\0<=s.high/\s.high<=60->(gy o s).2=(gy u s).2
theorem nU {n a b:Int}(c:a<=n)(d:n<=b):bW n a b=true:=fW.2 ⟨c,d⟩
section
variable {u:aC}{s:bM}(F:Fit u)(h:jD u = some 0)(hs:(1<=s.back/\s.back<=20)/\0<=s.high/\s.high<=60)
include F h hs
theorem GR:gO u [e7 s]=some (u,0):=by
 have hb:e7 s u=some 0:=by
  rw[GB,GC];unfold w6;rw[nU hs.1.1 hs.1.2,nU hs.2.1 hs.2.2];rfl
 rw[Gx h hb];rfl
theorem GU:nq u s=some ((gy u s).1,(gy u s).2,0):=by
 unfold nq;obtain ⟨c,k1,a,b,d⟩:=GH F hs;simp only[GR F h hs,aj,bne_self_eq_false,cond_false,k1];rw[<-a]
end
end Go.Proofs.YtdgblangfefjmaaGreatDoor
end

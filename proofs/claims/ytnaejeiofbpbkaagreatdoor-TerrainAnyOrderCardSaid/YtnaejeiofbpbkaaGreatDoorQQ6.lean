/- A part of the proof: QQ6. -/
import Derived.Test.YtnaejeiofbpbkaaGreatDoorQQ5
set_option linter.all false
section
namespace Go.Proofs.YtnaejeiofbpbkaaGreatDoor
open Go Go.Sep Go.Proofs
set_option maxRecDepth 100000
set_option maxHeartbeats 4000000
theorem yO (g:Nat)(hg:0<g)(n:Int)(d:Nat):bF ((g:Int)*n) (g*d)=bF n d:=by
 unfold bF;have e1:((g:Int)*n).natAbs=g*n.natAbs:=by rw[Int.natAbs_mul,Int.natAbs_natCast]
 rw[e1,Nat.gcd_mul_left];have a:(0:Int)<(g:Int):=by omega
 congr 1
 .rw[Int.natCast_mul,Int.mul_tdiv_mul_of_pos _ _ a]
 .rw[Int.natCast_mul,Int.natCast_mul,Int.mul_tdiv_mul_of_pos _ _ a]
theorem yP (n:Int)(d:Nat)(hd:0<d):∃g a:Nat,0<g/\0<a/\d=g*a/\n=(g:Int)*(bF n d).num/\(bF n d).den=(a:Int):=by
 have hg:0<Nat.gcd n.natAbs d:=Nat.gcd_pos_of_pos_right _ hd;obtain ⟨a,b⟩:=Nat.gcd_dvd_right n.natAbs d;refine ⟨Nat.gcd n.natAbs d,a,hg,?_,b,?_,?_⟩
 .rcases Nat.eq_zero_or_pos a with h|h
  .rw[h,Nat.mul_zero] at b;omega
  .exact h
 .have c:((Nat.gcd n.natAbs d:Nat):Int) ∣ n:=Int.ofNat_dvd_left.2 (Nat.gcd_dvd_left _ _);unfold bF;exact (Int.mul_tdiv_cancel' c).symm
 .have:(d:Int)=((Nat.gcd n.natAbs d:Nat):Int)*(a:Int):=by rw[<-Int.natCast_mul];exact congrArg _ b
  show (d:Int).tdiv ((Nat.gcd n.natAbs d:Nat):Int)=_;have h2:((Nat.gcd n.natAbs d:Nat):Int)≠0:=by omega
  calc (d:Int).tdiv ((Nat.gcd n.natAbs d:Nat):Int)=(((Nat.gcd n.natAbs d:Nat):Int)*(a:Int)).tdiv ((Nat.gcd n.natAbs d:Nat):Int):=congrArg (fun z=>Int.tdiv z _) this
   _=(a:Int):=Int.mul_tdiv_cancel_left _ h2
theorem dL {x y:Int}{A B:Nat}(a:x.natAbs<=A)(b:y.natAbs<=B):(x*y).natAbs<=A*B:=by
 rw[Int.natAbs_mul];exact Nat.mul_le_mul a b
theorem eE {n:Int}(h:n.natAbs<=9000000000000000000):IntKind.i64.wrap n=n:=b9 (by omega)
structure Sm (r:au)(A B:Nat):Prop where
 num:r.num.natAbs<=A
 den:0<r.den/\r.den<=B
theorem rV {a b:au}{A B C D:Nat}(c:Sm a A B)(hb:Sm b C D)(h:A*D+C*B<=900000000000000000)(hd:B*D<=800000000000000000):
  jG a b=some (bF (a.num*b.den+b.num*a.den) (a.den*b.den).toNat):=by
 have h1:=dL c.num (show b.den.natAbs<=D by have:=hb.den;omega)
 have h2:=dL hb.num (show a.den.natAbs<=B by have:=c.den;omega)
 have h3:=dL (show a.den.natAbs<=B by have:=c.den;omega) (show b.den.natAbs<=D by have:=hb.den;omega)
 have d:0<a.den*b.den:=Int.mul_pos c.den.1 hb.den.1
 unfold jG
 rw[eE (n:=a.num*b.den) (by omega),eE (n:=b.num*a.den) (by omega),eE (n:=a.den*b.den) (by omega),eE (by omega)]
 have e:a.den*b.den=(((a.den*b.den).toNat:Nat):Int):=by omega
 have:=rS (a.num*b.den+b.num*a.den) (a.den*b.den).toNat (by omega) (by omega) (by omega)
 rw[<-e] at this
 rw[this]
 rfl
theorem yQ {a b:au}{A B C D:Nat}(c:Sm a A B)(hb:Sm b C D)(h:A*D+C*B<=900000000000000000)(hd:B*D<=800000000000000000):
  kC a b=some (bF (a.num*b.den - b.num*a.den) (a.den*b.den).toNat):=by
 have h1:=dL c.num (show b.den.natAbs<=D by have:=hb.den;omega)
 have h2:=dL hb.num (show a.den.natAbs<=B by have:=c.den;omega)
 have h3:=dL (show a.den.natAbs<=B by have:=c.den;omega) (show b.den.natAbs<=D by have:=hb.den;omega)
 have d:0<a.den*b.den:=Int.mul_pos c.den.1 hb.den.1
 unfold kC
 rw[eE (n:=a.num*b.den) (by omega),eE (n:=b.num*a.den) (by omega),eE (n:=a.den*b.den) (by omega),eE (by omega)]
 have e:a.den*b.den=(((a.den*b.den).toNat:Nat):Int):=by omega
 have:=rT (a.num*b.den - b.num*a.den) (a.den*b.den).toNat (by omega) (by omega) (by omega)
 rw[<-e] at this
 rw[this]
 rfl
theorem uV {a b:au}{A B C D:Nat}(c:Sm a A B)(hb:Sm b C D)(h:A*D+C*B<=900000000000000000)(hd:B*D<=800000000000000000)(hC:C<=9000000000000000000):
  jH a b=some (bF (a.num*b.den - b.num*a.den) (a.den*b.den).toNat):=by
 unfold jH
 have e:=hb.num
 rw[eE (by omega)]
 have d:Sm (⟨0 - b.num,b.den⟩:au) C D:=⟨by show (0 - b.num).natAbs<=C;omega,hb.den⟩
 rw[rV c d h hd]
 show some (bF (a.num*b.den+(0 - b.num)*a.den) (a.den*b.den).toNat)=_
 rw[show a.num*b.den+(0 - b.num)*a.den=a.num*b.den - b.num*a.den by rw[Int.zero_sub,Int.neg_mul];omega]
def uW (x y:bY)(p:Int):Option au:=
 ja (IntKind.i64.wrap ((IntKind.i64.wrap (x.high*(IntKind.i64.wrap (y.aM - x.aM))))+(IntKind.i64.wrap ((IntKind.i64.wrap (y.high - x.high))*(IntKind.i64.wrap (p - x.aM)))))) (IntKind.i64.wrap (y.aM - x.aM))
theorem rW {α:Type}{l:List α}{i:Nat}{x:α}(h:l[i]?=some x):bh l (i:Int)=some x:=by unfold bh;rw[if_pos (by omega),Int.toNat_natCast,h]
theorem CS (i:Nat)(h:i<1000):IntKind.i64.wrap ((i:Int)+1)=((i+1:Nat):Int):=by rw[b9 (by omega)];omega
theorem piece (u:aj)(p:Int)(f:u.ax.length<=5)(z:bY)(b:u.ax[u.ax.length - 1]?=some z)(g:p<=z.aM):∀(m i n:Nat) (x y:bY),i+1+m=u.ax.length - 1->m<n->u.ax[i]?=some x->u.ax[i+1]?=some y->
  ∃(k:Nat) (x y:bY),i<=k/\u.ax[k]?=some x/\u.ax[k+1]?=some y/\p<=y.aM/\(k=i\/x.aM<p)/\aU (oR u p) n ((i+1:Nat):Int)=some (.nx ((k+1:Nat):Int))/\
   aU (uL u p) n (i:Int)=af (uW x y p) fun r=>some (.rt r)
 |m,i,n+1,x,y,s,t,e,a=>by
  have v:i+1<u.ax.length:=(List.getElem?_eq_some_iff.1 a).1
  have d1:decide (((i+1:Nat):Int)<(u.ax.length:Int))=true:=decide_eq_true (by omega)
  unfold aU oR uL
  rw[CS i (by omega),CS (i+1) (by omega),rW e,rW a,d1]
  simp only[af,cond_true]
  by_cases c:y.aM<p
  .have e1:decide (y.aM<p)=true:=decide_eq_true c
   have e2:decide (p<=y.aM)=false:=decide_eq_false (by omega)
   rw[e1,e2]
   simp only[cond_true,cond_false]
   cases m with
   |zero=>
    have:u.ax.length - 1=i+1:=by omega
    rw[this,a] at b
    cases b
    omega
   |succ m=>
    have h:i+1+1<u.ax.length:=by omega
    obtain ⟨k,j,y',h1,h2,h3,l,d,o,q⟩:=piece u p f z b g m (i+1) n y (u.ax[i+1+1]) (by omega) (by omega) a (List.getElem?_eq_getElem h)
    refine ⟨k,j,y',by omega,h2,h3,l,?_,o,q⟩
    rcases d with rfl|d
    .rw[a] at h2;cases h2;exact .inr c
    .exact .inr d
  .have e1:decide (y.aM<p)=false:=decide_eq_false c
   have e2:decide (p<=y.aM)=true:=decide_eq_true (by omega)
   rw[e1,e2]
   refine ⟨i,x,y,Nat.le_refl _,e,a,by omega,.inl rfl,rfl,?_⟩
   simp only[cond_true]
   unfold uW
   cases ja _ _<;>rfl
theorem jQ (n:Int)(d:Nat)(hd:0<d):Sm (bF n d) n.natAbs d:=by
 obtain ⟨g,a,hg,c,e1,e2,b⟩:=yP n d hd;refine ⟨?_,?_⟩
 .have:n.natAbs=g*(bF n d).num.natAbs:=by
   have:=congrArg Int.natAbs e2
   rwa [Int.natAbs_mul,Int.natAbs_natCast] at this
  rw[this];exact Nat.le_mul_of_pos_left _ hg
 .rw[b];have:a<=d:=by rw[e1];exact Nat.le_mul_of_pos_left _ hg
  omega
theorem CU (h:Int)(n:Int)(d:Nat)(hd:0<d):bF (h*(bF n d).den+(bF n d).num) ((bF n d).den).toNat=bF (h*d+n) d:=by
 obtain ⟨g,a,hg,f,e1,e2,b⟩:=yP n d hd;have k1:h*(d:Int)+n=(g:Int)*(h*(a:Int)+(bF n d).num):=by
  rw[Int.mul_add,<-e2,e1,Int.natCast_mul,Int.mul_left_comm]
 rw[b];have c:((a:Nat):Int).toNat=a:=Int.toNat_natCast a;rw[c,k1];have e:bF ((g:Int)*(h*(a:Int)+(bF n d).num)) d=bF ((g:Int)*(h*(a:Int)+(bF n d).num)) (g*a):=congrArg _ e1;rw[e,yO g hg]
theorem Jn (u:aj)(F:Fit u)(p:Int)(a z:bY)(g:u.ax[0]?=some a)(j:u.ax[u.ax.length - 1]?=some z)(l:a.aM<=p)(m:p<=z.aM):
  ∃r,jK u p=some r/\rP u p=some r/\Sm r 7200 60/\∃(k:Nat) (x y:bY) (d:Nat),u.ax[k]?=some x/\u.ax[k+1]?=some y/\x.aM<=p/\p<=y.aM/\y.aM - x.aM=d/\0<d/\r=bF (x.high*d+(y.high - x.high)*(p - x.aM)) d:=by
 have o:=F.ax
 obtain ⟨k,x,y,-,b,e,q,h,t,v⟩:=piece u p o.2 z j m (u.ax.length - 2) 0 fu a (u.ax[1]'(by omega)) (by omega) (Nat.lt_of_le_of_lt (show u.ax.length - 2<=5 by omega) (by decide)) g (List.getElem?_eq_getElem _)
 have H:k+1<u.ax.length:=(List.getElem?_eq_some_iff.1 e).1
 have I:=F.gQ k x b
 have J:=F.gQ (k+1) y e
 have K:=F.nP k x y b e
 have L:=F.bB
 have w:x.aM<=p:=by
  rcases h with rfl|h
  .rw[g] at b;cases b;exact l
  .omega
 have A:IntKind.i64.wrap (((k+1:Nat):Int) - 1)=(k:Int):=by rw[b9 (by omega)];omega
 have w1:IntKind.i64.wrap (y.high - x.high)=y.high - x.high:=b9 (by omega)
 have w2:IntKind.i64.wrap (p - x.aM)=p - x.aM:=b9 (by omega)
 have w3:IntKind.i64.wrap (y.aM - x.aM)=y.aM - x.aM:=b9 (by omega)
 have B:((y.high - x.high)*(p - x.aM)).natAbs<=60*60:=dL (by omega) (by omega)
 have i:(x.high*(y.aM - x.aM)).natAbs<=60*60:=dL (by omega) (by omega)
 obtain ⟨d,hd⟩:∃d:Nat,y.aM - x.aM=d:=⟨(y.aM - x.aM).toNat,by omega⟩
 generalize f:(y.high - x.high)*(p - x.aM)=n at B
 have c:0<d:=by omega
 have M:d<=60:=by omega
 have s1:=jQ n d c
 have C:Sm (bF n d) 3600 60:=⟨Nat.le_trans s1.num (by omega),s1.den.1,by have:=s1.den.2;omega⟩
 have D:Sm (⟨x.high,1⟩:au) 60 1:=⟨by show x.high.natAbs<=60;omega,by show (0:Int)<1;omega,by show (1:Int)<=((1:Nat):Int);omega⟩
 refine ⟨bF (x.high*d+n) d,?_,?_,?_,k,x,y,d,b,e,w,q,hd,c,by rw[f]⟩
 .unfold jK
  have E:aU (oR u p) fu 1=some (.nx ((k+1:Nat):Int)):=t
  rw[E]
  simp only[af,aC]
  rw[A,rW b,rW e]
  simp only[gk]
  rw[w1,w2,w3,f,hd,eE (by omega),rS n d (by omega) c (by omega)]
  simp only
  rw[rV D C (by omega) (by omega)]
  show some (bF (x.high*(bF n d).den+(bF n d).num*1) (1*(bF n d).den).toNat)=_
  rw[Int.mul_one,Int.one_mul,CU x.high n d c]
 .unfold rP
  have G:aU (uL u p) fu 0=af (uW x y p) fun r=>some (.rt r):=v
  rw[G]
  unfold uW
  rw[w1,w2,w3,eE (n:=x.high*(y.aM - x.aM)) (by omega),f,eE (n:=n) (by omega),hd]
  rw[hd] at i
  rw[eE (n:=x.high*(d:Int)+n) (by omega),rT (x.high*d+n) d (by omega) c (by omega)]
  rfl
 .have s:=jQ (x.high*d+n) d c
  rw[hd] at i
  exact ⟨Nat.le_trans s.num (by omega),s.den.1,by have:=s.den.2;omega⟩
theorem CV (u:aj)(F:Fit u)(p:Int)(a z:bY)(b:u.ax[0]?=some a)(c:u.ax[u.ax.length - 1]?=some z)(d:a.aM<=p)(e:p<=z.aM):
  ∃r,jK u p=some r/\rP u p=some r/\Sm r 7200 60:=by
 obtain ⟨r,h1,h2,h3,-⟩:=Jn u F p a z b c d e
 exact ⟨r,h1,h2,h3⟩
def pH:aj:=⟨0,0,(⟨0,0⟩:au),([]:List bY),([]:List bL),([]:List bO),([]:List bA)⟩
theorem Jo {u:aj}{c:Int}(fs:List (aj->Option Int))(h:dZ u=some c)(a:c≠0):ek u fs=some (pH,c):=by
 unfold ek;rw[h];have:(c != 0)=true:=by simpa using a
 simp only[af,this,cond_true];rfl
theorem yR {u:aj}{f:aj->Option Int}{x:Int}(h:dZ u=some 0)(a:f u=some x):ek u [f]=some (cond (x != 0) (pH,x) (u,0)):=by
 unfold ek;rw[h];simp only[af,bne_self_eq_false,cond_false];unfold bE oX;simp only[a,af];cases (x != 0)<;>rfl
theorem rX (u:aj)(F:Fit u)(p:Int):∃a z,u.ax[0]?=some a/\u.ax[u.ax.length - 1]?=some z/\eL u p=some (bN p a.aM z.aM)/\nE u p=some (bN p a.aM z.aM):=by
 have c:=F.ax;have h0:u.ax[0]?=some (u.ax[0]'(by omega)):=List.getElem?_eq_getElem _;have b:u.ax[u.ax.length - 1]?=some (u.ax[u.ax.length - 1]'(by omega)):=List.getElem?_eq_getElem _;have hw:IntKind.i64.wrap ((u.ax.length:Int) - 1)=((u.ax.length - 1:Nat):Int):=by rw[b9 (by omega)];omega
 refine ⟨_,_,h0,b,?_⟩;have k:eL u p=some (bN p (u.ax[0]'(by omega)).aM (u.ax[u.ax.length - 1]'(by omega)).aM):=by
  unfold eL;have e0:bh u.ax 0=some (u.ax[0]'(by omega)):=h0;rw[hw,e0,rW b,kE];simp only[af,fc]
 exact ⟨k,k⟩
theorem yS {n m:Int}{d e:Nat}(hd:0<d)(he:0<e)(h:n*(e:Int)=m*(d:Int)):bF n d=bF m e:=by
 have a:=yO e he n d;have b:=yO d hd m e;rw[<-a,<-b];have e1:(e:Int)*n=(d:Int)*m:=by rw[Int.mul_comm,h,Int.mul_comm]
 rw[e1,Nat.mul_comm e d]
theorem nS (n:Int)(d:Nat)(hd:0<d):(bF n d).num*(d:Int)=n*(bF n d).den/\0<(bF n d).den:=by
 obtain ⟨g,a,hg,c,e1,e2,b⟩:=yP n d hd;refine ⟨?_,by rw[b];omega⟩;rw[b];have k1:(d:Int)=(g:Int)*(a:Int):=by rw[<-Int.natCast_mul];exact congrArg _ e1
 calc (bF n d).num*(d:Int)=(bF n d).num*((g:Int)*(a:Int)):=by rw[<-k1]
  _=((g:Int)*(bF n d).num)*(a:Int):=by rw[<-Int.mul_assoc,Int.mul_comm (bF n d).num]
  _=n*(a:Int):=by rw[<-e2]
theorem nU {a b:au}{A B C D:Nat}(c:Sm a A B)(hb:Sm b C D)(h:A*D<=9000000000000000000)(d:C*B<=9000000000000000000):mj a b=some (decide (a.num*b.den<b.num*a.den))/\eB a b=some (decide (a.num*b.den<b.num*a.den)):=by
 have h1:=dL c.num (show b.den.natAbs<=D by have:=hb.den;omega);have h2:=dL hb.num (show a.den.natAbs<=B by have:=c.den;omega);have k:mj a b=some (decide (a.num*b.den<b.num*a.den)):=by
  unfold mj;rw[eE (n:=a.num*b.den) (by omega),eE (n:=b.num*a.den) (by omega)]
 exact ⟨k,k⟩
theorem Jp {h md a d e b f c N:Int}(h1:d*b=N*md)(h2:e*f=c*a):(h*(md*a)+d*e)*(b*f)=(h*b*f+N*c)*(md*a):=by
 grind
theorem CW (u:aj)(F:Fit u)(s:aP)(hs:(1<=s.back/\s.back<=20)/\0<=s.high/\s.high<=60)(at_:Int)(aM:Int)(H:0<=aM/\aM<=60)(e:au)(he:Sm e 10000 100):
  ∃c,k8 u s at_ ⟨aM,e⟩=some ⟨⟨aM,e⟩,at_,c⟩/\nF u s aM e=some c/\c=bF (s.high*e.den*(aM+s.back)+(e.num - s.high*e.den)*(u.bB+s.back)) (e.den*(aM+s.back)).toNat:=by
 have I:=F.bB
 have w1:IntKind.i64.wrap (u.bB+s.back)=u.bB+s.back:=b9 (by omega)
 have w2:IntKind.i64.wrap (aM+s.back)=aM+s.back:=b9 (by omega)
 obtain ⟨f,b⟩:∃f:Nat,aM+s.back=f:=⟨(aM+s.back).toNat,by omega⟩
 have d:0<f:=by omega
 have J:f<=80:=by omega
 generalize m:u.bB+s.back=c at*
 have o:c.natAbs<=80:=by omega
 have p:Sm (⟨s.high,1⟩:au) 60 1:=⟨by show s.high.natAbs<=60;omega,by show (0:Int)<1;omega,by show (1:Int)<=((1:Nat):Int);omega⟩
 obtain ⟨a,j⟩:∃n:Nat,e.den=n:=⟨e.den.toNat,by have:=he.den;omega⟩
 have g:0<a:=by have:=he.den;omega
 have K:a<=100:=by have:=he.den;omega
 have A:(s.high*e.den).natAbs<=60*100:=dL (by omega) (by omega)
 have b2:(e.num - s.high*e.den).natAbs<=16000:=by have:=he.num;omega
 have q:=uV he p (by omega) (by omega) (by omega)
 have e1:e.num*(1:Int) - s.high*e.den=e.num - s.high*e.den:=by rw[Int.mul_one]
 have e2:(e.den*(1:Int)).toNat=a:=by rw[Int.mul_one,j,Int.toNat_natCast]
 rw[show ((⟨s.high,1⟩:au).den)=(1:Int) from rfl,show ((⟨s.high,1⟩:au).num)=s.high from rfl,e1,e2] at q
 generalize B:e.num - s.high*e.den=N at*
 have sm:=jQ N a g
 have r:=jQ c f d
 have t:=nS N a g
 have v:=nS c f d
 have L:((bF N a).num*(bF c f).num).natAbs<=16000*80:=dL (Nat.le_trans sm.num b2) (Nat.le_trans r.num o)
 have O:((bF N a).den*(bF c f).den).natAbs<=100*80:=dL (by have:=sm.den;omega) (by have:=r.den;omega)
 have P:0<(bF N a).den*(bF c f).den:=Int.mul_pos t.2 v.2
 obtain ⟨M,w⟩:∃M:Nat,(bF N a).den*(bF c f).den=M:=⟨((bF N a).den*(bF c f).den).toNat,by omega⟩
 have h:0<M:=by omega
 have C:=rS c f (by omega) d (by omega)
 have D:=rS ((bF N a).num*(bF c f).num) M (by omega) h (by omega)
 have sq:=jQ ((bF N a).num*(bF c f).num) M h
 have E:Sm (bF ((bF N a).num*(bF c f).num) M) 1280000 8000:=⟨Nat.le_trans sq.num (by omega),sq.den.1,by have:=sq.den.2;omega⟩
 have x:=rV p E (by omega) (by omega)
 have G:s.high*(bF ((bF N a).num*(bF c f).num) M).den+(bF ((bF N a).num*(bF c f).num) M).num*1=s.high*(bF ((bF N a).num*(bF c f).num) M).den+(bF ((bF N a).num*(bF c f).num) M).num:=by rw[Int.mul_one]
 rw[show ((⟨s.high,1⟩:au).den)=(1:Int) from rfl,show ((⟨s.high,1⟩:au).num)=s.high from rfl,G,Int.one_mul,CU s.high _ M h] at x
 have k:e.den*(aM+s.back)=((a*f:Nat):Int):=by rw[j,b,Int.natCast_mul]
 have i:(e.den*(aM+s.back)).toNat=a*f:=by rw[k,Int.toNat_natCast]
 have y:bF (s.high*(M:Int)+(bF N a).num*(bF c f).num) M=bF (s.high*e.den*(aM+s.back)+N*c) (a*f):=by
  refine yS h (Nat.mul_pos g d) ?_
  rw[Int.natCast_mul,<-w,b,j]
  exact Jp (by rw[t.1]) (by rw[v.1])
 refine ⟨_,?_,?_,rfl⟩
 .unfold k8
  have l:IntKind.i64.wrap (f:Int)=f:=b9 (by omega)
  simp only[gk,af,q,m,w1,b,l,C]
  rw[eE (by omega),eE (n:=(bF N a).den*(bF c f).den) (by omega),w,D]
  simp only[x]
  rw[b] at i y
  rw[i,y]
 .unfold nF
  have l:IntKind.i64.wrap (f:Int)=f:=b9 (by omega)
  have Q:(s.high*e.den*(f:Int)).natAbs<=6000*80:=dL A (by omega)
  have p2:(N*c).natAbs<=16000*80:=dL b2 o
  have p3:(e.den*(f:Int)).natAbs<=100*80:=dL (by omega) (by omega)
  simp only[m,w1,b,l]
  rw[eE (n:=s.high*e.den) (by omega),B,eE (n:=N) (by omega),eE (n:=s.high*e.den*(f:Int)) (by omega),eE (n:=N*c) (by omega),eE (n:=s.high*e.den*(f:Int)+N*c) (by omega),eE (n:=e.den*(f:Int)) (by omega)]
  rw[b] at k i
  have z:=rT (s.high*e.den*(f:Int)+N*c) (a*f) (by omega) (Nat.mul_pos g d) (by omega)
  rw[i]
  rw[<-k] at z
  rw[z]
  rfl
theorem CX (s:aP)(u:aj):eK s u=uH s:=rfl
def mo (s:aP):Int:=cond (bN s.back 1 20) (cond (bN s.high 0 60) 0 1) 1
theorem yT (s:aP):uH s=some (mo s):=by
 unfold uH mo;simp only[fc,af];cases bN s.back 1 20<;>cases bN s.high 0 60<;>rfl
theorem Jq {s:aP}(h:mo s=0):(1<=s.back/\s.back<=20)/\0<=s.high/\s.high<=60:=by
 unfold mo at h;cases h1:bN s.back 1 20 with
 |false=>rw[h1] at h;cases h
 |true=>
  cases h2:bN s.high 0 60 with
  |false=>rw[h1,h2] at h;cases h
  |true=>exact ⟨dR.1 h1,dR.1 h2⟩
def ee (u:aj)(s:aP)(x:bY):au:=bF (s.high*1*(x.aM+s.back)+(x.high - s.high*1)*(u.bB+s.back)) (1*(x.aM+s.back)).toNat
theorem CZ (u:aj)(F:Fit u)(s:aP)(hs:(1<=s.back/\s.back<=20)/\0<=s.high/\s.high<=60)(i:Nat)(x:bY)(a:u.ax[i]?=some x)(at_:Int):
  k8 u s at_ ⟨x.aM,⟨x.high,1⟩⟩=some ⟨⟨x.aM,⟨x.high,1⟩⟩,at_,ee u s x⟩/\nF u s x.aM ⟨x.high,1⟩=some (ee u s x):=by
 have p:=F.gQ i x a
 have b:=F.bB
 have he:Sm (⟨x.high,1⟩:au) 10000 100:=⟨by show x.high.natAbs<=10000;omega,by show (0:Int)<1;omega,by show (1:Int)<=((100:Nat):Int);omega⟩
 obtain ⟨c,h1,h2,h3⟩:=CW u F s hs at_ x.aM (by omega) ⟨x.high,1⟩ he
 have:c=ee u s x:=h3
 subst this
 exact ⟨h1,h2⟩
theorem C0 (u:aj)(F:Fit u)(s:aP)(hs:(1<=s.back/\s.back<=20)/\0<=s.high/\s.high<=60)(i:Nat)(x:bY)(a:u.ax[i]?=some x):Sm (ee u s x) 10000 100:=by
 have p:=F.gQ i x a;have b:=F.bB;unfold ee;rw[Int.mul_one,Int.one_mul];have c:(s.high*(x.aM+s.back)).natAbs<=60*79:=dL (by omega) (by omega);have b2:((x.high - s.high)*(u.bB+s.back)).natAbs<=60*80:=dL (by omega) (by omega);have h:=jQ (s.high*(x.aM+s.back)+(x.high - s.high)*(u.bB+s.back)) (x.aM+s.back).toNat (by omega);exact ⟨Nat.le_trans h.num (by omega),h.den.1,by have:=h.den.2;omega⟩
def foldI {α σ:Type}(g:Nat->α->σ->σ):Nat->List α->σ->σ
 |_,[],s=>s
 |i,x::l,s=>foldI g (i+1) l (g i x s)
theorem fe {α σ ρ:Type}{f:Nat->α->σ->Option (Fl σ ρ)}{g:Nat->α->σ->σ}{I:Nat->σ->Prop}:∀(l:List α) (i:Nat) (s:σ),I i s->(∀j x s,l[j]?=some x->I (i+j) s->f (i+j) x s=some (.nx (g (i+j) x s))/\I (i+j+1) (g (i+j) x s))->
  bE f i l s=some (.nx (foldI g i l s))/\I (i+l.length) (foldI g i l s)
 |[],i,s,hs,_=>⟨rfl,hs⟩
 |x::l,i,s,hs,h=>by
  obtain ⟨h0,h1⟩:=h 0 x s rfl hs
  simp only[Nat.add_zero] at h0 h1
  unfold bE foldI
  rw[h0]
  have:=fe l (i+1) _ h1 fun j y s a hs=>by
   have:=h (j+1) y s (by simpa using a) (by rwa [show i+(j+1)=i+1+j by omega])
   rwa [show i+(j+1)=i+1+j by omega] at this
  rwa [show i+1+l.length=i+(x::l).length by simp;omega] at this
theorem C1 {α σ τ ρ:Type}{f:τ->Option (Fl τ ρ)}{g:Nat->α->σ->σ}{I:Nat->σ->Prop}(e:σ->Int->τ)(l:List α)(h:∀(i:Nat) x s,l[i]?=some x->I i s->f (e s (i:Int))=some (.nx (e (g i x s) ((i+1:Nat):Int)))/\I (i+1) (g i x s))(a:∀s,f (e s (l.length:Int))=some (.bk (e s (l.length:Int)))):
  ∀(k i n:Nat) (s:σ),I i s->i+k=l.length->k<n->aU f n (e s (i:Int))=some (.nx (e (foldI g i (l.drop i) s) (l.length:Int)))/\I l.length (foldI g i (l.drop i) s)
 |0,i,n+1,s,hs,hi,_=>by
  obtain rfl:i=l.length:=by omega
  unfold aU
  rw[a,List.drop_length]
  exact ⟨rfl,hs⟩
 |k+1,i,n+1,s,hs,hi,d=>by
  have b:i<l.length:=by omega
  have c:l[i]?=some l[i]:=List.getElem?_eq_getElem b
  obtain ⟨h0,h1⟩:=h i _ s c hs
  unfold aU
  rw[h0,List.drop_eq_getElem_cons b]
  unfold foldI
  exact C1 e l h a k (i+1) n _ h1 (by omega) (by omega)
theorem mq {α σ τ ρ:Type}{f:τ->Option (Fl τ ρ)}{g:Nat->α->σ->σ}{I:Nat->σ->Prop}(e:σ->Int->τ)(l:List α)(a:l.length<=1000)(h:∀(i:Nat) x s,l[i]?=some x->I i s->f (e s (i:Int))=some (.nx (e (g i x s) ((i+1:Nat):Int)))/\I (i+1) (g i x s))(b:∀s,f (e s (l.length:Int))=some (.bk (e s (l.length:Int))))(s:σ)(hs:I 0 s):
  aU f fu (e s 0)=some (.nx (e (foldI g 0 l s) (l.length:Int)))/\I l.length (foldI g 0 l s):=by
 have:=C1 e l h b l.length 0 fu s hs (by omega) (Nat.lt_of_le_of_lt a (by decide))
 simpa using this
theorem C2 {α σ:Type}{g g':Nat->α->σ->σ}:∀(l:List α) (i:Nat) (s:σ),(∀j x s,i<=j->g j x s=g' j x s)->foldI g i l s=foldI g' i l s
 |[],_,_,_=>rfl
 |x::l,i,s,h=>by
  unfold foldI
  rw[h i x s (Nat.le_refl _)]
  exact C2 l (i+1) _ fun j x s a=>h j x s (by omega)
def bC (a b:au):Bool:=decide (a.num*b.den<b.num*a.den)
abbrev SR (r:au):Prop:=Sm r 2000000 8000
theorem Sm.mono {r:au}{A B a b:Nat}(h:Sm r A B)(c:A<=a)(hb:B<=b):Sm r a b:=⟨Nat.le_trans h.num c,h.den.1,by have:=h.den.2;omega⟩
theorem uX (u:aj)(F:Fit u)(s:aP)(hs:(1<=s.back/\s.back<=20)/\0<=s.high/\s.high<=60)(i:Nat)(x:bY)(a:u.ax[i]?=some x):SR (ee u s x):=(C0 u F s hs i x a).mono (by decide) (by decide)
theorem jb {a b:au}(c:SR a)(hb:SR b):mj a b=some (bC a b)/\eB a b=some (bC a b):=nU c hb (by decide) (by decide)
def gB (u:aj)(s:aP)(i:Nat)(x:bY)(st:Int×au):Int×au:=cond (bC st.2 (ee u s x)) ((i:Int),ee u s x) st
def jc (u:aj)(s:aP)(i:Nat)(x:bY):bw:=⟨⟨x.aM,⟨x.high,1⟩⟩,(i:Int),ee u s x⟩
def fH (u:aj)(s:aP):Nat->List bY->List bw
 |_,[]=>[]
 |i,x::l=>jc u s i x::fH u s (i+1) l
theorem C3 (u:aj)(s:aP):∀(l:List bY) (i:Nat) (a:List bw),foldI (fun i x st=>st++[jc u s i x]) i l a=a++fH u s i l
 |[],i,a=>by simp[foldI,fH]
 |x::l,i,a=>by simp[foldI,fH,C3 u s l (i+1)]
def gC (i:Nat)(x:bw)(st:bw):bw:=cond (bC st.high x.high) x st
theorem C4 (u:aj)(s:aP):∀(l:List bY) (i j:Nat) (c:bw),let r:=foldI gC j (fH u s i l) c;(r.at_,r.high)=foldI (gB u s) i l (c.at_,c.high)
 |[],i,j,c=>rfl
 |x::l,i,j,c=>by
  simp only[fH,foldI]
  have:=C4 u s l (i+1) (j+1) (gC j (jc u s i x) c)
  simp only at this
  rw[this]
  congr 1
  unfold gC gB jc
  cases bC c.high (ee u s x)<;>rfl
theorem uY (n:Int):gk n=some ⟨n,1⟩:=rfl
def cE (u:aj)(s:aP):Int×au:=match u.ax with
 |[]=>(0,⟨0,0⟩)
 |x::l=>foldI (gB u s) 1 l (0,ee u s x)
section
variable {u:aj}{s:aP}(F:Fit u)(hs:(1<=s.back/\s.back<=20)/\0<=s.high/\s.high<=60)
include F hs
theorem Jr:bE (oQ u s) 0 u.ax ([]:List bw)=some (.nx (fH u s 0 u.ax)):=by
 have c:=F.ax;have:=fe (f:=oQ u s) (ρ:=bw) (g:=fun i x st=>st++[jc u s i x]) (I:=fun i st=>st.length=i) u.ax 0 [] rfl (fun j x st a b=>?_)
 .rw[this.1,C3];rfl
 .have d:j<u.ax.length:=(List.getElem?_eq_some_iff.1 a).1;refine ⟨?_,by simp[b]⟩;unfold oQ;rw[Nat.zero_add] at b ⊢;simp only[uY,af,(CZ u F s hs j x a (j:Int)).1];unfold cG;rw[if_pos (by simp;omega)];rfl
theorem C5:∀(l:List bY) (i:Nat),(∀(j:Nat) x,l[j]?=some x->u.ax[i+j]?=some x)->∀(j:Nat) c,(fH u s i l)[j]?=some c->SR c.high
 |[],_,_,j,c,h=>by simp[fH] at h
 |x::l,i,a,0,c,h=>by
  simp[fH] at h
  subst h
  exact uX u F s hs i x (a 0 x rfl)
 |x::l,i,a,j+1,c,h=>C5 l (i+1) (fun j y b=>by have:=a (j+1) y (by simpa using b);rwa [show i+(j+1)=i+1+j by omega] at this) j c (by simpa [fH] using h)
theorem pI:∃c,kq u s=some c/\(c.at_,c.high)=cE u s/\SR c.high/\uK u s=some (cE u s):=by
 have d:=F.ax;have o:=Jr F hs;obtain ⟨a,rest,he⟩:∃x l,u.ax=x::l:=by
  cases h:u.ax with
  |nil=>rw[h] at d;simp at d
  |cons x l=>exact ⟨x,l,rfl⟩
 have p:u.ax[0]?=some a:=by rw[he];rfl
 have q:∀(j:Nat) x,rest[j]?=some x->u.ax[1+j]?=some x:=fun j x h=>by rw[he,Nat.add_comm];simpa using h
 have v:rest.length<=4:=by rw[he] at d;simp at d;omega
 have r:SR (ee u s a):=uX u F s hs 0 a p
 have hg:=fe (f:=jI fG) (ρ:=bw) (g:=gC) (I:=fun _ c=>SR c.high) (fH u s 1 rest) 0 (jc u s 0 a) r (fun j c st m e=>by
  have b:=C5 F hs rest 1 q j c m;refine ⟨?_,?_⟩
  .unfold jI fG gC;simp only[(jb e b).2,af];cases bC st.high c.high<;>rfl
  .unfold gC;cases bC st.high c.high
   .exact e
   .exact b)
 refine ⟨foldI gC 0 (fH u s 1 rest) (jc u s 0 a),?_,?_,hg.2,?_⟩
 .unfold kq;rw[o,he];simp only[af,aC,fH];rw[show bh (jc u s 0 a::fH u s (0+1) rest) 0=some (jc u s 0 a) from rfl];simp only;have:e8 (jc u s 0 a::fH u s (0+1) rest) 1 (((jc u s 0 a::fH u s (0+1) rest).length:Nat):Int)=some (fH u s 1 rest):=by
   unfold e8;rw[if_pos (by simp only[List.length_cons];omega)];simp
  rw[this];simp only;unfold iD;rw[hg.1];rfl
 .have:=C4 u s rest 1 0 (jc u s 0 a);simp only at this;rw[this];unfold cE;rw[he];rfl
 .unfold uK;have t:=mq (f:=uJ u s) (g:=fun i x st=>if i=0 then ((0:Int),ee u s x) else gB u s i x st) (I:=fun i st=>i=0\/SR st.2) (fun st i=>(st.1,i,st.2)) u.ax (by omega) (fun i x st k e=>?_) (fun st=>?_) ((0:Int),(⟨0,0⟩:au)) (.inl rfl)
  .rw[t.1,he];simp only[af,aC,foldI,if_pos];rw[C2 (g':=gB u s) rest (0+1) _ (fun j x st m=>if_neg (by omega))];unfold cE;rw[he]
  .have w:i<u.ax.length:=(List.getElem?_eq_some_iff.1 k).1;have b:=uX u F s hs i x k;unfold uJ;simp only;rw[show decide ((i:Int)<(u.ax.length:Int))=true by simp;omega];simp only[cond_true];rw[show bh u.ax (i:Int)=some x by unfold bh;rw[if_pos (by omega)];simpa using k];simp only[af,(CZ u F s hs i x k 0).2];have hw:IntKind.i64.wrap ((i:Int)+1)=((i+1:Nat):Int):=by rw[b9 (by omega)];rfl
   rw[hw];by_cases h0:i=0
   .subst h0;exact ⟨rfl,.inr b⟩
   .have n:SR st.2:=e.resolve_left h0;rw[show (((i:Nat):Int)==0)=false by simp;omega];simp only[cond_false,(jb n b).1,if_neg h0];unfold gB;cases bC st.2 (ee u s x)
    .exact ⟨rfl,.inr n⟩
    .exact ⟨rfl,.inr b⟩
  .unfold uJ;simp
end
section
variable {u:aj}{s:aP}(F:Fit u)(hs:(1<=s.back/\s.back<=20)/\0<=s.high/\s.high<=60)
include F hs
theorem rY:Sm (⟨u.bH,1⟩:au) 60 1:=⟨by have:=F.bH;show u.bH.natAbs<=60;omega,by show (0:Int)<1;omega,by show (1:Int)<=((1:Nat):Int);omega⟩
theorem rZ:SR (cE u s).2:=by
 obtain ⟨c,h1,h2,h3,a⟩:=pI F hs;rw[<-h2];exact h3
theorem Js:∃r,nj u s=some r/\yI u s=some r:=by
 obtain ⟨c,h1,h2,h3,a⟩:=pI F hs;have e2:c.high=(cE u s).2:=by rw[<-h2]
 have p:=rY F hs;have b:=uV p h3 (by decide) (by decide) (by decide);have d:=yQ p h3 (by decide) (by decide);unfold nj yI;rw[h1,a];simp only[af,uY,b,<-e2,d];exact ⟨_,rfl,rfl⟩
end
theorem yU {a b c:au}(d:0<a.den)(hb:0<b.den)(f:0<c.den)(h1:bC b a=false)(h2:bC b c=true):bC c a=false:=by
 unfold bC at*;simp only[decide_eq_false_iff_not,decide_eq_true_eq,Int.not_lt] at*;have k1:a.num*b.den*c.den<=b.num*a.den*c.den:=Int.mul_le_mul_of_nonneg_right h1 (by omega);have g:b.num*c.den*a.den<c.num*b.den*a.den:=Int.mul_lt_mul_of_pos_right h2 d;have e:b.den*(a.num*c.den)<b.den*(c.num*a.den):=by
  have e1:b.den*(a.num*c.den)=a.num*b.den*c.den:=by grind
  have e2:b.den*(c.num*a.den)=c.num*b.den*a.den:=by grind
  have h:b.num*a.den*c.den=b.num*c.den*a.den:=by grind
  omega
 exact Int.le_of_lt (Int.lt_of_mul_lt_mul_left e (by omega))
theorem jd (a:au):bC a a=false:=by unfold bC;simp
theorem yV {a b:au}(h:bC a b=true):bC b a=false:=by
 unfold bC at*;simp only[decide_eq_false_iff_not,decide_eq_true_eq,Int.not_lt] at*;omega
def yW (u:aj)(s:aP)(aM:Int)(e:au):au:=bF (s.high*e.den*(aM+s.back)+(e.num - s.high*e.den)*(u.bB+s.back)) (e.den*(aM+s.back)).toNat
def c6 (u:aj)(x:bL):au:=match jK u x.place with
 |some r=>bF (r.num+x.dg*r.den) r.den.toNat
 |none=>⟨0,0⟩
def dj (u:aj)(s:aP)(x:bL):au:=yW u s x.place (c6 u x)
section
variable {u:aj}{s:aP}(F:Fit u)(hs:(1<=s.back/\s.back<=20)/\0<=s.high/\s.high<=60)
include F hs
theorem yX {i:Nat}{x:bL}(p:u.props[i]?=some x):∃r,jK u x.place=some r/\rP u x.place=some r/\jG r ⟨x.dg,1⟩=some (c6 u x)/\
  ja (IntKind.i64.wrap (r.num+IntKind.i64.wrap (x.dg*r.den))) r.den=some (c6 u x)/\(∀at_,k8 u s at_ ⟨x.place,c6 u x⟩=some ⟨⟨x.place,c6 u x⟩,at_,dj u s x⟩)/\nF u s x.place (c6 u x)=some (dj u s x)/\SR (dj u s x):=by
 obtain ⟨q,p2,p3⟩:=F.prop i x p
 obtain ⟨a,z,h,j,k,D⟩:=rX u F x.place
 rw[q] at k
 have hb:bN x.place a.aM z.aM=true:=(Option.some.inj k).symm
 unfold bN at hb
 simp only[Bool.and_eq_true,decide_eq_true_eq] at hb
 have E:=F.gQ _ a h
 have G:=F.gQ _ z j
 have H:=F.bB
 obtain ⟨r,h1,h2,h3⟩:=CV u F x.place a z h j hb.1 hb.2
 have sh:Sm (⟨x.dg,1⟩:au) 20 1:=⟨by show x.dg.natAbs<=20;omega,by show (0:Int)<1;omega,by show (1:Int)<=((1:Nat):Int);omega⟩
 have I:(x.dg*r.den).natAbs<=20*60:=dL (by omega) (by have:=h3.den;omega)
 obtain ⟨d,hd⟩:∃d:Nat,r.den=d:=⟨r.den.toNat,by have:=h3.den;omega⟩
 have l:0<d:=by have:=h3.den;omega
 have J:d<=60:=by have:=h3.den;omega
 have K:=h3.num
 have g:c6 u x=bF (r.num+x.dg*r.den) d:=by
  unfold c6
  rw[h1]
  simp only
  rw[hd,Int.toNat_natCast]
 have b:Sm (c6 u x) 10000 100:=by
  rw[g]
  have:=jQ (r.num+x.dg*r.den) d l
  exact ⟨Nat.le_trans this.num (by omega),this.den.1,by have:=this.den.2;omega⟩
 have t:=rV h3 sh (by decide) (by decide)
 have m:=rT (r.num+x.dg*r.den) d (by omega) l (by omega)
 have o:∀at_,k8 u s at_ ⟨x.place,c6 u x⟩=some ⟨⟨x.place,c6 u x⟩,at_,dj u s x⟩/\nF u s x.place (c6 u x)=some (dj u s x):=fun at_=>by
  obtain ⟨c,c1,c2,c3⟩:=CW u F s hs at_ x.place ⟨by omega,by omega⟩ (c6 u x) b
  subst c3
  exact ⟨c1,c2⟩
 refine ⟨r,h1,h2,?_,?_,fun at_=>(o at_).1,(o 0).2,?_⟩
 .rw[t,g]
  show some (bF (r.num*1+x.dg*r.den) (r.den*1).toNat)=_
  rw[Int.mul_one,Int.mul_one,hd,Int.toNat_natCast]
 .rw[eE (n:=x.dg*r.den) (by omega),eE (by omega),g]
  rw[hd] at m ⊢
  exact m
 .unfold dj yW
  obtain ⟨f,v⟩:∃f:Nat,x.place+s.back=f:=⟨(x.place+s.back).toNat,by omega⟩
  obtain ⟨e,w⟩:∃n:Nat,(c6 u x).den=n:=⟨(c6 u x).den.toNat,by have:=b.den;omega⟩
  have y:0<e:=by have:=b.den;omega
  have A:e<=100:=by have:=b.den;omega
  have L:=b.num
  have B:(s.high*(c6 u x).den).natAbs<=60*100:=dL (by omega) (by omega)
  have b2:(s.high*(c6 u x).den*(x.place+s.back)).natAbs<=6000*80:=dL B (by omega)
  have b3:(((c6 u x).num - s.high*(c6 u x).den)*(u.bB+s.back)).natAbs<=16000*80:=dL (by omega) (by omega)
  have C:((c6 u x).den*(x.place+s.back)).toNat=e*f:=by rw[w,v,<-Int.natCast_mul,Int.toNat_natCast]
  rw[C]
  have:=jQ (s.high*(c6 u x).den*(x.place+s.back)+((c6 u x).num - s.high*(c6 u x).den)*(u.bB+s.back)) (e*f) (Nat.mul_pos y (by omega))
  have M:e*f<=100*80:=Nat.mul_le_mul A (by omega)
  exact ⟨Nat.le_trans this.num (by omega),this.den.1,by have:=this.den.2;omega⟩
end
def same (x:bL)(e:au)(y:bw):Bool:=(y.spot.aM==x.place)&&((y.spot.high.num==e.num)&&(y.spot.high.den==e.den))
def gT (u:aj)(s:aP)(i:Nat)(x:bL)(st:List bw):List bw:=cond (st.any (same x (c6 u x))) st (st++[⟨⟨x.place,c6 u x⟩,(i:Int),dj u s x⟩])
def cj (a b:au):au:=cond (bC a b) b a
def gM (u:aj)(s:aP)(i:Nat)(x:bL)(b:au):au:=if i=0 then dj u s x else cj b (dj u s x)
theorem C6 (x:bL)(e:au):∀(l:List bw) (i:Nat),bE (q4 x e) i l ()=some (cond (l.any (same x e)) (.br 1 ()) (.nx ()):Fl Unit (List bw))
 |[],i=>rfl
 |y::l,i=>by
  unfold bE q4
  rw[show ((y.spot.aM==x.place)&&((y.spot.high.num==e.num)&&(y.spot.high.den==e.den)))=same x e y from rfl,List.any_cons]
  cases same x e y
  .simp only[cond_false,af,Bool.false_or]
   exact C6 x e l (i+1)
  .rfl
theorem r4 {a b:au}(c:SR a)(hb:SR b):gv a b=some (cj a b):=by
 unfold gv cj;simp only[(jb c hb).1,af];cases bC a b<;>rfl
theorem lC {a b:au}(c:SR a)(hb:SR b):SR (cj a b):=by unfold cj;cases bC a b;exact c;exact hb
def uZ:List bw->au
 |[]=>⟨0,0⟩
 |c::l=>(foldI gC 0 l c).high
theorem C7 {α σ:Type}{g:Nat->α->σ->σ}:∀(l:List α) (i:Nat) (y:α) (s:σ),foldI g i (l++[y]) s=g (i+l.length) y (foldI g i l s)
 |[],i,y,s=>rfl
 |x::l,i,y,s=>by
  simp only[List.cons_append,foldI,List.length_cons]
  rw[C7 l (i+1) y]
  congr 1
  omega
theorem Jt (c:bw)(l:List bw)(y:bw):uZ (c::l++[y])=cj (uZ (c::l)) y.high:=by
 show (foldI gC 0 (l++[y]) c).high=_;rw[C7];show (cond (bC (foldI gC 0 l c).high y.high) y (foldI gC 0 l c)).high=cond (bC (foldI gC 0 l c).high y.high) y.high (foldI gC 0 l c).high;cases bC (foldI gC 0 l c).high y.high<;>rfl
structure Tp (u:aj)(s:aP)(st:List bw)(b:au):Prop where
 ne:st≠[]
 yY:b=uZ st
 sm:SR b
 le:∀y∈st,bC b y.high=false/\SR y.high/\y.high=yW u s y.spot.aM y.spot.high
theorem Tp.step {u:aj}{s:aP}{st:List bw}{b:au}(h:Tp u s st b){x:bL}(f:SR (dj u s x))(i:Nat):Tp u s (gT u s i x st) (cj b (dj u s x)):=by
 unfold gT;cases m:st.any (same x (c6 u x)) with
 |true=>
  simp only[cond_true];obtain ⟨y,a,g⟩:=List.any_eq_true.1 m;have d:=h.le y a;have e:y.high=dj u s x:=by
   rw[d.2.2];unfold same at g;simp only[Bool.and_eq_true,beq_iff_eq] at g;obtain ⟨e1,e2,j⟩:=g;unfold dj;have:y.spot.high=c6 u x:=by
    cases n:y.spot.high;cases o:c6 u x;rw[n,o] at e2 j;simp only at e2 j;rw[e2,j]
   rw[e1,this]
  have:cj b (dj u s x)=b:=by
   unfold cj;rw[<-e,d.1];rfl
  rw[this];exact h
 |false=>
  simp only[cond_false];obtain ⟨c,l,rfl⟩:∃c l,st=c::l:=by
   cases st with
   |nil=>exact absurd rfl h.ne
   |cons c l=>exact ⟨c,l,rfl⟩
  refine ⟨by simp,?_,lC h.sm f,fun y a=>?_⟩
  .rw[Jt,<-h.yY]
  .rcases List.mem_append.1 a with a|a
   .have d:=h.le y a;refine ⟨?_,d.2⟩;unfold cj;cases k:bC b (dj u s x) with
    |false=>exact d.1
    |true=>exact yU d.2.1.den.1 h.sm.den.1 f.den.1 d.1 k
   .simp at a;subst a;refine ⟨?_,f,rfl⟩;unfold cj;cases k:bC b (dj u s x) with
    |false=>exact k
    |true=>exact jd _
theorem Tp.fold {u:aj}{s:aP}:∀(l:List bL) (i:Nat) (st:List bw) (b:au),1<=i->(∀x∈l,SR (dj u s x))->Tp u s st b->Tp u s (foldI (gT u s) i l st) (foldI (gM u s) i l b)
 |[],_,_,_,_,_,h=>h
 |x::l,i,st,b,hi,a,h=>by
  unfold foldI
  have e:gM u s i x b=cj b (dj u s x):=if_neg (by omega)
  rw[e]
  exact Tp.fold l (i+1) _ _ (by omega) (fun y c=>a y (List.mem_cons_of_mem _ c)) (h.step (a x (List.mem_cons_self ..)) i)
theorem Tp.all {u:aj}{s:aP}(x:bL)(l:List bL)(b:∀y∈x::l,SR (dj u s y)):Tp u s (foldI (gT u s) 0 (x::l) []) (foldI (gM u s) 0 (x::l) ⟨0,0⟩):=by
 unfold foldI;have c:=b x (List.mem_cons_self ..);refine Tp.fold l 1 _ _ (Nat.le_refl _) (fun y a=>b y (List.mem_cons_of_mem _ a)) ⟨by simp[gT],?_,?_,?_⟩
 .simp[gT,gM,uZ,foldI]
 .exact c
 .intro y a;simp[gT] at a;subst a;exact ⟨by simp[gM];exact jd _,c,rfl⟩
section
variable {u:aj}{s:aP}(F:Fit u)(hs:(1<=s.back/\s.back<=20)/\0<=s.high/\s.high<=60)
include F hs
theorem Ju:∀x∈u.props,SR (dj u s x):=fun x a=>by
 obtain ⟨i,hi,rfl⟩:=List.getElem_of_mem a
 obtain ⟨r,_,_,_,_,_,_,h⟩:=yX F hs (i:=i) (List.getElem?_eq_getElem hi)
 exact h
theorem Jv:kr u s=some (foldI (gT u s) 0 u.props []):=by
 have d:=F.props;unfold kr
 have:=fe (f:=q5 u s) (ρ:=List bw) (g:=gT u s) (I:=fun i st=>st.length<=i) u.props 0 [] (Nat.le_refl _) (fun j x st a b=>by
  have e:j<u.props.length:=(List.getElem?_eq_some_iff.1 a).1;obtain ⟨r,h1,h2,h3,h,c,k,l⟩:=yX F hs a;rw[Nat.zero_add] at b ⊢;unfold q5;simp only[h1,af,uY,h3,C6];unfold gT;cases m:st.any (same x (c6 u x)) with
  |true=>exact ⟨rfl,by simp only[cond_true];omega⟩
  |false=>
   simp only[cond_false,aC,af,c];unfold cG;rw[if_pos (by simp;omega)]
   exact ⟨rfl,by simp;omega⟩)
 rw[this.1];rfl
theorem u5:lz u s=some (foldI (gM u s) 0 u.props ⟨0,0⟩,decide (0<(u.props.length:Int))):=by
 have k:=F.props;unfold lz
 have:=mq (f:=uM u s) (g:=gM u s) (I:=fun i b=>i=0\/SR b) (fun b i=>(i,b)) u.props (by omega) (fun i x b c d=>by
  have l:i<u.props.length:=(List.getElem?_eq_some_iff.1 c).1;obtain ⟨r,h1,h2,h3,h,m,j,a⟩:=yX F hs c;unfold uM;simp only;rw[show decide ((i:Int)<(u.props.length:Int))=true by simp;omega];simp only[cond_true];rw[show bh u.props (i:Int)=some x by unfold bh;rw[if_pos (by omega)];simpa using c];have hw:IntKind.i64.wrap ((i:Int)+1)=((i+1:Nat):Int):=by rw[b9 (by omega)];rfl
  simp only[af,h2,h,j,hw];unfold gM;by_cases h0:i=0
  .subst h0;have e:cj (dj u s x) (dj u s x)=dj u s x:=by unfold cj;rw[jd];rfl
   rw[show (((0:Nat):Int)==0)=true from rfl];simp only[cond_true,r4 a a,e,if_pos];exact ⟨trivial,.inr a⟩
  .have hb:SR b:=d.resolve_left h0;rw[show (((i:Nat):Int)==0)=false by simp;omega];simp only[cond_false,r4 hb a,if_neg h0]
   exact ⟨trivial,.inr (lC hb a)⟩) (fun b=>by unfold uM;simp) (⟨0,0⟩:au) (.inl rfl)
 rw[this.1];rfl
theorem u6:(u.props=[]/\kr u s=some []/\lz u s=some (⟨0,0⟩,false))\/
  ∃st b,kr u s=some st/\lz u s=some (b,true)/\Tp u s st b:=by
 have h1:=Jv F hs
 have h2:=u5 F hs
 have h3:=Ju F hs
 cases a:u.props with
 |nil=>
  rw[a] at h1 h2
  exact .inl ⟨rfl,h1,h2⟩
 |cons x l=>
  rw[a] at h1 h2 h3
  refine .inr ⟨_,_,h1,?_,Tp.all x l h3⟩
  rw[h2]
  rw[show decide (0<((x::l).length:Int))=true by simp]
theorem C8 {st:List bw}{b:au}(h:Tp u s st b):∃c l,st=c::l/\∃m,iD fG c l=some m/\m.high=b:=by
 obtain ⟨c,l,rfl⟩:∃c l,st=c::l:=by
  cases st with
  |nil=>exact absurd rfl h.ne
  |cons c l=>exact ⟨c,l,rfl⟩
 refine ⟨c,l,rfl,?_⟩
 have hg:=fe (f:=jI fG) (ρ:=bw) (g:=gC) (I:=fun _ c=>SR c.high) l 0 c (h.le c (List.mem_cons_self ..)).2.1 (fun j x st e a=>by
  have d:SR x.high:=(h.le x (List.mem_cons_of_mem _ (List.mem_of_getElem? e))).2.1;refine ⟨?_,?_⟩
  .unfold jI fG gC;simp only[(jb a d).2,af];cases bC st.high x.high<;>rfl
  .unfold gC;cases bC st.high x.high
   .exact a
   .exact d)
 refine ⟨foldI gC 0 l c,?_,h.yY.symm⟩;unfold iD;rw[hg.1];rfl
end
theorem pJ {a b c:au}(d:0<a.den)(hb:0<b.den)(e:0<c.den)(h1:bC a b=false)(h2:bC b c=false):bC a c=false:=by
 cases h:bC a c with
 |false=>rfl
 |true=>
  have:=yU hb d e h1 h;unfold bC at*;simp only[decide_eq_false_iff_not,decide_eq_true_eq,Int.not_lt] at*;have k1:b.num*a.den*c.den<=a.num*b.den*c.den:=Int.mul_le_mul_of_nonneg_right h1 (by omega);have f:a.num*c.den*b.den<c.num*a.den*b.den:=Int.mul_lt_mul_of_pos_right h hb;have g:c.num*b.den*a.den<=b.num*c.den*a.den:=Int.mul_le_mul_of_nonneg_right h2 (by omega);have e1:a.num*b.den*c.den=a.num*c.den*b.den:=by grind
  have e2:c.num*b.den*a.den=c.num*a.den*b.den:=by grind
  have i:b.num*c.den*a.den=b.num*a.den*c.den:=by grind
  omega
theorem Jw {a b c:au}(d:0<a.den)(hb:0<b.den)(e:0<c.den)(h1:bC a b=true)(h2:bC b c=true):bC a c=true:=by
 unfold bC at*;simp only[decide_eq_true_eq] at*;have k1:a.num*b.den*c.den<b.num*a.den*c.den:=Int.mul_lt_mul_of_pos_right h1 e;have g:b.num*c.den*a.den<c.num*b.den*a.den:=Int.mul_lt_mul_of_pos_right h2 d;have f:b.den*(a.num*c.den)<b.den*(c.num*a.den):=by
  have e1:b.den*(a.num*c.den)=a.num*b.den*c.den:=by grind
  have e2:b.den*(c.num*a.den)=c.num*b.den*a.den:=by grind
  have h:b.num*a.den*c.den=b.num*c.den*a.den:=by grind
  omega
 exact Int.lt_of_mul_lt_mul_left f (by omega)
theorem C9 {e y:au}(he:SR e)(a:SR y):∀(l:List bw) (b:au),(∀x∈l,SR x.high)->SR b->∀(i j:Nat),
  foldI (fun _ (x:bw) st=>cj st x.high) i l (cj e b)=cj e (foldI (fun _ (x:bw) st=>cj st x.high) j l b)
 |[],b,_,_,i,j=>rfl
 |x::l,b,d,hb,i,j=>by
  unfold foldI
  have c:=d x (List.mem_cons_self ..)
  have key:cj (cj e b) x.high=cj e (cj b x.high):=by
   unfold cj
   cases h1:bC e b<;>cases h2:bC b x.high<;>simp only[cond_true,cond_false,h1,h2]
   .have:=pJ he.den.1 hb.den.1 c.den.1 h1 h2
    rw[this];rfl
   .rw[Jw he.den.1 hb.den.1 c.den.1 h1 h2]
    rfl
  rw[key]
  exact C9 he a l _ (fun y a=>d y (List.mem_cons_of_mem _ a)) (lC hb c) (i+1) (j+1)
theorem yZ:∀(l:List bw) (i:Nat) (c:bw),(foldI gC i l c).high=foldI (fun _ (x:bw) st=>cj st x.high) i l c.high
 |[],_,_=>rfl
 |x::l,i,c=>by
  unfold foldI
  rw[yZ l (i+1)]
  congr 1
  unfold gC cj
  cases bC c.high x.high<;>rfl
theorem Da {a b:au}(c:SR a)(hb:SR b):gm eB a [b]=some (cj a b):=by
 unfold gm bE k9;simp only[(jb c hb).2,af];unfold cj;cases bC a b<;>rfl
theorem Jx {f:Nat->bw->au->Option (Fl au au)}(c:f=nk\/f=nq){st:List bw}(d:∀x∈st,SR x.high){e:au}(he:SR e):
  bE f 0 st e=some (.nx (foldI (fun _ (x:bw) st=>cj st x.high) 0 st e))/\SR (foldI (fun _ (x:bw) st=>cj st x.high) 0 st e):=
 fe (I:=fun _ r=>SR r) st 0 e he (fun j x r g a=>by
  have b:=d x (List.mem_of_getElem? g)
  rcases c with rfl|rfl
  .unfold nk
   simp only[Da a b,af]
   exact ⟨trivial,lC a b⟩
  .unfold nq
   simp only[Da a b,af]
   exact ⟨trivial,lC a b⟩)
section
variable {u:aj}{s:aP}(F:Fit u)(hs:(1<=s.back/\s.back<=20)/\0<=s.high/\s.high<=60)
include F hs
theorem Db {a b:au}(c:SR a)(hb:SR b):∃d,jH a b=some d/\kC a b=some d/\Sm d 40000000000 64000000:=by
 have e:=uV c hb (by decide) (by decide) (by decide);have f:=yQ c hb (by decide) (by decide);refine ⟨_,e,f,?_⟩;have h1:=dL c.num (show b.den.natAbs<=8000 by have:=hb.den;omega);have h2:=dL hb.num (show a.den.natAbs<=8000 by have:=c.den;omega);have h3:=dL (show a.den.natAbs<=8000 by have:=c.den;omega) (show b.den.natAbs<=8000 by have:=hb.den;omega);have g:0<a.den*b.den:=Int.mul_pos c.den.1 hb.den.1;have:=jQ (a.num*b.den - b.num*a.den) (a.den*b.den).toNat (by omega);exact ⟨Nat.le_trans this.num (by omega),this.den.1,by have:=this.den.2;omega⟩
theorem Dc:Sm (⟨0,1⟩:au) 1 1:=⟨by decide,by decide,by decide⟩
theorem Dd {d:au}(hd:Sm d 40000000000 64000000):∃m,gm eB d [⟨0,1⟩]=some m/\gv d ⟨0,1⟩=some m/\Sm m 40000000000 64000000:=by
 have a:=nU hd (Dc F hs) (by decide) (by decide);refine ⟨cond (bC d ⟨0,1⟩) ⟨0,1⟩ d,?_,?_,?_⟩
 .unfold gm bE k9;simp only[a.2,af];unfold bC;cases decide (d.num*(⟨0,1⟩:au).den<(⟨0,1⟩:au).num*d.den)<;>rfl
 .unfold gv;simp only[a.1,af];unfold bC;cases decide (d.num*(⟨0,1⟩:au).den<(⟨0,1⟩:au).num*d.den)<;>rfl
 .cases bC d ⟨0,1⟩
  .exact hd
  .exact (Dc F hs).mono (by decide) (by decide)
theorem De {f:Nat->bw->au->Option (Fl au au)}(h:f=nk\/f=nq){e:au}(he:SR e):
  ∃st m,kr u s=some st/\bE f 0 st e=some (.nx m)/\SR m/\((lz u s=some (⟨0,0⟩,false)/\m=e)\/∃b,lz u s=some (b,true)/\gv e b=some m):=by
 rcases u6 F hs with ⟨_,h1,h2⟩|⟨st,b,h1,h2,h3⟩
 .exact ⟨[],e,h1,rfl,he,.inl ⟨h2,rfl⟩⟩
 .have a:∀x∈st,SR x.high:=fun x d=>(h3.le x d).2.1
  obtain ⟨k1,i⟩:=Jx h a he
  refine ⟨st,_,h1,k1,i,.inr ⟨b,h2,?_⟩⟩
  rw[r4 he h3.sm]
  obtain ⟨c,l,rfl⟩:∃c l,st=c::l:=by
   cases st with
   |nil=>exact absurd rfl h3.ne
   |cons c l=>exact ⟨c,l,rfl⟩
  have g:=a c (List.mem_cons_self ..)
  have e1:b=foldI (fun _ (x:bw) st=>cj st x.high) 0 l c.high:=by rw[h3.yY];exact yZ l 0 c
  have e2:=C9 he g l c.high (fun x d=>a x (List.mem_cons_of_mem _ d)) g 1 0
  congr 1
  rw[e1,<-e2]
  rfl
theorem y2:∃r,lf u s=some r/\rQ u s=some r/\Sm r 40000000000 64000000:=by
 obtain ⟨c,h1,h2,h3,i⟩:=pI F hs;have e2:c.high=(cE u s).2:=by rw[<-h2]
 have p:SR (⟨u.bH,1⟩:au):=(rY F hs).mono (by decide) (by decide);unfold lf rQ;rw[h1,i];simp only[af,uY,<-e2,(jb h3 p).1,(jb h3 p).2];cases bC c.high ⟨u.bH,1⟩ with
 |true=>
  simp only[cond_true];obtain ⟨st,m,t1,t2,t3,t4⟩:=De F hs (.inl rfl) (f:=nk) h3;obtain ⟨d,d1,d2,d3⟩:=Db F hs p t3;obtain ⟨z,g,a,e⟩:=Dd F hs d3;simp only[t1,t2,aC,d1,g];rcases t4 with ⟨k1,rfl⟩|⟨b,k1,h⟩
  .simp only[k1,cond_false,d2,a];exact ⟨z,rfl,rfl,e⟩
  .simp only[k1,cond_true,h,d2,a];exact ⟨z,rfl,rfl,e⟩
 |false=>
  simp only[cond_false];obtain ⟨st,m,t1,t2,t3,t4⟩:=De F hs (.inr rfl) (f:=nq) p;obtain ⟨d,d1,d2,d3⟩:=Db F hs h3 t3;obtain ⟨z,g,a,e⟩:=Dd F hs d3;simp only[t1,t2,aC,d1,g];rcases t4 with ⟨k1,rfl⟩|⟨b,k1,h⟩
  .simp only[k1,cond_false,d2,a];exact ⟨z,rfl,rfl,e⟩
  .simp only[k1,cond_true,h,d2,a];exact ⟨z,rfl,rfl,e⟩
theorem Jy:∃b,gq u s=some b/\uN u s=some b:=by
 obtain ⟨r,h1,h2,h3⟩:=y2 F hs;have c:Sm u.aO 20 20:=⟨by have:=F.num;omega,by have:=F.den;omega,by have:=F.den;omega⟩
 have a:=nU c h3 (by decide) (by decide);unfold gq uN;simp only[h1,h2,a.1,a.2,af];exact ⟨_,rfl,rfl⟩
end
section
variable (u:aj)(h0:u.ax.length<=20)(h1:u.props.length<=20)(h2:u.an.length<=20)(h3:u.told.length<=20)(s:aP)
include h0 h1 h2 h3
theorem Jz:(∃c,c≠0/\ek u [eK s]=some (pH,c)/\uI u s=some c)\/
  (Fit u/\((1<=s.back/\s.back<=20)/\0<=s.high/\s.high<=60)/\ek u [eK s]=some (u,0)/\uI u s=some 0):=by
 obtain ⟨e,c,a⟩:=CQ u h0 h1 h2 h3
 unfold uI
 rw[<-e,a]
 by_cases b:c=0
 .subst b
  have F:=CR u h0 a
  have hb:eK s u=some (mo s):=by rw[CX];exact yT s
  rw[yR a hb,yT]
  simp only[af,bne_self_eq_false,cond_false]
  by_cases d:mo s=0
  .rw[d]
   exact .inr ⟨F,Jq d,rfl,rfl⟩
  .have:(mo s != 0)=true:=by simpa using d
   rw[this]
   exact .inl ⟨_,d,rfl,rfl⟩
 .rw[Jo _ a b]
  have:(c != 0)=true:=by simpa using b
  simp only[af,this,cond_true]
  exact .inl ⟨c,b,rfl,rfl⟩
theorem JA:∃r,lp u s=some r/\CG u s=some r:=by
 unfold lp CG;rcases Jz u h0 h1 h2 h3 s with ⟨c,d,e1,e2⟩|⟨F,hs,e1,e2⟩
 .have:(c != 0)=true:=by simpa using d
  simp only[e1,e2,af,this,cond_true];exact ⟨_,rfl,rfl⟩
 .simp only[e1,e2,af,bne_self_eq_false,cond_false];rcases u6 F hs with ⟨_,k1,a⟩|⟨st,b,k1,a,e⟩
  .simp only[k1,a];exact ⟨_,rfl,rfl⟩
  .obtain ⟨c,l,rfl,m,f,g⟩:=C8 F hs e;simp only[k1,a];have z:((((c::l).length:Nat):Int)==0)=false:=by simp;omega
   have y:e8 (c::l) 1 (((c::l).length:Nat):Int)=some l:=by
    unfold e8;rw[if_pos (by simp only[List.length_cons];omega)];simp
   rw[z];simp only[cond_false];rw[show bh (c::l) 0=some c from rfl,y];simp only[f];rw[g];exact ⟨_,rfl,rfl⟩
end
def r5 (a:(List (List Int)))(b:Int)(c:bO)(st:((List (List Int))×Int)):Option (Fl ((List (List Int))×Int) (List (List Int))):=
 cond (decide (st.2<=c.high.high)) (af (bh a b) fun d=>af (cG ([]:List Int) d) fun e=>af (cG e ([st.2])) fun f=>af (cG st.1 ([f])) fun g=>some (.nx (g,(IntKind.i64.wrap (st.2+1))))) (some (.bk (st.1,st.2)))
def r6 (u0:aj)(a:(List (List Int)))(c:Int)(st:((List (List Int))×Int)):Option (Fl ((List (List Int))×Int) (List (List Int))):=
 cond (decide (st.2<(a.length:Int))) (af (bh u0.an c) fun b=>af (aU (r5 a st.2 b) fu (st.1,b.high.low)) fun o=>aC o (fun d=>some (.nx (d.1,(IntKind.i64.wrap (st.2+1))))) (fun _ _=>none) (fun r=>some (.rt r))) (some (.bk (st.1,st.2)))
def u7 (u0:aj)(st:((List (List Int))×Int)):Option (Fl ((List (List Int))×Int) (List (List Int))):=
 cond (decide (st.2<(u0.an.length:Int))) (af (aU (r6 u0 st.1 st.2) fu (([]:List (List Int)),0)) fun o=>aC o (fun a=>some (.nx (a.1,(IntKind.i64.wrap (st.2+1))))) (fun _ _=>none) (fun r=>some (.rt r))) (some (.bk (st.1,st.2)))
def u9 (u0:aj)(a:(List (List Int)))(st:((List (List Int))×Int)):Option (Fl ((List (List Int))×Int) (List (List Int))):=
 cond (decide (st.2<(a.length:Int))) (af (bh a st.2) fun b=>af (yK u0 b) fun c=>cond (c) (af (cG st.1 ([b])) fun d=>some (.nx (d,(IntKind.i64.wrap (st.2+1))))) (some (.nx (st.1,(IntKind.i64.wrap (st.2+1)))))) (some (.bk (st.1,st.2)))
def vb (u0:aj):Option (List (List Int)):=
 af (aU (u7 u0) fu (([([]:(List Int))]),0)) fun o=>aC o (fun a=>af (aU (u9 u0 a.1) fu (([]:List (List Int)),0)) fun o=>aC o (fun b=>some b.1) (fun _ _=>none) (fun r=>some r)) (fun _ _=>none) (fun r=>some r)
def je {α ρ:Type}(t:Nat->α->Option ρ):Nat->List α->Option ρ
 |_,[]=>none
 |i,x::l=>match t i x with
  |some r=>some r
  |none=>je t (i+1) l
def mw {σ ρ:Type}(o:Option ρ)(s:σ):Fl σ ρ:=match o with
 |some r=>.rt r
 |none=>.nx s
theorem vc {α σ ρ:Type}{f:Nat->α->σ->Option (Fl σ ρ)}{t:Nat->α->Option ρ}:∀(l:List α) (i:Nat) (s:σ),(∀j x s,l[j]?=some x->f (i+j) x s=some (mw (t (i+j) x) s))->bE f i l s=some (mw (je t i l) s)
 |[],i,s,_=>rfl
 |x::l,i,s,h=>by
  have h0:=h 0 x s rfl
  simp only[Nat.add_zero] at h0
  unfold bE je
  rw[h0]
  cases ht:t i x with
  |some r=>rfl
  |none=>
   show bE f (i+1) l s=_
   exact vc l (i+1) s fun j y s a=>by
    have:=h (j+1) y s (by simpa using a)
    rwa [show i+(j+1)=i+1+j by omega] at this
theorem Df {α σ ρ:Type}{f:σ×Int->Option (Fl (σ×Int) ρ)}{t:Nat->α->Option ρ}(l:List α)(h:∀(i:Nat) x s,l[i]?=some x->f (s,(i:Int))=some (mw (t i x) (s,((i+1:Nat):Int))))(a:∀s,f (s,(l.length:Int))=some (.bk (s,(l.length:Int)))):
  ∀(k i n:Nat) (s:σ),i+k=l.length->k<n->aU f n (s,(i:Int))=some (mw (je t i (l.drop i)) (s,(l.length:Int)))
 |0,i,n+1,s,hi,_=>by
  obtain rfl:i=l.length:=by omega
  unfold aU
  rw[a,List.drop_length]
  rfl
 |k+1,i,n+1,s,hi,d=>by
  have b:i<l.length:=by omega
  have c:l[i]?=some l[i]:=List.getElem?_eq_getElem b
  unfold aU
  rw[h i _ s c,List.drop_eq_getElem_cons b]
  unfold je
  cases ht:t i l[i] with
  |some r=>rfl
  |none=>exact Df l h a k (i+1) n s (by omega) (by omega)
theorem Dg {α σ ρ:Type}{f:σ×Int->Option (Fl (σ×Int) ρ)}{t:Nat->α->Option ρ}(l:List α)(a:l.length<=1000)(h:∀(i:Nat) x s,l[i]?=some x->f (s,(i:Int))=some (mw (t i x) (s,((i+1:Nat):Int))))(b:∀s,f (s,(l.length:Int))=some (.bk (s,(l.length:Int))))(s:σ):
  aU f fu (s,0)=some (mw (je t 0 l) (s,(l.length:Int))):=by
 have:=Df l h b l.length 0 fu s (by omega) (Nat.lt_of_le_of_lt a (by decide))
 simpa using this
theorem Dh {α ρ:Type}{g:α->Bool}{r:ρ}:∀(l:List α) (i:Nat),je (fun _ x=>if g x then none else some r) i l=if l.all g then none else some r
 |[],_=>rfl
 |x::l,i=>by
  unfold je
  cases h:g x with
  |false=>simp[h]
  |true=>
   simp only[h,if_true,List.all_cons,Bool.true_and]
   exact Dh l (i+1)
theorem ve {α:Type}{g:α->Bool}:∀(l:List α) (i:Nat),∃r,je (fun i x=>if g x then some (i:Int) else none) i l=r/\decide (0<=r.getD (-1))=l.any g
 |[],_=>⟨none,rfl,rfl⟩
 |x::l,i=>by
  unfold je
  cases h:g x with
  |true=>exact ⟨_,rfl,by simp[h]⟩
  |false=>
   obtain ⟨r,h1,h2⟩:=ve l (i+1) (g:=g)
   exact ⟨r,by simpa using h1,by simpa [h] using h2⟩
theorem gw {α:Type}{l:List α}{i:Nat}{x:α}(h:l[i]?=some x):bh l (i:Int)=some x:=by
 unfold bh;rw[if_pos (by omega)];simpa using h
theorem y3 {α:Type}{l:List α}{i:Int}{x:α}(h0:0<=i)(h:l[i.toNat]?=some x):bh l i=some x:=by
 unfold bh;rw[if_pos h0,h]
theorem contains_eq {f:bA->Option Bool}{g:bA->Bool}(l:List bA)(h:∀x,x∈l->f x=some (g x)):rf l f=some (l.any g):=by
 unfold rf tQ
 rw[vc (t:=fun i x=>if g x then some (i:Int) else none) l 0 0 fun j x s a=>by
  unfold tP;rw[h x (List.mem_of_getElem? a)]
  cases g x<;>rfl]
 obtain ⟨r,h1,h2⟩:=ve (g:=g) l 0;rw[h1,<-h2];cases r<;>rfl
def dB (u:aj)(s:aP):Bool:=(gq u s).getD false
theorem vf {u:aj}(F:Fit u){s:aP}(hs:(1<=s.back/\s.back<=20)/\0<=s.high/\s.high<=60):gq u s=some (dB u s)/\uN u s=some (dB u s):=by
 obtain ⟨b,h1,h2⟩:=Jy F hs;have e:dB u s=b:=by unfold dB;rw[h1];rfl
 rw[e];exact ⟨h1,h2⟩
def cQ (u:aj)(i:Nat)(n:Int):aP:=⟨(u.an[i]?.map (·.back)).getD 0,n⟩
structure pK (u:aj)(h:List Int):Prop where
 len:h.length=u.an.length
 Di:∀(i:Nat) e,u.an[i]?=some e->∃n,h[i]?=some n/\e.high.low<=n/\n<=e.high.high
def lD (u:aj)(h:List Int)(t:bA):Bool:=dB u (cQ u t.aS.toNat (h[t.aS.toNat]?.getD 0))==t.bt
def fI (u:aj)(h:List Int):Bool:=u.told.all (lD u h)
theorem Dj {u:aj}{h:List Int}(H:pK u h){i:Int}(h0:0<=i)(h1:i<u.an.length)(F:Fit u):∃e n,u.an[i.toNat]?=some e/\h[i.toNat]?=some n/\cQ u i.toNat n=⟨e.back,n⟩/\(1<=e.back/\e.back<=20)/\0<=n/\n<=60:=by
 have c:u.an[i.toNat]?=some (u.an[i.toNat]'(by omega)):=List.getElem?_eq_getElem _;obtain ⟨n,d,a,b⟩:=H.Di _ _ c;obtain ⟨c1,c2,c3,c4,f⟩:=F.aS _ _ c;refine ⟨_,n,c,d,?_,c1,by omega,by omega⟩;unfold cQ;rw[c];rfl
theorem JB {u:aj}(F:Fit u){h:List Int}(H:pK u h):yK u h=some (fI u h):=by
 unfold yK;rw[Dg (t:=fun _ x=>if lD u h x then none else some false) u.told (by have:=F.told;omega) (s:=false) (fun i x s c=>?_) (fun s=>?_)]
 .rw[Dh];unfold fI;cases u.told.all (lD u h)<;>rfl
 .obtain ⟨a,b⟩:=F.lB i x c;obtain ⟨e,n,h1,h2,h3,d,f⟩:=Dj H a b F;have g:i<u.told.length:=(List.getElem?_eq_some_iff.1 c).1;have ht:=F.told;unfold yJ CC;rw[show decide (((i:Nat):Int)<(u.told.length:Int))=true by simp;omega];simp only[cond_true,gw c,af,y3 a h1,y3 a h2,(vf F (s:=⟨e.back,n⟩) ⟨d,f⟩).2];rw[b9 (n:=(i:Int)+1) (by omega)];unfold lD;rw[h2];show _=some (mw (if dB u (cQ u x.aS.toNat n)==x.bt then none else some false) (s,((i+1:Nat):Int)));rw[h3];cases dB u ⟨e.back,n⟩==x.bt<;>rfl
 .unfold yJ;rw[show decide ((u.told.length:Int)<(u.told.length:Int))=false by simp];rfl
def cR (l:List Int):aZ:=⟨l[0]?.getD 0,l[1]?.getD 0,l[2]?.getD 0⟩
theorem y4 {l:List Int}{i:Int}{n:Int}(h0:0<=i)(h1:i<3)(h:l[i.toNat]?=some n):aZ.get (cR l) i=some n:=by
 unfold aZ.get cR;rcases (show i=0\/i=1\/i=2 by omega) with rfl|rfl|rfl<;>simp at h<;>simp[h]
theorem JC {u:aj}(F:Fit u){h:List Int}(H:pK u h):oT u (cR h)=some (fI u h):=by
 unfold oT
 rw[contains_eq (g:=fun t=>!lD u h t) u.told fun x c=>by
  obtain ⟨i,hi⟩:=List.mem_iff_getElem?.1 c;obtain ⟨a,b⟩:=F.lB i x hi;obtain ⟨e,n,h1,h2,h3,d,f⟩:=Dj H a b F;have:=F.an;unfold ri iC;simp only[y4 a (by omega) h2,af,y3 a h1,(vf F (s:=⟨e.back,n⟩) ⟨d,f⟩).1];unfold lD;rw[h2];show _=some (!(dB u (cQ u x.aS.toNat n)==x.bt))
  rw[h3]]
 simp only[af];unfold fI;rw[show (u.told.any fun t=>!lD u h t)=!(u.told.all (lD u h)) by rw[List.all_eq_not_any_not];simp];simp
theorem y5 {α σ ρ:Type}{f:Nat->α->σ->Option (Fl σ ρ)}{I:Nat->σ->Prop}:∀(l:List α) (i:Nat) (s:σ),I i s->(∀j x s,l[j]?=some x->I (i+j) s->∃s',f (i+j) x s=some (.nx s')/\I (i+j+1) s')->
  ∃s',bE f i l s=some (.nx s')/\I (i+l.length) s'
 |[],i,s,hs,_=>⟨s,rfl,hs⟩
 |x::l,i,s,hs,h=>by
  obtain ⟨s1,h0,h1⟩:=h 0 x s rfl hs
  simp only[Nat.add_zero] at h0 h1
  unfold bE
  rw[h0]
  have:=y5 l (i+1) _ h1 fun j y s a hs=>by
   have:=h (j+1) y s (by simpa using a) (by rwa [show i+(j+1)=i+1+j by omega])
   rwa [show i+(j+1)=i+1+j by omega] at this
  rwa [show i+1+l.length=i+(x::l).length by simp;omega] at this
theorem y6 {a b c:au}(d:0<a.den)(hb:0<b.den)(e:0<c.den)(h1:bC b a=false)(h2:bC b c=true):bC a c=true:=by
 cases h:bC a c with
 |true=>rfl
 |false=>
  have:=pJ hb d e h1 h;rw[h2] at this;cases this
section
variable {u:aj}{s:aP}(F:Fit u)(hs:(1<=s.back/\s.back<=20)/\0<=s.high/\s.high<=60)
include F hs
structure y7 (u:aj)(s:aP)(i:Nat)(st:Int×au):Prop where
 there:∃(n:Nat) (p:bY),n<i/\st=((n:Int),ee u s p)/\u.ax[n]?=some p/\∀(j:Nat) q,j<n->u.ax[j]?=some q->bC (ee u s q) (ee u s p)=true
 TQ:∀(j:Nat) q,j<i->u.ax[j]?=some q->bC st.2 (ee u s q)=false
theorem Dk:∀(l:List bY) (i:Nat) (st:Int×au),(∀(j:Nat) x,l[j]?=some x->u.ax[i+j]?=some x)->y7 u s i st->y7 u s (i+l.length) (foldI (gB u s) i l st)
 |[],i,st,_,h=>h
 |x::l,i,st,g,h=>by
  have b:u.ax[i]?=some x:=g 0 x rfl
  have hd:∀(j:Nat) q,u.ax[j]?=some q->0<(ee u s q).den:=fun j q a=>(uX u F s hs j q a).den.1
  unfold foldI
  have key:y7 u s (i+1) (gB u s i x st):=by
   obtain ⟨⟨n,p,o,e,d,k⟩,hm⟩:=h
   subst e
   unfold gB
   cases c:bC (ee u s p) (ee u s x) with
   |true=>
    simp only[c,cond_true]
    refine ⟨⟨i,x,by omega,rfl,b,fun j q f a=>?_⟩,fun j q f a=>?_⟩
    .exact y6 (hd j q a) (hd n p d) (hd i x b) (hm j q f a) c
    .by_cases e:j=i
     .subst e;rw[b] at a;cases a;exact jd _
     .exact yV (y6 (hd j q a) (hd n p d) (hd i x b) (hm j q (by omega) a) c)
   |false=>
    simp only[c,cond_false]
    refine ⟨⟨n,p,by omega,rfl,d,k⟩,fun j q f a=>?_⟩
    by_cases e:j=i
    .subst e;rw[b] at a;cases a;exact c
    .exact hm j q (by omega) a
  have:=Dk l (i+1) _ (fun j y m=>by have:=g (j+1) y (by simpa using m);rwa [show i+(j+1)=i+1+j by omega] at this) key
  rwa [show i+1+l.length=i+(x::l).length by simp;omega] at this
theorem JD:∃(n:Nat) (p:bY),cE u s=((n:Int),ee u s p)/\u.ax[n]?=some p/\(∀(j:Nat) q,u.ax[j]?=some q->bC (ee u s p) (ee u s q)=false)/\∀(j:Nat) q,j<n->u.ax[j]?=some q->bC (ee u s q) (ee u s p)=true:=by
 have c:=F.ax;cases he:u.ax with
 |nil=>rw[he] at c;simp at c
 |cons x l=>
  have d:u.ax[0]?=some x:=by rw[he];rfl
  have hb:=Dk F hs l 1 (0,ee u s x) (fun j y f=>by rw[he,Nat.add_comm];simpa using f)
   ⟨⟨0,x,by omega,rfl,d,fun j q b=>absurd b (by omega)⟩,fun j q b a=>by
    obtain rfl:j=0:=by omega
    rw[d] at a;cases a;exact jd _⟩
  have ev:cE u s=foldI (gB u s) 1 l (0,ee u s x):=by unfold cE;rw[he]
  obtain ⟨⟨n,p,i,e,g,h⟩,hm⟩:=hb;rw[e] at hm ev;refine ⟨n,p,ev,by rw[<-he];exact g,fun j q a=>?_,fun j q b a=>h j q b (by rw[he];exact a)⟩;refine hm j q ?_ (by rw[he];exact a);have:=(List.getElem?_eq_some_iff.1 a).1;simp at this;omega
end
theorem Dl (n:Int)(d:Nat)(hd:0<d):bF (bF n d).num (bF n d).den.toNat=bF n d:=by
 obtain ⟨h1,h2⟩:=nS n d hd;refine yS (by omega) hd ?_;rw[show (((bF n d).den.toNat:Nat):Int)=(bF n d).den by omega];exact h1
theorem Dm {u:aj}(F:Fit u):∀(n i:Nat) (x y:bY),u.ax[i]?=some x->u.ax[i+1+n]?=some y->x.aM<y.aM
 |0,i,x,y,b,a=>F.nP i x y b a
 |n+1,i,x,y,b,a=>by
  have c:i+1+(n+1)<u.ax.length:=(List.getElem?_eq_some_iff.1 a).1
  have hm:u.ax[i+1+n]?=some (u.ax[i+1+n]'(by omega)):=List.getElem?_eq_getElem _
  have h1:=Dm F n i x _ b hm
  have h2:=F.nP _ _ y hm (by rw[<-a];congr 1)
  omega
def e4 (a b:au):au:=bF (a.num*b.den - b.num*a.den) (a.den*b.den).toNat
def gx (u:aj)(s:aP):au:=foldI (gM u s) 0 u.props ⟨0,0⟩
def nW (u:aj)(s:aP):au:=cond (bC (cE u s).2 ⟨u.bH,1⟩) ⟨u.bH,1⟩ (cE u s).2
def r7 (u:aj)(s:aP):au:=cond (bC (cE u s).2 ⟨u.bH,1⟩) (cE u s).2 ⟨u.bH,1⟩
def mz (u:aj)(s:aP):au:=cond (decide (0<(u.props.length:Int))) (cj (r7 u s) (gx u s)) (r7 u s)
def dD (u:aj)(s:aP):au:=cj (e4 (nW u s) (mz u s)) ⟨0,1⟩
theorem JE:Sm (⟨0,1⟩:au) 1 1:=⟨by decide,by decide,by decide⟩
theorem JG {a b:au}(c:SR a)(hb:SR b):Sm (e4 a b) 40000000000 64000000:=by
 have h1:=dL c.num (show b.den.natAbs<=8000 by have:=hb.den;omega);have h2:=dL hb.num (show a.den.natAbs<=8000 by have:=c.den;omega);have h3:=dL (show a.den.natAbs<=8000 by have:=c.den;omega) (show b.den.natAbs<=8000 by have:=hb.den;omega);have d:0<a.den*b.den:=Int.mul_pos c.den.1 hb.den.1;have:=jQ (a.num*b.den - b.num*a.den) (a.den*b.den).toNat (by omega);unfold e4;exact ⟨Nat.le_trans this.num (by omega),this.den.1,by have:=this.den.2;omega⟩
theorem Dn {a b:au}(c:SR a)(hb:SR b):kC a b=some (e4 a b):=yQ c hb (by decide) (by decide)
theorem JH {d:au}(hd:Sm d 40000000000 64000000):gv d ⟨0,1⟩=some (cj d ⟨0,1⟩):=by
 have a:=nU hd JE (by decide) (by decide);unfold gv;simp only[a.1,af];unfold cj bC;cases decide (d.num*(⟨0,1⟩:au).den<(⟨0,1⟩:au).num*d.den)<;>rfl
section
variable {u:aj}{s:aP}(F:Fit u)(hs:(1<=s.back/\s.back<=20)/\0<=s.high/\s.high<=60)
include F hs
theorem vg:SR (⟨u.bH,1⟩:au):=(rY F hs).mono (by decide) (by decide)
theorem JI:SR (nW u s):=by
 unfold nW;cases bC (cE u s).2 ⟨u.bH,1⟩
 .exact rZ F hs
 .exact vg F hs
theorem Dp:SR (r7 u s):=by
 unfold r7;cases bC (cE u s).2 ⟨u.bH,1⟩
 .exact vg F hs
 .exact rZ F hs
theorem y8 (h:u.props≠[]):SR (gx u s):=by
 rcases u6 F hs with ⟨h0,_,_⟩|⟨st,b,_,h2,h3⟩
 .exact absurd h0 h
 .rw[u5 F hs] at h2;have e:gx u s=b:=(Prod.mk.inj (Option.some.inj h2)).1;rw[e];exact h3.sm
theorem Dq:SR (mz u s):=by
 unfold mz;cases h:decide (0<(u.props.length:Int)) with
 |false=>exact Dp F hs
 |true=>
  refine lC (Dp F hs) (y8 F hs fun e=>?_);rw[e] at h;simp at h
theorem JJ:rQ u s=some (dD u s):=by
 obtain ⟨c,h1,h2,h3,g⟩:=pI F hs;have es:SR (cE u s).2:=rZ F hs;have ps:=vg F hs;unfold rQ;rw[g,u5 F hs];simp only[af,(jb es ps).1];have h:=Dq F hs;have i:=JI F hs;have key:∀a b:au,SR a->SR b->af (kC a b) (fun x=>af (gv x ⟨0,1⟩) fun y=>some y)=some (cj (e4 a b) ⟨0,1⟩):=fun a b f hb=>by
  rw[Dn f hb];simp only[af];rw[JH (JG f hb)]
 simp only[af] at key;unfold dD mz nW r7;cases j:bC (cE u s).2 ⟨u.bH,1⟩ with
 |true=>
  simp only[cond_true];cases d:decide (0<(u.props.length:Int)) with
  |true=>
   have cs:=y8 F hs (fun e=>by rw[e] at d;simp at d);simp only[cond_true];rw[show foldI (gM u s) 0 u.props ⟨0,0⟩=gx u s from rfl,r4 es cs];exact key _ _ ps (lC es cs)
  |false=>exact key _ _ ps es
 |false=>
  simp only[cond_false];cases d:decide (0<(u.props.length:Int)) with
  |true=>
   have cs:=y8 F hs (fun e=>by rw[e] at d;simp at d);simp only[cond_true];rw[show foldI (gM u s) 0 u.props ⟨0,0⟩=gx u s from rfl,r4 ps cs];exact key _ _ es (lC ps cs)
  |false=>exact key _ _ es ps
theorem y9:lf u s=some (dD u s):=by
 obtain ⟨r,h1,h2,_⟩:=y2 F hs;rw[JJ F hs] at h2;rw[h1,<-h2]
end
structure Vl (r:au)(n d:Int):Prop where
 eq:r.num*d=n*r.den
 d:0<d
 den:0<r.den
theorem lt_mul {a b c:Int}(d:0<c):(a*c<b*c)↔a<b:=Int.mul_lt_mul_right d
theorem Vl.lt {r a:au}{n d e b:Int}(h:Vl r n d)(c:Vl a e b):bC r a=decide (n*b<e*d):=by
 unfold bC;rw[decide_eq_decide];have e1:r.num*a.den*(d*b)=n*b*(r.den*a.den):=by have:=h.eq;have:=c.eq;grind
 have e2:a.num*r.den*(d*b)=e*d*(r.den*a.den):=by have:=h.eq;have:=c.eq;grind
 rw[<-lt_mul (Int.mul_pos h.d c.d),e1,e2,lt_mul (Int.mul_pos h.den c.den)]
theorem Vl.neg {r:au}{n d:Int}(h:Vl r n d):r.num<0↔n<0:=by
 have h0:Vl ⟨0,1⟩ 0 1:=⟨rfl,by decide,by decide⟩
 have:=h.lt h0;unfold bC at this;simpa [decide_eq_decide] using this
theorem r8 {α:Type}{t:Nat->α->Option Int}:∀(l:List α) (i:Nat),(∀j x,l[j]?=some x->t (i+j) x=none)->dK t i l=none
 |[],i,_=>rfl
 |y::l,i,h=>by
  unfold dK
  have h0:=h 0 y rfl
  rw[Nat.add_zero] at h0
  rw[h0]
  exact r8 l (i+1) fun j x a=>by
   have:=h (j+1) x (by simpa using a)
   rwa [show i+(j+1)=i+1+j by omega] at this
theorem JK {u:aj}(h:dZ u=some 0):gV u=0:=by
 have a:jJ u=some 0:=h;unfold jJ at a;rw[uQ] at a;simp only[af] at a;cases hg:(gV u != 0) with
 |true=>rw[hg] at a;exact Option.some.inj a
 |false=>simpa using hg
theorem JL {u:aj}(hg:gV u=0)(F:Fit u):dZ u=some 0:=by
 have h:=F.ax;have i:=F.bB;have k:=F.props;have l:=F.an;have m:=F.told;show jJ u=some 0;unfold jJ;rw[uQ,hg];show mc u=some 0;unfold mc;rw[(yL u (by omega)).1,r8 u.ax 0 fun j x c=>?_,dR.2 (show (2:Int)<=(u.ax.length:Int)/\(u.ax.length:Int)<=5 by omega)]
 .show mb u=some 0;unfold mb;obtain ⟨f,d⟩:=yN u (by omega) (by omega);rw[uT u f d,r8 u.props 0 fun j x c=>?_,show decide (3<(u.props.length:Int))=false by simp;omega]
  .show l9 u=some 0;unfold l9;rw[uS,r8 u.an 0 fun j x c=>?_,dR.2 (show (1:Int)<=(u.an.length:Int)/\(u.an.length:Int)<=3 by omega)]
   .show l8 u=some 0;unfold l8 oP;rw[uR,r8 u.told 0 fun j x c=>?_,show decide (3<(u.told.length:Int))=false by simp;omega]
    .rfl
    .obtain ⟨a,b⟩:=F.lB j x c;unfold jP iI;rw[b9 (by omega),dR.2 ⟨a,by omega⟩];rfl
   .obtain ⟨a,g,b2,b3,b4⟩:=F.aS j x c;unfold iH lA;rw[dR.2 a,b9 (by omega),show decide (3<=x.high.high - x.high.low)=false by simp;omega,decide_eq_true g,decide_eq_true b2,decide_eq_true b3];rfl
  .obtain ⟨a,b⟩:=F.prop j x c;have:=(d x.place).1;rw[a] at this;unfold iG;rw[<-Option.some.inj this,dR.2 b];rfl
 .obtain ⟨a,b⟩:=F.gQ j x c;unfold gP;rw[b9 (by omega),dR.2 a,dR.2 b];simp only[cond_true,Nat.zero_add];cases j with
  |zero=>rfl
  |succ j=>
   have n:=(List.getElem?_eq_some_iff.1 c).1;have e:u.ax[j]?=some (u.ax[j]'(by omega)):=List.getElem?_eq_getElem _;have:=F.nP j _ x e c;simp only[e];rw[show decide (x.aM<=(u.ax[j]'(by omega)).aM)=false by simp;omega];rfl
def wp (u:aj)(P:List bL):aj:=⟨u.bB,u.bH,u.aO,u.ax,P,u.an,u.told⟩
theorem vh {u:aj}(F:Fit u){P:List bL}(a:P.length<=3)(h:∀x,x∈P->eL u x.place=some true/\1<=x.dg/\x.dg<=20):Fit (wp u P):=
 ⟨F.bB,F.bH,F.den,F.num,F.ax,F.gQ,F.nP,a,fun i x b=>h x (List.mem_of_getElem? b),F.an,F.aS,F.told,F.lB⟩
theorem Dr (u:aj)(P:List bL)(s:aP):∀(l:List bL) (i:Nat) (b:au),foldI (gM (wp u P) s) i l b=foldI (gM u s) i l b
 |[],_,_=>rfl
 |x::l,i,b=>by
  unfold foldI
  exact Dr u P s l (i+1) _
section
variable {u:aj}{s:aP}(F:Fit u)(hs:(1<=s.back/\s.back<=20)/\0<=s.high/\s.high<=60)
include F hs
theorem Ds {p h b:Int}(d:eL u p=some true)(e:h<=b):bC (c6 u ⟨p,b⟩) (c6 u ⟨p,h⟩)=false/\0<(c6 u ⟨p,h⟩).den/\0<(c6 u ⟨p,b⟩).den:=by
 obtain ⟨a,z,f,g,c,-⟩:=rX u F p;rw[d] at c;have hb:=dR.1 (Option.some.inj c).symm;obtain ⟨r,h1,-,h3⟩:=CV u F p a z f g hb.1 hb.2;have hd:=h3.den.1;have key:∀k:Int,c6 u ⟨p,k⟩=bF (r.num+k*r.den) r.den.toNat:=fun k=>by unfold c6;simp only[h1]
 have v:∀k:Int,Vl (c6 u ⟨p,k⟩) (r.num+k*r.den) r.den:=fun k=>by
  have:=nS (r.num+k*r.den) r.den.toNat (by omega);rw[<-key k,show ((r.den.toNat:Nat):Int)=r.den by omega] at this;exact ⟨this.1,hd,this.2⟩
 refine ⟨?_,(v h).den,(v b).den⟩;rw[(v b).lt (v h),decide_eq_false_iff_not,Int.not_lt];have:=Int.mul_le_mul_of_nonneg_right e (Int.le_of_lt (Int.mul_pos hd hd));grind
theorem JM {p h:Int}(b:eL u p=some true):0<(dj u s ⟨p,h⟩).den:=by
 obtain ⟨-,h2,-⟩:=Ds F hs b (Int.le_refl h);obtain ⟨a,z,d,e,c,-⟩:=rX u F p;rw[b] at c;have hb:=dR.1 (Option.some.inj c).symm;have:=F.gQ 0 a d;have f:0<=p:=by omega
 have hd:0<(c6 u ⟨p,h⟩).den*(p+s.back):=Int.mul_pos h2 (by omega);exact (nS _ ((c6 u ⟨p,h⟩).den*(p+s.back)).toNat (by omega)).2
end
def cH (b:dn):List Int:=(List.range (b.high - b.low+1).toNat).map fun k=>b.low+(k:Nat)
theorem JN {b:dn}{i:Nat}{x:Int}(h:(cH b)[i]?=some x):x=b.low+i/\b.low+i<=b.high:=by
 unfold cH at h;rw[List.getElem?_map,Option.map_eq_some_iff] at h;obtain ⟨k,a,rfl⟩:=h;obtain ⟨h1,h2⟩:=List.getElem?_eq_some_iff.1 a;simp at h1 h2;subst h2;exact ⟨rfl,by omega⟩
theorem mA (b:dn):(cH b).length=(b.high - b.low+1).toNat:=by simp[cH]
theorem r9 {b:dn}{x:Int}:x∈cH b↔b.low<=x/\x<=b.high:=by
 unfold cH;rw[List.mem_map];constructor
 .rintro ⟨k,a,rfl⟩;rw[List.mem_range] at a;omega
 .rintro ⟨h1,h2⟩;exact ⟨(x - b.low).toNat,by rw[List.mem_range];omega,by omega⟩
def lE (b:dn)(all:List (List Int)):List (List Int):=all.flatMap fun p=>(cH b).map fun n=>p++[n]
def dx (p:List Int):List bO->List (List Int)
 |[]=>[p]
 |e::l=>(cH e.high).flatMap fun n=>dx (p++[n]) l
def bM (u:aj):List (List Int):=(dx [] u.an).filter (fI u)
theorem nZ {α β:Type}(g:α->List β):∀(l:List α) (i:Nat) (s:List β),foldI (fun _ x s=>s++g x) i l s=s++l.flatMap g
 |[],_,s=>by simp[foldI]
 |x::l,i,s=>by
  unfold foldI
  rw[nZ g l]
  simp[List.flatMap_cons]
theorem Dt:∀(l:List bO) (i:Nat) (all:List (List Int)),foldI (fun _ (e:bO) all=>lE e.high all) i l all=all.flatMap fun p=>dx p l
 |[],_,all=>by
  unfold foldI
  show all=all.flatMap fun p=>[p]
  induction all with
  |nil=>rfl
  |cons a l ih=>rw[List.flatMap_cons,<-ih];rfl
 |e::l,i,all=>by
  unfold foldI
  rw[Dt l]
  unfold lE
  rw[List.flatMap_assoc]
  congr 1
  funext p
  rw[List.flatMap_map]
  rfl
theorem za:∀(l:List bO) (p h:List Int),h∈dx p l->h.length=p.length+l.length/\(∀(j:Nat) e,l[j]?=some e->∃n,h[p.length+j]?=some n/\e.high.low<=n/\n<=e.high.high)/\∀j,j<p.length->h[j]?=p[j]?
 |[],p,h,hm=>by
  simp only[dx,List.mem_singleton] at hm
  subst hm
  exact ⟨rfl,fun j e he=>by simp at he,fun _ _=>rfl⟩
 |e::l,p,h,hm=>by
  unfold dx at hm
  rw[List.mem_flatMap] at hm
  obtain ⟨n,b,hm⟩:=hm
  obtain ⟨h1,h2,h3⟩:=za l _ _ hm
  rw[List.length_append,List.length_singleton] at h1 h2 h3
  refine ⟨by simp;omega,fun j x a=>?_,fun j c=>?_⟩
  .cases j with
   |zero=>
    simp at a;subst a
    refine ⟨n,?_,r9.1 b⟩
    rw[Nat.add_zero,h3 _ (by omega),List.getElem?_append_right (Nat.le_refl _)]
    simp
   |succ j=>
    obtain ⟨m,hm,hb⟩:=h2 j x (by simpa using a)
    exact ⟨m,by rw[<-hm];congr 1;omega,hb⟩
  .rw[h3 j (by omega),List.getElem?_append_left c]
theorem zb {u:aj}{h:List Int}(hm:h∈dx [] u.an):pK u h:=by
 obtain ⟨h1,h2,_⟩:=za _ _ _ hm;exact ⟨by simpa using h1,fun i e he=>by simpa using h2 i e he⟩
theorem Du {b:dn}(hb:b.high - b.low<3):∀(all:List (List Int)),(lE b all).length<=all.length*3
 |[]=>by simp[lE]
 |p::all=>by
  have:=Du hb all
  unfold lE at this ⊢
  rw[List.flatMap_cons,List.length_append,List.length_map,mA,List.length_cons]
  omega
theorem g8 {α:Type}{l xs:List α}(h:l.length+xs.length<=1000000):cG l xs=some (l++xs):=by
 unfold cG;rw[if_pos h]
theorem JO {all:List (List Int)}{k:Nat}{p:List Int}{e:bO}(b:all[k]?=some p)(d:p.length<=100)(he:0<=e.high.low/\e.high.low<=e.high.high/\e.high.high<=60/\e.high.high - e.high.low<3)(s:List (List Int))(hs:s.length<=1000):
  aU (r5 all (k:Int) e) fu (s,e.high.low)=some (.nx (s++(cH e.high).map (fun n=>p++[n]),e.high.high+1)):=by
 have key:=mq (f:=r5 all (k:Int) e) (g:=fun _ x s=>s++[p++[x]]) (I:=fun i s=>s.length<=1000+i) (fun s i=>(s,e.high.low+i)) (cH e.high) (by rw[mA];omega)
  (fun i x s c h=>by
   obtain ⟨rfl,hb⟩:=JN c
   refine ⟨?_,by simp;omega⟩
   unfold r5
   rw[show decide ((s,e.high.low+(i:Int)).2<=e.high.high)=true by simpa using hb]
   simp only[cond_true,gw b,af,g8 (l:=([]:List Int)) (xs:=p) (by simp;omega),List.nil_append,g8 (l:=p) (xs:=[e.high.low+(i:Int)]) (by simp;omega),g8 (l:=s) (xs:=[p++[e.high.low+(i:Int)]]) (by simp;omega)]
   rw[b9 (n:=e.high.low+(i:Int)+1) (by omega)]
   simp;omega)
  (fun s=>by
   unfold r5
   rw[show decide ((s,e.high.low+((cH e.high).length:Int)).2<=e.high.high)=false by rw[mA];simp;omega]
   rfl) s (by omega)
 have:=key.1
 rw[nZ (fun x=>[p++[x]])] at this
 simp only[Int.add_zero] at this
 rw[this]
 congr 2
 refine Prod.ext ?_ ?_
 .simp only[List.append_cancel_left_eq]
  induction cH e.high with
  |nil=>rfl
  |cons a l ih=>simp[ih]
 .simp only[mA];omega
theorem JP {u:aj}{all:List (List Int)}{i:Nat}{e:bO}(hi:u.an[i]?=some e)(b:∀p∈all,p.length<=100)(c:all.length<=100)(he:0<=e.high.low/\e.high.low<=e.high.high/\e.high.high<=60/\e.high.high - e.high.low<3):
  aU (r6 u all (i:Int)) fu (([]:List (List Int)),0)=some (.nx (lE e.high all,(all.length:Int))):=by
 have key:=mq (f:=r6 u all (i:Int)) (g:=fun _ p s=>s++(cH e.high).map fun n=>p++[n]) (I:=fun i s=>s.length<=3*i/\i<=all.length) (fun s i=>(s,i)) all (by omega)
  (fun k p s a d=>by
   have h:k<all.length:=(List.getElem?_eq_some_iff.1 a).1
   refine ⟨?_,by simp[mA];omega,by omega⟩
   unfold r6
   rw[show decide ((s,(k:Int)).2<(all.length:Int))=true by simp;omega]
   simp only[cond_true,gw hi,af,JO a (b p (List.mem_of_getElem? a)) he s (by omega),aC]
   rw[b9 (n:=(k:Int)+1) (by omega)]
   rfl)
  (fun s=>by
   unfold r6
   rw[show decide ((s,(all.length:Int)).2<(all.length:Int))=false by simp]
   rfl) ([]:List (List Int)) ⟨by simp,by omega⟩
 have:=key.1
 rw[nZ (fun p=>(cH e.high).map fun n=>p++[n])] at this
 simpa [lE] using this
theorem Dv {u:aj}:∀(l:List (List Int)) (i:Nat) (s:List (List Int)),foldI (fun _ x s=>if fI u x then s++[x] else s) i l s=s++l.filter (fI u)
 |[],_,s=>by simp[foldI]
 |x::l,i,s=>by
  unfold foldI
  rw[Dv l]
  cases h:fI u x<;>simp[h]
theorem three (i:Nat)(h:i<=3):3 ^ i<=27:=by
 rcases (show i=0\/i=1\/i=2\/i=3 by omega) with rfl|rfl|rfl|rfl<;>decide
theorem vi {u:aj}(F:Fit u):vb u=some (bM u)/\(bM u).length<=27:=by
 have o:=F.an;have key:=mq (f:=u7 u) (g:=fun _ (e:bO) all=>lE e.high all) (I:=fun i all=>(∀p∈all,p.length=i)/\all.length<=3 ^ i/\i<=u.an.length) (fun s i=>(s,i)) u.an (by omega)
  (fun i e all hi c=>by
   obtain ⟨h1,h2,h3⟩:=c;have j:i<u.an.length:=(List.getElem?_eq_some_iff.1 hi).1;have he:=(F.aS i e hi).2;have r:=three i (by omega);have hs:=Du he.2.2.2 all;refine ⟨?_,fun p a=>?_,by rw[Nat.pow_succ];omega,by omega⟩
   .unfold u7;rw[show decide ((all,(i:Int)).2<(u.an.length:Int))=true by simp;omega];simp only[cond_true,JP hi (fun p a=>by have:=h1 p a;omega) (by omega) he,af,aC];rw[b9 (n:=(i:Int)+1) (by omega)];rfl
   .unfold lE at a;rw[List.mem_flatMap] at a;obtain ⟨q,k,a⟩:=a;rw[List.mem_map] at a;obtain ⟨n,_,rfl⟩:=a
    simp[h1 q k])
  (fun s=>by
   unfold u7;rw[show decide ((s,(u.an.length:Int)).2<(u.an.length:Int))=false by simp]
   rfl) [[]] ⟨by simp,by simp,by omega⟩
 obtain ⟨k1,b⟩:=key;rw[Dt] at k1 b;simp only[List.flatMap_cons,List.flatMap_nil,List.append_nil] at k1 b;have hlen:(dx [] u.an).length<=27:=Nat.le_trans b.2.1 (three _ (by omega));have d:=mq (f:=u9 u (dx [] u.an)) (g:=fun _ x s=>if fI u x then s++[x] else s) (I:=fun i s=>s.length<=i/\i<=(dx [] u.an).length) (fun s i=>(s,i)) (dx [] u.an) (by omega)
  (fun i h s hi c=>by
   have j:i<(dx [] u.an).length:=(List.getElem?_eq_some_iff.1 hi).1;have m:=JB F (zb (List.mem_of_getElem? hi));refine ⟨?_,by cases fI u h<;>simp<;>omega,by omega⟩;unfold u9;rw[show decide ((s,(i:Int)).2<((dx [] u.an).length:Int))=true by simp;omega];simp only[cond_true,gw hi,af,m];rw[b9 (n:=(i:Int)+1) (by omega)];cases fI u h with
   |false=>rfl
   |true=>simp only[cond_true,g8 (l:=s) (xs:=[h]) (by simp;omega)];rfl)
  (fun s=>by
   unfold u9;rw[show decide ((s,((dx [] u.an).length:Int)).2<((dx [] u.an).length:Int))=false by simp]
   rfl) ([]:List (List Int)) ⟨by simp,by omega⟩
 rw[Dv] at d;refine ⟨?_,Nat.le_trans (List.length_filter_le _ _) hlen⟩;unfold vb;rw[k1];simp only[af,aC];rw[d.1];simp only[List.nil_append];rfl
def co (h:aZ)(j:Nat):Int:=if j=0 then h.e0 else if j=1 then h.e1 else if j=2 then h.e2 else 0
theorem JQ (h:aZ){j:Nat}(a:j<3)(n:Int):∃h1,h.setAt (j:Int) n=some h1/\∀i,co h1 i=if i=j then n else co h i:=by
 rcases (show j=0\/j=1\/j=2 by omega) with rfl|rfl|rfl
 .refine ⟨{h with e0:=n},rfl,fun i=>?_⟩;unfold co;split<;>rfl
 .refine ⟨{h with e1:=n},rfl,fun i=>?_⟩;unfold co;by_cases h0:i=0<;>by_cases h1:i=1<;>simp[h0,h1]<;>omega
 .refine ⟨{h with e2:=n},rfl,fun i=>?_⟩;unfold co;by_cases h0:i=0<;>by_cases h1:i=1<;>by_cases h2:i=2<;>simp[h0,h1,h2]<;>omega
structure Ag (u:aj)(p:List Int)(h:aZ):Prop where
 at_:∀(j:Nat) n,p[j]?=some n->co h j=n
 no:∀j,u.an.length<=j->co h j=0
theorem Ag.cR {u:aj}{p:List Int}{h:aZ}(H:Ag u p h)(a:p.length=u.an.length):h=cR p:=by
 have key:∀j,co h j=p[j]?.getD 0:=fun j=>by
  cases e:p[j]? with
  |some n=>exact H.at_ j n e
  |none=>exact H.no j (by rw[<-a];exact List.getElem?_eq_none_iff.1 e)
 have b:=key 0;have k1:=key 1;have c:=key 2;cases h;unfold Go.Proofs.YtnaejeiofbpbkaaGreatDoor.cR;rw[<-b,<-k1,<-c];rfl
theorem Ag.set {u:aj}{p:List Int}{h:aZ}(H:Ag u p h)(b:p.length<u.an.length)(h3:u.an.length<=3)(n:Int):∃h1,h.setAt (p.length:Int) n=some h1/\Ag u (p++[n]) h1:=by
 obtain ⟨h1,e1,e2⟩:=JQ h (j:=p.length) (by omega) n;refine ⟨h1,e1,fun j m hm=>?_,fun j a=>?_⟩
 .rw[e2];by_cases e:j=p.length
  .subst e;rw[if_pos rfl];simpa using hm
  .rw[if_neg e];refine H.at_ j m ?_;rw[<-hm,List.getElem?_append_left];have:=(List.getElem?_eq_some_iff.1 hm).1;simp at this;omega
 .rw[e2,if_neg (by omega)];exact H.no j a
theorem Ag.cut {u:aj}{p:List Int}{n:Int}{h:aZ}(H:Ag u (p++[n]) h):Ag u p h:=
 ⟨fun j m hm=>H.at_ j m (by rw[List.getElem?_append_left (List.getElem?_eq_some_iff.1 hm).1];exact hm),H.no⟩
theorem ze {a b:Int}(h:a<=b):cH ⟨a,b⟩=a::cH ⟨a+1,b⟩:=by
 unfold cH;simp only;rw[show (b - a+1).toNat=(b - (a+1)+1).toNat+1 by omega,List.range_succ_eq_map];simp only[List.map_cons,List.map_map,Function.comp_def];congr 1
 .simp
 .apply List.map_congr_left;intro k _;simp only[Nat.succ_eq_add_one];omega
theorem Dw {a b:Int}(h:¬a<=b):cH ⟨a,b⟩=[]:=by
 unfold cH;simp only;rw[show (b - a+1).toNat=0 by omega];rfl
theorem Dx {u:aj}{p:List Int}(a:p.length<u.an.length)(h3:u.an.length<=3){f:aZ->List (Option aZ)×aZ}{G:Int->List (Option aZ)}{lo hi:Int}(hb:0<=lo/\hi<=60)
  (b:∀n,lo<=n->n<=hi->∀h,Ag u (p++[n]) h->(f h).1=G n/\Ag u (p++[n]) (f h).2):
  ∀(k:Nat) (n:Int) (h:aZ),Ag u p h->lo<=n->n<=61->61 - n<k->(jL f (p.length:Int) hi k n h).1=(cH ⟨n,hi⟩).flatMap G/\Ag u p (jL f (p.length:Int) hi k n h).2
 |0,n,h,H,h1,h2,d=>by omega
 |k+1,n,h,H,h1,h2,d=>by
  unfold jL
  by_cases c:n<=hi
  .rw[if_pos c,ze c]
   obtain ⟨x,e1,e2⟩:=H.set a h3 n
   rw[e1]
   obtain ⟨e,g⟩:=b n h1 c x e2
   have w:IntKind.i64.wrap (n+1)=n+1:=b9 (by omega)
   obtain ⟨r1,r2⟩:=Dx a h3 hb b k (n+1) (f x).2 g.cut (by omega) (by omega) (by omega)
   simp only[w]
   exact ⟨by rw[e,r1,List.flatMap_cons],r2⟩
  .rw[if_neg c,Dw c]
   exact ⟨rfl,H⟩
theorem Dy {u:aj}(F:Fit u):∀(l:List bO) (p:List Int) (fuel:Nat) (h:aZ),u.an.drop p.length=l->p.length+l.length=u.an.length->l.length<fuel->
  (∀(j:Nat) e,u.an[j]?=some e->j<p.length->∃n,p[j]?=some n/\e.high.low<=n/\n<=e.high.high)->Ag u p h->
  (eZ u fuel (p.length:Int) h).1=((dx p l).filter (fI u)).map (fun x=>some (cR x))/\Ag u p (eZ u fuel (p.length:Int) h).2
 |l,p,0,h,hd,a,b,hb,H=>by omega
 |[],p,fuel+1,h,hd,a,b,hb,H=>by
  have a:p.length=u.an.length:=by simpa using a
  unfold eZ
  rw[if_pos (by omega)]
  obtain rfl:=H.cR a
  have R:=JC F (h:=p) ⟨a,fun i e he=>hb i e he (by have:=(List.getElem?_eq_some_iff.1 he).1;omega)⟩
  refine ⟨?_,H⟩
  rw[R]
  unfold dx
  cases e:fI u p<;>simp[e]
 |e::l,p,fuel+1,h,hd,a,b,hb,H=>by
  simp only[List.length_cons] at a b
  have he:u.an[p.length]?=some e:=by
   have:=congrArg List.head? hd
   simpa [List.head?_drop] using this
  have k:u.an.drop (p.length+1)=l:=by
   have:=congrArg List.tail hd
   simpa [List.tail_drop] using this
  have o:=F.an
  have g:=(F.aS _ _ he).2
  unfold eZ
  rw[if_neg (by omega),gw he]
  have w:IntKind.i64.wrap ((p.length:Int)+1)=((p.length+1:Nat):Int):=by rw[b9 (by omega)];omega
  simp only[w]
  have key:=Dx (u:=u) (p:=p) (by omega) o.2 (f:=eZ u fuel ((p.length+1:Nat):Int)) (G:=fun n=>((dx (p++[n]) l).filter (fI u)).map (fun x=>some (cR x))) (lo:=e.high.low) (hi:=e.high.high) ⟨g.1,g.2.2.1⟩
   (fun n n1 n2 x q=>by
    have:=Dy F l (p++[n]) fuel x (by simpa using k) (by simp;omega) (by omega) (fun j y d r=>by
     by_cases c:j<p.length
     .obtain ⟨m,hm,s⟩:=hb j y d c
      exact ⟨m,by rw[List.getElem?_append_left c];exact hm,s⟩
     .simp at r
      obtain rfl:j=p.length:=by omega
      rw[he] at d;cases d
      exact ⟨n,by simp,n1,n2⟩) q
    simpa using this) 100 e.high.low h H (Int.le_refl _) (by omega) (by omega)
  refine ⟨?_,key.2⟩
  rw[key.1,show dx p (e::l)=(cH e.high).flatMap fun n=>dx (p++[n]) l from rfl,List.filter_flatMap,List.map_flatMap]
theorem JR (j:Nat):co ⟨0,0,0⟩ j=0:=by
 unfold co;split
 .rfl
 .split
  .rfl
  .split<;>rfl
theorem zf {u:aj}(F:Fit u):ny u=(bM u).map (fun x=>some (cR x)):=by
 have c:=F.an;exact (Dy F u.an [] 5 ⟨0,0,0⟩ rfl (by simp) (by omega) (fun j e _ a=>absurd a (by simp)) ⟨fun j n b=>by simp at b,fun j _=>JR j⟩).1
theorem Dz:∀(l:List aZ) (s:List aZ),s.length+l.length<=1000000->gJ oZ (l.map some) s=some (.nx (s++l))
 |[],s,_=>by simp[gJ]
 |x::l,s,h=>by
  simp only[List.length_cons] at h
  simp only[List.map_cons]
  have:=Dz l (s++[x]) (by simp;omega)
  rw[show s++x::l=s++[x]++l by simp,<-this]
  have e:oZ x s=some (.nx (s++[x])):=by
   unfold oZ
   rw[g8 (by simp;omega)]
   rfl
  show gJ _ (some x::l.map some) s=_
  rw[gJ,e]
  rfl
theorem JS {l:List aZ}(h:l.length<=1000):rq (l.map some)=some l:=by
 unfold rq ug;rw[Dz l [] (by simp;omega)];simp[af,aC]
theorem zg {u:aj}(F:Fit u):oY u=some (!(bM u).isEmpty):=by
 unfold oY;rw[zf F];cases bM u with
 |nil=>rfl
 |cons a l=>rfl
def DC:cV:=⟨pH,[]⟩
theorem JU {u:aj}{fs:List (aj->Option Int)}{c:Int}(h:ek u fs=some (pH,c))(a:c≠0):gr u fs=some (DC,c):=by
 unfold gr;rw[h];simp only[af];rw[show (c != 0)=true by simpa using a];rfl
theorem n4 {u:aj}(F:Fit u){fs:List (aj->Option Int)}(h:ek u fs=some (u,0)):gr u fs=some (if (bM u).isEmpty then (DC,9) else (⟨u,(bM u).map cR⟩,0)):=by
 unfold gr;rw[h];simp only[af];rw[show ((0:Int) != 0)=false by decide];simp only[cond_false];have b:=(vi F).2;rw[zf F,show (bM u).map (fun x=>some (cR x))=((bM u).map cR).map some by simp,JS (by simp;omega)];simp only[af];cases bM u with
 |nil=>rfl
 |cons a l=>
  rw[show ((((a::l).map cR).length:Int)==0)=false by simp;omega];rfl
structure pM (u:aj):Prop where
 e:u.ax.length<=20
 p:u.props.length<=20
 y:u.an.length<=20
 t:u.told.length<=20
theorem bars {u:aj}(L:pM u):∃c,dZ u=some c/\jO u=some c:=by
 obtain ⟨h1,c,h2⟩:=CQ u L.e L.p L.y L.t;exact ⟨c,h2,h1▸h2⟩
theorem pN {u:aj}(h:dZ u=some 0):ek u []=some (u,0):=by
 unfold ek;rw[h];rfl
theorem JV (u:aj)(n:Int):eY n u=some (cond (iI u n) 0 6):=by
 unfold eY;rw[(yM u n).2];simp only[af];cases iI u n<;>rfl
theorem JW {u:aj}(F:Fit u){n:Int}:iI u n=true↔0<=n/\n<u.an.length:=by
 have:=F.an;unfold iI;rw[b9 (by omega),dR];omega
theorem pO {α β σ:Type}(f:α->β)(g:Nat->β->σ->σ):∀(l:List α) (i:Nat) (s:σ),foldI g i (l.map f) s=foldI (fun i x s=>g i (f x) s) i l s
 |[],_,_=>rfl
 |x::l,i,s=>by
  simp only[List.map_cons]
  unfold foldI
  exact pO f g l (i+1) _
theorem DD {α σ:Type}{g g':Nat->α->σ->σ}:∀(l:List α) (i:Nat) (s:σ),(∀j x s,x∈l->g j x s=g' j x s)->foldI g i l s=foldI g' i l s
 |[],_,_,_=>rfl
 |x::l,i,s,h=>by
  unfold foldI
  rw[h i x s (List.mem_cons_self ..)]
  exact DD l (i+1) _ fun j y s a=>h j y s (List.mem_cons_of_mem _ a)
theorem zh {u:aj}{h:List Int}(hm:h∈bM u):pK u h/\fI u h=true:=by
 obtain ⟨h1,h2⟩:=List.mem_filter.1 hm;exact ⟨zb h1,h2⟩
section
variable {u:aj}(F:Fit u){i:Nat}{e:bO}(he:u.an[i]? = some e)
include F he
theorem DF {h:List Int}(hm:h∈bM u):∃n,h[i]?=some n/\cQ u i (h[i]?.getD 0)=⟨e.back,n⟩/\(1<=e.back/\e.back<=20)/\0<=n/\n<=60:=by
 obtain ⟨n,c,a,b⟩:=(zh hm).1.Di i e he;obtain ⟨c1,c2,c3,c4,d⟩:=F.aS _ _ he;refine ⟨n,c,?_,c1,by omega,by omega⟩;rw[c];unfold cQ;rw[he];rfl
end
end Go.Proofs.YtnaejeiofbpbkaaGreatDoor
end
section
namespace Go.Sep
open Go Go.Conc
def n5 (P:Program)(J:Goroutine->aa->Prop)(ops:Array Oper)(F0:aa)(Q:Act->aa->Prop):List Oper->Bool->Act->aa->Prop
 |[],_,a,F=>Q a F
 |o::rest,_,a,F=>match cD ops o a with
  |some true=>cN P J o (fun v F'=>Knows F0 F'/\n5 P J ops F0 Q rest (!Oper.calls o) (bf a o.dst v) F') a F
  |some false=>n5 P J ops F0 Q rest true (bf a o.dst undef) F
  |none=>False
theorem JX {P:Program}{J:Goroutine->aa->Prop}{ops:Array Oper}{F0:aa}{Q:Act->aa->Prop}{go:Bool}{a:Act}{F:aa}:n5 P J ops F0 Q [] go a F=Q a F:=rfl
theorem JY {P:Program}{J:Goroutine->aa->Prop}{ops:Array Oper}{F0:aa}{Q:Act->aa->Prop}{o:Oper}{rest:List Oper}{a:Act}{F:aa}:n5 P J ops F0 Q (o::rest) true a F=match cD ops o a with
  |some true=>cN P J o (fun v F'=>Knows F0 F'/\n5 P J ops F0 Q rest (!Oper.calls o) (bf a o.dst v) F') a F
  |some false=>n5 P J ops F0 Q rest true (bf a o.dst undef) F
  |none=>False:=(Eq.refl _).trans (Eq.refl _)
attribute [irreducible] n5
attribute [go_sem] JX JY
end Go.Sep
end
section
namespace Go.Proofs.YtnaejeiofbpbkaaGreatDoor
open Go Go.Sep Go.Proofs
set_option maxRecDepth 100000
set_option maxHeartbeats 4000000
def JZ (b:Int)(c:Int)(st:((List (List Int))×Int)):Option (Fl ((List (List Int))×Int) (List (List Int))):=
 cond (decide (0<=st.2)) (af (bh st.1 st.2) fun a=>cond (decide ((a.length:Int)<b)) (af (cG ([]:List Int) a) fun d=>af (cG d ([c])) fun e=>af (cG st.1 ([e])) fun f=>some (.nx (f,(IntKind.i64.wrap (st.2 - 1))))) (some (.nx (st.1,(IntKind.i64.wrap (st.2 - 1)))))) (some (.bk (st.1,st.2)))
def J0 (u0:Int)(a:Int)(st:((List (List Int))×Int)):Option (Fl ((List (List Int))×Int) (List (List Int))):=
 cond (decide (st.2<u0)) (af (aU (JZ a st.2) fu (st.1,(IntKind.i64.wrap ((st.1.length:Int) - 1)))) fun o=>aC o (fun b=>some (.nx (b.1,(IntKind.i64.wrap (st.2+1))))) (fun _ _=>none) (fun r=>some (.rt r))) (some (.bk (st.1,st.2)))
def DG (u0:Int)(a:Int):Option (List (List Int)):=
 af (aU (J0 u0 a) fu (([([]:(List Int))]),0)) fun o=>aC o (fun b=>some b.1) (fun _ _=>none) (fun r=>some r)
def sd (u0:aj)(b:(List (List Int)))(st:((List Int)×Int)):Option (Fl ((List Int)×Int) ((List Int)×Int)):=
 cond (decide (st.2<(b.length:Int))) (af (bh b st.2) fun a=>af (nL a st.1) fun c=>cond (c) (af (yE u0 a) fun d=>af (vb d) fun e=>cond (((e.length:Int)==0)) (some (.nx (a,(IntKind.i64.wrap (st.2+1))))) (some (.nx (st.1,(IntKind.i64.wrap (st.2+1)))))) (some (.nx (st.1,(IntKind.i64.wrap (st.2+1)))))) (some (.bk (st.1,st.2)))
def DH (u0:aj):Option ((List Int)×Int):=
 af (jO u0) fun a=>cond ((a != 0)) (some (([]:(List Int)),a)) (af (vb u0) fun b=>cond (decide (0<(b.length:Int))) (some (([]:(List Int)),0)) (af (CD (u0.told.length:Int)) fun c=>af (DG (u0.told.length:Int) (u0.told.length:Int)) fun d=>af (aU (sd u0 d) fu (c,0)) fun o=>aC o (fun e=>some (e.1,0)) (fun _ _=>none) (fun r=>some r)))
def wt (u:aj)(S:List bA):aj:=⟨u.bB,u.bH,u.aO,u.ax,u.props,u.an,S⟩
theorem zi {u:aj}(F:Fit u){S:List bA}(h:∀t,t∈S->t∈u.told)(a:S.length<=3):Fit (wt u S):=
 ⟨F.bB,F.bH,F.den,F.num,F.ax,F.gQ,F.nP,F.props,F.prop,F.an,F.aS,a,fun i x b=>by
  obtain ⟨j,c⟩:=List.mem_iff_getElem?.1 (h x (List.mem_of_getElem? b))
  exact F.lB j x c⟩
def b7 (u:aj)(S:List bA):Bool:=(bM (wt u S)).isEmpty
def mB (x y:List Int):Bool:=(iV x y).getD false
def iJ (x y:List Int):Bool:=(nL x y).getD false
def pP (P:List (List Int×Bool)):Option (List Int):=match (P.filter (·.2)).map (·.1) with
 |[]=>none
 |a::l=>some (foldI (fun _ y st=>cond (mB st y) y st) 0 l a)
def iK (Q:List (List Int×Bool))(b:List Int):List Int:=foldI (fun _ (x:List Int×Bool) b=>cond (iJ x.1 b) (cond x.2 x.1 b) b) 0 Q b
theorem J1 {u:aj}(F:Fit u)(P:List (List Int×List bA))(b:∀(i:Nat) x,P[i]?=some x->bE (rF (i:Int)) 0 u.told (([]:List Int),([]:List bA))=some (.nx x))
  (hs:∀x,x∈P->(∀t,t∈x.2->t∈u.told)/\x.2.length<=3) (d:P.length<=8):
  aU (nB u (u,0) (P.length:Int)) fu (([]:List (List Int)),0)=some (.nx (((P.map fun x=>(x.1,b7 u x.2)).filter (·.2)).map (·.1),(P.length:Int))):=by
 have key:=mq (f:=nB u (u,0) (P.length:Int)) (g:=fun _ (x:List Int×List bA) (s:List (List Int))=>cond (b7 u x.2) (s++[x.1]) s) (I:=fun i s=>s.length<=i/\i<=P.length) (fun s i=>(s,i)) P (by omega)
  (fun i x s a e=>by
   have j:i<P.length:=(List.getElem?_eq_some_iff.1 a).1
   have hm:=hs x (List.mem_of_getElem? a)
   refine ⟨?_,by cases b7 u x.2<;>simp<;>omega,by omega⟩
   unfold nB
   rw[show decide ((s,(i:Int)).2<(P.length:Int))=true by simp;omega]
   simp only[cond_true,b i x a,af,aC]
   have hb:=zg (zi F hm.1 hm.2)
   unfold wt at hb
   simp only[hb,Bool.not_not]
   rw[b9 (n:=(i:Int)+1) (by omega)]
   show (cond (b7 u x.2) _ _:Option _)=_
   cases b7 u x.2 with
   |false=>rfl
   |true=>simp only[cond_true,g8 (l:=s) (xs:=[x.1]) (by simp;omega)];rfl)
  (fun s=>by
   unfold nB
   rw[show decide ((s,(P.length:Int)).2<(P.length:Int))=false by simp]
   rfl) ([]:List (List Int)) ⟨by simp,by omega⟩
 have c:∀(P:List (List Int×List bA)) (i:Nat) (s:List (List Int)),foldI (fun _ (x:List Int×List bA) (s:List (List Int))=>cond (b7 u x.2) (s++[x.1]) s) i P s=s++((P.map fun x=>(x.1,b7 u x.2)).filter (·.2)).map (·.1):=by
  intro P
  induction P with
  |nil=>intro i s;simp[foldI]
  |cons x P ih=>
   intro i s
   unfold foldI
   rw[ih]
   cases h:b7 u x.2<;>simp[h]
 rw[c] at key
 simpa using key.1
theorem J2 {S:List (List Int)}(c:∀x,x∈S->∀y,y∈S->iV x y=some (mB x y)){a:List Int}{l:List (List Int)}(d:a∈S)(e:∀x,x∈l->x∈S):
  oS iV a l=some (foldI (fun _ y st=>cond (mB st y) y st) 0 l a):=by
 unfold oS
 rw[(fe (f:=q6 iV) (g:=fun _ y st=>cond (mB st y) y st) (I:=fun _ st=>st∈S) l 0 a d fun j x s b hs=>by
  have b:=e x (List.mem_of_getElem? b)
  refine ⟨?_,by cases mB s x<;>assumption⟩
  unfold q6
  rw[c s hs x b]
  simp only[af]
  cases mB s x<;>rfl).1]
 rfl
theorem J3 {u:aj}(F:Fit u)(Q:List (List Int×List bA))(d:∀x,x∈Q->yE u x.1=some (wt u x.2)/\(∀t,t∈x.2->t∈u.told)/\x.2.length<=3){S:List (List Int)}(e:∀x,x∈S->∀y,y∈S->nL x y=some (iJ x y))
  (c:∀x,x∈Q->x.1∈S) {b:List Int} (hb:b∈S) (h:Q.length<=8):
  aU (sd u (Q.map (·.1))) fu (b,0)=some (.nx (iK (Q.map fun x=>(x.1,b7 u x.2)) b,(Q.length:Int))):=by
 have key:=mq (f:=sd u (Q.map (·.1))) (g:=fun _ (x:List Int×List bA) (b:List Int)=>cond (iJ x.1 b) (cond (b7 u x.2) x.1 b) b) (I:=fun _ b=>b∈S) (fun s i=>(s,i)) Q (by omega)
  (fun i x b a hb=>by
   have j:i<Q.length:=(List.getElem?_eq_some_iff.1 a).1
   have hm:=List.mem_of_getElem? a
   obtain ⟨h1,h2,h3⟩:=d x hm
   refine ⟨?_,?_⟩
   .unfold sd
    rw[show decide ((b,(i:Int)).2<((Q.map (·.1)).length:Int))=true by simp;omega]
    have hi:(Q.map (·.1))[i]?=some x.1:=by rw[List.getElem?_map,a];rfl
    simp only[cond_true,gw hi,af,e x.1 (c x hm) b hb,h1,(vi (zi F h2 h3)).1]
    rw[b9 (n:=(i:Int)+1) (by omega),show (((bM (wt u x.2)).length:Int)==0)=b7 u x.2 by unfold b7;cases bM (wt u x.2)<;>simp;omega]
    cases iJ x.1 b<;>cases b7 u x.2<;>rfl
   .have:=c x hm
    cases iJ x.1 b<;>cases b7 u x.2<;>assumption)
  (fun s=>by
   unfold sd
   rw[show decide ((s,(Q.length:Int)).2<((Q.map (·.1)).length:Int))=false by simp]
   rfl) b hb
 rw[key.1]
 unfold iK
 rw[pO]
def S3:List (List Int):=[[],[0],[1],[0,1],[2],[0,2],[1,2],[0,1,2]]
theorem J4:∀x,x∈S3->∀y,y∈S3->iV x y=some (mB x y):=by
 have h:(S3.all fun x=>S3.all fun y=>(iV x y).isSome)=true:=by decide+kernel
 intro x a y c;have:=List.all_eq_true.1 (List.all_eq_true.1 h x a) y c;unfold mB;cases e:iV x y with
 |none=>rw[e] at this;cases this
 |some b=>rfl
theorem J5:∀x,x∈S3->∀y,y∈S3->nL x y=some (iJ x y):=by
 have h:(S3.all fun x=>S3.all fun y=>(nL x y).isSome)=true:=by decide+kernel
 intro x a y c;have:=List.all_eq_true.1 (List.all_eq_true.1 h x a) y c;unfold iJ;cases e:nL x y with
 |none=>rw[e] at this;cases this
 |some b=>rfl
theorem J6:∀e0 e1 e2 a b c d:Bool,pP [([],e0),([0],e1),([1],e2),([0,1],a),([2],b),([0,2],c),([1,2],d),([0,1,2],true)]=some (iK [([],e0),([0],e1),([0,1],a),([1],e2),([1,2],d),([0,1,2],true),([0,2],c),([2],b)] [0,1,2]):=by decide+kernel
theorem J7:∀e0 e1 e2:Bool,pP [([],e0),([0],e1),([1],e2),([0,1],true)]=some (iK [([],e0),([0],e1),([0,1],true),([1],e2)] [0,1]):=by decide+kernel
theorem J8:∀e0:Bool,pP [([],e0),([0],true)]=some (iK [([],e0),([0],true)] [0]):=by decide+kernel
theorem J9 {u:aj}(P Q:List (List Int×List bA)){b:List Int}(f:∀x,x∈P->x.1∈S3)(h:P.length<=8)
  (c:pP (P.map fun x=>(x.1,b7 u x.2))=some (iK (Q.map fun x=>(x.1,b7 u x.2)) b)):
  ∃a l,bh (((P.map fun x=>(x.1,b7 u x.2)).filter (·.2)).map (·.1)) 0=some a/\e8 (((P.map fun x=>(x.1,b7 u x.2)).filter (·.2)).map (·.1)) 1 (((((P.map fun x=>(x.1,b7 u x.2)).filter (·.2)).map (·.1)).length:Nat):Int)=some l/\
   oS iV a l=some (iK (Q.map fun x=>(x.1,b7 u x.2)) b):=by
 unfold pP at c
 have hm:∀x,x∈((P.map fun x=>(x.1,b7 u x.2)).filter (·.2)).map (·.1)->x∈S3:=fun x d=>by
  rw[List.mem_map] at d
  obtain ⟨y,e,rfl⟩:=d
  obtain ⟨e,-⟩:=List.mem_filter.1 e
  rw[List.mem_map] at e
  obtain ⟨z,g,rfl⟩:=e
  exact f z g
 generalize ((P.map fun x=>(x.1,b7 u x.2)).filter (·.2)).map (·.1)=o at c hm
 cases o with
 |nil=>cases c
 |cons a l=>
  refine ⟨a,l,rfl,?_,?_⟩
  .unfold e8
   rw[if_pos (by simp;omega)]
   simp
  .rw[J2 J4 (hm a (List.mem_cons_self ..)) (fun x d=>hm x (List.mem_cons_of_mem _ d))]
   exact c
theorem Ka {S:List (List Int)}:∀(Q:List (List Int×Bool)) (b:List Int),(∀x,x∈Q->x.1∈S)->b∈S->iK Q b∈S:=by
 have key:∀(Q:List (List Int×Bool)) (i:Nat) (b:List Int),(∀x,x∈Q->x.1∈S)->b∈S->foldI (fun _ (x:List Int×Bool) b=>cond (iJ x.1 b) (cond x.2 x.1 b) b) i Q b∈S:=by
  intro Q
  induction Q with
  |nil=>intro i b _ hb;exact hb
  |cons x Q ih=>
   intro i b a hb;unfold foldI;refine ih (i+1) _ (fun y c=>a y (List.mem_cons_of_mem _ c)) ?_;have:=a x (List.mem_cons_self ..);cases iJ x.1 b<;>cases x.2<;>assumption
 exact fun Q b=>key Q 0 b
theorem Kb {x:List Int}(h:x∈S3):x.length<=3:=by
 have:(S3.all fun x=>decide (x.length<=3))=true:=by decide
 simpa using List.all_eq_true.1 this x h
structure Cd (u:aj)(P Q:List (List Int×List bA))(b:List Int):Prop where
 fP:∀(i:Nat) x,P[i]?=some x->bE (rF (i:Int)) 0 u.told (([]:List Int),([]:List bA))=some (.nx x)
 fs:∀x,x∈P->(∀t,t∈x.2->t∈u.told)/\x.2.length<=3
 fl:P.length<=8
 fp:∀x,x∈P->x.1∈S3
 Kc:s8 1 (u.told.length:Int)=some (P.length:Int)
 fQ:∀x,x∈Q->yE u x.1=some (wt u x.2)/\(∀t,t∈x.2->t∈u.told)/\x.2.length<=3
 fq:∀x,x∈Q->x.1∈S3
 fb:b∈S3
 Ke:Q.length<=8
 fU:CD (u.told.length:Int)=some b
 fS:DG (u.told.length:Int) (u.told.length:Int)=some (Q.map (·.1))
 ff:b7 u u.told=true->pP (P.map fun x=>(x.1,b7 u x.2))=some (iK (Q.map fun x=>(x.1,b7 u x.2)) b)
theorem zj {u:aj}(F:Fit u)(h1:dZ u=some 0)(h2:jO u=some 0){P Q:List (List Int×List bA)}{b:List Int}(D:Cd u P Q b):
  ∃r,iW u=some r/\DH u=some r/\r.1.length<=3/\((bM u).isEmpty=false->r=([],0))/\((bM u).isEmpty=true->r=(iK (Q.map fun x=>(x.1,b7 u x.2)) b,0)):=by
 unfold iW DH
 rw[pN h1,h2,(vi F).1]
 simp only[af,zg F]
 rw[show ((0:Int) != 0)=false by decide]
 simp only[cond_false]
 cases c:(bM u).isEmpty with
 |false=>
  rw[show decide (0<((bM u).length:Int))=true by cases h:bM u<;>simp[h] at c ⊢]
  exact ⟨_,rfl,rfl,by simp,fun _=>rfl,fun e=>by cases e⟩
 |true=>
  rw[show decide (0<((bM u).length:Int))=false by cases h:bM u<;>simp[h] at c ⊢]
  obtain ⟨a,l,e1,e2,f⟩:=J9 (u:=u) P Q D.fp D.fl (D.ff c)
  simp only[Bool.not_true,cond_false,D.Kc,J1 F P D.fP D.fs D.fl,aC,e1,e2,f,D.fU,D.fS,J3 F Q D.fQ J5 D.fq D.fb D.Ke]
  exact ⟨_,rfl,rfl,Kb (Ka _ _ (fun x d=>by rw[List.mem_map] at d;obtain ⟨y,g,rfl⟩:=d;exact D.fq y g) D.fb),(fun e=>by cases e),fun _=>rfl⟩
theorem Kf (c d:Int)(f:au)(g:List bY)(h:List bL)(j:List bO)(a:bA):Cd ⟨c,d,f,g,h,j,[a]⟩ [([],[]),([0],[a])] [([],[]),([0],[a])] [0]:=by
 refine ⟨fun i x b=>?_,fun x b=>?_,by simp,by simp[S3],rfl,fun x b=>?_,by simp[S3],by simp[S3],by simp,by kernel_rfl,by kernel_rfl,fun e=>?_⟩
 .have k:=(List.getElem?_eq_some_iff.1 b).1;simp only[List.length_cons,List.length_nil] at k;rcases (show i=0\/i=1 by omega) with rfl|rfl
  .cases b;show (_:Option _)=_;kernel_rfl
  .cases b;show (_:Option _)=_;kernel_rfl
 .simp only[List.mem_cons,List.not_mem_nil,or_false] at b;rcases b with rfl|rfl<;>exact ⟨by simp,by simp⟩
 .simp only[List.mem_cons,List.not_mem_nil,or_false] at b;rcases b with rfl|rfl<;>exact ⟨by kernel_rfl,by simp,by simp⟩
 .simp only[List.map_cons,List.map_nil,show b7 ⟨c,d,f,g,h,j,[a]⟩ [a]=true from e];exact J8 _
theorem Kg (d f:Int)(g:au)(h:List bY)(j:List bL)(k:List bO)(a b:bA):Cd ⟨d,f,g,h,j,k,[a,b]⟩ [([],[]),([0],[a]),([1],[b]),([0,1],[a,b])] [([],[]),([0],[a]),([0,1],[a,b]),([1],[b])] [0,1]:=by
 refine ⟨fun i x c=>?_,fun x c=>?_,by simp,by simp[S3],rfl,fun x c=>?_,by simp[S3],by simp[S3],by simp,by kernel_rfl,by kernel_rfl,fun e=>?_⟩
 .have l:=(List.getElem?_eq_some_iff.1 c).1;simp only[List.length_cons,List.length_nil] at l;rcases (show i=0\/i=1\/i=2\/i=3 by omega) with rfl|rfl|rfl|rfl;all_goals cases c;show (_:Option _)=_;kernel_rfl
 .simp only[List.mem_cons,List.not_mem_nil,or_false] at c;rcases c with rfl|rfl|rfl|rfl<;>exact ⟨by simp,by simp⟩
 .simp only[List.mem_cons,List.not_mem_nil,or_false] at c;rcases c with rfl|rfl|rfl|rfl<;>exact ⟨by kernel_rfl,by simp,by simp⟩
 .simp only[List.map_cons,List.map_nil,show b7 ⟨d,f,g,h,j,k,[a,b]⟩ [a,b]=true from e];exact J7 _ _ _
theorem Kh (f g:Int)(h:au)(j:List bY)(k:List bL)(l:List bO)(a b c:bA):Cd ⟨f,g,h,j,k,l,[a,b,c]⟩ [([],[]),([0],[a]),([1],[b]),([0,1],[a,b]),([2],[c]),([0,2],[a,c]),([1,2],[b,c]),([0,1,2],[a,b,c])] [([],[]),([0],[a]),([0,1],[a,b]),([1],[b]),([1,2],[b,c]),([0,1,2],[a,b,c]),([0,2],[a,c]),([2],[c])] [0,1,2]:=by
 refine ⟨fun i x d=>?_,fun x d=>?_,by simp,by simp[S3],rfl,fun x d=>?_,by simp[S3],by simp[S3],by simp,by kernel_rfl,by kernel_rfl,fun e=>?_⟩
 .have m:=(List.getElem?_eq_some_iff.1 d).1;simp only[List.length_cons,List.length_nil] at m;rcases (show i=0\/i=1\/i=2\/i=3\/i=4\/i=5\/i=6\/i=7 by omega) with rfl|rfl|rfl|rfl|rfl|rfl|rfl|rfl;all_goals cases d;show (_:Option _)=_;kernel_rfl
 .simp only[List.mem_cons,List.not_mem_nil,or_false] at d;rcases d with rfl|rfl|rfl|rfl|rfl|rfl|rfl|rfl<;>exact ⟨by simp,by simp⟩
 .simp only[List.mem_cons,List.not_mem_nil,or_false] at d;rcases d with rfl|rfl|rfl|rfl|rfl|rfl|rfl|rfl<;>exact ⟨by kernel_rfl,by simp,by simp⟩
 .simp only[List.map_cons,List.map_nil,show b7 ⟨f,g,h,j,k,l,[a,b,c]⟩ [a,b,c]=true from e];exact J6 _ _ _ _ _ _ _
theorem Ki {s:List aZ}{y:aZ}:lq s y=true↔y∈s:=by
 rw[yz,List.mem_map];constructor
 .rintro ⟨z,a,h⟩;obtain rfl:=yy h;exact a
 .exact fun h=>⟨y,h,rfl⟩
theorem DI:∀(l s:List aZ),(s++l).Nodup->gJ pn (l.map some) s=some (.nx (s++l))
 |[],s,_=>by simp[gJ]
 |x::l,s,h=>by
  have e:pn x s=some (.nx (s++[x])):=by
   unfold pn
   have:lq s x=false:=by
    cases c:lq s x with
    |false=>rfl
    |true=>
     have h2:=(List.nodup_append.1 h).2.2
     exact absurd rfl (h2 x (Ki.1 c) x (List.mem_cons_self ..))
   rw[this];rfl
  show gJ pn (some x::l.map some) s=_
  rw[gJ,e]
  have:=DI l (s++[x]) (by simpa using h)
  rw[show s++x::l=s++[x]++l by simp]
  exact this
theorem DJ:∀(l:List bO) (p h:List Int),h∈dx p l->∀j,j<p.length->h[j]?=p[j]?:=fun l p h hm=>(za l p h hm).2.2
theorem Kj (b:dn):(cH b).Nodup:=by
 unfold cH;refine List.Pairwise.map _ ?_ (List.nodup_range (n:=(b.high - b.low+1).toNat));intro a c h e;exact h (by omega)
theorem DK:∀(l:List bO) (p:List Int),(dx p l).Nodup
 |[],p=>by simp[dx]
 |e::l,p=>by
  unfold dx
  rw[List.flatMap_def]
  unfold List.Nodup
  rw[List.pairwise_flatten]
  refine ⟨fun x c=>?_,?_⟩
  .rw[List.mem_map] at c
   obtain ⟨n,_,rfl⟩:=c
   exact DK l _
  .rw[List.pairwise_map]
   refine (Kj e.high).imp ?_
   intro a b d x f y g h
   subst h
   have h1:=DJ l _ _ f p.length (by simp)
   have h2:=DJ l _ _ g p.length (by simp)
   rw[h1] at h2
   simp at h2
   exact d h2
theorem Kk {l m:List Int}(h:l.length=m.length)(h3:l.length<=3)(e:cR l=cR m):l=m:=by
 unfold cR at e;rw[aZ.mk.injEq] at e;obtain ⟨e0,e1,e2⟩:=e;refine List.ext_getElem? fun i=>?_;by_cases hi:i<l.length
 .have hm:i<m.length:=by omega
  have key:l[i]?.getD 0=m[i]?.getD 0:=by
   rcases (show i=0\/i=1\/i=2 by omega) with rfl|rfl|rfl<;>assumption
  rw[List.getElem?_eq_getElem hi,List.getElem?_eq_getElem hm] at key ⊢;simpa using key
 .rw[List.getElem?_eq_none (by omega),List.getElem?_eq_none (by omega)]
theorem Kl {u:aj}(F:Fit u):((bM u).map cR).Nodup:=by
 have c:(bM u).Nodup:=(DK u.an []).filter _;unfold List.Nodup at c ⊢;rw[List.pairwise_map];refine List.Pairwise.imp_of_mem ?_ c;intro a b d hb f e;have h1:=(zh d).1.len;have h2:=(zh hb).1.len;have:=F.an;exact f (Kk (by omega) (by omega) e)
theorem DL {u:aj}(F:Fit u)(h:dZ u=some 0):nD u=some (((bM u).length:Int),0):=by
 unfold nD;rw[pN h];simp only[af];rw[show ((0:Int) != 0)=false by decide];simp only[cond_false];rw[zf F,show (bM u).map (fun x=>some (cR x))=((bM u).map cR).map some by simp,DI _ [] (by simpa using Kl F)];simp[aC]
theorem se {u:aj}{s:aP}(F:Fit u)(hs:(1<=s.back/\s.back<=20)/\0<=s.high/\s.high<=60):dB u s=bC u.aO (dD u s):=by
 obtain ⟨r,h1,h2,h3⟩:=y2 F hs;rw[y9 F hs] at h1;obtain rfl:=Option.some.inj h1;have a:Sm u.aO 20 20:=⟨by have:=F.num;omega,by have:=F.den;omega,by have:=F.den;omega⟩
 have b:=nU a h3 (by decide) (by decide);unfold dB gq;rw[y9 F hs];simp only[af,b.2];rfl
structure TR (u o:aj):Prop where
 bB:o.bB=u.bB
 bH:o.bH=u.bH
 aO:o.aO=u.aO
 props:o.props=u.props
 an:o.an=u.an
 told:o.told=u.told
 dg:∀x,x∈u.props->jK o x.place=jK u x.place
 zk:∀s:aP,(1<=s.back/\s.back<=20)/\0<=s.high/\s.high<=60->(cE o s).2=(cE u s).2
theorem si {n a b:Int}(h1:a<=n)(h2:n<=b):bN n a b=true:=dR.2 ⟨h1,h2⟩
section
variable {u:aj}{s:aP}(F:Fit u)(h:dZ u = some 0)(hs:(1<=s.back/\s.back<=20)/\0<=s.high/\s.high<=60)
include F h hs
theorem Km:ek u [eK s]=some (u,0):=by
 have hb:eK s u=some 0:=by
  rw[CX,yT];unfold mo;rw[si hs.1.1 hs.1.2,si hs.2.1 hs.2.2];rfl
 rw[yR h hb];rfl
theorem DN:lp u s=some (gx u s,decide (0<(u.props.length:Int)),0):=by
 have k:=JA;unfold lp;simp only[Km F h hs,af,bne_self_eq_false,cond_false];rcases u6 F hs with ⟨h0,k1,a⟩|⟨st,b,k1,a,d⟩
 .simp only[k1];unfold gx;rw[h0];rfl
 .obtain ⟨c,l,rfl,m,f,g⟩:=C8 F hs d;rw[u5 F hs] at a;have e:=Prod.mk.inj (Option.some.inj a);simp only[k1];have z:((((c::l).length:Nat):Int)==0)=false:=by simp;omega
  have y:e8 (c::l) 1 (((c::l).length:Nat):Int)=some l:=by
   unfold e8;rw[if_pos (by simp only[List.length_cons];omega)];simp
  rw[z];simp only[cond_false];rw[show bh (c::l) 0=some c from rfl,y];simp only[f];rw[g,<-e.1,e.2];rfl
end
def pQ (o:Nat)(S:List Int)(i:Nat):List Int:=(List.replicate o (S.flatMap fun n=>List.replicate i n)).flatten
def pR:List (List Int):=[[0],[0,1],[0,2],[0,1,2]]
def n6:List (Nat×Nat):=[(1,1),(1,2),(1,3),(1,4),(1,6),(1,9),(2,1),(3,1),(4,1),(6,1),(9,1),(2,2),(2,3),(3,2),(3,3)]
def zl (l:List Int):Option (List Int):=af (rz l) fun x=>uv x.2
def pS (c:Nat):Bool:=n6.all fun p=>pR.all fun S=>zl (pQ p.1 (S.map (· +(c:Int))) p.2)==some (S.map (· +(c:Int)))
theorem Kn:∀c:Fin 16,pS c.val=true:=by decide+kernel
theorem Ko:∀c:Fin 16,pS (16+c.val)=true:=by decide+kernel
theorem Kp:∀c:Fin 16,pS (32+c.val)=true:=by decide+kernel
theorem Kq:∀c:Fin 13,pS (48+c.val)=true:=by decide+kernel
theorem Kr {c:Nat}(h:c<=60):pS c=true:=by
 rcases Nat.lt_or_ge c 16 with x|x
 .exact Kn ⟨c,x⟩
 rcases Nat.lt_or_ge c 32 with y|y
 .have:=Ko ⟨c - 16,by omega⟩
  rwa [show 16+(c - 16)=c by omega] at this
 rcases Nat.lt_or_ge c 48 with z|z
 .have:=Kp ⟨c - 32,by omega⟩
  rwa [show 32+(c - 32)=c by omega] at this
 .have:=Kq ⟨c - 48,by omega⟩
  rwa [show 48+(c - 48)=c by omega] at this
theorem Ks {c:Nat}(h:c<=60){p:Nat×Nat}(a:p∈n6){S:List Int}(b:S∈pR):zl (pQ p.1 (S.map (· +(c:Int))) p.2)=some (S.map (· +(c:Int))):=by
 have:=Kr h;unfold pS at this;rw[List.all_eq_true] at this;have:=this p a;rw[List.all_eq_true] at this;simpa using this S b
def lF (u:aj)(i:Nat)(n:Int):Bool:=u.told.all fun t=>t.aS != (i:Int)||(dB u (cQ u i n)==t.bt)
def pL:List (List Int)->List (List Int)
 |[]=>[[]]
 |s::r=>s.flatMap fun n=>(pL r).map (n::·)
def kF (P:Nat->Int->Bool):Nat->List Int->Bool
 |_,[]=>true
 |i,x::r=>P i x&&kF P (i+1) r
def iL (P:Nat->Int->Bool):Nat->List (List Int)->List (List Int)
 |_,[]=>[]
 |i,s::r=>s.filter (P i)::iL P (i+1) r
def kG (u:aj):List (List Int):=iL (lF u) 0 (u.an.map fun e=>cH e.high)
theorem DO:∀(l:List bO) (p:List Int),dx p l=(pL (l.map fun e=>cH e.high)).map (p++·)
 |[],p=>by simp[dx,pL]
 |e::l,p=>by
  unfold dx
  rw[List.map_cons]
  unfold pL
  rw[List.map_flatMap]
  congr 1
  funext n
  rw[DO l (p++[n]),List.map_map]
  refine List.map_congr_left fun q _=>?_
  simp
theorem DQ {α β:Type}(p:α->Bool)(f:α->List β):∀l:List α,(l.filter p).flatMap f=l.flatMap fun x=>if p x then f x else []
 |[]=>rfl
 |x::l=>by
  rw[List.flatMap_cons,<-DQ p f l,List.filter_cons]
  cases p x<;>simp
theorem DR (P:Nat->Int->Bool):∀(S:List (List Int)) (i:Nat),(pL S).filter (kF P i)=pL (iL P i S)
 |[],i=>rfl
 |s::r,i=>by
  rw[show iL P i (s::r)=s.filter (P i)::iL P (i+1) r from rfl,show pL (s::r)=s.flatMap fun n=>(pL r).map (n::·) from rfl,
   show pL (s.filter (P i)::iL P (i+1) r)=(s.filter (P i)).flatMap fun n=>(pL (iL P (i+1) r)).map (n::·) from rfl]
  rw[DQ,List.filter_flatMap]
  congr 1
  funext n
  rw[List.filter_map]
  cases h:P i n with
  |false=>
   rw[show (kF P i ∘ fun x=>n::x)=fun _=>false by funext q;simp[kF,h]]
   simp
  |true=>
   rw[show (kF P i ∘ fun x=>n::x)=kF P (i+1) by funext q;simp[kF,h],DR P r (i+1)]
   rfl
theorem DS (P:Nat->Int->Bool):∀(h:List Int) (i:Nat),kF P i h=(List.range h.length).all fun j=>P (i+j) (h[j]?.getD 0)
 |[],i=>rfl
 |x::r,i=>by
  unfold kF
  rw[DS P r (i+1),List.length_cons,List.range_succ_eq_map,List.all_cons,List.all_map]
  congr 1
  refine congrArg (fun f=>List.all _ f) ?_
  funext j
  simp only[Function.comp]
  rw[show i+1+j=i+(j+1) by omega]
  rfl
theorem Kt {u:aj}(F:Fit u){h:List Int}(H:pK u h):fI u h=kF (lF u) 0 h:=by
 rw[DS,Bool.eq_iff_iff];unfold fI;rw[List.all_eq_true,List.all_eq_true];constructor
 .intro a j d;rw[Nat.zero_add];unfold lF;rw[List.all_eq_true];intro t ht;by_cases c:t.aS=(j:Int)
  .have:=a t ht;unfold lD at this;rw[c,Int.toNat_natCast] at this;rw[this,Bool.or_true]
  .rw[show (t.aS != (j:Int))=true by simpa using c,Bool.true_or]
 .intro a t ht;obtain ⟨k,b⟩:=List.mem_iff_getElem?.1 ht;obtain ⟨e,b2⟩:=F.lB k t b;have f:=H.len;have:=a t.aS.toNat (by rw[List.mem_range];omega);rw[Nat.zero_add] at this;unfold lF at this;rw[List.all_eq_true] at this;have:=this t ht;rw[show (t.aS != (t.aS.toNat:Int))=false by rw[bne_eq_false_iff_eq];omega,Bool.false_or] at this;exact this
theorem vj {u:aj}(F:Fit u):bM u=pL (kG u):=by
 unfold bM kG;rw[<-DR];have e:dx [] u.an=pL (u.an.map fun e=>cH e.high):=by rw[DO];simp
 rw[<-e];refine List.filter_congr fun h hm=>?_;exact Kt F (zb hm)
theorem kH:∀S:List (List Int),(pL S).length=(S.map List.length).foldr (· *·) 1
 |[]=>rfl
 |s::r=>by
  unfold pL
  rw[List.length_flatMap,List.map_cons,List.foldr_cons,<-kH r]
  simp only[List.length_map]
  rw[List.map_const',List.sum_replicate_nat]
theorem DT {α:Type}(x:List α)(m:Nat):∀o:Nat,(List.replicate o (List.replicate m x).flatten).flatten=(List.replicate (o*m) x).flatten
 |0=>by simp
 |o+1=>by
  rw[List.replicate_succ,List.flatten_cons,DT x m o,<-List.flatten_append,List.replicate_append_replicate]
  congr 2
  rw[Nat.add_mul];omega
theorem DU {α β:Type}(x:List β):∀l:List α,l.flatMap (fun _=>x)=(List.replicate l.length x).flatten
 |[]=>rfl
 |a::l=>by rw[List.flatMap_cons,DU x l,List.length_cons,List.replicate_succ,List.flatten_cons]
theorem DV:∀(S:List (List Int)) (i:Nat) (s:List Int),S[i]?=some s->(pL S).map (fun h=>h[i]?.getD 0)=pQ (((S.take i).map List.length).foldr (· *·) 1) s (((S.drop (i+1)).map List.length).foldr (· *·) 1)
 |[],i,s,h=>by simp at h
 |a::r,0,s,h=>by
  have h:a=s:=by simpa using h
  subst h
  unfold pL pQ
  rw[List.map_flatMap]
  simp only[List.take_zero,List.map_nil,List.foldr_nil,List.replicate_one,List.flatten_cons,List.flatten_nil,List.append_nil,Nat.zero_add,List.drop_succ_cons,List.drop_zero]
  rw[<-kH]
  congr 1
  funext n
  rw[List.map_map,show ((fun h:List Int=>h[0]?.getD 0) ∘ fun x=>n::x)=fun _=>n from rfl,List.map_const']
 |a::r,i+1,s,h=>by
  have h:r[i]?=some s:=by simpa using h
  have ih:=DV r i s h
  unfold pL
  rw[List.map_flatMap]
  have e:(fun n:Int=>List.map (fun h:List Int=>h[i+1]?.getD 0) (List.map (fun x=>n::x) (pL r)))=fun _=>(pL r).map fun h=>h[i]?.getD 0:=by
   funext n
   rw[List.map_map]
   rfl
  rw[e,ih,DU]
  unfold pQ
  rw[DT]
  congr 2
end Go.Proofs.YtnaejeiofbpbkaaGreatDoor
end
section
namespace Go.Proofs.YtnaejeiofbpbkaaGreatDoor
open Go Go.Sep Go.Proofs
set_option maxRecDepth 100000
set_option maxHeartbeats 4000000
set_option linter.all false
theorem DW (P:Nat->Int->Bool):∀(S:List (List Int)) (i j:Nat),(iL P i S)[j]?=S[j]?.map (List.filter (P (i+j)))
 |[],i,j=>by simp[iL]
 |s::r,i,0=>by simp[iL]
 |s::r,i,j+1=>by
  have:=DW P r (i+1) j
  rw[show i+1+j=i+(j+1) by omega] at this
  simpa [iL] using this
theorem DX (P:Nat->Int->Bool):∀(S:List (List Int)) (i:Nat),(iL P i S).length=S.length
 |[],i=>rfl
 |s::r,i=>by simp[iL,DX P r (i+1)]
def cq (u:aj)(i:Nat)(e:bO):List Int:=(cH e.high).filter (lF u i)
theorem sj {u:aj}{i:Nat}{e:bO}(he:u.an[i]?=some e):(kG u)[i]?=some (cq u i e):=by
 unfold kG;rw[DW,List.getElem?_map,he];simp[cq]
theorem n7 (u:aj):(kG u).length=u.an.length:=by unfold kG;rw[DX,List.length_map]
theorem Ku (P:Int->Bool){b:dn}(h0:0<=b.low)(h1:b.low<=b.high)(h2:b.high<=60)(h3:b.high - b.low<3):
  (cH b).filter P=[]\/∃(c:Nat) (T:List Int),c<=60/\T∈pR/\(cH b).filter P=T.map (· +(c:Int)):=by
 obtain ⟨c,d⟩:∃c:Nat,b.low=(c:Int):=⟨b.low.toNat,by omega⟩
 rcases (show b.high=c\/b.high=c+1\/b.high=c+2 by omega) with h|h|h
 .have e:cH b=[(c:Int)]:=by unfold cH;rw[h,d,show ((c:Int) - c+1).toNat=1 by omega];simp[List.range,List.range.loop]
  rw[e]
  cases p0:P c
  .left;simp[List.filter,p0]
  .right;exact ⟨c,[0],by omega,by decide,by simp[List.filter,p0]⟩
 .have e:cH b=[(c:Int),c+1]:=by unfold cH;rw[h,d,show ((c:Int)+1 - c+1).toNat=2 by omega];simp[List.range,List.range.loop]
  rw[e]
  cases p0:P c<;>cases a:P (c+1)
  .left;simp[List.filter,p0,a]
  .right;exact ⟨c+1,[0],by omega,by decide,by simp[List.filter,p0,a]⟩
  .right;exact ⟨c,[0],by omega,by decide,by simp[List.filter,p0,a]⟩
  .right;exact ⟨c,[0,1],by omega,by decide,by simp[List.filter,p0,a];omega⟩
 .have e:cH b=[(c:Int),c+1,c+2]:=by unfold cH;rw[h,d,show ((c:Int)+2 - c+1).toNat=3 by omega];simp[List.range,List.range.loop]
  rw[e]
  cases p0:P c<;>cases a:P (c+1)<;>cases p2:P (c+2)
  .left;simp[List.filter,p0,a,p2]
  .right;exact ⟨c+2,[0],by omega,by decide,by simp[List.filter,p0,a,p2]⟩
  .right;exact ⟨c+1,[0],by omega,by decide,by simp[List.filter,p0,a,p2]⟩
  .right;exact ⟨c+1,[0,1],by omega,by decide,by simp[List.filter,p0,a,p2];omega⟩
  .right;exact ⟨c,[0],by omega,by decide,by simp[List.filter,p0,a,p2]⟩
  .right;exact ⟨c,[0,2],by omega,by decide,by simp[List.filter,p0,a,p2];omega⟩
  .right;exact ⟨c,[0,1],by omega,by decide,by simp[List.filter,p0,a,p2];omega⟩
  .right;exact ⟨c,[0,1,2],by omega,by decide,by simp[List.filter,p0,a,p2];omega⟩
theorem DY:∀{S:List (List Int)},pL S≠[]->∀s,s∈S->s≠[]
 |[],_,s,h=>by simp at h
 |a::r,b,s,h=>by
  have e:pL (a::r)=a.flatMap fun n=>(pL r).map (n::·):=rfl
  rcases List.mem_cons.1 h with rfl|h
  .intro he;rw[e,he] at b;exact b rfl
  .refine DY (S:=r) (fun he=>?_) s h
   rw[e,he] at b
   exact b (by simp)
def n8 (l:List Nat):Nat:=l.foldr (· *·) 1
theorem Kv {L:List Nat}(h3:L.length<=3)(h:∀x,x∈L->1<=x/\x<=3){i:Nat}(hi:i<L.length):(n8 (L.take i),n8 (L.drop (i+1)))∈n6:=by
 match L,h3,h,hi with
 |[a],_,h,hi=>
  obtain rfl:i=0:=by simpa using hi
  show (1,1)∈n6;decide
 |[a,b],_,h,hi=>
  have d:=h a (by simp);have hb:=h b (by simp);rcases (show a=1\/a=2\/a=3 by omega) with rfl|rfl|rfl<;>rcases (show b=1\/b=2\/b=3 by omega) with rfl|rfl|rfl<;>rcases (show i=0\/i=1 by simp at hi;omega) with rfl|rfl<;>decide
 |[a,b,c],_,h,hi=>
  have d:=h a (by simp);have hb:=h b (by simp);have e:=h c (by simp);rcases (show a=1\/a=2\/a=3 by omega) with rfl|rfl|rfl<;>rcases (show b=1\/b=2\/b=3 by omega) with rfl|rfl|rfl<;>rcases (show c=1\/c=2\/c=3 by omega) with rfl|rfl|rfl<;>rcases (show i=0\/i=1\/i=2 by simp at hi;omega) with rfl|rfl|rfl<;>decide
theorem sk {α β:Type}(f:α->β):∀l:List α,(l.flatMap fun x=>[f x])=l.map f
 |[]=>rfl
 |a::l=>by rw[List.flatMap_cons,sk f l];rfl
theorem vk {T:List Int}(h:T∈pR):1<=T.length/\T.length<=3:=by
 unfold pR at h;simp only[List.mem_cons,List.not_mem_nil,or_false] at h;rcases h with rfl|rfl|rfl|rfl<;>decide
variable {u:aj}(F:Fit u)(aG:bM u ≠ []){i:Nat}{e:bO}(he:u.an[i]? = some e)
include F aG he
theorem sn:∃(c:Nat) (T:List Int),c<=60/\T∈pR/\cq u i e=T.map (· +(c:Int)):=by
 obtain ⟨c1,c2,c3,c4,a⟩:=F.aS _ _ he;rcases Ku (lF u i) (b:=e.high) c2 c3 c4 a with h|h
 .rw[vj F] at aG;exact absurd h (DY aG _ (List.mem_of_getElem? (sj he)))
 .exact h
theorem Kw:∃p,p∈n6/\1<=p.1/\1<=p.2/\(bM u).map (fun h=>h[i]?.getD 0)=pQ p.1 (cq u i e) p.2:=by
 have hi:i<u.an.length:=(List.getElem?_eq_some_iff.1 he).1;have h3:=F.an;have m:∀x,x∈(kG u).map List.length->1<=x/\x<=3:=fun x f=>by
  rw[List.mem_map] at f;obtain ⟨s,hs,rfl⟩:=f;obtain ⟨j,g⟩:=List.mem_iff_getElem?.1 hs;have k:j<u.an.length:=by rw[<-n7 u];exact (List.getElem?_eq_some_iff.1 g).1
  have l:=sj (u:=u) (List.getElem?_eq_getElem k);rw[g] at l;obtain ⟨c,T,-,n,e2⟩:=sn F aG (List.getElem?_eq_getElem k);rw[Option.some.inj l,e2,List.length_map];exact vk n
 have d:=Kv (L:=(kG u).map List.length) (by simp[n7];omega) m (i:=i) (by simp[n7];omega);refine ⟨_,d,?_,?_,?_⟩
 .revert d;generalize n8 _=a;generalize n8 _=b;intro d;have:∀q,q∈n6->1<=q.1:=by decide
  exact this _ d
 .revert d;generalize n8 _=a;generalize n8 _=b;intro d;have:∀q,q∈n6->1<=q.2:=by decide
  exact this _ d
 .rw[vj F,DV _ i _ (sj he)];unfold n8;rw[List.map_take,List.map_drop]
theorem Kx:bE (o8 (i:Int)) 0 ((bM u).map cR) []=some (.nx ((bM u).map fun h=>h[i]?.getD 0)):=by
 have hi:i<u.an.length:=(List.getElem?_eq_some_iff.1 he).1;have h3:=F.an;have d:=(vi F).2;have key:=fe (f:=o8 (i:Int)) (g:=fun _ x (s:List Int)=>s++[(aZ.get x (i:Int)).getD 0]) (I:=fun j s=>s.length<=j/\j<=(bM u).length) ((bM u).map cR) 0 [] ⟨by simp,by omega⟩
  (fun j x s a e=>by
   rw[List.getElem?_map,Option.map_eq_some_iff] at a;obtain ⟨h,b,rfl⟩:=a;have k:j<(bM u).length:=(List.getElem?_eq_some_iff.1 b).1;obtain ⟨m,hm,hs,hb⟩:=DF F he (List.mem_of_getElem? b);have hg:aZ.get (cR h) (i:Int)=some m:=y4 (by omega) (by omega) (by simpa using hm);refine ⟨?_,?_⟩
   .unfold o8;simp only[hg,af,Option.getD_some];unfold cG;rw[if_pos (by simp;omega)]
   .simp only[List.length_append,List.length_singleton];omega)
 rw[key.1,pO];congr 2;have e1:foldI (fun l x s=>s++[((cR x).get (i:Int)).getD 0]) 0 (bM u) []=foldI (fun _ x (s:List Int)=>s++(fun x:List Int=>[x[i]?.getD 0]) x) 0 (bM u) []:=by
  refine DD _ _ _ fun j h s hm=>?_;obtain ⟨m,c,hs,hb⟩:=DF F he hm;have hg:aZ.get (cR h) (i:Int)=some m:=y4 (by omega) (by omega) (by simpa using c);rw[hg];show _=s++[h[i]?.getD 0];rw[c]
 rw[e1,nZ,List.nil_append];exact sk _ _
theorem vl:mg ⟨u,(bM u).map cR⟩ (i:Int)=some (cq u i e):=by
 obtain ⟨p,a,d,p2,b⟩:=Kw F aG he;obtain ⟨c,T,h1,h2,h3⟩:=sn F aG he;have hs:=Ks h1 a h2;rw[<-h3,<-b] at hs;unfold mg;rw[Kx F aG he];unfold zl at hs;simp only[af,aC] at hs ⊢;cases h:rz ((bM u).map fun h=>h[i]?.getD 0) with
 |none=>rw[h] at hs;cases hs
 |some x=>
  rw[h] at hs;simp only at hs ⊢;rw[hs]
end Go.Proofs.YtnaejeiofbpbkaaGreatDoor
end
section
namespace Go.Proofs.YtnaejeiofbpbkaaGreatDoor
open Go Go.Sep Go.Proofs
set_option maxRecDepth 100000
set_option maxHeartbeats 4000000
theorem Ky {x y:au}(b:∃n d,0<d/\x=bF n d)(c:∃n d,0<d/\y=bF n d)(h:x.num*y.den=y.num*x.den):x=y:=by
 obtain ⟨n,d,hd,ex⟩:=b;obtain ⟨m,e,he,a⟩:=c;have g:0<x.den:=by rw[ex];exact (nS n d hd).2
 have i:0<y.den:=by rw[a];exact (nS m e he).2
 have k1:bF x.num x.den.toNat=x:=by rw[ex];exact Dl n d hd
 have f:bF y.num y.den.toNat=y:=by rw[a];exact Dl m e he
 rw[<-k1,<-f];refine yS (by omega) (by omega) ?_;rw[show ((y.den.toNat:Nat):Int)=y.den by omega,show ((x.den.toNat:Nat):Int)=x.den by omega];exact h
theorem vm {x y:au}(a:∃n d,0<d/\x=bF n d)(b:∃n d,0<d/\y=bF n d)(h1:bC x y=false)(h2:bC y x=false):x=y:=by
 refine Ky a b ?_;unfold bC at h1 h2;rw[decide_eq_false_iff_not] at h1 h2;omega
def g9 (T:List bA)(l:List Int):List bA:=l.filterMap fun i=>T[i.toNat]?
def look (P:List (List Int×Bool))(x:List Int):Bool:=((P.find? fun y=>y.1==x).map (·.2)).getD false
def iM (n:Nat):List (List Int):=match n with
 |0=>[[]]
 |1=>[[],[0]]
 |2=>[[],[0],[1],[0,1]]
 |_=>S3
structure DZ (u:aj)(l:List Int):Prop where
 mem:l∈iM u.told.length
 ne:l≠[]
 D1:b7 u (g9 u.told l)=true
 less:∀i,i<l.length->l.eraseIdx i∈iM u.told.length/\b7 u (g9 u.told (l.eraseIdx i))=false
 least:∀o,o∈iM u.told.length->b7 u (g9 u.told o)=true->iJ o l=false
def so (S:List (List Int))(P:List (List Int×Bool))(l:List Int):Bool:=
 S.contains l&&!l.isEmpty&&look P l&&((List.range l.length).all fun i=>S.contains (l.eraseIdx i)&&!look P (l.eraseIdx i))&&S.all fun o=>!look P o||!iJ o l
theorem Kz:∀e1 e2 a b c d:Bool,so (iM 3) [([],false),([0],e1),([1],e2),([0,1],a),([2],b),([0,2],c),([1,2],d),([0,1,2],true)] (iK [([],false),([0],e1),([0,1],a),([1],e2),([1,2],d),([0,1,2],true),([0,2],c),([2],b)] [0,1,2])=true:=by decide+kernel
theorem KA:∀e1 e2:Bool,so (iM 2) [([],false),([0],e1),([1],e2),([0,1],true)] (iK [([],false),([0],e1),([0,1],true),([1],e2)] [0,1])=true:=by decide+kernel
theorem zm:so (iM 1) [([],false),([0],true)] (iK [([],false),([0],true)] [0])=true:=by decide+kernel
theorem D2:∀(l:List bO) (p:List Int),(∀e,e∈l->e.high.low<=e.high.high)->dx p l≠[]
 |[],p,_=>by simp[dx]
 |e::l,p,h=>by
  have h0:=h e (List.mem_cons_self ..)
  unfold dx
  rw[show e.high=⟨e.high.low,e.high.high⟩ from rfl,ze h0,List.flatMap_cons]
  exact fun x=>D2 l (p++[e.high.low]) (fun y a=>h y (List.mem_cons_of_mem _ a)) (List.append_eq_nil_iff.1 x).1
theorem KB {u:aj}(F:Fit u):b7 u []=false:=by
 unfold b7 bM;have b:(dx [] (wt u []).an).filter (fI (wt u []))=dx [] u.an:=List.filter_eq_self.2 fun _ _=>rfl;rw[b];have:=D2 u.an [] fun e he=>by
  obtain ⟨i,hi⟩:=List.mem_iff_getElem?.1 he;have:=F.aS i e hi;omega
 cases h:dx [] u.an with
 |nil=>exact absurd h this
 |cons a l=>rfl
theorem zn {u:aj}{P:List (List Int×Bool)}{l:List Int}(a:∀o,o∈iM u.told.length->look P o=b7 u (g9 u.told o))(h:so (iM u.told.length) P l=true):DZ u l:=by
 unfold so at h;simp only[Bool.and_eq_true,List.all_eq_true,List.contains_iff_mem,Bool.or_eq_true,Bool.not_eq_true',List.mem_range] at h;obtain ⟨⟨⟨⟨h1,h2⟩,h3⟩,b⟩,d⟩:=h;refine ⟨h1,fun e=>?_,?_,fun i hi=>⟨(b i hi).1,?_⟩,fun o c f=>?_⟩
 .rw[e] at h2;cases h2
 .rw[<-a l h1];exact h3
 .rw[<-a _ (b i hi).1];exact (b i hi).2
 .rcases d o c with x|x
  .rw[a o c,f] at x;cases x
  .exact x
theorem zo {u:aj}(F:Fit u)(h1:dZ u=some 0)(L:pM u):((bM u).isEmpty=false/\iW u=some ([],0))\/((bM u).isEmpty=true/\∃l,iW u=some (l,0)/\DZ u l):=by
 have h2:jO u=some 0:=by
  obtain ⟨c,a,b⟩:=bars L;rw[h1] at a;rw[b,<-a]
 cases he:(bM u).isEmpty with
 |false=>
  refine .inl ⟨rfl,?_⟩;unfold iW;rw[pN h1];simp only[af,zg F,he];rfl
 |true=>
  refine .inr ⟨rfl,?_⟩;have n:b7 u u.told=true:=he;have m:=KB F;have ht:=F.told;clear L;obtain ⟨e,f,g,i,j,k,T⟩:=u;rcases T with _|⟨a,_|⟨b,_|⟨c,_|⟨d,T⟩⟩⟩⟩
  .rw[show b7 ⟨e,f,g,i,j,k,[]⟩ []=true from n] at m;cases m
  .obtain ⟨r,a1,a2,a3,a4,a5⟩:=zj F h1 h2 (Kf ..);obtain rfl:=a5 he;refine ⟨_,a1,?_⟩;simp only[List.map_cons,List.map_nil,m,show b7 ⟨e,f,g,i,j,k,[a]⟩ [a]=true from n];refine zn (P:=[([],b7 ⟨e,f,g,i,j,k,[a]⟩ []),([0],b7 ⟨e,f,g,i,j,k,[a]⟩ [a])]) (fun o h=>?_) ?_
   .have h:o∈[[],[0]]:=h;simp only[List.mem_cons,List.not_mem_nil,or_false] at h;rcases h with rfl|rfl<;>rfl
   .rw[m,show b7 ⟨e,f,g,i,j,k,[a]⟩ [a]=true from n];exact zm
  .obtain ⟨r,a1,a2,a3,a4,a5⟩:=zj F h1 h2 (Kg ..);obtain rfl:=a5 he;refine ⟨_,a1,?_⟩;simp only[List.map_cons,List.map_nil,m,show b7 ⟨e,f,g,i,j,k,[a,b]⟩ [a,b]=true from n];refine zn (P:=[([],b7 ⟨e,f,g,i,j,k,[a,b]⟩ []),([0],b7 ⟨e,f,g,i,j,k,[a,b]⟩ [a]),([1],b7 ⟨e,f,g,i,j,k,[a,b]⟩ [b]),([0,1],b7 ⟨e,f,g,i,j,k,[a,b]⟩ [a,b])]) (fun o h=>?_) ?_
   .have h:o∈[[],[0],[1],[0,1]]:=h;simp only[List.mem_cons,List.not_mem_nil,or_false] at h;rcases h with rfl|rfl|rfl|rfl<;>rfl
   .rw[m,show b7 ⟨e,f,g,i,j,k,[a,b]⟩ [a,b]=true from n];exact KA _ _
  .obtain ⟨r,a1,a2,a3,a4,a5⟩:=zj F h1 h2 (Kh ..);obtain rfl:=a5 he;refine ⟨_,a1,?_⟩;simp only[List.map_cons,List.map_nil,m,show b7 ⟨e,f,g,i,j,k,[a,b,c]⟩ [a,b,c]=true from n];refine zn (P:=[([],b7 ⟨e,f,g,i,j,k,[a,b,c]⟩ []),([0],b7 ⟨e,f,g,i,j,k,[a,b,c]⟩ [a]),([1],b7 ⟨e,f,g,i,j,k,[a,b,c]⟩ [b]),([0,1],b7 ⟨e,f,g,i,j,k,[a,b,c]⟩ [a,b]),([2],b7 ⟨e,f,g,i,j,k,[a,b,c]⟩ [c]),([0,2],b7 ⟨e,f,g,i,j,k,[a,b,c]⟩ [a,c]),([1,2],b7 ⟨e,f,g,i,j,k,[a,b,c]⟩ [b,c]),([0,1,2],b7 ⟨e,f,g,i,j,k,[a,b,c]⟩ [a,b,c])]) (fun o h=>?_) ?_
   .have h:o∈S3:=h;simp only[S3,List.mem_cons,List.not_mem_nil,or_false] at h;rcases h with rfl|rfl|rfl|rfl|rfl|rfl|rfl|rfl<;>rfl
   .rw[m,show b7 ⟨e,f,g,i,j,k,[a,b,c]⟩ [a,b,c]=true from n];exact Kz _ _ _ _ _ _
  .simp only[List.length_cons] at ht;omega
end Go.Proofs.YtnaejeiofbpbkaaGreatDoor
end

/- A part of the proof: QT6. -/
import Derived.Test.YtlchekhkopimhaaGreatDoorQT5
import Derived.Conc.CrowdBase
import GoSem.Core.Value
set_option linter.all false
section
namespace Go.Sep
open Go.ConcN (sumTo upd sumTo_upd upd_ne upd_same le_sumTo sumTo_le sumTo_congr)
inductive Mp where
 |idle
 |want (aw:Bool) (old:Int) (G:Nat)
 |oR (G:Nat)|wU (G:Nat)
 |s5 (x:Bool)
 |held
 |wV (old:Int) (G:Nat)
 |Bo|Bp|fin
inductive Gp where
 |new|cnt|rel|ld|st|sm|gone
 deriving DecidableEq
structure Ph where
 mp:Mp
 gp:Gp
 stored:Bool
 deaf:Nat
structure Sh where
 mu:Int
 ms:Int
 wg:Int
 ws:Int
 is:List Bool
inductive P0 where
 |opn (pend:Nat)
 |look (v:Nat)
 |reg|cZ
namespace Mp
def nH:Mp->Nat|held=>1|_=>0
def nA:Mp->Nat|want true _ _=>1|_=>0
def nQ:Mp->Nat|oR _=>1|_=>0
def nK:Mp->Nat|wU _=>1|_=>0
def nI:Mp->Nat|s5 _=>1|_=>0
def nX:Mp->Nat|s5 true=>1|_=>0
def nT:Mp->Nat|Bo=>1|_=>0
def nY:Mp->Nat|Bp=>1|_=>0
def nR:Mp->Nat|wV _ _=>1|_=>0
def wt:Mp->Nat
 |idle=>7|want false _ _=>7|want true _ _=>6|oR _=>5|wU _=>6|s5 _=>6|held=>5|wV _ _=>4|Bo=>3|Bp=>3|fin=>0
def seen:Mp->Option (Option Int×Nat)
 |want _ o G=>some (some o,G)
 |wV o G=>some (some o,G)
 |oR G=>some (none,G)
 |wU G=>some (none,G)
 |_=>none
def k7:Mp->Bool
 |oR _=>true
 |_=>false
def out:Mp->Bool
 |idle|fin=>true
 |_=>false
end Mp
def Gp.nV:Gp->Nat|cnt=>1|rel=>1|_=>0
def Gp.n1:Gp->Nat|ld=>1|st=>1|_=>0
def Gp.n3:Gp->Nat|sm=>1|_=>0
def sm (k:Nat)(φ:Nat->Ph)(f:Mp->Nat):Nat:=sumTo k fun a=>f (φ a).mp
def sg (k:Nat)(φ:Nat->Ph)(f:Gp->Nat):Nat:=sumTo k fun a=>f (φ a).gp
theorem jT (k:Nat)(φ:Nat->Ph){i:Nat}(hi:i<k)(x:Ph)(f:Mp->Nat):sm k (upd φ i x) f+f (φ i).mp=sm k φ f+f x.mp:=sumTo_upd φ x (fun p=>f p.mp) hi
theorem wW (k:Nat)(φ:Nat->Ph){i:Nat}(hi:i<k)(x:Ph)(f:Gp->Nat):sg k (upd φ i x) f+f (φ i).gp=sg k φ f+f x.gp:=sumTo_upd φ x (fun p=>f p.gp) hi
theorem ju {k:Nat}{φ:Nat->Ph}{i:Nat}(hi:i<k)(f:Mp->Nat):f (φ i).mp<=sm k φ f:=le_sumTo (f:=fun a=>f (φ a).mp) hi
theorem oS {k:Nat}{φ:Nat->Ph}{i:Nat}(hi:i<k)(f:Gp->Nat):f (φ i).gp<=sg k φ f:=le_sumTo (f:=fun a=>f (φ a).gp) hi
theorem HT (k:Nat)(φ:Nat->Ph){f g:Mp->Nat}(h:∀x,f x<=g x):sm k φ f<=sm k φ g:=by
 unfold sm
 induction k with
 |zero=>exact Nat.le_refl _
 |succ k ih=>simp only[sumTo];exact Nat.add_le_add ih (h _)
def fQ (k:Nat)(φ:Nat->Ph)(ms:Int):Nat:=sm k φ Mp.wt+2*ms.toNat
structure St (x:Int)(C S W L:Nat):Prop where
 eq:x=((8*C+4*S+2*W+L:Nat):Int)
 l:L<=1
 w:W<=1
 s:S<=1
structure k8 (k:Nat)(φ:Nat->Ph)(mu ms:Int)(C S W L m:Nat):Prop where
 st:St mu C S W L
 cnt:ms=(m:Int)
 lock:L=sm k φ Mp.nH
 norm:S=0->sm k φ Mp.nI=0/\sm k φ Mp.nY=0/\W=sm k φ Mp.nA+m+sm k φ Mp.nK+sm k φ Mp.nT/\C+m+sm k φ Mp.nT=sm k φ Mp.nQ/\(0<C->L=0->W=0->0<sm k φ Mp.nR)
 Bq:S=1->W=0/\sm k φ Mp.nA=0/\sm k φ Mp.nT=0/\L+m+sm k φ Mp.nY+sm k φ Mp.nK+sm k φ Mp.nI=1/\C=sm k φ Mp.nQ+sm k φ Mp.nK+sm k φ Mp.nI/\1<=C/\(0<sm k φ Mp.nX->2<=C)
 seen:∀i,i<k->∀o G,(φ i).mp.seen=some (o,G)->fQ k φ ms<=G/\(some mu≠o->fQ k φ ms<G)
def c8:Int:=4294967296
structure c9 (k:Nat)(φ:Nat->Ph)(p0:P0)(wg ws:Int):Prop where
 inv:match p0 with
  | .opn pend=>pend<=1/\wg=((sg k φ Gp.nV+pend:Nat):Int)*c8/\ws=0/\sg k φ Gp.n1=0/\sg k φ Gp.n3=0
  | .look v=>sg k φ Gp.nV<=v/\wg=((sg k φ Gp.nV:Nat):Int)*c8/\ws=0/\sg k φ Gp.n1=0/\sg k φ Gp.n3=0
  | .reg=>(0<sg k φ Gp.nV/\sg k φ Gp.n1=0/\sg k φ Gp.n3=0/\wg=((sg k φ Gp.nV:Nat):Int)*c8+1/\ws=0)\/
    (sg k φ Gp.nV=0/\sg k φ Gp.n1=1/\sg k φ Gp.n3=0/\wg=1/\ws=0)\/
    (sg k φ Gp.nV=0/\sg k φ Gp.n1=0/\sg k φ Gp.n3=1/\wg=0/\ws=0)\/
    (sg k φ Gp.nV=0/\sg k φ Gp.n1=0/\sg k φ Gp.n3=0/\wg=0/\ws=1)
  | .cZ=>sg k φ Gp.nV=0/\sg k φ Gp.n1=0/\sg k φ Gp.n3=0/\wg=0/\ws=0
structure HU (n:Nat)(bs:Nat->Bool)(k:Nat)(φ:Nat->Ph)(is:List Bool):Prop where
 len:is.length=n
 kn:k<=n
 all:∀i,i<n->is[i]?=some (φ i).stored
 born:∀i,i<n->(i<k↔(φ i).gp≠ .new)
 new:∀i,i<n->(φ i).gp= .new->(φ i).stored=false/\(φ i).mp= .idle/\(φ i).deaf=0
 done:∀i,i<n->(φ i).gp≠ .cnt->(φ i).gp≠ .new->(φ i).stored=bs i/\(φ i).mp= .fin
structure Inv (n:Nat)(bs:Nat->Bool)(k:Nat)(φ:Nat->Ph)(p0:P0)(s:Sh):Prop where
 m:∃C S W L m,k8 n φ s.mu s.ms C S W L m
 w:c9 n φ p0 s.wg s.ws
 i:HU n bs k φ s.is
section
variable {k i:Nat}{φ:Nat->Ph}{mu ms:Int}{C S W L m:Nat}
theorem St.uniq {x:Int}{C S W L a b c d:Nat}(h:St x C S W L)(h':St x a b c d):C=a/\S=b/\W=c/\L=d:=by
 have:=h.eq;have:=h'.eq;have:=h.l;have:=h.w;have:=h.s;have:=h'.l;have:=h'.w;have:=h'.s;omega
theorem HV {k:Nat}{φ:Nat->Ph}{mu b ms a:Int}{i:Nat}{x:Ph}(hs:∀i,i<k->∀o G,(φ i).mp.seen=some (o,G)->fQ k φ ms<=G/\(some mu≠o->fQ k φ ms<G))
  (hb:fQ k (upd φ i x) a<=fQ k φ ms) (d:b≠mu->fQ k (upd φ i x) a<fQ k φ ms)
  (f:∀o G,x.mp.seen=some (o,G)->fQ k (upd φ i x) a<=G/\(some b≠o->fQ k (upd φ i x) a<G)):
  ∀j,j<k->∀o G,((upd φ i x) j).mp.seen=some (o,G)->fQ k (upd φ i x) a<=G/\(some b≠o->fQ k (upd φ i x) a<G):=by
 intro j g o G h
 by_cases e:j=i
 .subst e;rw[upd_same] at h;exact f o G h
 .rw[upd_ne _ _ e] at h
  obtain ⟨c,l⟩:=hs j g o G h
  refine ⟨Nat.le_trans hb c,fun m=>?_⟩
  by_cases hm:b=mu
  .exact Nat.lt_of_le_of_lt hb (l (hm▸m))
  .exact Nat.lt_of_lt_of_le (d hm) c
theorem HW (hi:i<k)(x:Ph):
  (sm k (upd φ i x) Mp.nH+Mp.nH (φ i).mp=sm k φ Mp.nH+Mp.nH x.mp/\sm k (upd φ i x) Mp.nA+Mp.nA (φ i).mp=sm k φ Mp.nA+Mp.nA x.mp/\
  sm k (upd φ i x) Mp.nQ+Mp.nQ (φ i).mp=sm k φ Mp.nQ+Mp.nQ x.mp/\sm k (upd φ i x) Mp.nK+Mp.nK (φ i).mp=sm k φ Mp.nK+Mp.nK x.mp/\
  sm k (upd φ i x) Mp.nI+Mp.nI (φ i).mp=sm k φ Mp.nI+Mp.nI x.mp)/\(sm k (upd φ i x) Mp.nX+Mp.nX (φ i).mp=sm k φ Mp.nX+Mp.nX x.mp/\
  sm k (upd φ i x) Mp.nT+Mp.nT (φ i).mp=sm k φ Mp.nT+Mp.nT x.mp/\sm k (upd φ i x) Mp.nY+Mp.nY (φ i).mp=sm k φ Mp.nY+Mp.nY x.mp/\
  sm k (upd φ i x) Mp.nR+Mp.nR (φ i).mp=sm k φ Mp.nR+Mp.nR x.mp/\sm k (upd φ i x) Mp.wt+Mp.wt (φ i).mp=sm k φ Mp.wt+Mp.wt x.mp):=
 ⟨⟨jT k φ hi x _,jT k φ hi x _,jT k φ hi x _,jT k φ hi x _,jT k φ hi x _⟩,jT k φ hi x _,jT k φ hi x _,jT k φ hi x _,jT k φ hi x _,jT k φ hi x _⟩
theorem xi:sm k φ Mp.nX<=sm k φ Mp.nI:=HT k φ fun x=>by
 cases x with
 |s5 b=>cases b<;>simp[Mp.nX,Mp.nI]
 |_=>simp[Mp.nX,Mp.nI]
theorem HX (hi:i<k):(Mp.nH (φ i).mp<=sm k φ Mp.nH/\Mp.nA (φ i).mp<=sm k φ Mp.nA/\Mp.nQ (φ i).mp<=sm k φ Mp.nQ/\Mp.nK (φ i).mp<=sm k φ Mp.nK/\Mp.nI (φ i).mp<=sm k φ Mp.nI)/\
  (Mp.nX (φ i).mp<=sm k φ Mp.nX/\Mp.nT (φ i).mp<=sm k φ Mp.nT/\Mp.nY (φ i).mp<=sm k φ Mp.nY/\Mp.nR (φ i).mp<=sm k φ Mp.nR/\Mp.wt (φ i).mp<=sm k φ Mp.wt):=
 ⟨⟨ju hi _,ju hi _,ju hi _,ju hi _,ju hi _⟩,ju hi _,ju hi _,ju hi _,ju hi _,ju hi _⟩
theorem k8.move (h:k8 k φ mu ms C S W L m)(hi:i<k)(x:Ph){f j:Int}{b g c d a:Nat}(n:St f b g c d)(l:j=(a:Int))
  (p:d=sm k (upd φ i x) Mp.nH)
  (r:g=0->sm k (upd φ i x) Mp.nI=0/\sm k (upd φ i x) Mp.nY=0/\c=sm k (upd φ i x) Mp.nA+a+sm k (upd φ i x) Mp.nK+sm k (upd φ i x) Mp.nT/\b+a+sm k (upd φ i x) Mp.nT=sm k (upd φ i x) Mp.nQ/\(0<b->d=0->c=0->0<sm k (upd φ i x) Mp.nR))
  (s:g=1->c=0/\sm k (upd φ i x) Mp.nA=0/\sm k (upd φ i x) Mp.nT=0/\d+a+sm k (upd φ i x) Mp.nY+sm k (upd φ i x) Mp.nK+sm k (upd φ i x) Mp.nI=1/\b=sm k (upd φ i x) Mp.nQ+sm k (upd φ i x) Mp.nK+sm k (upd φ i x) Mp.nI/\1<=b/\(0<sm k (upd φ i x) Mp.nX->2<=b))
  (hb:sm k (upd φ i x) Mp.wt+2*a<=sm k φ Mp.wt+2*m) (t:f≠mu->sm k (upd φ i x) Mp.wt+2*a<sm k φ Mp.wt+2*m)
  (u:∀o G,x.mp.seen=some (o,G)->sm k (upd φ i x) Mp.wt+2*a<=G/\(some f≠o->sm k (upd φ i x) Mp.wt+2*a<G)):k8 k (upd φ i x) f j b g c d a:=by
 have e:fQ k φ ms=sm k φ Mp.wt+2*m:=by rw[fQ,h.cnt];rfl
 have v:fQ k (upd φ i x) j=sm k (upd φ i x) Mp.wt+2*a:=by rw[fQ,l];rfl
 exact ⟨n,l,p,r,s,HV h.seen aa (fun q=>by have:=t q;omega) (fun o G q=>by rw[v];exact u o G q)⟩
theorem HY (h:k8 k φ mu ms C S W L m):fQ k φ ms=sm k φ Mp.wt+2*m:=by rw[fQ,h.cnt];rfl
set_option linter.unusedVariables false
theorem Br (h:k8 k φ mu ms C S W L m)(hi:i<k)(x:Ph)(a:x.mp=(φ i).mp\/((φ i).mp= .idle/\x.mp= .fin)):k8 k (upd φ i x) mu ms C S W L m:=by
 have s:=HW (φ:=φ) hi x;have d:=xi (k:=k) (φ:=φ);have e:=xi (k:=k) (φ:=upd φ i x);have l:=HX (φ:=φ) hi;have hn:=h.norm;have hs:=h.Bq;have f:=h.lock;have hb:=HY h;rcases a with a|⟨b,a⟩
 .rw[a] at s;refine h.move hi x h.st h.cnt aa (fun z=>?_) (fun z=>?_) aa aa (fun o G q=>?_)
  .have:=hn z;omega
  .have:=hs z;omega
  .rw[a] at q;have c:=h.seen i hi o G q;exact ⟨aa,fun z=>by have:=c.2 z;omega⟩
 .rw[b,a] at s;rw[b] at l;simp only[Mp.nH,Mp.nA,Mp.nQ,Mp.nK,Mp.nI,Mp.nX,Mp.nT,Mp.nY,Mp.nR,Mp.wt] at s l;refine h.move hi x h.st h.cnt aa (fun z=>?_) (fun z=>?_) aa aa (by simp[a,Mp.seen])
  .have:=hn z;omega
  .have:=hs z;omega
theorem Bs {k:Nat}{φ:Nat->Ph}{f:Mp->Nat}(h:∀i,i<k->f (φ i).mp=0):sm k φ f=0:=by
 induction k with
 |zero=>rfl
 |succ k ih=>
  have:=ih fun i hi=>h i aa;show sm k φ f+f (φ k).mp=0;rw[this,h k aa]
theorem s6 {k:Nat}{φ:Nat->Ph}{f:Gp->Nat}(h:∀i,i<k->f (φ i).gp=0):sg k φ f=0:=by
 induction k with
 |zero=>rfl
 |succ k ih=>
  have:=ih fun i hi=>h i aa;show sg k φ f+f (φ k).gp=0;rw[this,h k aa]
theorem Bt {k:Nat}{φ:Nat->Ph}{f:Gp->Nat}(h:0<sg k φ f):∃i,i<k/\0<f (φ i).gp:=by
 rcases Classical.em (∃i,i<k/\0<f (φ i).gp) with x|x
 .exact x
 .have:=s6 (k:=k) (φ:=φ) (f:=f) fun i hi=>by
   rcases Nat.eq_zero_or_pos (f (φ i).gp) with y|y
   .exact y
   .exact absurd ⟨i,hi,y⟩ x
  omega
end
section
variable {k i:Nat}{φ:Nat->Ph}{wg ws:Int}{p0:P0}
theorem oT (hi:i<k)(x:Ph):sg k (upd φ i x) Gp.nV+Gp.nV (φ i).gp=sg k φ Gp.nV+Gp.nV x.gp/\sg k (upd φ i x) Gp.n1+Gp.n1 (φ i).gp=sg k φ Gp.n1+Gp.n1 x.gp/\sg k (upd φ i x) Gp.n3+Gp.n3 (φ i).gp=sg k φ Gp.n3+Gp.n3 x.gp/\
  Gp.nV (φ i).gp<=sg k φ Gp.nV/\Gp.n1 (φ i).gp<=sg k φ Gp.n1/\Gp.n3 (φ i).gp<=sg k φ Gp.n3:=⟨wW k φ hi x _,wW k φ hi x _,wW k φ hi x _,oS hi _,oS hi _,oS hi _⟩
theorem q3 (h:c9 k φ p0 wg ws)(hi:i<k)(x:Ph)(a:x.gp=(φ i).gp\/((φ i).gp= .cnt/\x.gp= .rel)):c9 k (upd φ i x) p0 wg ws:=by
 obtain ⟨s1,s2,d,_⟩:=oT (φ:=φ) hi x;have e1:sg k (upd φ i x) Gp.nV=sg k φ Gp.nV:=by rcases a with a|⟨b,c⟩<;>simp_all [Gp.nV]
 have e2:sg k (upd φ i x) Gp.n1=sg k φ Gp.n1:=by rcases a with a|⟨b,c⟩<;>simp_all [Gp.n1]
 have e3:sg k (upd φ i x) Gp.n3=sg k φ Gp.n3:=by rcases a with a|⟨b,c⟩<;>simp_all [Gp.n3]
 refine ⟨?_⟩;rw[e1,e2,e3];exact h.inv
theorem Bu (h:c9 k φ p0 wg ws)(hi:i<k)(x:Ph)(n:(φ i).gp= .rel):
  ∃(v t:Nat),wg=((v+1:Nat):Int)*c8+t/\t<=1/\v<=k/\(x.gp=(if v=0/\t=1 then .ld else .gone)->c9 k (upd φ i x) p0 (wg - c8) ws):=by
 obtain ⟨s1,s2,a,e,f,g⟩:=oT (φ:=φ) hi x
 rw[n] at s1 s2 a e f g
 simp only[Gp.nV,Gp.n1,Gp.n3] at s1 s2 a e f g
 have p:sg k φ Gp.nV<=1*k:=sumTo_le fun j _=>by cases (φ j).gp<;>simp[Gp.nV]
 have hinv:=h.inv
 cases p0 with
 |opn pend=>
  simp only at hinv
  obtain ⟨o,c,l,m,d⟩:=hinv
  refine ⟨sg k φ Gp.nV - 1+pend,0,by rw[c];simp only[c8];omega,aa,aa,fun b=>⟨?_⟩⟩
  rw[if_neg aa] at b
  rw[b] at s1 s2 a
  simp only[Gp.nV,Gp.n1,Gp.n3] at s1 s2 a
  simp only[c8] at c ⊢
  omega
 |look u=>
  simp only at hinv
  obtain ⟨o,c,l,m,d⟩:=hinv
  refine ⟨sg k φ Gp.nV - 1,0,by rw[c];simp only[c8];omega,aa,aa,fun b=>⟨?_⟩⟩
  rw[if_neg aa] at b
  rw[b] at s1 s2 a
  simp only[Gp.nV,Gp.n1,Gp.n3] at s1 s2 a
  simp only[c8] at c ⊢
  omega
 |reg=>
  simp only at hinv
  rcases hinv with ⟨c,l,m,d,q⟩|⟨c,_⟩|⟨c,_⟩|⟨c,_⟩
  .refine ⟨sg k φ Gp.nV - 1,1,by rw[d];simp only[c8];omega,aa,aa,fun b=>⟨?_⟩⟩
   by_cases hv:sg k φ Gp.nV - 1=0
   .rw[if_pos ⟨hv,rfl⟩] at b
    rw[b] at s1 s2 a
    simp only[Gp.nV,Gp.n1,Gp.n3] at s1 s2 a
    simp only[c8] at d ⊢
    omega
   .rw[if_neg aa] at b
    rw[b] at s1 s2 a
    simp only[Gp.nV,Gp.n1,Gp.n3] at s1 s2 a
    simp only[c8] at d ⊢
    omega
  all_goals omega
 |cZ=>simp only at hinv;omega
theorem HZ (h:c9 k φ p0 wg ws)(hi:i<k)(x:Ph)(a:(φ i).gp= .ld)(f:x.gp= .st):wg=1/\c9 k (upd φ i x) p0 wg ws:=by
 obtain ⟨s1,s2,b,c,d,e⟩:=oT (φ:=φ) hi x;rw[a,f] at s1 s2 b;rw[a] at c d e;simp only[Gp.nV,Gp.n1,Gp.n3] at s1 s2 b c d e;have hinv:=h.inv;cases p0 with
 |opn pend=>simp only at hinv;omega
 |look u=>simp only at hinv;omega
 |reg=>
  simp only at hinv;exact ⟨aa,⟨by simp only;omega⟩⟩
 |cZ=>simp only at hinv;omega
theorem H6 (h:c9 k φ p0 wg ws)(hi:i<k)(x:Ph)(a:(φ i).gp= .st)(f:x.gp= .sm):wg=1/\c9 k (upd φ i x) p0 0 ws:=by
 obtain ⟨s1,s2,b,c,d,e⟩:=oT (φ:=φ) hi x;rw[a,f] at s1 s2 b;rw[a] at c d e;simp only[Gp.nV,Gp.n1,Gp.n3] at s1 s2 b c d e;have hinv:=h.inv;cases p0 with
 |opn pend=>simp only at hinv;omega
 |look u=>simp only at hinv;omega
 |reg=>
  simp only at hinv;exact ⟨aa,⟨.inr (.inr (.inl ⟨aa,aa,aa,rfl,aa⟩))⟩⟩
 |cZ=>simp only at hinv;omega
theorem H7 (h:c9 k φ p0 wg ws)(hi:i<k)(x:Ph)(a:(φ i).gp= .sm)(f:x.gp= .gone):ws=0/\c9 k (upd φ i x) p0 wg (ws+1):=by
 obtain ⟨s1,s2,b,c,d,e⟩:=oT (φ:=φ) hi x;rw[a,f] at s1 s2 b;rw[a] at c d e;simp only[Gp.nV,Gp.n1,Gp.n3] at s1 s2 b c d e;have hinv:=h.inv;cases p0 with
 |opn pend=>simp only at hinv;omega
 |look u=>simp only at hinv;omega
 |reg=>
  simp only at hinv;exact ⟨aa,⟨by simp only;omega⟩⟩
 |cZ=>simp only at hinv;omega
theorem H8 (h:c9 k φ (.opn 0) wg ws):∃v:Nat,wg=(v:Int)*c8/\v<=k/\c9 k φ (.opn 1) (wg+c8) ws:=by
 have a:sg k φ Gp.nV<=1*k:=sumTo_le fun j _=>by cases (φ j).gp<;>simp[Gp.nV]
 have hinv:=h.inv;simp only at hinv;exact ⟨sg k φ Gp.nV,by simpa using hinv.2.1,aa,⟨by simp only;simp only[c8] at hinv ⊢;omega⟩⟩
theorem H9 (h:c9 k φ (.opn 1) wg ws)(hi:i<k)(x:Ph)(b:(φ i).gp= .new)(c:x.gp= .cnt):c9 k (upd φ i x) (.opn 0) wg ws:=by
 obtain ⟨s1,s2,a,d,e,f⟩:=oT (φ:=φ) hi x;rw[b,c] at s1 s2 a;simp only[Gp.nV,Gp.n1,Gp.n3] at s1 s2 a;have hinv:=h.inv;simp only at hinv;exact ⟨by simp only;simp only[c8] at hinv ⊢;omega⟩
theorem Ia (h:c9 k φ (.opn 0) wg ws):c9 k φ (.look k) wg ws:=by
 have a:sg k φ Gp.nV<=1*k:=sumTo_le fun j _=>by cases (φ j).gp<;>simp[Gp.nV]
 have hinv:=h.inv;simp only at hinv;exact ⟨by simp only;simp only[Nat.add_zero] at hinv;omega⟩
theorem Ib {u:Nat}(h:c9 k φ (.look u) wg ws):∃v:Nat,wg=(v:Int)*c8/\v<=u/\c9 k φ (if v=0 then .cZ else .look v) wg ws:=by
 have hinv:=h.inv;simp only at hinv;refine ⟨sg k φ Gp.nV,hinv.2.1,hinv.1,?_⟩;split
 .rename_i e;exact ⟨by simp only;simp only[c8] at hinv;omega⟩
 .exact ⟨by simp only;exact ⟨Nat.le_refl _,hinv.2⟩⟩
theorem Ic {v:Nat}(h:c9 k φ (.look v) ((v:Int)*c8) ws)(hv:0<v):c9 k φ .reg ((v:Int)*c8+1) ws:=by
 have hinv:=h.inv;simp only at hinv;exact ⟨by simp only;simp only[c8] at hinv ⊢;omega⟩
theorem Ie {v:Nat}(h:c9 k φ (.look v) wg ws)(a:wg≠(v:Int)*c8):1<=v/\c9 k φ (.look (v - 1)) wg ws:=by
 have hinv:=h.inv;simp only at hinv;simp only[c8] at hinv a;have:sg k φ Gp.nV≠v:=fun e=>a (by rw[<-e];exact hinv.2.1);exact ⟨aa,⟨by simp only;simp only[c8];omega⟩⟩
theorem Ig (h:c9 k φ .reg wg ws)(hw:ws≠0):wg=0/\ws=1/\c9 k φ .cZ wg (ws - 1):=by
 have hinv:=h.inv;simp only at hinv;exact ⟨aa,aa,⟨by simp only;omega⟩⟩
theorem Bv (h:c9 k φ .cZ wg ws):wg=0/\sg k φ Gp.nV=0/\sg k φ Gp.n1=0/\sg k φ Gp.n3=0:=by
 have hinv:=h.inv;simp only at hinv;omega
theorem Ih (d:sg k φ Gp.nV=0)(e:sg k φ Gp.n1=0)(f:sg k φ Gp.n3=0)(hi:i<k):(φ i).gp= .gone\/(φ i).gp= .new:=by
 have a:=oS (φ:=φ) hi Gp.nV;have b:=oS (φ:=φ) hi Gp.n1;have c:=oS (φ:=φ) hi Gp.n3;cases hg:(φ i).gp<;>rw[hg] at a b c<;>simp only[Gp.nV,Gp.n1,Gp.n3] at a b c<;>first|omega|exact .inl rfl|exact .inr rfl
theorem live {n:Nat}{bs:Nat->Bool}{s:Sh}(h:Inv n bs n φ .reg s)(hw:s.ws=0):∃i,i<n/\(φ i).gp≠ .gone/\((φ i).mp.k7=true->s.ms≠0):=by
 rcases Classical.em (∃i,i<n/\(φ i).gp≠ .gone/\((φ i).mp.k7=true->s.ms≠0)) with x|x
 .exact x
 exfalso;have a:∀i,i<n->(φ i).gp= .gone\/((φ i).mp.k7=true/\s.ms=0):=fun i hi=>by
  rcases Classical.em ((φ i).gp= .gone) with y|y
  .exact .inl y
  .rcases Classical.em ((φ i).mp.k7=true/\s.ms=0) with z|z
   .exact .inr z
   .exact absurd ⟨i,hi,y,fun b c=>z ⟨b,c⟩⟩ x
 have d:∀i,i<n->(φ i).gp= .gone\/(φ i).gp= .cnt:=fun i hi=>by
  rcases a i hi with y|⟨y,_⟩
  .exact .inl y
  .refine .inr ?_;rcases Classical.em ((φ i).gp= .cnt) with z|z
   .exact z
   .have hb:=(h.i.born i hi).1 hi;have:=(h.i.done i hi z hb).2;rw[this] at y;simp[Mp.k7] at y
 have j:∀i,i<n->(φ i).mp= .fin\/∃G,(φ i).mp= .oR G:=fun i hi=>by
  rcases a i hi with y|⟨y,_⟩
  .exact .inl (h.i.done i hi (by rw[y];simp) (by rw[y];simp)).2
  .refine .inr ?_;cases hm:(φ i).mp<;>rw[hm] at y<;>simp[Mp.k7] at y;exact ⟨_,rfl⟩
 have o:sg n φ Gp.n1=0:=s6 fun i hi=>by rcases d i hi with y|y<;>rw[y]<;>rfl
 have p:sg n φ Gp.n3=0:=s6 fun i hi=>by rcases d i hi with y|y<;>rw[y]<;>rfl
 have hinv:=h.w.inv;simp only at hinv;have hv:0<sg n φ Gp.nV:=aa;obtain ⟨i,hi,e⟩:=Bt hv;have g:(φ i).mp.k7=true/\s.ms=0:=(a i hi).resolve_left fun y=>by rw[y] at e;simp[Gp.nV] at e
 obtain ⟨C,S,W,L,m,hm⟩:=h.m;have zero:∀f:Mp->Nat,f .fin=0->(∀G,f (.oR G)=0)->sm n φ f=0:=fun f b c=>Bs fun i hi=>by rcases j i hi with y|⟨G,y⟩<;>rw[y];exact b;exact c G
 have q:=zero Mp.nH rfl (fun _=>rfl);have r:=zero Mp.nA rfl (fun _=>rfl);have t:=zero Mp.nK rfl (fun _=>rfl);have u:=zero Mp.nI rfl (fun _=>rfl);have v:=zero Mp.nT rfl (fun _=>rfl);have A:=zero Mp.nY rfl (fun _=>rfl);have B:=zero Mp.nR rfl (fun _=>rfl);have k:=ju (φ:=φ) hi Mp.nQ;have l:Mp.nQ (φ i).mp=1:=by
  have:=g.1;cases hm:(φ i).mp<;>rw[hm] at this<;>simp[Mp.k7] at this;rfl
 rw[l] at k;have D:=hm.cnt;have E:=hm.lock;have hs:=hm.st.s;have F:=g.2;rcases Nat.lt_or_ge S 1 with y|y
 .have:=hm.norm aa;omega
 .have:=hm.Bq aa;omega
end
end Go.Sep
end
section
namespace Go.Sep
open Go
theorem wX {x:Int}(a: -2147483648<=x)(b:x<2147483648):IntKind.i32.wrap x=x:=by
 unfold IntKind.wrap;simp[IntKind.bits,IntKind.signed];omega
def Ii (x y:Int):Int:=IntKind.i32.wrap ((BitVec.ofInt 32 x&&& BitVec.ofInt 32 y).toNat:Int)
def Ij (x y:Int):Int:=IntKind.i32.wrap ((BitVec.ofInt 32 x|||BitVec.ofInt 32 y).toNat:Int)
def Ik (x y:Int):Int:=IntKind.i32.wrap ((BitVec.ofInt 32 x&&& ~~~BitVec.ofInt 32 y).toNat:Int)
theorem SE (x y:Int):IntKind.i32.wrap ((@HAnd.hAnd (BitVec 32) (BitVec 32) (BitVec 32) (@instHAndOfAndOp (BitVec IntKind.i32.bits) (@BitVec.instAndOp IntKind.i32.bits)) (BitVec.ofInt 32 x) (BitVec.ofInt 32 y)).toNat:Int)=Ii x y:=rfl
theorem SF (x y:Int):IntKind.i32.wrap ((@HOr.hOr (BitVec 32) (BitVec 32) (BitVec 32) (@instHOrOfOrOp (BitVec IntKind.i32.bits) (@BitVec.instOrOp IntKind.i32.bits)) (BitVec.ofInt 32 x) (BitVec.ofInt 32 y)).toNat:Int)=Ij x y:=rfl
theorem SG (x y:Int):IntKind.i32.wrap ((@HAnd.hAnd (BitVec 32) (BitVec 32) (BitVec 32) (@instHAndOfAndOp (BitVec IntKind.i32.bits) (@BitVec.instAndOp IntKind.i32.bits)) (BitVec.ofInt 32 x) (@Complement.complement (BitVec 32) (@BitVec.instComplement IntKind.i32.bits) (BitVec.ofInt 32 y))).toNat:Int)=Ik x y:=rfl
attribute [go_sem] SE SF SG
end Go.Sep
end

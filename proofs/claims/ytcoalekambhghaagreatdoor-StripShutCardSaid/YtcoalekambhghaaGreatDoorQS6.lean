/- A part of the proof: QS6. -/
import Derived.Test.YtcoalekambhghaaGreatDoorQS5
import Derived.Conc.CrowdBase
import GoSem.Core.Value
set_option linter.all false
section
namespace Go.Sep
open Go.ConcN (sumTo upd sumTo_upd upd_ne upd_same le_sumTo sumTo_le sumTo_congr)
inductive Mp where
 |idle
 |want (aw:Bool) (old:Int) (G:Nat)
 |q2 (G:Nat)|FA (G:Nat)
 |OA (x:Bool)
 |held
 |FB (old:Int) (G:Nat)
 |OB|OC|fin
inductive Gp where
 |new|cnt|rel|ld|st|sm|gone
 deriving DecidableEq
structure Ph where
 mp:Mp
 gp:Gp
 stored:Bool
 deaf:Nat
structure Sh where
 mu:Int
 ms:Int
 wg:Int
 ws:Int
 is:List Bool
inductive P0 where
 |opn (pend:Nat)
 |look (v:Nat)
 |reg|cQ
namespace Mp
def nH:Mp->Nat|held=>1|_=>0
def nA:Mp->Nat|want true _ _=>1|_=>0
def nQ:Mp->Nat|q2 _=>1|_=>0
def nK:Mp->Nat|FA _=>1|_=>0
def nI:Mp->Nat|OA _=>1|_=>0
def nX:Mp->Nat|OA true=>1|_=>0
def nT:Mp->Nat|OB=>1|_=>0
def nY:Mp->Nat|OC=>1|_=>0
def nR:Mp->Nat|FB _ _=>1|_=>0
def wt:Mp->Nat|idle=>7|want false _ _=>7|want true _ _=>6|q2 _=>5|FA _=>6|OA _=>6|held=>5|FB _ _=>4|OB=>3|OC=>3|fin=>0
def seen:Mp->Option (Option Int×Nat)
 |want _ o G=>some (some o,G)
 |FB o G=>some (some o,G)
 |q2 G=>some (none,G)
 |FA G=>some (none,G)
 |_=>none
def j3:Mp->Bool
 |q2 _=>true
 |_=>false
def out:Mp->Bool
 |idle|fin=>true
 |_=>false
end Mp
def Gp.nV:Gp->Nat|cnt=>1|rel=>1|_=>0
def Gp.n1:Gp->Nat|ld=>1|st=>1|_=>0
def Gp.n3:Gp->Nat|sm=>1|_=>0
def sm (k:Nat)(φ:Nat->Ph)(f:Mp->Nat):Nat:=sumTo k fun a=>f (φ a).mp
structure St (x:Int)(C S W L:Nat):Prop where
 eq:x=((8*C+4*S+2*W+L:Nat):Int)
 l:L<=1
 w:W<=1
 s:S<=1
def sg (k:Nat)(φ:Nat->Ph)(f:Gp->Nat):Nat:=sumTo k fun a=>f (φ a).gp
theorem iX (k:Nat)(φ:Nat->Ph){i:Nat}(hi:i<k)(x:Ph)(f:Mp->Nat):sm k (upd φ i x) f+f (φ i).mp=sm k φ f+f x.mp:=sumTo_upd φ x (fun p=>f p.mp) hi
theorem vk (k:Nat)(φ:Nat->Ph){i:Nat}(hi:i<k)(x:Ph)(f:Gp->Nat):sg k (upd φ i x) f+f (φ i).gp=sg k φ f+f x.gp:=sumTo_upd φ x (fun p=>f p.gp) hi
theorem iz {k:Nat}{φ:Nat->Ph}{i:Nat}(hi:i<k)(f:Mp->Nat):f (φ i).mp<=sm k φ f:=le_sumTo (f:=fun a=>f (φ a).mp) hi
theorem mP {k:Nat}{φ:Nat->Ph}{i:Nat}(hi:i<k)(f:Gp->Nat):f (φ i).gp<=sg k φ f:=le_sumTo (f:=fun a=>f (φ a).gp) hi
def eZ (k:Nat)(φ:Nat->Ph)(ms:Int):Nat:=sm k φ Mp.wt+2*ms.toNat
structure j4 (k:Nat)(φ:Nat->Ph)(mu ms:Int)(C S W L m:Nat):Prop where
 st:St mu C S W L
 cnt:ms=(m:Int)
 lock:L=sm k φ Mp.nH
 norm:S=0->sm k φ Mp.nI=0/\sm k φ Mp.nY=0/\W=sm k φ Mp.nA+m+sm k φ Mp.nK+sm k φ Mp.nT/\C+m+sm k φ Mp.nT=sm k φ Mp.nQ/\(0<C->L=0->W=0->0<sm k φ Mp.nR)
 z0:S=1->W=0/\sm k φ Mp.nA=0/\sm k φ Mp.nT=0/\L+m+sm k φ Mp.nY+sm k φ Mp.nK+sm k φ Mp.nI=1/\C=sm k φ Mp.nQ+sm k φ Mp.nK+sm k φ Mp.nI/\1<=C/\(0<sm k φ Mp.nX->2<=C)
 seen:∀i,i<k->∀o G,(φ i).mp.seen=some (o,G)->eZ k φ ms<=G/\(some mu≠o->eZ k φ ms<G)
def cW:Int:=4294967296
structure cX (k:Nat)(φ:Nat->Ph)(p0:P0)(wg ws:Int):Prop where
 inv:match p0 with
  | .opn pend=>pend<=1/\wg=((sg k φ Gp.nV+pend:Nat):Int)*cW/\ws=0/\sg k φ Gp.n1=0/\sg k φ Gp.n3=0
  | .look v=>sg k φ Gp.nV<=v/\wg=((sg k φ Gp.nV:Nat):Int)*cW/\ws=0/\sg k φ Gp.n1=0/\sg k φ Gp.n3=0
  | .reg=>(0<sg k φ Gp.nV/\sg k φ Gp.n1=0/\sg k φ Gp.n3=0/\wg=((sg k φ Gp.nV:Nat):Int)*cW+1/\ws=0)\/
    (sg k φ Gp.nV=0/\sg k φ Gp.n1=1/\sg k φ Gp.n3=0/\wg=1/\ws=0)\/
    (sg k φ Gp.nV=0/\sg k φ Gp.n1=0/\sg k φ Gp.n3=1/\wg=0/\ws=0)\/
    (sg k φ Gp.nV=0/\sg k φ Gp.n1=0/\sg k φ Gp.n3=0/\wg=0/\ws=1)
  | .cQ=>sg k φ Gp.nV=0/\sg k φ Gp.n1=0/\sg k φ Gp.n3=0/\wg=0/\ws=0
structure FC (n:Nat)(bs:Nat->Bool)(k:Nat)(φ:Nat->Ph)(is:List Bool):Prop where
 len:is.length=n
 kn:k<=n
 all:∀i,i<n->is[i]?=some (φ i).stored
 born:∀i,i<n->(i<k↔(φ i).gp≠ .new)
 new:∀i,i<n->(φ i).gp= .new->(φ i).stored=false/\(φ i).mp= .idle/\(φ i).deaf=0
 done:∀i,i<n->(φ i).gp≠ .cnt->(φ i).gp≠ .new->(φ i).stored=bs i/\(φ i).mp= .fin
structure Inv (n:Nat)(bs:Nat->Bool)(k:Nat)(φ:Nat->Ph)(p0:P0)(s:Sh):Prop where
 m:∃C S W L m,j4 n φ s.mu s.ms C S W L m
 w:cX n φ p0 s.wg s.ws
 i:FC n bs k φ s.is
section
variable {k i:Nat}{φ:Nat->Ph}{mu ms:Int}{C S W L m:Nat}
theorem FD {k:Nat}{φ:Nat->Ph}{mu b ms a:Int}{i:Nat}{x:Ph}(hs:∀i,i<k->∀o G,(φ i).mp.seen=some (o,G)->eZ k φ ms<=G/\(some mu≠o->eZ k φ ms<G))
  (hb:eZ k (upd φ i x) a<=eZ k φ ms) (d:b≠mu->eZ k (upd φ i x) a<eZ k φ ms)
  (f:∀o G,x.mp.seen=some (o,G)->eZ k (upd φ i x) a<=G/\(some b≠o->eZ k (upd φ i x) a<G)):
  ∀j,j<k->∀o G,((upd φ i x) j).mp.seen=some (o,G)->eZ k (upd φ i x) a<=G/\(some b≠o->eZ k (upd φ i x) a<G):=by
 intro j g o G h
 by_cases e:j=i
 .subst e;rw[upd_same] at h;exact f o G h
 .rw[upd_ne _ _ e] at h
  obtain ⟨c,l⟩:=hs j g o G h
  refine ⟨Nat.le_trans hb c,fun m=>?_⟩
  by_cases hm:b=mu
  .exact Nat.lt_of_le_of_lt hb (l (hm▸m))
  .exact Nat.lt_of_lt_of_le (d hm) c
theorem FE (hi:i<k)(x:Ph):
  (sm k (upd φ i x) Mp.nH+Mp.nH (φ i).mp=sm k φ Mp.nH+Mp.nH x.mp/\sm k (upd φ i x) Mp.nA+Mp.nA (φ i).mp=sm k φ Mp.nA+Mp.nA x.mp/\
  sm k (upd φ i x) Mp.nQ+Mp.nQ (φ i).mp=sm k φ Mp.nQ+Mp.nQ x.mp/\sm k (upd φ i x) Mp.nK+Mp.nK (φ i).mp=sm k φ Mp.nK+Mp.nK x.mp/\
  sm k (upd φ i x) Mp.nI+Mp.nI (φ i).mp=sm k φ Mp.nI+Mp.nI x.mp)/\(sm k (upd φ i x) Mp.nX+Mp.nX (φ i).mp=sm k φ Mp.nX+Mp.nX x.mp/\
  sm k (upd φ i x) Mp.nT+Mp.nT (φ i).mp=sm k φ Mp.nT+Mp.nT x.mp/\sm k (upd φ i x) Mp.nY+Mp.nY (φ i).mp=sm k φ Mp.nY+Mp.nY x.mp/\
  sm k (upd φ i x) Mp.nR+Mp.nR (φ i).mp=sm k φ Mp.nR+Mp.nR x.mp/\sm k (upd φ i x) Mp.wt+Mp.wt (φ i).mp=sm k φ Mp.wt+Mp.wt x.mp):=
 ⟨⟨iX k φ hi x _,iX k φ hi x _,iX k φ hi x _,iX k φ hi x _,iX k φ hi x _⟩,iX k φ hi x _,iX k φ hi x _,iX k φ hi x _,iX k φ hi x _,iX k φ hi x _⟩
theorem FF (hi:i<k):(Mp.nH (φ i).mp<=sm k φ Mp.nH/\Mp.nA (φ i).mp<=sm k φ Mp.nA/\Mp.nQ (φ i).mp<=sm k φ Mp.nQ/\Mp.nK (φ i).mp<=sm k φ Mp.nK/\Mp.nI (φ i).mp<=sm k φ Mp.nI)/\
  (Mp.nX (φ i).mp<=sm k φ Mp.nX/\Mp.nT (φ i).mp<=sm k φ Mp.nT/\Mp.nY (φ i).mp<=sm k φ Mp.nY/\Mp.nR (φ i).mp<=sm k φ Mp.nR/\Mp.wt (φ i).mp<=sm k φ Mp.wt):=
 ⟨⟨iz hi _,iz hi _,iz hi _,iz hi _,iz hi _⟩,iz hi _,iz hi _,iz hi _,iz hi _,iz hi _⟩
theorem j4.move (h:j4 k φ mu ms C S W L m)(hi:i<k)(x:Ph){f j:Int}{b g c d a:Nat}(n:St f b g c d)(l:j=(a:Int))
  (p:d=sm k (upd φ i x) Mp.nH)
  (r:g=0->sm k (upd φ i x) Mp.nI=0/\sm k (upd φ i x) Mp.nY=0/\c=sm k (upd φ i x) Mp.nA+a+sm k (upd φ i x) Mp.nK+sm k (upd φ i x) Mp.nT/\b+a+sm k (upd φ i x) Mp.nT=sm k (upd φ i x) Mp.nQ/\(0<b->d=0->c=0->0<sm k (upd φ i x) Mp.nR))
  (s:g=1->c=0/\sm k (upd φ i x) Mp.nA=0/\sm k (upd φ i x) Mp.nT=0/\d+a+sm k (upd φ i x) Mp.nY+sm k (upd φ i x) Mp.nK+sm k (upd φ i x) Mp.nI=1/\b=sm k (upd φ i x) Mp.nQ+sm k (upd φ i x) Mp.nK+sm k (upd φ i x) Mp.nI/\1<=b/\(0<sm k (upd φ i x) Mp.nX->2<=b))
  (hb:sm k (upd φ i x) Mp.wt+2*a<=sm k φ Mp.wt+2*m) (t:f≠mu->sm k (upd φ i x) Mp.wt+2*a<sm k φ Mp.wt+2*m)
  (u:∀o G,x.mp.seen=some (o,G)->sm k (upd φ i x) Mp.wt+2*a<=G/\(some f≠o->sm k (upd φ i x) Mp.wt+2*a<G)):j4 k (upd φ i x) f j b g c d a:=by
 have e:eZ k φ ms=sm k φ Mp.wt+2*m:=by rw[eZ,h.cnt];rfl
 have v:eZ k (upd φ i x) j=sm k (upd φ i x) Mp.wt+2*a:=by rw[eZ,l];rfl
 exact ⟨n,l,p,r,s,FD h.seen ai (fun q=>by have:=t q;omega) (fun o G q=>by rw[v];exact u o G q)⟩
theorem FG (h:j4 k φ mu ms C S W L m):eZ k φ ms=sm k φ Mp.wt+2*m:=by rw[eZ,h.cnt];rfl
theorem xiq{k:Nat}{φ:Nat->Ph}:sm k φ Mp.nX<=sm k φ Mp.nI:=by
 unfold sm
 induction k with
 |zero=>exact Nat.le_refl _
 |succ k ih=>
  simp only[sumTo];refine Nat.add_le_add ih ?_
  cases (φ k).mp with
  |OA b=>cases b<;>simp[Mp.nX,Mp.nI]
  |_=>simp[Mp.nX,Mp.nI]
set_option linter.unusedVariables false
theorem z1 (h:j4 k φ mu ms C S W L m)(hi:i<k)(x:Ph)(a:x.mp=(φ i).mp\/((φ i).mp= .idle/\x.mp= .fin)):j4 k (upd φ i x) mu ms C S W L m:=by
 have s:=FE (φ:=φ) hi x;have e:=xiq (k:=k) (φ:=φ);have f:=xiq (k:=k) (φ:=upd φ i x);have l:=FF (φ:=φ) hi;have hn:=h.norm;have hs:=h.z0;have g:=h.lock;have hb:=FG h;rcases a with a|⟨b,a⟩
 .rw[a] at s;refine h.move hi x h.st h.cnt ai (fun z=>?_) (fun z=>?_) ai ai (fun o G q=>?_)
  .have:=hn z;omega
  .have:=hs z;omega
  .rw[a] at q;have d:=h.seen i hi o G q;exact ⟨ai,fun z=>by have:=d.2 z;omega⟩
 .rw[b,a] at s;rw[b] at l;simp only[Mp.nH,Mp.nA,Mp.nQ,Mp.nK,Mp.nI,Mp.nX,Mp.nT,Mp.nY,Mp.nR,Mp.wt] at s l;refine h.move hi x h.st h.cnt ai (fun z=>?_) (fun z=>?_) ai ai (by simp[a,Mp.seen])
  .have:=hn z;omega
  .have:=hs z;omega
theorem FH {k:Nat}{φ:Nat->Ph}{f:Mp->Nat}(h:∀i,i<k->f (φ i).mp=0):sm k φ f=0:=by
 induction k with
 |zero=>rfl
 |succ k ih=>
  have:=ih fun i hi=>h i ai;show sm k φ f+f (φ k).mp=0;rw[this,h k ai]
theorem q3 {k:Nat}{φ:Nat->Ph}{f:Gp->Nat}(h:∀i,i<k->f (φ i).gp=0):sg k φ f=0:=by
 induction k with
 |zero=>rfl
 |succ k ih=>
  have:=ih fun i hi=>h i ai;show sg k φ f+f (φ k).gp=0;rw[this,h k ai]
theorem z2 {k:Nat}{φ:Nat->Ph}{f:Gp->Nat}(h:0<sg k φ f):∃i,i<k/\0<f (φ i).gp:=by
 rcases Classical.em (∃i,i<k/\0<f (φ i).gp) with x|x
 .exact x
 .have:=q3 (k:=k) (φ:=φ) (f:=f) fun i hi=>by
   rcases Nat.eq_zero_or_pos (f (φ i).gp) with y|y
   .exact y
   .exact absurd ⟨i,hi,y⟩ x
  omega
end
section
variable {k i:Nat}{φ:Nat->Ph}{wg ws:Int}{p0:P0}
theorem mQ (hi:i<k)(x:Ph):sg k (upd φ i x) Gp.nV+Gp.nV (φ i).gp=sg k φ Gp.nV+Gp.nV x.gp/\sg k (upd φ i x) Gp.n1+Gp.n1 (φ i).gp=sg k φ Gp.n1+Gp.n1 x.gp/\sg k (upd φ i x) Gp.n3+Gp.n3 (φ i).gp=sg k φ Gp.n3+Gp.n3 x.gp/\
  Gp.nV (φ i).gp<=sg k φ Gp.nV/\Gp.n1 (φ i).gp<=sg k φ Gp.n1/\Gp.n3 (φ i).gp<=sg k φ Gp.n3:=⟨vk k φ hi x _,vk k φ hi x _,vk k φ hi x _,mP hi _,mP hi _,mP hi _⟩
theorem oZ (h:cX k φ p0 wg ws)(hi:i<k)(x:Ph)(a:x.gp=(φ i).gp\/((φ i).gp= .cnt/\x.gp= .rel)):cX k (upd φ i x) p0 wg ws:=by
 obtain ⟨s1,s2,d,_⟩:=mQ (φ:=φ) hi x;have e1:sg k (upd φ i x) Gp.nV=sg k φ Gp.nV:=by rcases a with a|⟨b,c⟩<;>simp_all [Gp.nV]
 have e2:sg k (upd φ i x) Gp.n1=sg k φ Gp.n1:=by rcases a with a|⟨b,c⟩<;>simp_all [Gp.n1]
 have e3:sg k (upd φ i x) Gp.n3=sg k φ Gp.n3:=by rcases a with a|⟨b,c⟩<;>simp_all [Gp.n3]
 refine ⟨?_⟩;rw[e1,e2,e3];exact h.inv
theorem z3 (h:cX k φ p0 wg ws)(hi:i<k)(x:Ph)(n:(φ i).gp= .rel):
  ∃(v t:Nat),wg=((v+1:Nat):Int)*cW+t/\t<=1/\v<=k/\(x.gp=(if v=0/\t=1 then .ld else .gone)->cX k (upd φ i x) p0 (wg - cW) ws):=by
 obtain ⟨s1,s2,a,e,f,g⟩:=mQ (φ:=φ) hi x
 rw[n] at s1 s2 a e f g
 simp only[Gp.nV,Gp.n1,Gp.n3] at s1 s2 a e f g
 have p:sg k φ Gp.nV<=1*k:=sumTo_le fun j _=>by cases (φ j).gp<;>simp[Gp.nV]
 have hinv:=h.inv
 cases p0 with
 |opn pend=>
  simp only at hinv
  obtain ⟨o,c,l,m,d⟩:=hinv
  refine ⟨sg k φ Gp.nV - 1+pend,0,by rw[c];simp only[cW];omega,ai,ai,fun b=>⟨?_⟩⟩
  rw[if_neg ai] at b
  rw[b] at s1 s2 a
  simp only[Gp.nV,Gp.n1,Gp.n3] at s1 s2 a
  simp only[cW] at c ⊢
  omega
 |look u=>
  simp only at hinv
  obtain ⟨o,c,l,m,d⟩:=hinv
  refine ⟨sg k φ Gp.nV - 1,0,by rw[c];simp only[cW];omega,ai,ai,fun b=>⟨?_⟩⟩
  rw[if_neg ai] at b
  rw[b] at s1 s2 a
  simp only[Gp.nV,Gp.n1,Gp.n3] at s1 s2 a
  simp only[cW] at c ⊢
  omega
 |reg=>
  simp only at hinv
  rcases hinv with ⟨c,l,m,d,q⟩|⟨c,_⟩|⟨c,_⟩|⟨c,_⟩
  .refine ⟨sg k φ Gp.nV - 1,1,by rw[d];simp only[cW];omega,ai,ai,fun b=>⟨?_⟩⟩
   by_cases hv:sg k φ Gp.nV - 1=0
   .rw[if_pos ⟨hv,rfl⟩] at b
    rw[b] at s1 s2 a
    simp only[Gp.nV,Gp.n1,Gp.n3] at s1 s2 a
    simp only[cW] at d ⊢
    omega
   .rw[if_neg ai] at b
    rw[b] at s1 s2 a
    simp only[Gp.nV,Gp.n1,Gp.n3] at s1 s2 a
    simp only[cW] at d ⊢
    omega
  all_goals omega
 |cQ=>simp only at hinv;omega
theorem FI (h:cX k φ p0 wg ws)(hi:i<k)(x:Ph)(a:(φ i).gp= .ld)(f:x.gp= .st):wg=1/\cX k (upd φ i x) p0 wg ws:=by
 obtain ⟨s1,s2,b,c,d,e⟩:=mQ (φ:=φ) hi x;rw[a,f] at s1 s2 b;rw[a] at c d e;simp only[Gp.nV,Gp.n1,Gp.n3] at s1 s2 b c d e;have hinv:=h.inv;cases p0 with
 |opn pend=>simp only at hinv;omega
 |look u=>simp only at hinv;omega
 |reg=>
  simp only at hinv;exact ⟨ai,⟨by simp only;omega⟩⟩
 |cQ=>simp only at hinv;omega
theorem FJ (h:cX k φ p0 wg ws)(hi:i<k)(x:Ph)(a:(φ i).gp= .st)(f:x.gp= .sm):wg=1/\cX k (upd φ i x) p0 0 ws:=by
 obtain ⟨s1,s2,b,c,d,e⟩:=mQ (φ:=φ) hi x;rw[a,f] at s1 s2 b;rw[a] at c d e;simp only[Gp.nV,Gp.n1,Gp.n3] at s1 s2 b c d e;have hinv:=h.inv;cases p0 with
 |opn pend=>simp only at hinv;omega
 |look u=>simp only at hinv;omega
 |reg=>
  simp only at hinv;exact ⟨ai,⟨.inr (.inr (.inl ⟨ai,ai,ai,rfl,ai⟩))⟩⟩
 |cQ=>simp only at hinv;omega
theorem FK (h:cX k φ p0 wg ws)(hi:i<k)(x:Ph)(a:(φ i).gp= .sm)(f:x.gp= .gone):ws=0/\cX k (upd φ i x) p0 wg (ws+1):=by
 obtain ⟨s1,s2,b,c,d,e⟩:=mQ (φ:=φ) hi x;rw[a,f] at s1 s2 b;rw[a] at c d e;simp only[Gp.nV,Gp.n1,Gp.n3] at s1 s2 b c d e;have hinv:=h.inv;cases p0 with
 |opn pend=>simp only at hinv;omega
 |look u=>simp only at hinv;omega
 |reg=>
  simp only at hinv;exact ⟨ai,⟨by simp only;omega⟩⟩
 |cQ=>simp only at hinv;omega
theorem FL (h:cX k φ (.opn 0) wg ws):∃v:Nat,wg=(v:Int)*cW/\v<=k/\cX k φ (.opn 1) (wg+cW) ws:=by
 have a:sg k φ Gp.nV<=1*k:=sumTo_le fun j _=>by cases (φ j).gp<;>simp[Gp.nV]
 have hinv:=h.inv;simp only at hinv;exact ⟨sg k φ Gp.nV,by simpa using hinv.2.1,ai,⟨by simp only;simp only[cW] at hinv ⊢;omega⟩⟩
theorem FM (h:cX k φ (.opn 1) wg ws)(hi:i<k)(x:Ph)(b:(φ i).gp= .new)(c:x.gp= .cnt):cX k (upd φ i x) (.opn 0) wg ws:=by
 obtain ⟨s1,s2,a,d,e,f⟩:=mQ (φ:=φ) hi x;rw[b,c] at s1 s2 a;simp only[Gp.nV,Gp.n1,Gp.n3] at s1 s2 a;have hinv:=h.inv;simp only at hinv;exact ⟨by simp only;simp only[cW] at hinv ⊢;omega⟩
theorem FN (h:cX k φ (.opn 0) wg ws):cX k φ (.look k) wg ws:=by
 have a:sg k φ Gp.nV<=1*k:=sumTo_le fun j _=>by cases (φ j).gp<;>simp[Gp.nV]
 have hinv:=h.inv;simp only at hinv;exact ⟨by simp only;simp only[Nat.add_zero] at hinv;omega⟩
theorem FO {u:Nat}(h:cX k φ (.look u) wg ws):∃v:Nat,wg=(v:Int)*cW/\v<=u/\cX k φ (if v=0 then .cQ else .look v) wg ws:=by
 have hinv:=h.inv;simp only at hinv;refine ⟨sg k φ Gp.nV,hinv.2.1,hinv.1,?_⟩;split
 .rename_i e;exact ⟨by simp only;simp only[cW] at hinv;omega⟩
 .exact ⟨by simp only;exact ⟨Nat.le_refl _,hinv.2⟩⟩
theorem FP {v:Nat}(h:cX k φ (.look v) ((v:Int)*cW) ws)(hv:0<v):cX k φ .reg ((v:Int)*cW+1) ws:=by
 have hinv:=h.inv;simp only at hinv;exact ⟨by simp only;simp only[cW] at hinv ⊢;omega⟩
theorem FQ {v:Nat}(h:cX k φ (.look v) wg ws)(a:wg≠(v:Int)*cW):1<=v/\cX k φ (.look (v - 1)) wg ws:=by
 have hinv:=h.inv;simp only at hinv;simp only[cW] at hinv a;have:sg k φ Gp.nV≠v:=fun e=>a (by rw[<-e];exact hinv.2.1);exact ⟨ai,⟨by simp only;simp only[cW];omega⟩⟩
theorem FR (h:cX k φ .reg wg ws)(hw:ws≠0):wg=0/\ws=1/\cX k φ .cQ wg (ws - 1):=by
 have hinv:=h.inv;simp only at hinv;exact ⟨ai,ai,⟨by simp only;omega⟩⟩
theorem z4 (h:cX k φ .cQ wg ws):wg=0/\sg k φ Gp.nV=0/\sg k φ Gp.n1=0/\sg k φ Gp.n3=0:=by
 have hinv:=h.inv;simp only at hinv;omega
theorem FT (d:sg k φ Gp.nV=0)(e:sg k φ Gp.n1=0)(f:sg k φ Gp.n3=0)(hi:i<k):(φ i).gp= .gone\/(φ i).gp= .new:=by
 have a:=mP (φ:=φ) hi Gp.nV;have b:=mP (φ:=φ) hi Gp.n1;have c:=mP (φ:=φ) hi Gp.n3;cases hg:(φ i).gp<;>rw[hg] at a b c<;>simp only[Gp.nV,Gp.n1,Gp.n3] at a b c<;>first|omega|exact .inl rfl|exact .inr rfl
theorem live {n:Nat}{bs:Nat->Bool}{s:Sh}(h:Inv n bs n φ .reg s)(hw:s.ws=0):∃i,i<n/\(φ i).gp≠ .gone/\((φ i).mp.j3=true->s.ms≠0):=by
 rcases Classical.em (∃i,i<n/\(φ i).gp≠ .gone/\((φ i).mp.j3=true->s.ms≠0)) with x|x
 .exact x
 exfalso;have a:∀i,i<n->(φ i).gp= .gone\/((φ i).mp.j3=true/\s.ms=0):=fun i hi=>by
  rcases Classical.em ((φ i).gp= .gone) with y|y
  .exact .inl y
  .rcases Classical.em ((φ i).mp.j3=true/\s.ms=0) with z|z
   .exact .inr z
   .exact absurd ⟨i,hi,y,fun b c=>z ⟨b,c⟩⟩ x
 have d:∀i,i<n->(φ i).gp= .gone\/(φ i).gp= .cnt:=fun i hi=>by
  rcases a i hi with y|⟨y,_⟩
  .exact .inl y
  .refine .inr ?_;rcases Classical.em ((φ i).gp= .cnt) with z|z
   .exact z
   .have hb:=(h.i.born i hi).1 hi;have:=(h.i.done i hi z hb).2;rw[this] at y;simp[Mp.j3] at y
 have j:∀i,i<n->(φ i).mp= .fin\/∃G,(φ i).mp= .q2 G:=fun i hi=>by
  rcases a i hi with y|⟨y,_⟩
  .exact .inl (h.i.done i hi (by rw[y];simp) (by rw[y];simp)).2
  .refine .inr ?_;cases hm:(φ i).mp<;>rw[hm] at y<;>simp[Mp.j3] at y;exact ⟨_,rfl⟩
 have o:sg n φ Gp.n1=0:=q3 fun i hi=>by rcases d i hi with y|y<;>rw[y]<;>rfl
 have p:sg n φ Gp.n3=0:=q3 fun i hi=>by rcases d i hi with y|y<;>rw[y]<;>rfl
 have hinv:=h.w.inv;simp only at hinv;have hv:0<sg n φ Gp.nV:=ai;obtain ⟨i,hi,e⟩:=z2 hv;have g:(φ i).mp.j3=true/\s.ms=0:=(a i hi).resolve_left fun y=>by rw[y] at e;simp[Gp.nV] at e
 obtain ⟨C,S,W,L,m,hm⟩:=h.m;have zero:∀f:Mp->Nat,f .fin=0->(∀G,f (.q2 G)=0)->sm n φ f=0:=fun f b c=>FH fun i hi=>by rcases j i hi with y|⟨G,y⟩<;>rw[y];exact b;exact c G
 have q:=zero Mp.nH rfl (fun _=>rfl);have r:=zero Mp.nA rfl (fun _=>rfl);have t:=zero Mp.nK rfl (fun _=>rfl);have u:=zero Mp.nI rfl (fun _=>rfl);have v:=zero Mp.nT rfl (fun _=>rfl);have A:=zero Mp.nY rfl (fun _=>rfl);have B:=zero Mp.nR rfl (fun _=>rfl);have k:=iz (φ:=φ) hi Mp.nQ;have l:Mp.nQ (φ i).mp=1:=by
  have:=g.1;cases hm:(φ i).mp<;>rw[hm] at this<;>simp[Mp.j3] at this;rfl
 rw[l] at k;have D:=hm.cnt;have E:=hm.lock;have hs:=hm.st.s;have F:=g.2;rcases Nat.lt_or_ge S 1 with y|y
 .have:=hm.norm ai;omega
 .have:=hm.z0 ai;omega
end
end Go.Sep
end
section
namespace Go.Sep
open Go
theorem vl {x:Int}(a: -2147483648<=x)(b:x<2147483648):IntKind.i32.wrap x=x:=by
 unfold IntKind.wrap;simp[IntKind.bits,IntKind.signed];omega
def FU (x y:Int):Int:=IntKind.i32.wrap ((BitVec.ofInt 32 x&&& BitVec.ofInt 32 y).toNat:Int)
def FV (x y:Int):Int:=IntKind.i32.wrap ((BitVec.ofInt 32 x|||BitVec.ofInt 32 y).toNat:Int)
def FW (x y:Int):Int:=IntKind.i32.wrap ((BitVec.ofInt 32 x&&& ~~~BitVec.ofInt 32 y).toNat:Int)
theorem OD (x y:Int):IntKind.i32.wrap ((@HAnd.hAnd (BitVec 32) (BitVec 32) (BitVec 32) (@instHAndOfAndOp (BitVec IntKind.i32.bits) (@BitVec.instAndOp IntKind.i32.bits)) (BitVec.ofInt 32 x) (BitVec.ofInt 32 y)).toNat:Int)=FU x y:=rfl
theorem OE (x y:Int):IntKind.i32.wrap ((@HOr.hOr (BitVec 32) (BitVec 32) (BitVec 32) (@instHOrOfOrOp (BitVec IntKind.i32.bits) (@BitVec.instOrOp IntKind.i32.bits)) (BitVec.ofInt 32 x) (BitVec.ofInt 32 y)).toNat:Int)=FV x y:=rfl
theorem OF (x y:Int):IntKind.i32.wrap ((@HAnd.hAnd (BitVec 32) (BitVec 32) (BitVec 32) (@instHAndOfAndOp (BitVec IntKind.i32.bits) (@BitVec.instAndOp IntKind.i32.bits)) (BitVec.ofInt 32 x) (@Complement.complement (BitVec 32) (@BitVec.instComplement IntKind.i32.bits) (BitVec.ofInt 32 y))).toNat:Int)=FW x y:=rfl
attribute [go_sem] OD OE OF
end Go.Sep
end

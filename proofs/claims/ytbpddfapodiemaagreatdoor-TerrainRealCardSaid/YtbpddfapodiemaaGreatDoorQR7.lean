/- A part of the proof: QR7. -/
import Derived.Test.YtbpddfapodiemaaGreatDoorQR6
import Derived.Conc.CrowdBase
import GoSem.Core.Value
set_option linter.all false
section
namespace Go.Sep
open Go.ConcN (sumTo upd sumTo_upd upd_ne upd_same le_sumTo sumTo_le sumTo_congr)
inductive Mp where
 |idle
 |want (aw:Bool) (old:Int) (G:Nat)
 |jk (G:Nat)|kJ (G:Nat)
 |lN (x:Bool)
 |held
 |g5 (old:Int) (G:Nat)
 |pZ|p5|fin
inductive Gp where
 |new|cnt|rel|ld|st|sm|gone
 deriving DecidableEq
structure Ph where
 mp:Mp
 gp:Gp
 stored:Bool
 deaf:Nat
structure Sh where
 mu:Int
 ms:Int
 wg:Int
 ws:Int
 is:List Bool
inductive P0 where
 |opn (pend:Nat)
 |look (v:Nat)
 |reg|fC
namespace Mp
def nH:Mp->Nat|held=>1|_=>0
def nA:Mp->Nat|want true _ _=>1|_=>0
def nQ:Mp->Nat|jk _=>1|_=>0
def nK:Mp->Nat|kJ _=>1|_=>0
def nI:Mp->Nat|lN _=>1|_=>0
def nX:Mp->Nat|lN true=>1|_=>0
def nT:Mp->Nat|pZ=>1|_=>0
def nY:Mp->Nat|p5=>1|_=>0
def nR:Mp->Nat|g5 _ _=>1|_=>0
def wt:Mp->Nat
 |idle=>7|want false _ _=>7|want true _ _=>6|jk _=>5|kJ _=>6|lN _=>6|held=>5|g5 _ _=>4|pZ=>3|p5=>3|fin=>0
def seen:Mp->Option (Option Int×Nat)
 |want _ o G=>some (some o,G)
 |g5 o G=>some (some o,G)
 |jk G=>some (none,G)
 |kJ G=>some (none,G)
 |_=>none
def jl:Mp->Bool
 |jk _=>true
 |_=>false
def out:Mp->Bool
 |idle|fin=>true
 |_=>false
end Mp
def Gp.nV:Gp->Nat|cnt=>1|rel=>1|_=>0
def Gp.n1:Gp->Nat|ld=>1|st=>1|_=>0
def Gp.n3:Gp->Nat|sm=>1|_=>0
def sm (k:Nat)(φ:Nat->Ph)(f:Mp->Nat):Nat:=sumTo k fun a=>f (φ a).mp
def sg (k:Nat)(φ:Nat->Ph)(f:Gp->Nat):Nat:=sumTo k fun a=>f (φ a).gp
theorem kK (k:Nat)(φ:Nat->Ph){i:Nat}(hi:i<k)(x:Ph)(f:Mp->Nat):sm k (upd φ i x) f+f (φ i).mp=sm k φ f+f x.mp:=sumTo_upd φ x (fun p=>f p.mp) hi
theorem zo (k:Nat)(φ:Nat->Ph){i:Nat}(hi:i<k)(x:Ph)(f:Gp->Nat):sg k (upd φ i x) f+f (φ i).gp=sg k φ f+f x.gp:=sumTo_upd φ x (fun p=>f p.gp) hi
theorem jR {k:Nat}{φ:Nat->Ph}{i:Nat}(hi:i<k)(f:Mp->Nat):f (φ i).mp<=sm k φ f:=le_sumTo (f:=fun a=>f (φ a).mp) hi
theorem p6 {k:Nat}{φ:Nat->Ph}{i:Nat}(hi:i<k)(f:Gp->Nat):f (φ i).gp<=sg k φ f:=le_sumTo (f:=fun a=>f (φ a).gp) hi
theorem KD (k:Nat)(φ:Nat->Ph){f g:Mp->Nat}(h:∀x,f x<=g x):sm k φ f<=sm k φ g:=by
 unfold sm
 induction k with
 |zero=>exact Nat.le_refl _
 |succ k ih=>simp only[sumTo];exact Nat.add_le_add ih (h _)
def b8 (k:Nat)(φ:Nat->Ph)(ms:Int):Nat:=sm k φ Mp.wt+2*ms.toNat
structure St (x:Int)(C S W L:Nat):Prop where
 eq:x=((8*C+4*S+2*W+L:Nat):Int)
 l:L<=1
 w:W<=1
 s:S<=1
structure cL (k:Nat)(φ:Nat->Ph)(mu ms:Int)(C S W L m:Nat):Prop where
 st:St mu C S W L
 cnt:ms=(m:Int)
 lock:L=sm k φ Mp.nH
 norm:S=0->sm k φ Mp.nI=0/\sm k φ Mp.nY=0/\W=sm k φ Mp.nA+m+sm k φ Mp.nK+sm k φ Mp.nT/\C+m+sm k φ Mp.nT=sm k φ Mp.nQ/\(0<C->L=0->W=0->0<sm k φ Mp.nR)
 gG:S=1->W=0/\sm k φ Mp.nA=0/\sm k φ Mp.nT=0/\L+m+sm k φ Mp.nY+sm k φ Mp.nK+sm k φ Mp.nI=1/\C=sm k φ Mp.nQ+sm k φ Mp.nK+sm k φ Mp.nI/\1<=C/\(0<sm k φ Mp.nX->2<=C)
 seen:∀i,i<k->∀o G,(φ i).mp.seen=some (o,G)->b8 k φ ms<=G/\(some mu≠o->b8 k φ ms<G)
def dy:Int:=4294967296
structure dY (k:Nat)(φ:Nat->Ph)(p0:P0)(wg ws:Int):Prop where
 inv:match p0 with
  | .opn pend=>pend<=1/\wg=((sg k φ Gp.nV+pend:Nat):Int)*dy/\ws=0/\sg k φ Gp.n1=0/\sg k φ Gp.n3=0
  | .look v=>sg k φ Gp.nV<=v/\wg=((sg k φ Gp.nV:Nat):Int)*dy/\ws=0/\sg k φ Gp.n1=0/\sg k φ Gp.n3=0
  | .reg=>(0<sg k φ Gp.nV/\sg k φ Gp.n1=0/\sg k φ Gp.n3=0/\wg=((sg k φ Gp.nV:Nat):Int)*dy+1/\ws=0)\/
    (sg k φ Gp.nV=0/\sg k φ Gp.n1=1/\sg k φ Gp.n3=0/\wg=1/\ws=0)\/
    (sg k φ Gp.nV=0/\sg k φ Gp.n1=0/\sg k φ Gp.n3=1/\wg=0/\ws=0)\/
    (sg k φ Gp.nV=0/\sg k φ Gp.n1=0/\sg k φ Gp.n3=0/\wg=0/\ws=1)
  | .fC=>sg k φ Gp.nV=0/\sg k φ Gp.n1=0/\sg k φ Gp.n3=0/\wg=0/\ws=0
structure KE (n:Nat)(bs:Nat->Bool)(k:Nat)(φ:Nat->Ph)(is:List Bool):Prop where
 len:is.length=n
 kn:k<=n
 all:∀i,i<n->is[i]?=some (φ i).stored
 born:∀i,i<n->(i<k↔(φ i).gp≠ .new)
 new:∀i,i<n->(φ i).gp= .new->(φ i).stored=false/\(φ i).mp= .idle/\(φ i).deaf=0
 done:∀i,i<n->(φ i).gp≠ .cnt->(φ i).gp≠ .new->(φ i).stored=bs i/\(φ i).mp= .fin
structure Inv (n:Nat)(bs:Nat->Bool)(k:Nat)(φ:Nat->Ph)(p0:P0)(s:Sh):Prop where
 m:∃C S W L m,cL n φ s.mu s.ms C S W L m
 w:dY n φ p0 s.wg s.ws
 i:KE n bs k φ s.is
section
variable {k i:Nat}{φ:Nat->Ph}{mu ms:Int}{C S W L m:Nat}
theorem St.uniq {x:Int}{C S W L b c d e:Nat}(h:St x C S W L)(a:St x b c d e):C=b/\S=c/\W=d/\L=e:=by
 have:=h.eq;have:=a.eq;have:=h.l;have:=h.w;have:=h.s;have:=a.l;have:=a.w;have:=a.s;omega
theorem KF {k:Nat}{φ:Nat->Ph}{mu b ms a:Int}{i:Nat}{x:Ph}(hs:∀i,i<k->∀o G,(φ i).mp.seen=some (o,G)->b8 k φ ms<=G/\(some mu≠o->b8 k φ ms<G))
  (hb:b8 k (upd φ i x) a<=b8 k φ ms) (aL:b≠mu->b8 k (upd φ i x) a<b8 k φ ms)
  (d:∀o G,x.mp.seen=some (o,G)->b8 k (upd φ i x) a<=G/\(some b≠o->b8 k (upd φ i x) a<G)):
  ∀j,j<k->∀o G,((upd φ i x) j).mp.seen=some (o,G)->b8 k (upd φ i x) a<=G/\(some b≠o->b8 k (upd φ i x) a<G):=by
 intro j f o G h
 by_cases e:j=i
 .subst e;rw[upd_same] at h;exact d o G h
 .rw[upd_ne _ _ e] at h
  obtain ⟨c,g⟩:=hs j f o G h
  refine ⟨Nat.le_trans hb c,fun l=>?_⟩
  by_cases hm:b=mu
  .exact Nat.lt_of_le_of_lt hb (g (hm▸l))
  .exact Nat.lt_of_lt_of_le (aL hm) c
theorem gH (hi:i<k)(x:Ph):
  (sm k (upd φ i x) Mp.nH+Mp.nH (φ i).mp=sm k φ Mp.nH+Mp.nH x.mp/\sm k (upd φ i x) Mp.nA+Mp.nA (φ i).mp=sm k φ Mp.nA+Mp.nA x.mp/\
  sm k (upd φ i x) Mp.nQ+Mp.nQ (φ i).mp=sm k φ Mp.nQ+Mp.nQ x.mp/\sm k (upd φ i x) Mp.nK+Mp.nK (φ i).mp=sm k φ Mp.nK+Mp.nK x.mp/\
  sm k (upd φ i x) Mp.nI+Mp.nI (φ i).mp=sm k φ Mp.nI+Mp.nI x.mp)/\(sm k (upd φ i x) Mp.nX+Mp.nX (φ i).mp=sm k φ Mp.nX+Mp.nX x.mp/\
  sm k (upd φ i x) Mp.nT+Mp.nT (φ i).mp=sm k φ Mp.nT+Mp.nT x.mp/\sm k (upd φ i x) Mp.nY+Mp.nY (φ i).mp=sm k φ Mp.nY+Mp.nY x.mp/\
  sm k (upd φ i x) Mp.nR+Mp.nR (φ i).mp=sm k φ Mp.nR+Mp.nR x.mp/\sm k (upd φ i x) Mp.wt+Mp.wt (φ i).mp=sm k φ Mp.wt+Mp.wt x.mp):=
 ⟨⟨kK k φ hi x _,kK k φ hi x _,kK k φ hi x _,kK k φ hi x _,kK k φ hi x _⟩,kK k φ hi x _,kK k φ hi x _,kK k φ hi x _,kK k φ hi x _,kK k φ hi x _⟩
theorem xi:sm k φ Mp.nX<=sm k φ Mp.nI:=KD k φ fun x=>by
 cases x with
 |lN b=>cases b<;>simp[Mp.nX,Mp.nI]
 |_=>simp[Mp.nX,Mp.nI]
theorem gf (hi:i<k):(Mp.nH (φ i).mp<=sm k φ Mp.nH/\Mp.nA (φ i).mp<=sm k φ Mp.nA/\Mp.nQ (φ i).mp<=sm k φ Mp.nQ/\Mp.nK (φ i).mp<=sm k φ Mp.nK/\Mp.nI (φ i).mp<=sm k φ Mp.nI)/\
  (Mp.nX (φ i).mp<=sm k φ Mp.nX/\Mp.nT (φ i).mp<=sm k φ Mp.nT/\Mp.nY (φ i).mp<=sm k φ Mp.nY/\Mp.nR (φ i).mp<=sm k φ Mp.nR/\Mp.wt (φ i).mp<=sm k φ Mp.wt):=
 ⟨⟨jR hi _,jR hi _,jR hi _,jR hi _,jR hi _⟩,jR hi _,jR hi _,jR hi _,jR hi _,jR hi _⟩
theorem cL.move (h:cL k φ mu ms C S W L m)(hi:i<k)(x:Ph){f j:Int}{b g c d a:Nat}(n:St f b g c d)(l:j=(a:Int))
  (p:d=sm k (upd φ i x) Mp.nH)
  (r:g=0->sm k (upd φ i x) Mp.nI=0/\sm k (upd φ i x) Mp.nY=0/\c=sm k (upd φ i x) Mp.nA+a+sm k (upd φ i x) Mp.nK+sm k (upd φ i x) Mp.nT/\b+a+sm k (upd φ i x) Mp.nT=sm k (upd φ i x) Mp.nQ/\(0<b->d=0->c=0->0<sm k (upd φ i x) Mp.nR))
  (s:g=1->c=0/\sm k (upd φ i x) Mp.nA=0/\sm k (upd φ i x) Mp.nT=0/\d+a+sm k (upd φ i x) Mp.nY+sm k (upd φ i x) Mp.nK+sm k (upd φ i x) Mp.nI=1/\b=sm k (upd φ i x) Mp.nQ+sm k (upd φ i x) Mp.nK+sm k (upd φ i x) Mp.nI/\1<=b/\(0<sm k (upd φ i x) Mp.nX->2<=b))
  (hb:sm k (upd φ i x) Mp.wt+2*a<=sm k φ Mp.wt+2*m) (aL:f≠mu->sm k (upd φ i x) Mp.wt+2*a<sm k φ Mp.wt+2*m)
  (t:∀o G,x.mp.seen=some (o,G)->sm k (upd φ i x) Mp.wt+2*a<=G/\(some f≠o->sm k (upd φ i x) Mp.wt+2*a<G)):cL k (upd φ i x) f j b g c d a:=by
 have e:b8 k φ ms=sm k φ Mp.wt+2*m:=by rw[b8,h.cnt];rfl
 have u:b8 k (upd φ i x) j=sm k (upd φ i x) Mp.wt+2*a:=by rw[b8,l];rfl
 exact ⟨n,l,p,r,s,KF h.seen aa (fun q=>by have:=aL q;omega) (fun o G q=>by rw[u];exact t o G q)⟩
theorem lO (h:cL k φ mu ms C S W L m):b8 k φ ms=sm k φ Mp.wt+2*m:=by rw[b8,h.cnt];rfl
theorem St.mk' {C S W L:Nat}(a:L<=1)(hw:W<=1)(hs:S<=1):St ((8*C+4*S+2*W+L:Nat):Int) C S W L:=⟨rfl,a,hw,hs⟩
set_option linter.unusedVariables false
theorem KG (h:cL k φ mu ms C S W L m)(hi:i<k)(x:Ph)(a:(φ i).mp= .idle)(b:x.mp= .held)(d:mu=0):cL k (upd φ i x) 1 ms 0 0 0 1 m:=by
 have s:=gH (φ:=φ) hi x;have f:=xi (k:=k) (φ:=φ);have g:=xi (k:=k) (φ:=upd φ i x);have l:=gf (φ:=φ) hi;rw[a,b] at s;rw[a] at l;simp only[Mp.nH,Mp.nA,Mp.nQ,Mp.nK,Mp.nI,Mp.nX,Mp.nT,Mp.nY,Mp.nR,Mp.wt] at s l;have e:=h.st.eq;have c:=h.norm;have hs:=h.gG;have j:=h.lock;have hc:=h.cnt;refine h.move hi x (St.mk' (C:=0) (S:=0) (W:=0) (L:=1) aa aa aa) hc aa (fun _=>?_) aa aa aa (by simp[b,Mp.seen]);have:=c aa;omega
theorem KH (h:cL k φ mu ms C S W L m)(hi:i<k)(x:Ph)(a:(φ i).mp= .idle)(b:x.mp= .want false mu (b8 k φ ms)):cL k (upd φ i x) mu ms C S W L m:=by
 have s:=gH (φ:=φ) hi x;have d:=xi (k:=k) (φ:=φ);have e:=xi (k:=k) (φ:=upd φ i x);have l:=gf (φ:=φ) hi;rw[a,b] at s;rw[a] at l;simp only[Mp.nH,Mp.nA,Mp.nQ,Mp.nK,Mp.nI,Mp.nX,Mp.nT,Mp.nY,Mp.nR,Mp.wt] at s l;have c:=h.norm;have hs:=h.gG;have f:=h.lock;have hb:=lO h;refine h.move hi x h.st h.cnt aa (fun q=>?_) (fun q=>?_) aa aa (fun o G q=>?_)
 .have:=c q;omega
 .have:=hs q;omega
 .rw[b] at q;simp only[Mp.seen,Option.some.injEq,Prod.mk.injEq] at q;obtain ⟨rfl,rfl⟩:=q;exact ⟨aa,fun z=>absurd rfl z⟩
theorem DH (h:cL k φ mu ms C S W L m)(hi:i<k){o:Int}{G:Nat}(a:(φ i).mp= .want true o G):S=0/\W=1:=by
 have l:=gf (φ:=φ) hi;rw[a] at l;simp only[Mp.nH,Mp.nA,Mp.nQ,Mp.nK,Mp.nI,Mp.nX,Mp.nT,Mp.nY,Mp.nR,Mp.wt] at l;have b:=h.norm;have hs:=h.gG;have c:=h.st.w;have d:=h.st.s;have a1:S=0:=by
  rcases Nat.lt_or_ge S 1 with z|z
  .omega
  .have:=hs aa;omega
 have:=b a1;exact ⟨a1,aa⟩
theorem vm (h:cL k φ mu ms C S W L m)(hi:i<k)(x:Ph){aw:Bool}{o:Int}{G:Nat}(a:(φ i).mp= .want aw o G)(b:x.mp= .want aw mu (b8 k φ ms)):
  cL k (upd φ i x) mu ms C S W L m/\b8 k φ ms<=G/\(mu≠o->b8 k φ ms<G):=by
 have s:=gH (φ:=φ) hi x
 have f:=xi (k:=k) (φ:=φ)
 have g:=xi (k:=k) (φ:=upd φ i x)
 have l:=gf (φ:=φ) hi
 rw[a,b] at s
 rw[a] at l
 have d:=h.norm
 have hs:=h.gG
 have j:=h.lock
 have hb:=lO h
 have n:=h.st.w
 have p:=h.st.s
 have c:b8 k φ ms<=G/\(mu≠o->b8 k φ ms<G):=by
  have:=h.seen i hi (some o) G (by rw[a];rfl)
  exact ⟨this.1,fun z=>this.2 fun e=>z (Option.some.inj e)⟩
 cases aw<;>simp only[Mp.nH,Mp.nA,Mp.nQ,Mp.nK,Mp.nI,Mp.nX,Mp.nT,Mp.nY,Mp.nR,Mp.wt] at s l
 all_goals
  refine ⟨h.move hi x h.st h.cnt aa (fun q=>?_) (fun q=>?_) aa aa (fun o G q=>?_),c.1,c.2⟩
  .have:=d q;omega
  .have:=hs q;omega
  .rw[b] at q;simp only[Mp.seen,Option.some.injEq,Prod.mk.injEq] at q;obtain ⟨rfl,rfl⟩:=q;exact ⟨aa,fun z=>absurd rfl z⟩
theorem KI (h:cL k φ mu ms C S W L m)(hi:i<k)(x:Ph){o:Int}{G:Nat}(a:(φ i).mp= .want false o G)(b:x.mp= .want true o G)(d:mu=o)(c:S=0)(f:L=1)(hW:W=0):
  cL k (upd φ i x) (mu+2) ms C 0 1 1 m:=by
 have s:=gH (φ:=φ) hi x
 have g:=xi (k:=k) (φ:=φ)
 have j:=xi (k:=k) (φ:=upd φ i x)
 have l:=gf (φ:=φ) hi
 rw[a,b] at s
 rw[a] at l
 simp only[Mp.nH,Mp.nA,Mp.nQ,Mp.nK,Mp.nI,Mp.nX,Mp.nT,Mp.nY,Mp.nR,Mp.wt] at s l
 have e:=h.st.eq
 have n:=h.norm c
 have p:=h.lock
 have hb:=lO h
 have r:b8 k φ ms<=G/\(mu≠o->b8 k φ ms<G):=by
  have:=h.seen i hi (some o) G (by rw[a];rfl)
  exact ⟨this.1,fun z=>this.2 fun e=>z (Option.some.inj e)⟩
 refine h.move hi x ⟨aa,aa,aa,aa⟩ h.cnt aa aa aa aa aa (fun o' t q=>?_)
 rw[b] at q;simp only[Mp.seen,Option.some.injEq,Prod.mk.injEq] at q;obtain ⟨rfl,rfl⟩:=q
 exact ⟨aa,fun _=>aa⟩
theorem KJ (h:cL k φ mu ms C S W L m)(hi:i<k)(x:Ph){aw:Bool}{o:Int}{G:Nat}(b:(φ i).mp= .want aw o G)(a:x.mp= .held)(c:S=0)(d:L=0)(hW:aw=true->W=1):
  cL k (upd φ i x) (mu+1 - (if aw then 2 else 0)) ms C 0 (if aw then 0 else W) 1 m:=by
 have s:=gH (φ:=φ) hi x
 have f:=xi (k:=k) (φ:=φ)
 have g:=xi (k:=k) (φ:=upd φ i x)
 have l:=gf (φ:=φ) hi
 rw[b,a] at s
 rw[b] at l
 have e:=h.st.eq
 have j:=h.norm c
 have n:=h.lock
 have p:=h.st.w
 cases aw<;>simp only[Mp.nH,Mp.nA,Mp.nQ,Mp.nK,Mp.nI,Mp.nX,Mp.nT,Mp.nY,Mp.nR,Mp.wt] at s l
 .refine h.move hi x ⟨by simp;omega,aa,by simp;omega,aa⟩ h.cnt aa (by simp;omega) aa aa aa (by simp[a,Mp.seen])
 .have:=hW rfl
  refine h.move hi x ⟨by simp;omega,aa,au,aa⟩ h.cnt aa (by simp;omega) aa aa aa (by simp[a,Mp.seen])
theorem KL (h:cL k φ mu ms C S W L m)(hi:i<k)(x:Ph){aw sv:Bool}{o:Int}{G:Nat}(b:(φ i).mp= .want aw o G)(a:x.mp= .jk (b8 k φ ms))(f:S=1\/L=1)(d:sv=true->aw=true/\L=1):
  cL k (upd φ i x) (mu+8+(if sv then 4 else 0) - (if aw then 2 else 0)) ms (C+1) (if sv then 1 else S) (if aw then 0 else W) L m:=by
 have hb:=lO h
 have s:=gH (φ:=φ) hi x
 have g:=xi (k:=k) (φ:=φ)
 have j:=xi (k:=k) (φ:=upd φ i x)
 have l:=gf (φ:=φ) hi
 rw[b,a] at s
 rw[b] at l
 have e:=h.st.eq
 have c:=h.norm
 have hs:=h.gG
 have n:=h.lock
 have p:=h.st.l
 have r:=h.st.w
 have t:=h.st.s
 cases aw<;>simp only[Mp.nH,Mp.nA,Mp.nQ,Mp.nK,Mp.nI,Mp.nX,Mp.nT,Mp.nY,Mp.nR,Mp.wt] at s l
 .obtain rfl:sv=false:=by cases sv<;>simp_all
  refine h.move hi x ⟨by simp;omega,aa,by simp;omega,by simp;omega⟩ h.cnt aa (fun q=>?_) (fun q=>?_) aa aa (fun o G q=>by rw[a] at q;simp only[Mp.seen,Option.some.injEq,Prod.mk.injEq] at q;obtain ⟨rfl,rfl⟩:=q;exact ⟨aa,fun _=>aa⟩)
  .have:=c (by simpa using q);simp;omega
  .have:=hs (by simpa using q);simp;omega
 .have a1:S=0:=by
   rcases Nat.lt_or_ge S 1 with z|z
   .omega
   .have:=hs aa;omega
  have:=c a1
  cases sv
  .refine h.move hi x ⟨by simp;omega,aa,au,by simp;omega⟩ h.cnt aa (by simp;omega) (by simp;omega) aa aa (fun o G q=>by rw[a] at q;simp only[Mp.seen,Option.some.injEq,Prod.mk.injEq] at q;obtain ⟨rfl,rfl⟩:=q;exact ⟨aa,fun _=>aa⟩)
  .have:=d rfl
   refine h.move hi x ⟨by simp;omega,aa,au,au⟩ h.cnt aa au (by simp;omega) aa aa (fun o G q=>by rw[a] at q;simp only[Mp.seen,Option.some.injEq,Prod.mk.injEq] at q;obtain ⟨rfl,rfl⟩:=q;exact ⟨aa,fun _=>aa⟩)
theorem KM (h:cL k φ mu ms C S W L m)(hi:i<k)(x:Ph){G:Nat}(a:(φ i).mp= .jk G)(b:x.mp= .kJ G)(hm:0<m):cL k (upd φ i x) mu (ms - 1) C S W L (m - 1):=by
 have hb:=lO h;have c:=h.seen i hi none G (by rw[a];rfl);have s:=gH (φ:=φ) hi x;have e:=xi (k:=k) (φ:=φ);have f:=xi (k:=k) (φ:=upd φ i x);have l:=gf (φ:=φ) hi;rw[a,b] at s;rw[a] at l;simp only[Mp.nH,Mp.nA,Mp.nQ,Mp.nK,Mp.nI,Mp.nX,Mp.nT,Mp.nY,Mp.nR,Mp.wt] at s l;have d:=h.norm;have hs:=h.gG;have g:=h.lock;have hc:=h.cnt;refine h.move hi x h.st aa aa (fun q=>?_) (fun q=>?_) aa aa (fun o G q=>by rw[b] at q;simp only[Mp.seen,Option.some.injEq,Prod.mk.injEq] at q;obtain ⟨rfl,rfl⟩:=q;have:=c.2 au;exact ⟨aa,fun _=>aa⟩)
 .have:=d q;omega
 .have:=hs q;omega
theorem KN (h:cL k φ mu ms C S W L m)(hi:i<k)(x:Ph){G:Nat}(a:(φ i).mp= .kJ G)(b:x.mp= .want true mu (b8 k φ ms))(c:S=0):cL k (upd φ i x) mu ms C S W L m/\W=1/\b8 k φ ms<G:=by
 have d:=(h.seen i hi none G (by rw[a];rfl)).2 au;have s:=gH (φ:=φ) hi x;have e:=xi (k:=k) (φ:=φ);have f:=xi (k:=k) (φ:=upd φ i x);have l:=gf (φ:=φ) hi;rw[a,b] at s;rw[a] at l;simp only[Mp.nH,Mp.nA,Mp.nQ,Mp.nK,Mp.nI,Mp.nX,Mp.nT,Mp.nY,Mp.nR,Mp.wt] at s l;have g:=h.norm c;have j:=h.lock;have hb:=lO h;have n:=h.st.w;refine ⟨h.move hi x h.st h.cnt aa aa aa aa aa (fun o G q=>?_),aa,d⟩;rw[b] at q;simp only[Mp.seen,Option.some.injEq,Prod.mk.injEq] at q;obtain ⟨rfl,rfl⟩:=q;exact ⟨aa,fun z=>absurd rfl z⟩
theorem KO (h:cL k φ mu ms C S W L m)(hi:i<k)(x:Ph){G:Nat}(b:(φ i).mp= .kJ G)(a:x.mp= .lN (decide (2<=C)))(c:S=1):cL k (upd φ i x) mu ms C S W L m/\W=0/\L=0/\1<=C:=by
 have s:=gH (φ:=φ) hi x;have d:=xi (k:=k) (φ:=φ);have e:=xi (k:=k) (φ:=upd φ i x);have l:=gf (φ:=φ) hi;rw[b,a] at s;rw[b] at l;have hs:=h.gG c;have f:=h.lock;by_cases hC:2<=C
 .simp only[hC,decide_true,Mp.nH,Mp.nA,Mp.nQ,Mp.nK,Mp.nI,Mp.nX,Mp.nT,Mp.nY,Mp.nR,Mp.wt] at s l;exact ⟨h.move hi x h.st h.cnt aa aa aa aa aa (by simp[a,Mp.seen]),aa,aa,aa⟩
 .simp only[hC,decide_false,Mp.nH,Mp.nA,Mp.nQ,Mp.nK,Mp.nI,Mp.nX,Mp.nT,Mp.nY,Mp.nR,Mp.wt] at s l;exact ⟨h.move hi x h.st h.cnt aa aa aa aa aa (by simp[a,Mp.seen]),aa,aa,aa⟩
theorem DI (h:cL k φ mu ms C S W L m)(hi:i<k)(x:Ph){y:Bool}(e:Bool)(b:(φ i).mp= .lN y)(a:x.mp= .held)(he:e=false->y=true):
  cL k (upd φ i x) (mu - 7 - (if e then 4 else 0)) ms (C - 1) (if e then 0 else 1) 0 1 m:=by
 have s:=gH (φ:=φ) hi x
 have d:=xi (k:=k) (φ:=φ)
 have f:=xi (k:=k) (φ:=upd φ i x)
 have l:=gf (φ:=φ) hi
 rw[b,a] at s
 rw[b] at l
 have c:=h.norm
 have hs:=h.gG
 have g:=h.lock
 have e1:=h.st.eq
 have j:=h.st.l
 have n:=h.st.s
 cases y<;>simp only[Mp.nH,Mp.nA,Mp.nQ,Mp.nK,Mp.nI,Mp.nX,Mp.nT,Mp.nY,Mp.nR,Mp.wt] at s l
 .obtain rfl:e=true:=by cases e<;>simp_all
  have a1:S=1:=by
   rcases Nat.lt_or_ge S 1 with z|z
   .have:=c aa;omega
   .omega
  have:=hs a1
  refine h.move hi x ⟨by simp;omega,aa,aa,au⟩ h.cnt aa (by simp;omega) au aa aa (by simp[a,Mp.seen])
 .have a1:S=1:=by
   rcases Nat.lt_or_ge S 1 with z|z
   .have:=c aa;omega
   .omega
  have:=hs a1
  cases e
  .refine h.move hi x ⟨by simp;omega,aa,aa,au⟩ h.cnt aa au (by simp;omega) aa aa (by simp[a,Mp.seen])
  .refine h.move hi x ⟨by simp;omega,aa,aa,au⟩ h.cnt aa (by simp;omega) au aa aa (by simp[a,Mp.seen])
theorem DJ (h:cL k φ mu ms C S W L m)(hi:i<k)(a:(φ i).mp= .held):L=1:=by
 have l:=gf (φ:=φ) hi;rw[a] at l;simp only[Mp.nH] at l;have:=h.lock;have:=h.st.l;omega
theorem KP (h:cL k φ mu ms C S W L m)(hi:i<k)(x:Ph)(b:(φ i).mp= .held)
  (a:(S=1/\x.mp= .p5)\/(S=0/\0<C/\W=0/\x.mp= .g5 (mu - 1) (sm k φ Mp.wt+2*m))\/(S=0/\(C=0\/W=1)/\x.mp= .fin)):cL k (upd φ i x) (mu - 1) ms C S W 0 m:=by
 have s:=gH (φ:=φ) hi x
 have e:=xi (k:=k) (φ:=φ)
 have f:=xi (k:=k) (φ:=upd φ i x)
 have l:=gf (φ:=φ) hi
 have g:=DJ h hi b
 rw[b] at s l
 have c:=h.norm
 have hs:=h.gG
 have j:=h.lock
 have e1:=h.st.eq
 have n:=h.st.w
 have p:=h.st.s
 rcases a with ⟨q,a⟩|⟨q,d,r,a⟩|⟨q,d,a⟩<;>rw[a] at s<;>simp only[Mp.nH,Mp.nA,Mp.nQ,Mp.nK,Mp.nI,Mp.nX,Mp.nT,Mp.nY,Mp.nR,Mp.wt] at s l
 .have:=hs q
  exact h.move hi x ⟨aa,aa,aa,aa⟩ h.cnt aa aa aa aa aa (by simp[a,Mp.seen])
 .have:=c q
  refine h.move hi x ⟨aa,aa,aa,aa⟩ h.cnt aa aa aa aa aa (fun o G z=>?_)
  rw[a] at z;simp only[Mp.seen,Option.some.injEq,Prod.mk.injEq] at z;obtain ⟨rfl,rfl⟩:=z
  exact ⟨aa,fun _=>aa⟩
 .have:=c q
  exact h.move hi x ⟨aa,aa,aa,aa⟩ h.cnt aa aa aa aa aa (by simp[a,Mp.seen])
theorem KQ (h:cL k φ mu ms C S W L m)(hi:i<k)(x:Ph){o:Int}{G:Nat}(a:(φ i).mp= .g5 o G)(b:x.mp= .pZ)(c:S=0)(d:L=0)(hW:W=0)(hC:0<C):
  cL k (upd φ i x) (mu - 8+2) ms (C - 1) 0 1 0 m:=by
 have s:=gH (φ:=φ) hi x
 have e:=xi (k:=k) (φ:=φ)
 have f:=xi (k:=k) (φ:=upd φ i x)
 have l:=gf (φ:=φ) hi
 rw[a,b] at s
 rw[a] at l
 simp only[Mp.nH,Mp.nA,Mp.nQ,Mp.nK,Mp.nI,Mp.nX,Mp.nT,Mp.nY,Mp.nR,Mp.wt] at s l
 have g:=h.norm c
 have j:=h.lock
 have e1:=h.st.eq
 exact h.move hi x ⟨aa,aa,aa,aa⟩ h.cnt aa aa aa aa aa (by simp[b,Mp.seen])
theorem DK (h:cL k φ mu ms C S W L m)(hi:i<k)(x:Ph){o:Int}{G:Nat}(b:(φ i).mp= .g5 o G)
  (a:(S=0/\L=0/\W=0/\0<C/\x.mp= .g5 mu (b8 k φ ms))\/(¬(S=0/\L=0/\W=0/\0<C)/\x.mp= .fin)):
  cL k (upd φ i x) mu ms C S W L m/\b8 k φ ms<=G/\(mu≠o->b8 k φ ms<G):=by
 have s:=gH (φ:=φ) hi x
 have f:=xi (k:=k) (φ:=φ)
 have g:=xi (k:=k) (φ:=upd φ i x)
 have l:=gf (φ:=φ) hi
 have d:b8 k φ ms<=G/\(mu≠o->b8 k φ ms<G):=by
  have:=h.seen i hi (some o) G (by rw[b];rfl)
  exact ⟨this.1,fun z=>this.2 fun e=>z (Option.some.inj e)⟩
 refine ⟨?_,d⟩
 rw[b] at s l
 have c:=h.norm
 have hs:=h.gG
 have j:=h.lock
 have n:=h.st.l
 have p:=h.st.w
 have r:=h.st.s
 have hb:=lO h
 rcases a with ⟨q,t,u,v,a⟩|⟨q,a⟩<;>rw[a] at s<;>simp only[Mp.nH,Mp.nA,Mp.nQ,Mp.nK,Mp.nI,Mp.nX,Mp.nT,Mp.nY,Mp.nR,Mp.wt] at s l
 .have:=c q
  refine h.move hi x h.st h.cnt aa aa aa aa aa (fun o G z=>?_)
  rw[a] at z;simp only[Mp.seen,Option.some.injEq,Prod.mk.injEq] at z;obtain ⟨rfl,rfl⟩:=z
  exact ⟨aa,fun z=>absurd rfl z⟩
 .refine h.move hi x h.st h.cnt aa (fun z=>?_) (fun z=>?_) aa aa (by simp[a,Mp.seen])
  .have:=c z;omega
  .have:=hs z;omega
theorem KR (h:cL k φ mu ms C S W L m)(hi:i<k)(x:Ph){o:Int}{G:Nat}(a:(φ i).mp= .g5 o G)(b:x.mp= .g5 mu (b8 k φ ms)):
  cL k (upd φ i x) mu ms C S W L m/\b8 k φ ms<=G/\(mu≠o->b8 k φ ms<G):=by
 have s:=gH (φ:=φ) hi x
 have l:=gf (φ:=φ) hi
 have c:b8 k φ ms<=G/\(mu≠o->b8 k φ ms<G):=by
  have:=h.seen i hi (some o) G (by rw[a];rfl)
  exact ⟨this.1,fun z=>this.2 fun e=>z (Option.some.inj e)⟩
 refine ⟨?_,c⟩
 rw[a,b] at s
 rw[a] at l
 simp only[Mp.nH,Mp.nA,Mp.nQ,Mp.nK,Mp.nI,Mp.nX,Mp.nT,Mp.nY,Mp.nR,Mp.wt] at s l
 have d:=h.norm
 have hs:=h.gG
 have f:=h.lock
 have hb:=lO h
 refine h.move hi x h.st h.cnt aa (fun q=>?_) (fun q=>?_) aa aa (fun o G q=>?_)
 .have:=d q;omega
 .have:=hs q;omega
 .rw[b] at q;simp only[Mp.seen,Option.some.injEq,Prod.mk.injEq] at q;obtain ⟨rfl,rfl⟩:=q;exact ⟨aa,fun z=>absurd rfl z⟩
theorem KS (h:cL k φ mu ms C S W L m)(hi:i<k)(x:Ph)(a:(φ i).mp= .pZ\/(φ i).mp= .p5)(b:x.mp= .fin):cL k (upd φ i x) mu (ms+1) C S W L (m+1):=by
 have s:=gH (φ:=φ) hi x;have d:=xi (k:=k) (φ:=φ);have e:=xi (k:=k) (φ:=upd φ i x);have l:=gf (φ:=φ) hi;have c:=h.norm;have hs:=h.gG;have f:=h.lock;have hc:=h.cnt;rw[b] at s;rcases a with a|a<;>rw[a] at s l<;>simp only[Mp.nH,Mp.nA,Mp.nQ,Mp.nK,Mp.nI,Mp.nX,Mp.nT,Mp.nY,Mp.nR,Mp.wt] at s l;all_goals
  refine h.move hi x h.st aa aa (fun z=>?_) (fun z=>?_) aa aa (by simp[b,Mp.seen])
  .have:=c z;omega
  .have:=hs z;omega
theorem oq (h:cL k φ mu ms C S W L m)(hi:i<k)(x:Ph)(a:x.mp=(φ i).mp\/((φ i).mp= .idle/\x.mp= .fin)):cL k (upd φ i x) mu ms C S W L m:=by
 have s:=gH (φ:=φ) hi x;have e:=xi (k:=k) (φ:=φ);have f:=xi (k:=k) (φ:=upd φ i x);have l:=gf (φ:=φ) hi;have b:=h.norm;have hs:=h.gG;have g:=h.lock;have hb:=lO h;rcases a with a|⟨c,a⟩
 .rw[a] at s;refine h.move hi x h.st h.cnt aa (fun z=>?_) (fun z=>?_) aa aa (fun o G q=>?_)
  .have:=b z;omega
  .have:=hs z;omega
  .rw[a] at q;have d:=h.seen i hi o G q;exact ⟨aa,fun z=>by have:=d.2 z;omega⟩
 .rw[c,a] at s;rw[c] at l;simp only[Mp.nH,Mp.nA,Mp.nQ,Mp.nK,Mp.nI,Mp.nX,Mp.nT,Mp.nY,Mp.nR,Mp.wt] at s l;refine h.move hi x h.st h.cnt aa (fun z=>?_) (fun z=>?_) aa aa (by simp[a,Mp.seen])
  .have:=b z;omega
  .have:=hs z;omega
theorem zq {k:Nat}{φ:Nat->Ph}{f:Mp->Nat}(h:∀i,i<k->f (φ i).mp=0):sm k φ f=0:=by
 induction k with
 |zero=>rfl
 |succ k ih=>
  have:=ih fun i hi=>h i aa;show sm k φ f+f (φ k).mp=0;rw[this,h k aa]
theorem vn {k:Nat}{φ:Nat->Ph}{f:Gp->Nat}(h:∀i,i<k->f (φ i).gp=0):sg k φ f=0:=by
 induction k with
 |zero=>rfl
 |succ k ih=>
  have:=ih fun i hi=>h i aa;show sg k φ f+f (φ k).gp=0;rw[this,h k aa]
theorem KT {k:Nat}{φ:Nat->Ph}{f:Gp->Nat}(h:0<sg k φ f):∃i,i<k/\0<f (φ i).gp:=by
 rcases Classical.em (∃i,i<k/\0<f (φ i).gp) with x|x
 .exact x
 .have:=vn (k:=k) (φ:=φ) (f:=f) fun i hi=>by
   rcases Nat.eq_zero_or_pos (f (φ i).gp) with y|y
   .exact y
   .exact absurd ⟨i,hi,y⟩ x
  omega
end
theorem cL.bound {k:Nat}{φ:Nat->Ph}{mu ms:Int}{C S W L m:Nat}(h:cL k φ mu ms C S W L m):C<=3*k:=by
 have a:sm k φ Mp.nQ<=1*k:=sumTo_le fun j _=>by cases (φ j).mp<;>simp[Mp.nQ]
 have b:sm k φ Mp.nK<=1*k:=sumTo_le fun j _=>by cases (φ j).mp<;>simp[Mp.nK]
 have hi:sm k φ Mp.nI<=1*k:=sumTo_le fun j _=>by cases (φ j).mp<;>simp[Mp.nI]
 have hs:=h.st.s;rcases Nat.lt_or_ge S 1 with y|y
 .have:=h.norm aa;omega
 .have:=h.gG aa;omega
section
variable {k i:Nat}{φ:Nat->Ph}{wg ws:Int}{p0:P0}
theorem p7 (hi:i<k)(x:Ph):sg k (upd φ i x) Gp.nV+Gp.nV (φ i).gp=sg k φ Gp.nV+Gp.nV x.gp/\sg k (upd φ i x) Gp.n1+Gp.n1 (φ i).gp=sg k φ Gp.n1+Gp.n1 x.gp/\sg k (upd φ i x) Gp.n3+Gp.n3 (φ i).gp=sg k φ Gp.n3+Gp.n3 x.gp/\
  Gp.nV (φ i).gp<=sg k φ Gp.nV/\Gp.n1 (φ i).gp<=sg k φ Gp.n1/\Gp.n3 (φ i).gp<=sg k φ Gp.n3:=⟨zo k φ hi x _,zo k φ hi x _,zo k φ hi x _,p6 hi _,p6 hi _,p6 hi _⟩
theorem vo (h:dY k φ p0 wg ws)(hi:i<k)(x:Ph)(a:x.gp=(φ i).gp\/((φ i).gp= .cnt/\x.gp= .rel)):dY k (upd φ i x) p0 wg ws:=by
 obtain ⟨s1,s2,e,_⟩:=p7 (φ:=φ) hi x;have e1:sg k (upd φ i x) Gp.nV=sg k φ Gp.nV:=by rcases a with a|⟨b,c⟩<;>simp_all [Gp.nV]
 have e2:sg k (upd φ i x) Gp.n1=sg k φ Gp.n1:=by rcases a with a|⟨b,c⟩<;>simp_all [Gp.n1]
 have d:sg k (upd φ i x) Gp.n3=sg k φ Gp.n3:=by rcases a with a|⟨b,c⟩<;>simp_all [Gp.n3]
 refine ⟨?_⟩;rw[e1,e2,d];exact h.inv
theorem DL (h:dY k φ p0 wg ws)(hi:i<k)(x:Ph)(n:(φ i).gp= .rel):
  ∃(v t:Nat),wg=((v+1:Nat):Int)*dy+t/\t<=1/\v<=k/\(x.gp=(if v=0/\t=1 then .ld else .gone)->dY k (upd φ i x) p0 (wg - dy) ws):=by
 obtain ⟨s1,s2,a,e,f,g⟩:=p7 (φ:=φ) hi x
 rw[n] at s1 s2 a e f g
 simp only[Gp.nV,Gp.n1,Gp.n3] at s1 s2 a e f g
 have q:sg k φ Gp.nV<=1*k:=sumTo_le fun j _=>by cases (φ j).gp<;>simp[Gp.nV]
 have hinv:=h.inv
 cases p0 with
 |opn pend=>
  simp only at hinv
  obtain ⟨o,c,l,m,d⟩:=hinv
  refine ⟨sg k φ Gp.nV - 1+pend,0,by rw[c];simp only[dy];omega,aa,aa,fun b=>⟨?_⟩⟩
  rw[if_neg aa] at b
  rw[b] at s1 s2 a
  simp only[Gp.nV,Gp.n1,Gp.n3] at s1 s2 a
  simp only[dy] at c ⊢
  omega
 |look u=>
  simp only at hinv
  obtain ⟨o,c,l,m,d⟩:=hinv
  refine ⟨sg k φ Gp.nV - 1,0,by rw[c];simp only[dy];omega,aa,aa,fun b=>⟨?_⟩⟩
  rw[if_neg aa] at b
  rw[b] at s1 s2 a
  simp only[Gp.nV,Gp.n1,Gp.n3] at s1 s2 a
  simp only[dy] at c ⊢
  omega
 |reg=>
  simp only at hinv
  rcases hinv with ⟨c,l,m,d,r⟩|⟨c,_⟩|⟨c,_⟩|⟨c,_⟩
  .refine ⟨sg k φ Gp.nV - 1,1,by rw[d];simp only[dy];omega,aa,aa,fun b=>⟨?_⟩⟩
   by_cases p:sg k φ Gp.nV - 1=0
   .rw[if_pos ⟨p,rfl⟩] at b
    rw[b] at s1 s2 a
    simp only[Gp.nV,Gp.n1,Gp.n3] at s1 s2 a
    simp only[dy] at d ⊢
    omega
   .rw[if_neg aa] at b
    rw[b] at s1 s2 a
    simp only[Gp.nV,Gp.n1,Gp.n3] at s1 s2 a
    simp only[dy] at d ⊢
    omega
  all_goals omega
 |fC=>simp only at hinv;omega
theorem KU (h:dY k φ p0 wg ws)(hi:i<k)(x:Ph)(a:(φ i).gp= .ld)(f:x.gp= .st):wg=1/\dY k (upd φ i x) p0 wg ws:=by
 obtain ⟨s1,s2,b,c,d,e⟩:=p7 (φ:=φ) hi x;rw[a,f] at s1 s2 b;rw[a] at c d e;simp only[Gp.nV,Gp.n1,Gp.n3] at s1 s2 b c d e;have hinv:=h.inv;cases p0 with
 |opn pend=>simp only at hinv;omega
 |look u=>simp only at hinv;omega
 |reg=>
  simp only at hinv;exact ⟨aa,⟨by simp only;omega⟩⟩
 |fC=>simp only at hinv;omega
theorem KV (h:dY k φ p0 wg ws)(hi:i<k)(x:Ph)(a:(φ i).gp= .st)(f:x.gp= .sm):wg=1/\dY k (upd φ i x) p0 0 ws:=by
 obtain ⟨s1,s2,b,c,d,e⟩:=p7 (φ:=φ) hi x;rw[a,f] at s1 s2 b;rw[a] at c d e;simp only[Gp.nV,Gp.n1,Gp.n3] at s1 s2 b c d e;have hinv:=h.inv;cases p0 with
 |opn pend=>simp only at hinv;omega
 |look u=>simp only at hinv;omega
 |reg=>
  simp only at hinv;exact ⟨aa,⟨.inr (.inr (.inl ⟨aa,aa,aa,rfl,aa⟩))⟩⟩
 |fC=>simp only at hinv;omega
theorem KW (h:dY k φ p0 wg ws)(hi:i<k)(x:Ph)(a:(φ i).gp= .sm)(f:x.gp= .gone):ws=0/\dY k (upd φ i x) p0 wg (ws+1):=by
 obtain ⟨s1,s2,b,c,d,e⟩:=p7 (φ:=φ) hi x;rw[a,f] at s1 s2 b;rw[a] at c d e;simp only[Gp.nV,Gp.n1,Gp.n3] at s1 s2 b c d e;have hinv:=h.inv;cases p0 with
 |opn pend=>simp only at hinv;omega
 |look u=>simp only at hinv;omega
 |reg=>
  simp only at hinv;exact ⟨aa,⟨by simp only;omega⟩⟩
 |fC=>simp only at hinv;omega
theorem KX (h:dY k φ (.opn 0) wg ws):∃v:Nat,wg=(v:Int)*dy/\v<=k/\dY k φ (.opn 1) (wg+dy) ws:=by
 have a:sg k φ Gp.nV<=1*k:=sumTo_le fun j _=>by cases (φ j).gp<;>simp[Gp.nV]
 have hinv:=h.inv;simp only at hinv;exact ⟨sg k φ Gp.nV,by simpa using hinv.2.1,aa,⟨by simp only;simp only[dy] at hinv ⊢;omega⟩⟩
theorem KY (h:dY k φ (.opn 1) wg ws)(hi:i<k)(x:Ph)(b:(φ i).gp= .new)(c:x.gp= .cnt):dY k (upd φ i x) (.opn 0) wg ws:=by
 obtain ⟨s1,s2,a,d,e,f⟩:=p7 (φ:=φ) hi x;rw[b,c] at s1 s2 a;simp only[Gp.nV,Gp.n1,Gp.n3] at s1 s2 a;have hinv:=h.inv;simp only at hinv;exact ⟨by simp only;simp only[dy] at hinv ⊢;omega⟩
theorem KZ (h:dY k φ (.opn 0) wg ws):dY k φ (.look k) wg ws:=by
 have a:sg k φ Gp.nV<=1*k:=sumTo_le fun j _=>by cases (φ j).gp<;>simp[Gp.nV]
 have hinv:=h.inv;simp only at hinv;exact ⟨by simp only;simp only[Nat.add_zero] at hinv;omega⟩
theorem K0 {u:Nat}(h:dY k φ (.look u) wg ws):∃v:Nat,wg=(v:Int)*dy/\v<=u/\dY k φ (if v=0 then .fC else .look v) wg ws:=by
 have hinv:=h.inv;simp only at hinv;refine ⟨sg k φ Gp.nV,hinv.2.1,hinv.1,?_⟩;split
 .rename_i e;exact ⟨by simp only;simp only[dy] at hinv;omega⟩
 .exact ⟨by simp only;exact ⟨Nat.le_refl _,hinv.2⟩⟩
theorem K1 {v:Nat}(h:dY k φ (.look v) ((v:Int)*dy) ws)(a:0<v):dY k φ .reg ((v:Int)*dy+1) ws:=by
 have hinv:=h.inv;simp only at hinv;exact ⟨by simp only;simp only[dy] at hinv ⊢;omega⟩
theorem K2 {v:Nat}(h:dY k φ (.look v) wg ws)(aL:wg≠(v:Int)*dy):1<=v/\dY k φ (.look (v - 1)) wg ws:=by
 have hinv:=h.inv;simp only at hinv;simp only[dy] at hinv aL;have:sg k φ Gp.nV≠v:=fun e=>aL (by rw[<-e];exact hinv.2.1);exact ⟨aa,⟨by simp only;simp only[dy];omega⟩⟩
theorem K3 (h:dY k φ .reg wg ws)(hw:ws≠0):wg=0/\ws=1/\dY k φ .fC wg (ws - 1):=by
 have hinv:=h.inv;simp only at hinv;exact ⟨aa,aa,⟨by simp only;omega⟩⟩
theorem DN (h:dY k φ .fC wg ws):wg=0/\sg k φ Gp.nV=0/\sg k φ Gp.n1=0/\sg k φ Gp.n3=0:=by
 have hinv:=h.inv;simp only at hinv;omega
theorem K4 (d:sg k φ Gp.nV=0)(e:sg k φ Gp.n1=0)(f:sg k φ Gp.n3=0)(hi:i<k):(φ i).gp= .gone\/(φ i).gp= .new:=by
 have a:=p6 (φ:=φ) hi Gp.nV;have b:=p6 (φ:=φ) hi Gp.n1;have c:=p6 (φ:=φ) hi Gp.n3;cases hg:(φ i).gp<;>rw[hg] at a b c<;>simp only[Gp.nV,Gp.n1,Gp.n3] at a b c<;>first|omega|exact .inl rfl|exact .inr rfl
theorem live {n:Nat}{bs:Nat->Bool}{s:Sh}(h:Inv n bs n φ .reg s)(hw:s.ws=0):∃i,i<n/\(φ i).gp≠ .gone/\((φ i).mp.jl=true->s.ms≠0):=by
 rcases Classical.em (∃i,i<n/\(φ i).gp≠ .gone/\((φ i).mp.jl=true->s.ms≠0)) with x|x
 .exact x
 exfalso;have a:∀i,i<n->(φ i).gp= .gone\/((φ i).mp.jl=true/\s.ms=0):=fun i hi=>by
  rcases Classical.em ((φ i).gp= .gone) with y|y
  .exact .inl y
  .rcases Classical.em ((φ i).mp.jl=true/\s.ms=0) with z|z
   .exact .inr z
   .exact absurd ⟨i,hi,y,fun b c=>z ⟨b,c⟩⟩ x
 have d:∀i,i<n->(φ i).gp= .gone\/(φ i).gp= .cnt:=fun i hi=>by
  rcases a i hi with y|⟨y,_⟩
  .exact .inl y
  .refine .inr ?_;rcases Classical.em ((φ i).gp= .cnt) with z|z
   .exact z
   .have hb:=(h.i.born i hi).1 hi;have:=(h.i.done i hi z hb).2;rw[this] at y;simp[Mp.jl] at y
 have j:∀i,i<n->(φ i).mp= .fin\/∃G,(φ i).mp= .jk G:=fun i hi=>by
  rcases a i hi with y|⟨y,_⟩
  .exact .inl (h.i.done i hi (by rw[y];simp) (by rw[y];simp)).2
  .refine .inr ?_;cases hm:(φ i).mp<;>rw[hm] at y<;>simp[Mp.jl] at y;exact ⟨_,rfl⟩
 have p:sg n φ Gp.n1=0:=vn fun i hi=>by rcases d i hi with y|y<;>rw[y]<;>rfl
 have q:sg n φ Gp.n3=0:=vn fun i hi=>by rcases d i hi with y|y<;>rw[y]<;>rfl
 have hinv:=h.w.inv;simp only at hinv;have k:0<sg n φ Gp.nV:=aa;obtain ⟨i,hi,e⟩:=KT k;have g:(φ i).mp.jl=true/\s.ms=0:=(a i hi).resolve_left fun y=>by rw[y] at e;simp[Gp.nV] at e
 obtain ⟨C,S,W,L,m,hm⟩:=h.m;have zero:∀f:Mp->Nat,f .fin=0->(∀G,f (.jk G)=0)->sm n φ f=0:=fun f b c=>zq fun i hi=>by rcases j i hi with y|⟨G,y⟩<;>rw[y];exact b;exact c G
 have r:=zero Mp.nH rfl (fun _=>rfl);have t:=zero Mp.nA rfl (fun _=>rfl);have u:=zero Mp.nK rfl (fun _=>rfl);have v:=zero Mp.nI rfl (fun _=>rfl);have A:=zero Mp.nT rfl (fun _=>rfl);have B:=zero Mp.nY rfl (fun _=>rfl);have D:=zero Mp.nR rfl (fun _=>rfl);have l:=jR (φ:=φ) hi Mp.nQ;have o:Mp.nQ (φ i).mp=1:=by
  have:=g.1;cases hm:(φ i).mp<;>rw[hm] at this<;>simp[Mp.jl] at this;rfl
 rw[o] at l;have hc:=hm.cnt;have E:=hm.lock;have hs:=hm.st.s;have F:=g.2;rcases Nat.lt_or_ge S 1 with y|y
 .have:=hm.norm aa;omega
 .have:=hm.gG aa;omega
end
end Go.Sep
end
section
namespace Go.Sep
open Go
theorem jm {x:Int}(a: -2147483648<=x)(b:x<2147483648):IntKind.i32.wrap x=x:=by
 unfold IntKind.wrap;simp[IntKind.bits,IntKind.signed];omega
theorem sA (n:Nat)(h:n<4294967296):(BitVec.ofInt 32 (n:Int)).toNat=n:=by
 simp[BitVec.toNat_ofInt];omega
theorem K5 (C d m:Nat)(hd:d<8)(hm:m<8):(8*C+d)&&& m=d&&& m:=by
 refine Nat.eq_of_testBit_eq fun j=>?_;simp only[Nat.testBit_and];rw[show 8*C+d=2 ^ 3*C+d from rfl,Nat.testBit_two_pow_mul_add C (by simpa using hd)];by_cases a:j<3
 .simp[a]
 .have:m.testBit j=false:=Nat.testBit_lt_two_pow (Nat.lt_of_lt_of_le hm (show 2 ^ 3<=2 ^ j from Nat.pow_le_pow_right aB aa));simp[this]
theorem K6 (C d m:Nat)(hd:d<8)(hm:m<8):(8*C+d)|||m=8*C+(d|||m):=by
 have b:d|||m<2 ^ 3:=Nat.or_lt_two_pow (by simpa using hd) (by simpa using hm);refine Nat.eq_of_testBit_eq fun j=>?_;simp only[Nat.testBit_or];rw[show 8*C+d=2 ^ 3*C+d from rfl,show 8*C+(d|||m)=2 ^ 3*C+(d|||m) from rfl,Nat.testBit_two_pow_mul_add C (by simpa using hd),Nat.testBit_two_pow_mul_add C b];by_cases a:j<3
 .simp[a]
 .have:m.testBit j=false:=Nat.testBit_lt_two_pow (Nat.lt_of_lt_of_le hm (show 2 ^ 3<=2 ^ j from Nat.pow_le_pow_right aB aa));simp[this,a]
def eE (x y:Int):Int:=IntKind.i32.wrap ((BitVec.ofInt 32 x&&& BitVec.ofInt 32 y).toNat:Int)
def jS (x y:Int):Int:=IntKind.i32.wrap ((BitVec.ofInt 32 x|||BitVec.ofInt 32 y).toNat:Int)
def sB (x y:Int):Int:=IntKind.i32.wrap ((BitVec.ofInt 32 x&&& ~~~BitVec.ofInt 32 y).toNat:Int)
theorem TS (x y:Int):IntKind.i32.wrap ((@HAnd.hAnd (BitVec 32) (BitVec 32) (BitVec 32) (@instHAndOfAndOp (BitVec IntKind.i32.bits) (@BitVec.instAndOp IntKind.i32.bits)) (BitVec.ofInt 32 x) (BitVec.ofInt 32 y)).toNat:Int)=eE x y:=rfl
theorem TU (x y:Int):IntKind.i32.wrap ((@HOr.hOr (BitVec 32) (BitVec 32) (BitVec 32) (@instHOrOfOrOp (BitVec IntKind.i32.bits) (@BitVec.instOrOp IntKind.i32.bits)) (BitVec.ofInt 32 x) (BitVec.ofInt 32 y)).toNat:Int)=jS x y:=rfl
theorem TV (x y:Int):IntKind.i32.wrap ((@HAnd.hAnd (BitVec 32) (BitVec 32) (BitVec 32) (@instHAndOfAndOp (BitVec IntKind.i32.bits) (@BitVec.instAndOp IntKind.i32.bits)) (BitVec.ofInt 32 x) (@Complement.complement (BitVec 32) (@BitVec.instComplement IntKind.i32.bits) (BitVec.ofInt 32 y))).toNat:Int)=sB x y:=rfl
attribute [go_sem] TS TU TV
theorem K7 (C d m:Nat)(hC:C<268435455)(hd:d<8)(hm:m<8):eE ((8*C+d:Nat):Int) (m:Int)=((d&&& m:Nat):Int):=by
 have a:(BitVec.ofInt 32 ((8*C+d:Nat):Int)).toNat=8*C+d:=sA _ aa;have b:(BitVec.ofInt 32 (m:Int)).toNat=m:=sA _ aa;unfold eE;rw[BitVec.toNat_and,a,b,K5 C d m hd hm];have:d&&& m<8:=Nat.lt_of_le_of_lt Nat.and_le_left hd;exact jm aa aa
theorem K8 (C d m:Nat)(hC:C<268435455)(hd:d<8)(hm:m<8):jS ((8*C+d:Nat):Int) (m:Int)=((8*C+(d|||m):Nat):Int):=by
 have a:(BitVec.ofInt 32 ((8*C+d:Nat):Int)).toNat=8*C+d:=sA _ aa;have b:(BitVec.ofInt 32 (m:Int)).toNat=m:=sA _ aa;unfold jS;rw[BitVec.toNat_or,a,b,K6 C d m hd hm];have:d|||m<2 ^ 3:=Nat.or_lt_two_pow (by simpa using hd) (by simpa using hm);exact jm aa aa
theorem K9 (C d:Nat)(hC:C<268435455)(hd:d<8):sB ((8*C+d:Nat):Int) 2=((8*C+(d - (d&&& 2)):Nat):Int):=by
 have b:(BitVec.ofInt 32 ((8*C+d:Nat):Int)).toNat=8*C+d:=sA _ aa;have key:(BitVec.ofInt 32 ((8*C+d:Nat):Int)&&& ~~~BitVec.ofInt 32 2).toNat=8*C+(d - (d&&& 2)):=by
  have c:d - (d&&& 2)<2 ^ 3:=by simp;omega
  refine Nat.eq_of_testBit_eq fun j=>?_;rw[BitVec.toNat_and,Nat.testBit_and,b,show 8*C+(d - (d&&& 2))=2 ^ 3*C+(d - (d&&& 2)) from rfl,show 8*C+d=2 ^ 3*C+d from rfl,Nat.testBit_two_pow_mul_add C (by simpa using hd),Nat.testBit_two_pow_mul_add C c];have e:(~~~BitVec.ofInt 32 2).toNat=4294967293:=aB;rw[e];by_cases a:j<3
  .simp only[a,if_true];have:j=0\/j=1\/j=2:=aa;have:d=0\/d=1\/d=2\/d=3\/d=4\/d=5\/d=6\/d=7:=aa;rcases ‹j=0\/_› with rfl|rfl|rfl<;>rcases ‹d=0\/_› with rfl|rfl|rfl|rfl|rfl|rfl|rfl|rfl<;>decide
  .simp only[a,if_false];by_cases f:j<32
   .have:Nat.testBit 4294967293 j=true:=by
     have h:∀j:Fin 32,3<=j.val->Nat.testBit 4294967293 j.val=true:=aB;exact h ⟨j,f⟩ (by simp only;omega)
    rw[this,Bool.and_true]
   .have:C.testBit (j - 3)=false:=Nat.testBit_lt_two_pow (Nat.lt_of_lt_of_le (show C<2 ^ 28 by omega) (show 2 ^ 28<=2 ^ (j - 3) from Nat.pow_le_pow_right aB aa));rw[this,Bool.false_and]
 unfold sB;rw[key];exact jm aa aa
structure Wd (x:Int)(C S W L:Nat):Prop where
 st:St x C S W L
 a1:eE x 1=(L:Int)
 a2:eE x 2=((2*W:Nat):Int)
 a3:eE x 3=((2*W+L:Nat):Int)
 a4:eE x 4=((4*S:Nat):Int)
 a5:eE x 5=((4*S+L:Nat):Int)
 a7:eE x 7=((4*S+2*W+L:Nat):Int)
 o1:jS x 1=x+(1 - L)
 o2:jS x 2=x+2*(1 - W)
 o4:jS x 4=x+4*(1 - S)
 n2:sB x 2=x - 2*W
 sh:x.fdiv 8=(C:Int)
theorem wd {x:Int}{C S W L:Nat}(h:St x C S W L)(hC:C<268435455):Wd x C S W L:=by
 have e:=h.eq;have c:x=((8*C+(4*S+2*W+L):Nat):Int):=by rw[e];simp;omega
 have d:=h.l;have hw:=h.w;have hs:=h.s;have hd:4*S+2*W+L<8:=aa;have cS:S=0\/S=1:=aa;have a:W=0\/W=1:=aa;have b:L=0\/L=1:=aa;have A:∀m:Nat,m<8->eE x (m:Int)=(((4*S+2*W+L)&&& m:Nat):Int):=fun m hm=>by rw[c];exact K7 C _ m hC hd hm
 have O:∀m:Nat,m<8->jS x (m:Int)=((8*C+((4*S+2*W+L)|||m):Nat):Int):=fun m hm=>by rw[c];exact K8 C _ m hC hd hm
 refine ⟨h,(A 1 aa).trans ?_,(A 2 aa).trans ?_,(A 3 aa).trans ?_,(A 4 aa).trans ?_,(A 5 aa).trans ?_,(A 7 aa).trans ?_,(O 1 aa).trans ?_,(O 2 aa).trans ?_,(O 4 aa).trans ?_,?_,?_⟩
 .rcases cS with rfl|rfl<;>rcases a with rfl|rfl<;>rcases b with rfl|rfl<;>rfl
 .rcases cS with rfl|rfl<;>rcases a with rfl|rfl<;>rcases b with rfl|rfl<;>rfl
 .rcases cS with rfl|rfl<;>rcases a with rfl|rfl<;>rcases b with rfl|rfl<;>rfl
 .rcases cS with rfl|rfl<;>rcases a with rfl|rfl<;>rcases b with rfl|rfl<;>rfl
 .rcases cS with rfl|rfl<;>rcases a with rfl|rfl<;>rcases b with rfl|rfl<;>rfl
 .rcases cS with rfl|rfl<;>rcases a with rfl|rfl<;>rcases b with rfl|rfl<;>rfl
 .rcases cS with rfl|rfl<;>rcases a with rfl|rfl<;>rcases b with rfl|rfl<;>simp at e ⊢<;>omega
 .rcases cS with rfl|rfl<;>rcases a with rfl|rfl<;>rcases b with rfl|rfl<;>simp at e ⊢<;>omega
 .rcases cS with rfl|rfl<;>rcases a with rfl|rfl<;>rcases b with rfl|rfl<;>simp at e ⊢<;>omega
 .rw[c,K9 C _ hC hd];rcases cS with rfl|rfl<;>rcases a with rfl|rfl<;>rcases b with rfl|rfl<;>simp<;>omega
 .rw[Int.fdiv_eq_ediv_of_nonneg _ aa];omega
end Go.Sep
end

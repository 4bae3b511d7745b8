/- A part of the proof: QX6. -/
import Derived.Test.YtdgblangfefjmaaGreatDoorQX5
import Derived.Conc.CrowdBase
import GoSem.Core.Value
set_option linter.all false
section
namespace Go.Sep
open Go.ConcN (sumTo upd sumTo_upd upd_ne upd_same le_sumTo sumTo_le sumTo_congr)
inductive Mp where
 |idle
 |want (aw:Bool) (old:Int) (G:Nat)
 |iH (G:Nat)|jL (G:Nat)
 |kz (x:Bool)
 |held
 |gz (old:Int) (G:Nat)
 |nW|nZ|fin
inductive Gp where
 |new|cnt|rel|ld|st|sm|gone
 deriving DecidableEq
structure Ph where
 mp:Mp
 gp:Gp
 stored:Bool
 deaf:Nat
structure Sh where
 mu:Int
 ms:Int
 wg:Int
 ws:Int
 is:List Bool
inductive P0 where
 |opn (pend:Nat)
 |look (v:Nat)
 |reg|e9
namespace Mp
def nH:Mp->Nat|held=>1|_=>0
def nA:Mp->Nat|want true _ _=>1|_=>0
def nQ:Mp->Nat|iH _=>1|_=>0
def nK:Mp->Nat|jL _=>1|_=>0
def nI:Mp->Nat|kz _=>1|_=>0
def nX:Mp->Nat|kz true=>1|_=>0
def nT:Mp->Nat|nW=>1|_=>0
def nY:Mp->Nat|nZ=>1|_=>0
def nR:Mp->Nat|gz _ _=>1|_=>0
def wt:Mp->Nat
 |idle=>7|want false _ _=>7|want true _ _=>6|iH _=>5|jL _=>6|kz _=>6|held=>5|gz _ _=>4|nW=>3|nZ=>3|fin=>0
def seen:Mp->Option (Option Int×Nat)
 |want _ o G=>some (some o,G)
 |gz o G=>some (some o,G)
 |iH G=>some (none,G)
 |jL G=>some (none,G)
 |_=>none
def iI:Mp->Bool
 |iH _=>true
 |_=>false
def out:Mp->Bool
 |idle|fin=>true
 |_=>false
end Mp
def Gp.nV:Gp->Nat|cnt=>1|rel=>1|_=>0
def Gp.n1:Gp->Nat|ld=>1|st=>1|_=>0
def Gp.n3:Gp->Nat|sm=>1|_=>0
def sm (k:Nat)(φ:Nat->Ph)(f:Mp->Nat):Nat:=sumTo k fun a=>f (φ a).mp
def sg (k:Nat)(φ:Nat->Ph)(f:Gp->Nat):Nat:=sumTo k fun a=>f (φ a).gp
theorem jM (k:Nat)(φ:Nat->Ph){i:Nat}(a:i<k)(x:Ph)(f:Mp->Nat):sm k (upd φ i x) f+f (φ i).mp=sm k φ f+f x.mp:=sumTo_upd φ x (fun p=>f p.mp) a
theorem xg (k:Nat)(φ:Nat->Ph){i:Nat}(a:i<k)(x:Ph)(f:Gp->Nat):sg k (upd φ i x) f+f (φ i).gp=sg k φ f+f x.gp:=sumTo_upd φ x (fun p=>f p.gp) a
theorem jf {k:Nat}{φ:Nat->Ph}{i:Nat}(b:i<k)(f:Mp->Nat):f (φ i).mp<=sm k φ f:=le_sumTo (f:=fun a=>f (φ a).mp) b
theorem n4 {k:Nat}{φ:Nat->Ph}{i:Nat}(b:i<k)(f:Gp->Nat):f (φ i).gp<=sg k φ f:=le_sumTo (f:=fun a=>f (φ a).gp) b
theorem GV (k:Nat)(φ:Nat->Ph){f g:Mp->Nat}(h:∀x,f x<=g x):sm k φ f<=sm k φ g:=by
 unfold sm
 induction k with
 |zero=>exact Nat.le_refl _
 |succ k ih=>simp only[sumTo];exact Nat.add_le_add ih (h _)
def bU (k:Nat)(φ:Nat->Ph)(ms:Int):Nat:=sm k φ Mp.wt+2*ms.toNat
structure St (x:Int)(C S W L:Nat):Prop where
 eq:x=((8*C+4*S+2*W+L:Nat):Int)
 l:L<=1
 w:W<=1
 s:S<=1
structure cF (k:Nat)(φ:Nat->Ph)(mu ms:Int)(C S W L m:Nat):Prop where
 st:St mu C S W L
 cnt:ms=(m:Int)
 lock:L=sm k φ Mp.nH
 norm:S=0->sm k φ Mp.nI=0/\sm k φ Mp.nY=0/\W=sm k φ Mp.nA+m+sm k φ Mp.nK+sm k φ Mp.nT/\C+m+sm k φ Mp.nT=sm k φ Mp.nQ/\(0<C->L=0->W=0->0<sm k φ Mp.nR)
 gh:S=1->W=0/\sm k φ Mp.nA=0/\sm k φ Mp.nT=0/\L+m+sm k φ Mp.nY+sm k φ Mp.nK+sm k φ Mp.nI=1/\C=sm k φ Mp.nQ+sm k φ Mp.nK+sm k φ Mp.nI/\1<=C/\(0<sm k φ Mp.nX->2<=C)
 seen:∀i,i<k->∀o G,(φ i).mp.seen=some (o,G)->bU k φ ms<=G/\(some mu≠o->bU k φ ms<G)
def di:Int:=4294967296
structure dW (k:Nat)(φ:Nat->Ph)(p0:P0)(wg ws:Int):Prop where
 inv:match p0 with
  | .opn pend=>pend<=1/\wg=((sg k φ Gp.nV+pend:Nat):Int)*di/\ws=0/\sg k φ Gp.n1=0/\sg k φ Gp.n3=0
  | .look v=>sg k φ Gp.nV<=v/\wg=((sg k φ Gp.nV:Nat):Int)*di/\ws=0/\sg k φ Gp.n1=0/\sg k φ Gp.n3=0
  | .reg=>(0<sg k φ Gp.nV/\sg k φ Gp.n1=0/\sg k φ Gp.n3=0/\wg=((sg k φ Gp.nV:Nat):Int)*di+1/\ws=0)\/
    (sg k φ Gp.nV=0/\sg k φ Gp.n1=1/\sg k φ Gp.n3=0/\wg=1/\ws=0)\/
    (sg k φ Gp.nV=0/\sg k φ Gp.n1=0/\sg k φ Gp.n3=1/\wg=0/\ws=0)\/
    (sg k φ Gp.nV=0/\sg k φ Gp.n1=0/\sg k φ Gp.n3=0/\wg=0/\ws=1)
  | .e9=>sg k φ Gp.nV=0/\sg k φ Gp.n1=0/\sg k φ Gp.n3=0/\wg=0/\ws=0
structure GW (n:Nat)(bs:Nat->Bool)(k:Nat)(φ:Nat->Ph)(is:List Bool):Prop where
 len:is.length=n
 kn:k<=n
 all:∀i,i<n->is[i]?=some (φ i).stored
 born:∀i,i<n->(i<k↔(φ i).gp≠ .new)
 new:∀i,i<n->(φ i).gp= .new->(φ i).stored=false/\(φ i).mp= .idle/\(φ i).deaf=0
 done:∀i,i<n->(φ i).gp≠ .cnt->(φ i).gp≠ .new->(φ i).stored=bs i/\(φ i).mp= .fin
structure Inv (n:Nat)(bs:Nat->Bool)(k:Nat)(φ:Nat->Ph)(p0:P0)(s:Sh):Prop where
 m:∃C S W L m,cF n φ s.mu s.ms C S W L m
 w:dW n φ p0 s.wg s.ws
 i:GW n bs k φ s.is
section
variable {k i:Nat}{φ:Nat->Ph}{mu ms:Int}{C S W L m:Nat}
theorem St.uniq {x:Int}{C S W L b c d e:Nat}(h:St x C S W L)(a:St x b c d e):C=b/\S=c/\W=d/\L=e:=by
 have:=h.eq;have:=a.eq;have:=h.l;have:=h.w;have:=h.s;have:=a.l;have:=a.w;have:=a.s;omega
theorem GX {k:Nat}{φ:Nat->Ph}{mu b ms a:Int}{i:Nat}{x:Ph}(hs:∀i,i<k->∀o G,(φ i).mp.seen=some (o,G)->bU k φ ms<=G/\(some mu≠o->bU k φ ms<G))
  (hb:bU k (upd φ i x) a<=bU k φ ms) (d:b≠mu->bU k (upd φ i x) a<bU k φ ms)
  (f:∀o G,x.mp.seen=some (o,G)->bU k (upd φ i x) a<=G/\(some b≠o->bU k (upd φ i x) a<G)):
  ∀j,j<k->∀o G,((upd φ i x) j).mp.seen=some (o,G)->bU k (upd φ i x) a<=G/\(some b≠o->bU k (upd φ i x) a<G):=by
 intro j g o G h
 by_cases e:j=i
 .subst e;rw[upd_same] at h;exact f o G h
 .rw[upd_ne _ _ e] at h
  obtain ⟨c,l⟩:=hs j g o G h
  refine ⟨Nat.le_trans hb c,fun m=>?_⟩
  by_cases hm:b=mu
  .exact Nat.lt_of_le_of_lt hb (l (hm▸m))
  .exact Nat.lt_of_lt_of_le (d hm) c
theorem gi (a:i<k)(x:Ph):
  (sm k (upd φ i x) Mp.nH+Mp.nH (φ i).mp=sm k φ Mp.nH+Mp.nH x.mp/\sm k (upd φ i x) Mp.nA+Mp.nA (φ i).mp=sm k φ Mp.nA+Mp.nA x.mp/\
  sm k (upd φ i x) Mp.nQ+Mp.nQ (φ i).mp=sm k φ Mp.nQ+Mp.nQ x.mp/\sm k (upd φ i x) Mp.nK+Mp.nK (φ i).mp=sm k φ Mp.nK+Mp.nK x.mp/\
  sm k (upd φ i x) Mp.nI+Mp.nI (φ i).mp=sm k φ Mp.nI+Mp.nI x.mp)/\(sm k (upd φ i x) Mp.nX+Mp.nX (φ i).mp=sm k φ Mp.nX+Mp.nX x.mp/\
  sm k (upd φ i x) Mp.nT+Mp.nT (φ i).mp=sm k φ Mp.nT+Mp.nT x.mp/\sm k (upd φ i x) Mp.nY+Mp.nY (φ i).mp=sm k φ Mp.nY+Mp.nY x.mp/\
  sm k (upd φ i x) Mp.nR+Mp.nR (φ i).mp=sm k φ Mp.nR+Mp.nR x.mp/\sm k (upd φ i x) Mp.wt+Mp.wt (φ i).mp=sm k φ Mp.wt+Mp.wt x.mp):=
 ⟨⟨jM k φ a x _,jM k φ a x _,jM k φ a x _,jM k φ a x _,jM k φ a x _⟩,jM k φ a x _,jM k φ a x _,jM k φ a x _,jM k φ a x _,jM k φ a x _⟩
theorem xi:sm k φ Mp.nX<=sm k φ Mp.nI:=GV k φ fun x=>by
 cases x with
 |kz b=>cases b<;>simp[Mp.nX,Mp.nI]
 |_=>simp[Mp.nX,Mp.nI]
theorem fL (a:i<k):(Mp.nH (φ i).mp<=sm k φ Mp.nH/\Mp.nA (φ i).mp<=sm k φ Mp.nA/\Mp.nQ (φ i).mp<=sm k φ Mp.nQ/\Mp.nK (φ i).mp<=sm k φ Mp.nK/\Mp.nI (φ i).mp<=sm k φ Mp.nI)/\
  (Mp.nX (φ i).mp<=sm k φ Mp.nX/\Mp.nT (φ i).mp<=sm k φ Mp.nT/\Mp.nY (φ i).mp<=sm k φ Mp.nY/\Mp.nR (φ i).mp<=sm k φ Mp.nR/\Mp.wt (φ i).mp<=sm k φ Mp.wt):=
 ⟨⟨jf a _,jf a _,jf a _,jf a _,jf a _⟩,jf a _,jf a _,jf a _,jf a _,jf a _⟩
theorem cF.move (h:cF k φ mu ms C S W L m)(w:i<k)(x:Ph){f j:Int}{b g c d a:Nat}(n:St f b g c d)(l:j=(a:Int))
  (p:d=sm k (upd φ i x) Mp.nH)
  (r:g=0->sm k (upd φ i x) Mp.nI=0/\sm k (upd φ i x) Mp.nY=0/\c=sm k (upd φ i x) Mp.nA+a+sm k (upd φ i x) Mp.nK+sm k (upd φ i x) Mp.nT/\b+a+sm k (upd φ i x) Mp.nT=sm k (upd φ i x) Mp.nQ/\(0<b->d=0->c=0->0<sm k (upd φ i x) Mp.nR))
  (s:g=1->c=0/\sm k (upd φ i x) Mp.nA=0/\sm k (upd φ i x) Mp.nT=0/\d+a+sm k (upd φ i x) Mp.nY+sm k (upd φ i x) Mp.nK+sm k (upd φ i x) Mp.nI=1/\b=sm k (upd φ i x) Mp.nQ+sm k (upd φ i x) Mp.nK+sm k (upd φ i x) Mp.nI/\1<=b/\(0<sm k (upd φ i x) Mp.nX->2<=b))
  (hb:sm k (upd φ i x) Mp.wt+2*a<=sm k φ Mp.wt+2*m) (t:f≠mu->sm k (upd φ i x) Mp.wt+2*a<sm k φ Mp.wt+2*m)
  (u:∀o G,x.mp.seen=some (o,G)->sm k (upd φ i x) Mp.wt+2*a<=G/\(some f≠o->sm k (upd φ i x) Mp.wt+2*a<G)):cF k (upd φ i x) f j b g c d a:=by
 have e:bU k φ ms=sm k φ Mp.wt+2*m:=by rw[bU,h.cnt];rfl
 have v:bU k (upd φ i x) j=sm k (upd φ i x) Mp.wt+2*a:=by rw[bU,l];rfl
 exact ⟨n,l,p,r,s,GX h.seen aa (fun q=>by have:=t q;omega) (fun o G q=>by rw[v];exact u o G q)⟩
theorem kA (h:cF k φ mu ms C S W L m):bU k φ ms=sm k φ Mp.wt+2*m:=by rw[bU,h.cnt];rfl
theorem St.mk' {C S W L:Nat}(a:L<=1)(hw:W<=1)(hs:S<=1):St ((8*C+4*S+2*W+L:Nat):Int) C S W L:=⟨rfl,a,hw,hs⟩
set_option linter.unusedVariables false
theorem GY (h:cF k φ mu ms C S W L m)(a:i<k)(x:Ph)(b:(φ i).mp= .idle)(c:x.mp= .held)(g:mu=0):cF k (upd φ i x) 1 ms 0 0 0 1 m:=by
 have s:=gi (φ:=φ) a x;have j:=xi (k:=k) (φ:=φ);have n:=xi (k:=k) (φ:=upd φ i x);have l:=fL (φ:=φ) a;rw[b,c] at s;rw[b] at l;simp only[Mp.nH,Mp.nA,Mp.nQ,Mp.nK,Mp.nI,Mp.nX,Mp.nT,Mp.nY,Mp.nR,Mp.wt] at s l;have e:=h.st.eq;have d:=h.norm;have hs:=h.gh;have o:=h.lock;have f:=h.cnt;refine h.move a x (St.mk' (C:=0) (S:=0) (W:=0) (L:=1) aa aa aa) f aa (fun _=>?_) aa aa aa (by simp[c,Mp.seen]);have:=d aa;omega
theorem GZ (h:cF k φ mu ms C S W L m)(a:i<k)(x:Ph)(b:(φ i).mp= .idle)(c:x.mp= .want false mu (bU k φ ms)):cF k (upd φ i x) mu ms C S W L m:=by
 have s:=gi (φ:=φ) a x;have e:=xi (k:=k) (φ:=φ);have f:=xi (k:=k) (φ:=upd φ i x);have l:=fL (φ:=φ) a;rw[b,c] at s;rw[b] at l;simp only[Mp.nH,Mp.nA,Mp.nQ,Mp.nK,Mp.nI,Mp.nX,Mp.nT,Mp.nY,Mp.nR,Mp.wt] at s l;have d:=h.norm;have hs:=h.gh;have g:=h.lock;have hb:=kA h;refine h.move a x h.st h.cnt aa (fun q=>?_) (fun q=>?_) aa aa (fun o G q=>?_)
 .have:=d q;omega
 .have:=hs q;omega
 .rw[c] at q;simp only[Mp.seen,Option.some.injEq,Prod.mk.injEq] at q;obtain ⟨rfl,rfl⟩:=q;exact ⟨aa,fun z=>absurd rfl z⟩
theorem AZ (h:cF k φ mu ms C S W L m)(a:i<k){o:Int}{G:Nat}(b:(φ i).mp= .want true o G):S=0/\W=1:=by
 have l:=fL (φ:=φ) a;rw[b] at l;simp only[Mp.nH,Mp.nA,Mp.nQ,Mp.nK,Mp.nI,Mp.nX,Mp.nT,Mp.nY,Mp.nR,Mp.wt] at l;have c:=h.norm;have hs:=h.gh;have d:=h.st.w;have e:=h.st.s;have a1:S=0:=by
  rcases Nat.lt_or_ge S 1 with z|z
  .omega
  .have:=hs aa;omega
 have:=c a1;exact ⟨a1,aa⟩
theorem sD (h:cF k φ mu ms C S W L m)(a:i<k)(x:Ph){aw:Bool}{o:Int}{G:Nat}(b:(φ i).mp= .want aw o G)(c:x.mp= .want aw mu (bU k φ ms)):
  cF k (upd φ i x) mu ms C S W L m/\bU k φ ms<=G/\(mu≠o->bU k φ ms<G):=by
 have s:=gi (φ:=φ) a x
 have g:=xi (k:=k) (φ:=φ)
 have j:=xi (k:=k) (φ:=upd φ i x)
 have l:=fL (φ:=φ) a
 rw[b,c] at s
 rw[b] at l
 have f:=h.norm
 have hs:=h.gh
 have n:=h.lock
 have hb:=kA h
 have p:=h.st.w
 have r:=h.st.s
 have d:bU k φ ms<=G/\(mu≠o->bU k φ ms<G):=by
  have:=h.seen i a (some o) G (by rw[b];rfl)
  exact ⟨this.1,fun z=>this.2 fun e=>z (Option.some.inj e)⟩
 cases aw<;>simp only[Mp.nH,Mp.nA,Mp.nQ,Mp.nK,Mp.nI,Mp.nX,Mp.nT,Mp.nY,Mp.nR,Mp.wt] at s l
 all_goals
  refine ⟨h.move a x h.st h.cnt aa (fun q=>?_) (fun q=>?_) aa aa (fun o G q=>?_),d.1,d.2⟩
  .have:=f q;omega
  .have:=hs q;omega
  .rw[c] at q;simp only[Mp.seen,Option.some.injEq,Prod.mk.injEq] at q;obtain ⟨rfl,rfl⟩:=q;exact ⟨aa,fun z=>absurd rfl z⟩
theorem G0 (h:cF k φ mu ms C S W L m)(a:i<k)(x:Ph){o:Int}{G:Nat}(b:(φ i).mp= .want false o G)(c:x.mp= .want true o G)(f:mu=o)(d:S=0)(g:L=1)(hW:W=0):
  cF k (upd φ i x) (mu+2) ms C 0 1 1 m:=by
 have s:=gi (φ:=φ) a x
 have j:=xi (k:=k) (φ:=φ)
 have n:=xi (k:=k) (φ:=upd φ i x)
 have l:=fL (φ:=φ) a
 rw[b,c] at s
 rw[b] at l
 simp only[Mp.nH,Mp.nA,Mp.nQ,Mp.nK,Mp.nI,Mp.nX,Mp.nT,Mp.nY,Mp.nR,Mp.wt] at s l
 have e:=h.st.eq
 have p:=h.norm d
 have r:=h.lock
 have hb:=kA h
 have t:bU k φ ms<=G/\(mu≠o->bU k φ ms<G):=by
  have:=h.seen i a (some o) G (by rw[b];rfl)
  exact ⟨this.1,fun z=>this.2 fun e=>z (Option.some.inj e)⟩
 refine h.move a x ⟨aa,aa,aa,aa⟩ h.cnt aa aa aa aa aa (fun o' u q=>?_)
 rw[c] at q;simp only[Mp.seen,Option.some.injEq,Prod.mk.injEq] at q;obtain ⟨rfl,rfl⟩:=q
 exact ⟨aa,fun _=>aa⟩
theorem G1 (h:cF k φ mu ms C S W L m)(a:i<k)(x:Ph){aw:Bool}{o:Int}{G:Nat}(c:(φ i).mp= .want aw o G)(b:x.mp= .held)(d:S=0)(f:L=0)(hW:aw=true->W=1):
  cF k (upd φ i x) (mu+1 - (if aw then 2 else 0)) ms C 0 (if aw then 0 else W) 1 m:=by
 have s:=gi (φ:=φ) a x
 have g:=xi (k:=k) (φ:=φ)
 have j:=xi (k:=k) (φ:=upd φ i x)
 have l:=fL (φ:=φ) a
 rw[c,b] at s
 rw[c] at l
 have e:=h.st.eq
 have n:=h.norm d
 have p:=h.lock
 have q:=h.st.w
 cases aw<;>simp only[Mp.nH,Mp.nA,Mp.nQ,Mp.nK,Mp.nI,Mp.nX,Mp.nT,Mp.nY,Mp.nR,Mp.wt] at s l
 .refine h.move a x ⟨by simp;omega,aa,by simp;omega,aa⟩ h.cnt aa (by simp;omega) aa aa aa (by simp[b,Mp.seen])
 .have:=hW rfl
  refine h.move a x ⟨by simp;omega,aa,av,aa⟩ h.cnt aa (by simp;omega) aa aa aa (by simp[b,Mp.seen])
theorem G2 (h:cF k φ mu ms C S W L m)(a:i<k)(x:Ph){aw sv:Bool}{o:Int}{G:Nat}(c:(φ i).mp= .want aw o G)(b:x.mp= .iH (bU k φ ms))(g:S=1\/L=1)(f:sv=true->aw=true/\L=1):
  cF k (upd φ i x) (mu+8+(if sv then 4 else 0) - (if aw then 2 else 0)) ms (C+1) (if sv then 1 else S) (if aw then 0 else W) L m:=by
 have hb:=kA h
 have s:=gi (φ:=φ) a x
 have j:=xi (k:=k) (φ:=φ)
 have n:=xi (k:=k) (φ:=upd φ i x)
 have l:=fL (φ:=φ) a
 rw[c,b] at s
 rw[c] at l
 have e:=h.st.eq
 have d:=h.norm
 have hs:=h.gh
 have p:=h.lock
 have r:=h.st.l
 have t:=h.st.w
 have u:=h.st.s
 cases aw<;>simp only[Mp.nH,Mp.nA,Mp.nQ,Mp.nK,Mp.nI,Mp.nX,Mp.nT,Mp.nY,Mp.nR,Mp.wt] at s l
 .obtain rfl:sv=false:=by cases sv<;>simp_all
  refine h.move a x ⟨by simp;omega,aa,by simp;omega,by simp;omega⟩ h.cnt aa (fun q=>?_) (fun q=>?_) aa aa (fun o G q=>by rw[b] at q;simp only[Mp.seen,Option.some.injEq,Prod.mk.injEq] at q;obtain ⟨rfl,rfl⟩:=q;exact ⟨aa,fun _=>aa⟩)
  .have:=d (by simpa using q);simp;omega
  .have:=hs (by simpa using q);simp;omega
 .have a1:S=0:=by
   rcases Nat.lt_or_ge S 1 with z|z
   .omega
   .have:=hs aa;omega
  have:=d a1
  cases sv
  .refine h.move a x ⟨by simp;omega,aa,av,by simp;omega⟩ h.cnt aa (by simp;omega) (by simp;omega) aa aa (fun o G q=>by rw[b] at q;simp only[Mp.seen,Option.some.injEq,Prod.mk.injEq] at q;obtain ⟨rfl,rfl⟩:=q;exact ⟨aa,fun _=>aa⟩)
  .have:=f rfl
   refine h.move a x ⟨by simp;omega,aa,av,av⟩ h.cnt aa av (by simp;omega) aa aa (fun o G q=>by rw[b] at q;simp only[Mp.seen,Option.some.injEq,Prod.mk.injEq] at q;obtain ⟨rfl,rfl⟩:=q;exact ⟨aa,fun _=>aa⟩)
theorem G3 (h:cF k φ mu ms C S W L m)(a:i<k)(x:Ph){G:Nat}(b:(φ i).mp= .iH G)(c:x.mp= .jL G)(hm:0<m):cF k (upd φ i x) mu (ms - 1) C S W L (m - 1):=by
 have hb:=kA h;have d:=h.seen i a none G (by rw[b];rfl);have s:=gi (φ:=φ) a x;have f:=xi (k:=k) (φ:=φ);have g:=xi (k:=k) (φ:=upd φ i x);have l:=fL (φ:=φ) a;rw[b,c] at s;rw[b] at l;simp only[Mp.nH,Mp.nA,Mp.nQ,Mp.nK,Mp.nI,Mp.nX,Mp.nT,Mp.nY,Mp.nR,Mp.wt] at s l;have e:=h.norm;have hs:=h.gh;have j:=h.lock;have n:=h.cnt;refine h.move a x h.st aa aa (fun q=>?_) (fun q=>?_) aa aa (fun o G q=>by rw[c] at q;simp only[Mp.seen,Option.some.injEq,Prod.mk.injEq] at q;obtain ⟨rfl,rfl⟩:=q;have:=d.2 av;exact ⟨aa,fun _=>aa⟩)
 .have:=e q;omega
 .have:=hs q;omega
theorem G4 (h:cF k φ mu ms C S W L m)(a:i<k)(x:Ph){G:Nat}(b:(φ i).mp= .jL G)(c:x.mp= .want true mu (bU k φ ms))(d:S=0):cF k (upd φ i x) mu ms C S W L m/\W=1/\bU k φ ms<G:=by
 have e:=(h.seen i a none G (by rw[b];rfl)).2 av;have s:=gi (φ:=φ) a x;have f:=xi (k:=k) (φ:=φ);have g:=xi (k:=k) (φ:=upd φ i x);have l:=fL (φ:=φ) a;rw[b,c] at s;rw[b] at l;simp only[Mp.nH,Mp.nA,Mp.nQ,Mp.nK,Mp.nI,Mp.nX,Mp.nT,Mp.nY,Mp.nR,Mp.wt] at s l;have j:=h.norm d;have n:=h.lock;have hb:=kA h;have p:=h.st.w;refine ⟨h.move a x h.st h.cnt aa aa aa aa aa (fun o G q=>?_),aa,e⟩;rw[c] at q;simp only[Mp.seen,Option.some.injEq,Prod.mk.injEq] at q;obtain ⟨rfl,rfl⟩:=q;exact ⟨aa,fun z=>absurd rfl z⟩
theorem G5 (h:cF k φ mu ms C S W L m)(a:i<k)(x:Ph){G:Nat}(c:(φ i).mp= .jL G)(b:x.mp= .kz (decide (2<=C)))(d:S=1):cF k (upd φ i x) mu ms C S W L m/\W=0/\L=0/\1<=C:=by
 have s:=gi (φ:=φ) a x;have e:=xi (k:=k) (φ:=φ);have f:=xi (k:=k) (φ:=upd φ i x);have l:=fL (φ:=φ) a;rw[c,b] at s;rw[c] at l;have hs:=h.gh d;have g:=h.lock;by_cases hC:2<=C
 .simp only[hC,decide_true,Mp.nH,Mp.nA,Mp.nQ,Mp.nK,Mp.nI,Mp.nX,Mp.nT,Mp.nY,Mp.nR,Mp.wt] at s l;exact ⟨h.move a x h.st h.cnt aa aa aa aa aa (by simp[b,Mp.seen]),aa,aa,aa⟩
 .simp only[hC,decide_false,Mp.nH,Mp.nA,Mp.nQ,Mp.nK,Mp.nI,Mp.nX,Mp.nT,Mp.nY,Mp.nR,Mp.wt] at s l;exact ⟨h.move a x h.st h.cnt aa aa aa aa aa (by simp[b,Mp.seen]),aa,aa,aa⟩
theorem A0 (h:cF k φ mu ms C S W L m)(a:i<k)(x:Ph){y:Bool}(e:Bool)(c:(φ i).mp= .kz y)(b:x.mp= .held)(he:e=false->y=true):
  cF k (upd φ i x) (mu - 7 - (if e then 4 else 0)) ms (C - 1) (if e then 0 else 1) 0 1 m:=by
 have s:=gi (φ:=φ) a x
 have f:=xi (k:=k) (φ:=φ)
 have g:=xi (k:=k) (φ:=upd φ i x)
 have l:=fL (φ:=φ) a
 rw[c,b] at s
 rw[c] at l
 have d:=h.norm
 have hs:=h.gh
 have j:=h.lock
 have e1:=h.st.eq
 have n:=h.st.l
 have o:=h.st.s
 cases y<;>simp only[Mp.nH,Mp.nA,Mp.nQ,Mp.nK,Mp.nI,Mp.nX,Mp.nT,Mp.nY,Mp.nR,Mp.wt] at s l
 .obtain rfl:e=true:=by cases e<;>simp_all
  have a1:S=1:=by
   rcases Nat.lt_or_ge S 1 with z|z
   .have:=d aa;omega
   .omega
  have:=hs a1
  refine h.move a x ⟨by simp;omega,aa,aa,av⟩ h.cnt aa (by simp;omega) av aa aa (by simp[b,Mp.seen])
 .have a1:S=1:=by
   rcases Nat.lt_or_ge S 1 with z|z
   .have:=d aa;omega
   .omega
  have:=hs a1
  cases e
  .refine h.move a x ⟨by simp;omega,aa,aa,av⟩ h.cnt aa av (by simp;omega) aa aa (by simp[b,Mp.seen])
  .refine h.move a x ⟨by simp;omega,aa,aa,av⟩ h.cnt aa (by simp;omega) av aa aa (by simp[b,Mp.seen])
theorem A1 (h:cF k φ mu ms C S W L m)(a:i<k)(b:(φ i).mp= .held):L=1:=by
 have l:=fL (φ:=φ) a;rw[b] at l;simp only[Mp.nH] at l;have:=h.lock;have:=h.st.l;omega
theorem G6 (h:cF k φ mu ms C S W L m)(b:i<k)(x:Ph)(c:(φ i).mp= .held)
  (a:(S=1/\x.mp= .nZ)\/(S=0/\0<C/\W=0/\x.mp= .gz (mu - 1) (sm k φ Mp.wt+2*m))\/(S=0/\(C=0\/W=1)/\x.mp= .fin)):cF k (upd φ i x) (mu - 1) ms C S W 0 m:=by
 have s:=gi (φ:=φ) b x
 have f:=xi (k:=k) (φ:=φ)
 have g:=xi (k:=k) (φ:=upd φ i x)
 have l:=fL (φ:=φ) b
 have j:=A1 h b c
 rw[c] at s l
 have d:=h.norm
 have hs:=h.gh
 have n:=h.lock
 have e1:=h.st.eq
 have p:=h.st.w
 have r:=h.st.s
 rcases a with ⟨q,a⟩|⟨q,e,t,a⟩|⟨q,e,a⟩<;>rw[a] at s<;>simp only[Mp.nH,Mp.nA,Mp.nQ,Mp.nK,Mp.nI,Mp.nX,Mp.nT,Mp.nY,Mp.nR,Mp.wt] at s l
 .have:=hs q
  exact h.move b x ⟨aa,aa,aa,aa⟩ h.cnt aa aa aa aa aa (by simp[a,Mp.seen])
 .have:=d q
  refine h.move b x ⟨aa,aa,aa,aa⟩ h.cnt aa aa aa aa aa (fun o G z=>?_)
  rw[a] at z;simp only[Mp.seen,Option.some.injEq,Prod.mk.injEq] at z;obtain ⟨rfl,rfl⟩:=z
  exact ⟨aa,fun _=>aa⟩
 .have:=d q
  exact h.move b x ⟨aa,aa,aa,aa⟩ h.cnt aa aa aa aa aa (by simp[a,Mp.seen])
theorem G7 (h:cF k φ mu ms C S W L m)(a:i<k)(x:Ph){o:Int}{G:Nat}(b:(φ i).mp= .gz o G)(c:x.mp= .nW)(d:S=0)(e:L=0)(hW:W=0)(hC:0<C):
  cF k (upd φ i x) (mu - 8+2) ms (C - 1) 0 1 0 m:=by
 have s:=gi (φ:=φ) a x
 have f:=xi (k:=k) (φ:=φ)
 have g:=xi (k:=k) (φ:=upd φ i x)
 have l:=fL (φ:=φ) a
 rw[b,c] at s
 rw[b] at l
 simp only[Mp.nH,Mp.nA,Mp.nQ,Mp.nK,Mp.nI,Mp.nX,Mp.nT,Mp.nY,Mp.nR,Mp.wt] at s l
 have j:=h.norm d
 have n:=h.lock
 have e1:=h.st.eq
 exact h.move a x ⟨aa,aa,aa,aa⟩ h.cnt aa aa aa aa aa (by simp[c,Mp.seen])
theorem A2 (h:cF k φ mu ms C S W L m)(b:i<k)(x:Ph){o:Int}{G:Nat}(c:(φ i).mp= .gz o G)
  (a:(S=0/\L=0/\W=0/\0<C/\x.mp= .gz mu (bU k φ ms))\/(¬(S=0/\L=0/\W=0/\0<C)/\x.mp= .fin)):
  cF k (upd φ i x) mu ms C S W L m/\bU k φ ms<=G/\(mu≠o->bU k φ ms<G):=by
 have s:=gi (φ:=φ) b x
 have g:=xi (k:=k) (φ:=φ)
 have j:=xi (k:=k) (φ:=upd φ i x)
 have l:=fL (φ:=φ) b
 have f:bU k φ ms<=G/\(mu≠o->bU k φ ms<G):=by
  have:=h.seen i b (some o) G (by rw[c];rfl)
  exact ⟨this.1,fun z=>this.2 fun e=>z (Option.some.inj e)⟩
 refine ⟨?_,f⟩
 rw[c] at s l
 have d:=h.norm
 have hs:=h.gh
 have n:=h.lock
 have p:=h.st.l
 have r:=h.st.w
 have t:=h.st.s
 have hb:=kA h
 rcases a with ⟨q,u,v,y,a⟩|⟨q,a⟩<;>rw[a] at s<;>simp only[Mp.nH,Mp.nA,Mp.nQ,Mp.nK,Mp.nI,Mp.nX,Mp.nT,Mp.nY,Mp.nR,Mp.wt] at s l
 .have:=d q
  refine h.move b x h.st h.cnt aa aa aa aa aa (fun o G z=>?_)
  rw[a] at z;simp only[Mp.seen,Option.some.injEq,Prod.mk.injEq] at z;obtain ⟨rfl,rfl⟩:=z
  exact ⟨aa,fun z=>absurd rfl z⟩
 .refine h.move b x h.st h.cnt aa (fun z=>?_) (fun z=>?_) aa aa (by simp[a,Mp.seen])
  .have:=d z;omega
  .have:=hs z;omega
theorem G8 (h:cF k φ mu ms C S W L m)(a:i<k)(x:Ph){o:Int}{G:Nat}(b:(φ i).mp= .gz o G)(c:x.mp= .gz mu (bU k φ ms)):
  cF k (upd φ i x) mu ms C S W L m/\bU k φ ms<=G/\(mu≠o->bU k φ ms<G):=by
 have s:=gi (φ:=φ) a x
 have l:=fL (φ:=φ) a
 have d:bU k φ ms<=G/\(mu≠o->bU k φ ms<G):=by
  have:=h.seen i a (some o) G (by rw[b];rfl)
  exact ⟨this.1,fun z=>this.2 fun e=>z (Option.some.inj e)⟩
 refine ⟨?_,d⟩
 rw[b,c] at s
 rw[b] at l
 simp only[Mp.nH,Mp.nA,Mp.nQ,Mp.nK,Mp.nI,Mp.nX,Mp.nT,Mp.nY,Mp.nR,Mp.wt] at s l
 have f:=h.norm
 have hs:=h.gh
 have g:=h.lock
 have hb:=kA h
 refine h.move a x h.st h.cnt aa (fun q=>?_) (fun q=>?_) aa aa (fun o G q=>?_)
 .have:=f q;omega
 .have:=hs q;omega
 .rw[c] at q;simp only[Mp.seen,Option.some.injEq,Prod.mk.injEq] at q;obtain ⟨rfl,rfl⟩:=q;exact ⟨aa,fun z=>absurd rfl z⟩
theorem G9 (h:cF k φ mu ms C S W L m)(b:i<k)(x:Ph)(a:(φ i).mp= .nW\/(φ i).mp= .nZ)(c:x.mp= .fin):cF k (upd φ i x) mu (ms+1) C S W L (m+1):=by
 have s:=gi (φ:=φ) b x;have e:=xi (k:=k) (φ:=φ);have f:=xi (k:=k) (φ:=upd φ i x);have l:=fL (φ:=φ) b;have d:=h.norm;have hs:=h.gh;have g:=h.lock;have j:=h.cnt;rw[c] at s;rcases a with a|a<;>rw[a] at s l<;>simp only[Mp.nH,Mp.nA,Mp.nQ,Mp.nK,Mp.nI,Mp.nX,Mp.nT,Mp.nY,Mp.nR,Mp.wt] at s l;all_goals
  refine h.move b x h.st aa aa (fun z=>?_) (fun z=>?_) aa aa (by simp[c,Mp.seen])
  .have:=d z;omega
  .have:=hs z;omega
theorem mG (h:cF k φ mu ms C S W L m)(b:i<k)(x:Ph)(a:x.mp=(φ i).mp\/((φ i).mp= .idle/\x.mp= .fin)):cF k (upd φ i x) mu ms C S W L m:=by
 have s:=gi (φ:=φ) b x;have f:=xi (k:=k) (φ:=φ);have g:=xi (k:=k) (φ:=upd φ i x);have l:=fL (φ:=φ) b;have c:=h.norm;have hs:=h.gh;have j:=h.lock;have hb:=kA h;rcases a with a|⟨d,a⟩
 .rw[a] at s;refine h.move b x h.st h.cnt aa (fun z=>?_) (fun z=>?_) aa aa (fun o G q=>?_)
  .have:=c z;omega
  .have:=hs z;omega
  .rw[a] at q;have e:=h.seen i b o G q;exact ⟨aa,fun z=>by have:=e.2 z;omega⟩
 .rw[d,a] at s;rw[d] at l;simp only[Mp.nH,Mp.nA,Mp.nQ,Mp.nK,Mp.nI,Mp.nX,Mp.nT,Mp.nY,Mp.nR,Mp.wt] at s l;refine h.move b x h.st h.cnt aa (fun z=>?_) (fun z=>?_) aa aa (by simp[a,Mp.seen])
  .have:=c z;omega
  .have:=hs z;omega
theorem xh {k:Nat}{φ:Nat->Ph}{f:Mp->Nat}(h:∀i,i<k->f (φ i).mp=0):sm k φ f=0:=by
 induction k with
 |zero=>rfl
 |succ k ih=>
  have:=ih fun i a=>h i aa;show sm k φ f+f (φ k).mp=0;rw[this,h k aa]
theorem sE {k:Nat}{φ:Nat->Ph}{f:Gp->Nat}(h:∀i,i<k->f (φ i).gp=0):sg k φ f=0:=by
 induction k with
 |zero=>rfl
 |succ k ih=>
  have:=ih fun i a=>h i aa;show sg k φ f+f (φ k).gp=0;rw[this,h k aa]
theorem He {k:Nat}{φ:Nat->Ph}{f:Gp->Nat}(h:0<sg k φ f):∃i,i<k/\0<f (φ i).gp:=by
 rcases Classical.em (∃i,i<k/\0<f (φ i).gp) with x|x
 .exact x
 .have:=sE (k:=k) (φ:=φ) (f:=f) fun i a=>by
   rcases Nat.eq_zero_or_pos (f (φ i).gp) with y|y
   .exact y
   .exact absurd ⟨i,a,y⟩ x
  omega
end
theorem cF.bound {k:Nat}{φ:Nat->Ph}{mu ms:Int}{C S W L m:Nat}(h:cF k φ mu ms C S W L m):C<=3*k:=by
 have a:sm k φ Mp.nQ<=1*k:=sumTo_le fun j _=>by cases (φ j).mp<;>simp[Mp.nQ]
 have b:sm k φ Mp.nK<=1*k:=sumTo_le fun j _=>by cases (φ j).mp<;>simp[Mp.nK]
 have c:sm k φ Mp.nI<=1*k:=sumTo_le fun j _=>by cases (φ j).mp<;>simp[Mp.nI]
 have hs:=h.st.s;rcases Nat.lt_or_ge S 1 with y|y
 .have:=h.norm aa;omega
 .have:=h.gh aa;omega
section
variable {k i:Nat}{φ:Nat->Ph}{wg ws:Int}{p0:P0}
theorem n5 (a:i<k)(x:Ph):sg k (upd φ i x) Gp.nV+Gp.nV (φ i).gp=sg k φ Gp.nV+Gp.nV x.gp/\sg k (upd φ i x) Gp.n1+Gp.n1 (φ i).gp=sg k φ Gp.n1+Gp.n1 x.gp/\sg k (upd φ i x) Gp.n3+Gp.n3 (φ i).gp=sg k φ Gp.n3+Gp.n3 x.gp/\
  Gp.nV (φ i).gp<=sg k φ Gp.nV/\Gp.n1 (φ i).gp<=sg k φ Gp.n1/\Gp.n3 (φ i).gp<=sg k φ Gp.n3:=⟨xg k φ a x _,xg k φ a x _,xg k φ a x _,n4 a _,n4 a _,n4 a _⟩
theorem sF (h:dW k φ p0 wg ws)(d:i<k)(x:Ph)(a:x.gp=(φ i).gp\/((φ i).gp= .cnt/\x.gp= .rel)):dW k (upd φ i x) p0 wg ws:=by
 obtain ⟨s1,s2,f,_⟩:=n5 (φ:=φ) d x;have e1:sg k (upd φ i x) Gp.nV=sg k φ Gp.nV:=by rcases a with a|⟨b,c⟩<;>simp_all [Gp.nV]
 have e2:sg k (upd φ i x) Gp.n1=sg k φ Gp.n1:=by rcases a with a|⟨b,c⟩<;>simp_all [Gp.n1]
 have e:sg k (upd φ i x) Gp.n3=sg k φ Gp.n3:=by rcases a with a|⟨b,c⟩<;>simp_all [Gp.n3]
 refine ⟨?_⟩;rw[e1,e2,e];exact h.inv
theorem A3 (h:dW k φ p0 wg ws)(n:i<k)(x:Ph)(o:(φ i).gp= .rel):
  ∃(v t:Nat),wg=((v+1:Nat):Int)*di+t/\t<=1/\v<=k/\(x.gp=(if v=0/\t=1 then .ld else .gone)->dW k (upd φ i x) p0 (wg - di) ws):=by
 obtain ⟨s1,s2,a,e,f,g⟩:=n5 (φ:=φ) n x
 rw[o] at s1 s2 a e f g
 simp only[Gp.nV,Gp.n1,Gp.n3] at s1 s2 a e f g
 have r:sg k φ Gp.nV<=1*k:=sumTo_le fun j _=>by cases (φ j).gp<;>simp[Gp.nV]
 have hinv:=h.inv
 cases p0 with
 |opn pend=>
  simp only at hinv
  obtain ⟨p,c,l,m,d⟩:=hinv
  refine ⟨sg k φ Gp.nV - 1+pend,0,by rw[c];simp only[di];omega,aa,aa,fun b=>⟨?_⟩⟩
  rw[if_neg aa] at b
  rw[b] at s1 s2 a
  simp only[Gp.nV,Gp.n1,Gp.n3] at s1 s2 a
  simp only[di] at c ⊢
  omega
 |look u=>
  simp only at hinv
  obtain ⟨p,c,l,m,d⟩:=hinv
  refine ⟨sg k φ Gp.nV - 1,0,by rw[c];simp only[di];omega,aa,aa,fun b=>⟨?_⟩⟩
  rw[if_neg aa] at b
  rw[b] at s1 s2 a
  simp only[Gp.nV,Gp.n1,Gp.n3] at s1 s2 a
  simp only[di] at c ⊢
  omega
 |reg=>
  simp only at hinv
  rcases hinv with ⟨c,l,m,d,s⟩|⟨c,_⟩|⟨c,_⟩|⟨c,_⟩
  .refine ⟨sg k φ Gp.nV - 1,1,by rw[d];simp only[di];omega,aa,aa,fun b=>⟨?_⟩⟩
   by_cases q:sg k φ Gp.nV - 1=0
   .rw[if_pos ⟨q,rfl⟩] at b
    rw[b] at s1 s2 a
    simp only[Gp.nV,Gp.n1,Gp.n3] at s1 s2 a
    simp only[di] at d ⊢
    omega
   .rw[if_neg aa] at b
    rw[b] at s1 s2 a
    simp only[Gp.nV,Gp.n1,Gp.n3] at s1 s2 a
    simp only[di] at d ⊢
    omega
  all_goals omega
 |e9=>simp only at hinv;omega
theorem Hf (h:dW k φ p0 wg ws)(f:i<k)(x:Ph)(a:(φ i).gp= .ld)(g:x.gp= .st):wg=1/\dW k (upd φ i x) p0 wg ws:=by
 obtain ⟨s1,s2,b,c,d,e⟩:=n5 (φ:=φ) f x;rw[a,g] at s1 s2 b;rw[a] at c d e;simp only[Gp.nV,Gp.n1,Gp.n3] at s1 s2 b c d e;have hinv:=h.inv;cases p0 with
 |opn pend=>simp only at hinv;omega
 |look u=>simp only at hinv;omega
 |reg=>
  simp only at hinv;exact ⟨aa,⟨by simp only;omega⟩⟩
 |e9=>simp only at hinv;omega
theorem Hg (h:dW k φ p0 wg ws)(f:i<k)(x:Ph)(a:(φ i).gp= .st)(g:x.gp= .sm):wg=1/\dW k (upd φ i x) p0 0 ws:=by
 obtain ⟨s1,s2,b,c,d,e⟩:=n5 (φ:=φ) f x;rw[a,g] at s1 s2 b;rw[a] at c d e;simp only[Gp.nV,Gp.n1,Gp.n3] at s1 s2 b c d e;have hinv:=h.inv;cases p0 with
 |opn pend=>simp only at hinv;omega
 |look u=>simp only at hinv;omega
 |reg=>
  simp only at hinv;exact ⟨aa,⟨.inr (.inr (.inl ⟨aa,aa,aa,rfl,aa⟩))⟩⟩
 |e9=>simp only at hinv;omega
theorem Hh (h:dW k φ p0 wg ws)(f:i<k)(x:Ph)(a:(φ i).gp= .sm)(g:x.gp= .gone):ws=0/\dW k (upd φ i x) p0 wg (ws+1):=by
 obtain ⟨s1,s2,b,c,d,e⟩:=n5 (φ:=φ) f x;rw[a,g] at s1 s2 b;rw[a] at c d e;simp only[Gp.nV,Gp.n1,Gp.n3] at s1 s2 b c d e;have hinv:=h.inv;cases p0 with
 |opn pend=>simp only at hinv;omega
 |look u=>simp only at hinv;omega
 |reg=>
  simp only at hinv;exact ⟨aa,⟨by simp only;omega⟩⟩
 |e9=>simp only at hinv;omega
theorem Hi (h:dW k φ (.opn 0) wg ws):∃v:Nat,wg=(v:Int)*di/\v<=k/\dW k φ (.opn 1) (wg+di) ws:=by
 have a:sg k φ Gp.nV<=1*k:=sumTo_le fun j _=>by cases (φ j).gp<;>simp[Gp.nV]
 have hinv:=h.inv;simp only at hinv;exact ⟨sg k φ Gp.nV,by simpa using hinv.2.1,aa,⟨by simp only;simp only[di] at hinv ⊢;omega⟩⟩
theorem Hj (h:dW k φ (.opn 1) wg ws)(b:i<k)(x:Ph)(c:(φ i).gp= .new)(d:x.gp= .cnt):dW k (upd φ i x) (.opn 0) wg ws:=by
 obtain ⟨s1,s2,a,e,f,g⟩:=n5 (φ:=φ) b x;rw[c,d] at s1 s2 a;simp only[Gp.nV,Gp.n1,Gp.n3] at s1 s2 a;have hinv:=h.inv;simp only at hinv;exact ⟨by simp only;simp only[di] at hinv ⊢;omega⟩
theorem Hl (h:dW k φ (.opn 0) wg ws):dW k φ (.look k) wg ws:=by
 have a:sg k φ Gp.nV<=1*k:=sumTo_le fun j _=>by cases (φ j).gp<;>simp[Gp.nV]
 have hinv:=h.inv;simp only at hinv;exact ⟨by simp only;simp only[Nat.add_zero] at hinv;omega⟩
theorem Ho {u:Nat}(h:dW k φ (.look u) wg ws):∃v:Nat,wg=(v:Int)*di/\v<=u/\dW k φ (if v=0 then .e9 else .look v) wg ws:=by
 have hinv:=h.inv;simp only at hinv;refine ⟨sg k φ Gp.nV,hinv.2.1,hinv.1,?_⟩;split
 .rename_i e;exact ⟨by simp only;simp only[di] at hinv;omega⟩
 .exact ⟨by simp only;exact ⟨Nat.le_refl _,hinv.2⟩⟩
theorem Hp {v:Nat}(h:dW k φ (.look v) ((v:Int)*di) ws)(a:0<v):dW k φ .reg ((v:Int)*di+1) ws:=by
 have hinv:=h.inv;simp only at hinv;exact ⟨by simp only;simp only[di] at hinv ⊢;omega⟩
theorem Hq {v:Nat}(h:dW k φ (.look v) wg ws)(a:wg≠(v:Int)*di):1<=v/\dW k φ (.look (v - 1)) wg ws:=by
 have hinv:=h.inv;simp only at hinv;simp only[di] at hinv a;have:sg k φ Gp.nV≠v:=fun e=>a (by rw[<-e];exact hinv.2.1);exact ⟨aa,⟨by simp only;simp only[di];omega⟩⟩
theorem Hr (h:dW k φ .reg wg ws)(hw:ws≠0):wg=0/\ws=1/\dW k φ .e9 wg (ws - 1):=by
 have hinv:=h.inv;simp only at hinv;exact ⟨aa,aa,⟨by simp only;omega⟩⟩
theorem A4 (h:dW k φ .e9 wg ws):wg=0/\sg k φ Gp.nV=0/\sg k φ Gp.n1=0/\sg k φ Gp.n3=0:=by
 have hinv:=h.inv;simp only at hinv;omega
theorem Hs (e:sg k φ Gp.nV=0)(f:sg k φ Gp.n1=0)(g:sg k φ Gp.n3=0)(a:i<k):(φ i).gp= .gone\/(φ i).gp= .new:=by
 have b:=n4 (φ:=φ) a Gp.nV;have c:=n4 (φ:=φ) a Gp.n1;have d:=n4 (φ:=φ) a Gp.n3;cases hg:(φ i).gp<;>rw[hg] at b c d<;>simp only[Gp.nV,Gp.n1,Gp.n3] at b c d<;>first|omega|exact .inl rfl|exact .inr rfl
theorem live {n:Nat}{bs:Nat->Bool}{s:Sh}(h:Inv n bs n φ .reg s)(hw:s.ws=0):∃i,i<n/\(φ i).gp≠ .gone/\((φ i).mp.iI=true->s.ms≠0):=by
 rcases Classical.em (∃i,i<n/\(φ i).gp≠ .gone/\((φ i).mp.iI=true->s.ms≠0)) with x|x
 .exact x
 exfalso;have b:∀i,i<n->(φ i).gp= .gone\/((φ i).mp.iI=true/\s.ms=0):=fun i a=>by
  rcases Classical.em ((φ i).gp= .gone) with y|y
  .exact .inl y
  .rcases Classical.em ((φ i).mp.iI=true/\s.ms=0) with z|z
   .exact .inr z
   .exact absurd ⟨i,a,y,fun c d=>z ⟨c,d⟩⟩ x
 have e:∀i,i<n->(φ i).gp= .gone\/(φ i).gp= .cnt:=fun i a=>by
  rcases b i a with y|⟨y,_⟩
  .exact .inl y
  .refine .inr ?_;rcases Classical.em ((φ i).gp= .cnt) with z|z
   .exact z
   .have hb:=(h.i.born i a).1 a;have:=(h.i.done i a z hb).2;rw[this] at y;simp[Mp.iI] at y
 have k:∀i,i<n->(φ i).mp= .fin\/∃G,(φ i).mp= .iH G:=fun i a=>by
  rcases b i a with y|⟨y,_⟩
  .exact .inl (h.i.done i a (by rw[y];simp) (by rw[y];simp)).2
  .refine .inr ?_;cases hm:(φ i).mp<;>rw[hm] at y<;>simp[Mp.iI] at y;exact ⟨_,rfl⟩
 have q:sg n φ Gp.n1=0:=sE fun i a=>by rcases e i a with y|y<;>rw[y]<;>rfl
 have r:sg n φ Gp.n3=0:=sE fun i a=>by rcases e i a with y|y<;>rw[y]<;>rfl
 have hinv:=h.w.inv;simp only at hinv;have l:0<sg n φ Gp.nV:=aa;obtain ⟨i,a,g⟩:=He l;have j:(φ i).mp.iI=true/\s.ms=0:=(b i a).resolve_left fun y=>by rw[y] at g;simp[Gp.nV] at g
 obtain ⟨C,S,W,L,m,hm⟩:=h.m;have zero:∀f:Mp->Nat,f .fin=0->(∀G,f (.iH G)=0)->sm n φ f=0:=fun f c d=>xh fun i a=>by rcases k i a with y|⟨G,y⟩<;>rw[y];exact c;exact d G
 have t:=zero Mp.nH rfl (fun _=>rfl);have u:=zero Mp.nA rfl (fun _=>rfl);have v:=zero Mp.nK rfl (fun _=>rfl);have A:=zero Mp.nI rfl (fun _=>rfl);have B:=zero Mp.nT rfl (fun _=>rfl);have D:=zero Mp.nY rfl (fun _=>rfl);have E:=zero Mp.nR rfl (fun _=>rfl);have o:=jf (φ:=φ) a Mp.nQ;have p:Mp.nQ (φ i).mp=1:=by
  have:=j.1;cases hm:(φ i).mp<;>rw[hm] at this<;>simp[Mp.iI] at this;rfl
 rw[p] at o;have F:=hm.cnt;have H:=hm.lock;have hs:=hm.st.s;have I:=j.2;rcases Nat.lt_or_ge S 1 with y|y
 .have:=hm.norm aa;omega
 .have:=hm.gh aa;omega
end
end Go.Sep
end
section
namespace Go.Sep
open Go
theorem iJ {x:Int}(a: -2147483648<=x)(b:x<2147483648):IntKind.i32.wrap x=x:=by
 unfold IntKind.wrap;simp[IntKind.bits,IntKind.signed];omega
theorem pY (n:Nat)(h:n<4294967296):(BitVec.ofInt 32 (n:Int)).toNat=n:=by
 simp[BitVec.toNat_ofInt];omega
theorem Ht (C d m:Nat)(hd:d<8)(hm:m<8):(8*C+d)&&& m=d&&& m:=by
 refine Nat.eq_of_testBit_eq fun j=>?_;simp only[Nat.testBit_and];rw[show 8*C+d=2 ^ 3*C+d from rfl,Nat.testBit_two_pow_mul_add C (by simpa using hd)];by_cases a:j<3
 .simp[a]
 .have:m.testBit j=false:=Nat.testBit_lt_two_pow (Nat.lt_of_lt_of_le hm (show 2 ^ 3<=2 ^ j from Nat.pow_le_pow_right aO aa));simp[this]
theorem Hu (C d m:Nat)(hd:d<8)(hm:m<8):(8*C+d)|||m=8*C+(d|||m):=by
 have b:d|||m<2 ^ 3:=Nat.or_lt_two_pow (by simpa using hd) (by simpa using hm);refine Nat.eq_of_testBit_eq fun j=>?_;simp only[Nat.testBit_or];rw[show 8*C+d=2 ^ 3*C+d from rfl,show 8*C+(d|||m)=2 ^ 3*C+(d|||m) from rfl,Nat.testBit_two_pow_mul_add C (by simpa using hd),Nat.testBit_two_pow_mul_add C b];by_cases a:j<3
 .simp[a]
 .have:m.testBit j=false:=Nat.testBit_lt_two_pow (Nat.lt_of_lt_of_le hm (show 2 ^ 3<=2 ^ j from Nat.pow_le_pow_right aO aa));simp[this,a]
def eC (x y:Int):Int:=IntKind.i32.wrap ((BitVec.ofInt 32 x&&& BitVec.ofInt 32 y).toNat:Int)
def jg (x y:Int):Int:=IntKind.i32.wrap ((BitVec.ofInt 32 x|||BitVec.ofInt 32 y).toNat:Int)
def pZ (x y:Int):Int:=IntKind.i32.wrap ((BitVec.ofInt 32 x&&& ~~~BitVec.ofInt 32 y).toNat:Int)
theorem QX (x y:Int):IntKind.i32.wrap ((@HAnd.hAnd (BitVec 32) (BitVec 32) (BitVec 32) (@instHAndOfAndOp (BitVec IntKind.i32.bits) (@BitVec.instAndOp IntKind.i32.bits)) (BitVec.ofInt 32 x) (BitVec.ofInt 32 y)).toNat:Int)=eC x y:=rfl
theorem QY (x y:Int):IntKind.i32.wrap ((@HOr.hOr (BitVec 32) (BitVec 32) (BitVec 32) (@instHOrOfOrOp (BitVec IntKind.i32.bits) (@BitVec.instOrOp IntKind.i32.bits)) (BitVec.ofInt 32 x) (BitVec.ofInt 32 y)).toNat:Int)=jg x y:=rfl
theorem QZ (x y:Int):IntKind.i32.wrap ((@HAnd.hAnd (BitVec 32) (BitVec 32) (BitVec 32) (@instHAndOfAndOp (BitVec IntKind.i32.bits) (@BitVec.instAndOp IntKind.i32.bits)) (BitVec.ofInt 32 x) (@Complement.complement (BitVec 32) (@BitVec.instComplement IntKind.i32.bits) (BitVec.ofInt 32 y))).toNat:Int)=pZ x y:=rfl
attribute [go_sem] QX QY QZ
theorem Hv (C d m:Nat)(hC:C<268435455)(hd:d<8)(hm:m<8):eC ((8*C+d:Nat):Int) (m:Int)=((d&&& m:Nat):Int):=by
 have a:(BitVec.ofInt 32 ((8*C+d:Nat):Int)).toNat=8*C+d:=pY _ aa;have b:(BitVec.ofInt 32 (m:Int)).toNat=m:=pY _ aa;unfold eC;rw[BitVec.toNat_and,a,b,Ht C d m hd hm];have:d&&& m<8:=Nat.lt_of_le_of_lt Nat.and_le_left hd;exact iJ aa aa
theorem Hw (C d m:Nat)(hC:C<268435455)(hd:d<8)(hm:m<8):jg ((8*C+d:Nat):Int) (m:Int)=((8*C+(d|||m):Nat):Int):=by
 have a:(BitVec.ofInt 32 ((8*C+d:Nat):Int)).toNat=8*C+d:=pY _ aa;have b:(BitVec.ofInt 32 (m:Int)).toNat=m:=pY _ aa;unfold jg;rw[BitVec.toNat_or,a,b,Hu C d m hd hm];have:d|||m<2 ^ 3:=Nat.or_lt_two_pow (by simpa using hd) (by simpa using hm);exact iJ aa aa
theorem Hx (C d:Nat)(hC:C<268435455)(hd:d<8):pZ ((8*C+d:Nat):Int) 2=((8*C+(d - (d&&& 2)):Nat):Int):=by
 have b:(BitVec.ofInt 32 ((8*C+d:Nat):Int)).toNat=8*C+d:=pY _ aa;have key:(BitVec.ofInt 32 ((8*C+d:Nat):Int)&&& ~~~BitVec.ofInt 32 2).toNat=8*C+(d - (d&&& 2)):=by
  have c:d - (d&&& 2)<2 ^ 3:=by simp;omega
  refine Nat.eq_of_testBit_eq fun j=>?_;rw[BitVec.toNat_and,Nat.testBit_and,b,show 8*C+(d - (d&&& 2))=2 ^ 3*C+(d - (d&&& 2)) from rfl,show 8*C+d=2 ^ 3*C+d from rfl,Nat.testBit_two_pow_mul_add C (by simpa using hd),Nat.testBit_two_pow_mul_add C c];have e:(~~~BitVec.ofInt 32 2).toNat=4294967293:=aO;rw[e];by_cases a:j<3
  .simp only[a,if_true];have:j=0\/j=1\/j=2:=aa;have:d=0\/d=1\/d=2\/d=3\/d=4\/d=5\/d=6\/d=7:=aa;rcases ‹j=0\/_› with rfl|rfl|rfl<;>rcases ‹d=0\/_› with rfl|rfl|rfl|rfl|rfl|rfl|rfl|rfl<;>decide
  .simp only[a,if_false];by_cases f:j<32
   .have:Nat.testBit 4294967293 j=true:=by
     have h:∀j:Fin 32,3<=j.val->Nat.testBit 4294967293 j.val=true:=aO;exact h ⟨j,f⟩ (by simp only;omega)
    rw[this,Bool.and_true]
   .have:C.testBit (j - 3)=false:=Nat.testBit_lt_two_pow (Nat.lt_of_lt_of_le (show C<2 ^ 28 by omega) (show 2 ^ 28<=2 ^ (j - 3) from Nat.pow_le_pow_right aO aa));rw[this,Bool.false_and]
 unfold pZ;rw[key];exact iJ aa aa
structure Wd (x:Int)(C S W L:Nat):Prop where
 st:St x C S W L
 a1:eC x 1=(L:Int)
 a2:eC x 2=((2*W:Nat):Int)
 a3:eC x 3=((2*W+L:Nat):Int)
 a4:eC x 4=((4*S:Nat):Int)
 a5:eC x 5=((4*S+L:Nat):Int)
 a7:eC x 7=((4*S+2*W+L:Nat):Int)
 o1:jg x 1=x+(1 - L)
 o2:jg x 2=x+2*(1 - W)
 o4:jg x 4=x+4*(1 - S)
 n2:pZ x 2=x - 2*W
 sh:x.fdiv 8=(C:Int)
theorem wd {x:Int}{C S W L:Nat}(h:St x C S W L)(hC:C<268435455):Wd x C S W L:=by
 have e:=h.eq;have c:x=((8*C+(4*S+2*W+L):Nat):Int):=by rw[e];simp;omega
 have d:=h.l;have hw:=h.w;have hs:=h.s;have hd:4*S+2*W+L<8:=aa;have cS:S=0\/S=1:=aa;have a:W=0\/W=1:=aa;have b:L=0\/L=1:=aa;have A:∀m:Nat,m<8->eC x (m:Int)=(((4*S+2*W+L)&&& m:Nat):Int):=fun m hm=>by rw[c];exact Hv C _ m hC hd hm
 have O:∀m:Nat,m<8->jg x (m:Int)=((8*C+((4*S+2*W+L)|||m):Nat):Int):=fun m hm=>by rw[c];exact Hw C _ m hC hd hm
 refine ⟨h,(A 1 aa).trans ?_,(A 2 aa).trans ?_,(A 3 aa).trans ?_,(A 4 aa).trans ?_,(A 5 aa).trans ?_,(A 7 aa).trans ?_,(O 1 aa).trans ?_,(O 2 aa).trans ?_,(O 4 aa).trans ?_,?_,?_⟩
 .rcases cS with rfl|rfl<;>rcases a with rfl|rfl<;>rcases b with rfl|rfl<;>rfl
 .rcases cS with rfl|rfl<;>rcases a with rfl|rfl<;>rcases b with rfl|rfl<;>rfl
 .rcases cS with rfl|rfl<;>rcases a with rfl|rfl<;>rcases b with rfl|rfl<;>rfl
 .rcases cS with rfl|rfl<;>rcases a with rfl|rfl<;>rcases b with rfl|rfl<;>rfl
 .rcases cS with rfl|rfl<;>rcases a with rfl|rfl<;>rcases b with rfl|rfl<;>rfl
 .rcases cS with rfl|rfl<;>rcases a with rfl|rfl<;>rcases b with rfl|rfl<;>rfl
 .rcases cS with rfl|rfl<;>rcases a with rfl|rfl<;>rcases b with rfl|rfl<;>simp at e ⊢<;>omega
 .rcases cS with rfl|rfl<;>rcases a with rfl|rfl<;>rcases b with rfl|rfl<;>simp at e ⊢<;>omega
 .rcases cS with rfl|rfl<;>rcases a with rfl|rfl<;>rcases b with rfl|rfl<;>simp at e ⊢<;>omega
 .rw[c,Hx C _ hC hd];rcases cS with rfl|rfl<;>rcases a with rfl|rfl<;>rcases b with rfl|rfl<;>simp<;>omega
 .rw[Int.fdiv_eq_ediv_of_nonneg _ aa];omega
end Go.Sep
end

/- A part of the proof of a row and its tied card: Q7. -/
import Derived.Test.YtjepffnffjdloaaGreatDoorQ6
import Derived.Conc.CrowdTrace
set_option linter.all false
section
namespace Go.Sep
open Go Go.Conc
open Go.ConcN (PermW fork_knows)
open Go.ConcM (MuAt muA msA muBlock)
open Go.ConcR (WgAt wgBlock stA smA)
structure Cy where
 P:Program
 Mu:Nat
 Wg:Nat
 Is:Nat
 tM:TypeId
 tW:TypeId
 tI:TypeId
 n:Nat
 bs:Nat->Bool
 base:Nat
 T0:Nat
def Cy.shared (c:Cy)(b:Nat):Prop:=b=c.Mu\/b=c.Wg\/b=c.Is
def Cy.sy (c:Cy)(l:Loc):Prop:=∃a,l= .cell a/\(a.block=c.Mu\/a.block=c.Wg)
def Cy.gid (c:Cy):Nat->Nat
 |0=>0
 |i+1=>c.base+i
theorem Cy.JA (c:Cy)(hb:0<c.base){p q:Nat}(h:p≠q):c.gid p≠c.gid q:=by
 cases p<;>cases q<;>simp[Cy.gid] at*<;>omega
def eZ (F:af):Loc->Prop
 | .cell a=>a.block∈keys F.own
 | .obj r=>r∈keys F.own
 |_=>False
def iJ (F:af)(l:Loc):Prop:=∃a,l= .cell a/\(F.ro a).isSome=true
def kY (B:Nat):Loc->Prop
 | .cell a=>B<=a.block
 | .obj r=>B<=r
 |_=>False
def oW (c:Cy)(i:Nat)(l:Loc):Prop:=l= .cell ⟨c.Is,i,none⟩
structure dw (c:Cy)(k:Nat)(Fr:Nat->af)(w:World):Prop where
 has:∀p,p<=k->Has (Fr p) w
 own:∀p q,p<=k->q<=k->p≠q->∀b∈keys (Fr p).own,b∉keys (Fr q).own
 ro:∀p q,p<=k->q<=k->p≠q->∀a,((Fr p).ro a).isSome=true->a.block∉keys (Fr q).own
 gS:∀p,p<=k->∀b∈keys (Fr p).own,¬c.shared b
 jq:∀p,p<=k->∀a,((Fr p).ro a).isSome=true->¬c.shared a.block
 gD:∀b,c.shared b->b<w.heap.size
structure gi (c:Cy)(t:Trace)(g r:Nat):Prop where
 late:c.T0<=r
 act:t.act? r=some (.mark (.releaseMerge (stA c.Wg)))
 CJ:t.g? r=some g
 heard:t.heard r
 after:∀i x,r<i->t.g? i=some g->touchAt t i=some x->x.kind= .atomic/\¬t.heard i/\∃a,x.loc= .cell a/\a.block=c.Wg
structure ei (c:Cy)(bq:Loc->Prop)(k:Nat)(Fr:Nat->af)(B:Nat)(t:Trace):Prop where
 len:c.T0<=t.size
 quiet:∀i a,touchAt t i=some a->c.sy a.loc->(a.kind≠ .plain/\(a.kind= .said->t.g? i=some 0))\/∀p,p<=k->Go.Conc.Knows t (c.gid p) i
 nr:∀said,¬Race said t
 own:∀p,p<=k->∀l,eZ (Fr p) l->Perm t (c.gid p) l
 ro:∀p,p<=k->∀l,iJ (Fr p) l->PermW t (c.gid p) l
 ua:∀i,i<k->∀l,oW c i l->Perm t (c.base+i) l
 uf:∀i,k<=i->∀l,oW c i l->Perm t 0 l
 low:∀op∈t,op.act.low B
 norel:∀i,c.T0<=i->t.act? i≠some (.mark (.release (stA c.Wg)))
 known:∀i a,touchAt t i=some a->a.loc.isMemory=true->Go.Conc.Knows t 0 i\/(bq a.loc/\a.kind= .atomic)\/∃j,j<k/\t.g? i=some (c.base+j)
 over:∀i g,t.g? i=some g->g≠0->t.counts i->(∃j,t.g? j=some 0/\HappensBefore t i j)\/∃j,j<k/\g=c.base+j
def ug (c:Cy)(F:af)(B p:Nat)(x:Touch):Prop:=
 eZ F x.loc\/kY B x.loc\/(iJ F x.loc/\x.write=false)\/(c.sy x.loc/\x.kind≠ .plain/\(x.kind= .said->p=0))\/(∃i,p=i+1/\oW c i x.loc)\/x.loc.isMemory=false
theorem CK {B:Nat}{l:Loc}(h:l.low B)(b:kY B l):False:=by
 cases l with
 |cell a=>exact absurd h (Nat.not_lt.2 b)
 |obj r=>exact absurd h (Nat.not_lt.2 b)
 |_=>exact b
theorem CL {B:Nat}{t:Trace}(h:∀op∈t,op.act.low B){i:Nat}{a:Touch}(c:touchAt t i=some a):a.loc.low B:=by
 obtain ⟨x,d,b⟩:=touch_of c
 have hm:=h x (Array.mem_of_getElem? d)
 obtain ⟨g,fn,pos,act⟩:=x
 cases act with
 |access e=>simp only[MemAct.touch?,Option.some.injEq] at b;subst b;exact hm
 |mark m=>cases m<;>simp only[MemAct.touch?,Option.some.injEq] at b<;>first|(subst b;exact hm)|cases b
 |_=>cases b
theorem JB {F:af}{w:World}(h:Has F w){l:Loc}(b:eZ F l):¬kY w.heap.size l:=by
 cases l with
 |cell a=>exact fun x=>absurd (h.lt b) (Nat.not_lt.2 x)
 |obj r=>exact fun x=>absurd (h.lt b) (Nat.not_lt.2 x)
 |_=>exact b.elim
theorem JC {F:af}{w:World}(h:Has F w){l:Loc}(b:iJ F l):¬kY w.heap.size l:=by
 obtain ⟨a,rfl,c⟩:=b
 exact fun x=>absurd (h.gY c) (Nat.not_lt.2 x)
section
variable {c : Cy} {bq : Loc → Prop} {k : Nat} {Fr : Nat → af} {w : World} {t u : Trace}
theorem dw.sep (h:dw c k Fr w){p q:Nat}(hp:p<=k)(hq:q<=k)(b:p≠q){l:Loc}(h1:eZ (Fr p) l)(h2:eZ (Fr q) l):False:=by
 cases l with
 |cell a=>exact h.own p q hp hq b _ h1 h2
 |obj r=>exact h.own p q hp hq b _ h1 h2
 |_=>exact h1
theorem dw.CM (h:dw c k Fr w){p q:Nat}(hp:p<=k)(hq:q<=k)(b:p≠q){l:Loc}(h1:iJ (Fr p) l)(h2:eZ (Fr q) l):False:=by
 obtain ⟨a,rfl,d⟩:=h1
 exact h.ro p q hp hq b a d h2
theorem dw.CN (h:dw c k Fr w){p:Nat}(hp:p<=k){l:Loc}(h1:eZ (Fr p) l)(h2:c.sy l):False:=by
 obtain ⟨a,rfl,h2⟩:=h2
 exact h.gS p hp _ h1 (h2.elim .inl fun x=>.inr (.inl x))
theorem dw.CO (h:dw c k Fr w){p:Nat}(hp:p<=k){l:Loc}(h1:iJ (Fr p) l)(h2:c.sy l):False:=by
 obtain ⟨a,rfl,h1⟩:=h1
 obtain ⟨b,e,h2⟩:=h2
 cases e
 exact h.jq p hp _ h1 (h2.elim .inl fun x=>.inr (.inl x))
theorem dw.yo (h:dw c k Fr w){p i:Nat}(hp:p<=k){l:Loc}(h1:eZ (Fr p) l)(h2:oW c i l):False:=by
 subst h2
 exact h.gS p hp _ h1 (.inr (.inr rfl))
theorem dw.yp (h:dw c k Fr w){p i:Nat}(hp:p<=k){l:Loc}(h1:iJ (Fr p) l)(h2:oW c i l):False:=by
 subst h2
 obtain ⟨a,e,h1⟩:=h1
 cases e
 exact h.jq p hp _ h1 (.inr (.inr rfl))
theorem dw.JD (h:dw c k Fr w){l:Loc}(h1:kY w.heap.size l)(h2:c.sy l):False:=by
 obtain ⟨a,rfl,h2⟩:=h2
 exact absurd (h.gD _ (h2.elim .inl fun x=>.inr (.inl x))) (Nat.not_lt.2 h1)
theorem dw.CP (h:dw c k Fr w){i:Nat}{l:Loc}(h1:kY w.heap.size l)(h2:oW c i l):False:=by
 subst h2
 exact absurd (h.gD _ (.inr (.inr rfl))) (Nat.not_lt.2 h1)
theorem uh {a:Addr}{T:Nat}(h:∀i,T<=i->t.act? i≠some (.mark (.release a)))(hu:∀op∈u,op.act≠ .mark (.release a)):∀i,T<=i->(t++u).act? i≠some (.mark (.release a)):=by
 intro i c hi
 obtain ⟨op,d,b⟩:=Option.map_eq_some_iff.1 hi
 rcases getElem?_append_cases d with ⟨_,e⟩|⟨_,f⟩
 ·exact h i c (by rw[act?_of e,b])
 ·exact hu op f b
theorem CQ (h:∀i a,touchAt t i=some a->c.sy a.loc->(a.kind≠ .plain/\(a.kind= .said->t.g? i=some 0))\/∀p,p<=k->Go.Conc.Knows t (c.gid p) i)
  (hu:∀op∈u,∀x,op.act.touch?=some x->c.sy x.loc->x.kind≠ .plain/\(x.kind= .said->op.g=0)):
  ∀i a,touchAt (t++u) i=some a->c.sy a.loc->(a.kind≠ .plain/\(a.kind= .said->(t++u).g? i=some 0))\/∀p,p<=k->Go.Conc.Knows (t++u) (c.gid p) i:=by
 intro i a f hs
 obtain ⟨x,b,d⟩:=touch_of f
 rcases getElem?_append_cases b with ⟨hi,j⟩|⟨_,l⟩
 ·rcases h i a (by rw[touchAt_of j];exact d) hs with ⟨y,z⟩|y
  ·exact .inl ⟨y,fun e=>by rw[g?_old hi];exact z e⟩
  ·exact .inr fun p hp=>(y p hp).app u
 ·obtain ⟨y,z⟩:=hu x l a d hs
  exact .inl ⟨y,fun e=>by simp[Trace.g?,b,z e]⟩
theorem ei.app (hb:0<c.base)(B:c.Mu≠c.Is/\c.Wg≠c.Is)(hp:dw c k Fr w)(h:ei c bq k Fr w.heap.size t){p:Nat}(n:p<=k){cP:Nat->af}{I:Nat}(P:w.heap.size<=I)
  (hu:∀op∈u,op.g=c.gid p) (C:∀op∈u,∀x,op.act.touch?=some x->ug c (Fr p) w.heap.size p x)
  (Q:∀op∈u,op.act.low I) (R:∀op∈u,op.act≠ .mark (.release (stA c.Wg)))
  (M:∀q,q≠p->cP q=Fr q) (S:∀l,eZ (cP p) l->eZ (Fr p) l\/kY w.heap.size l) (T:∀l,iJ (cP p) l->iJ (Fr p) l\/eZ (Fr p) l\/kY w.heap.size l):
  ei c bq k cP I (t++u):=by
 have a0:∀op∈u,∀x,op.act.touch?=some x->x.loc.isMemory=false->∀l:Loc,l.isMemory=true->x.loc≠l:=fun op _ x _ h0 l d e=>by rw[e,d] at h0;cases h0
 have U:∀{F:af} {l:Loc},eZ F l->l.isMemory=true:=fun {F l} d=>by cases l<;>first|rfl|exact d.elim
 have V:∀{F:af} {l:Loc},iJ F l->l.isMemory=true:=fun {F l} d=>by obtain ⟨a,rfl,_⟩:=d;rfl
 have a2:∀q,q≠p->c.gid q≠c.gid p:=fun q hq=>c.JA hb hq
 have W:∀q,q<=k->q≠p->∀l,eZ (Fr q) l->∀op∈u,∀b,op.act.touch?=some b->b.loc≠l:=by
  intro q hq r l d op f b m e
  rcases C op f b m with x|x|⟨x,_⟩|⟨x,_⟩|⟨i,_,x⟩|x<;>rw[e] at x
  ·exact hp.sep hq n r d x
  ·exact JB (hp.has q hq) d x
  ·exact hp.CM n hq (Ne.symm r) x d
  ·exact hp.CN hq d x
  ·exact hp.yo hq d x
  ·rw[U d] at x;cases x
 have X:∀q,q<=k->q≠p->∀l,iJ (Fr q) l->∀op∈u,∀b,op.act.touch?=some b->b.loc=l->b.write=true->False:=by
  intro q hq r l d op f b m e hw
  rcases C op f b m with x|x|⟨x,Y⟩|⟨x,_⟩|⟨i,_,x⟩|x
  ·rw[e] at x;exact hp.CM hq n r d x
  ·rw[e] at x;exact JC (hp.has q hq) d x
  ·rw[Y] at hw;cases hw
  ·rw[e] at x;exact hp.CO hq d x
  ·rw[e] at x;exact hp.yp hq d x
  ·rw[e,V d] at x;cases x
 have fresh:∀l,kY w.heap.size l->Perm (t++u) (c.gid p) l:=by
  intro l d i a v e
  obtain ⟨x,A,J⟩:=touch_of v
  rcases getElem?_append_cases A with ⟨hi,K⟩|⟨_,G⟩
  ·have:=CL h.low (show touchAt t i=some a by rw[touchAt_of K];exact J)
   rw[e] at this
   exact (CK this d).elim
  ·have:=knows_own A
   rwa [hu x G] at this
 refine ⟨by have:=h.len;simp;omega,CQ h.quiet fun op f x A hs=>?_,fun said=>?_,fun q hq l d=>?_,fun q hq l d=>?_,fun i hi l d=>?_,fun i hi l d=>?_,fun op f=>?_,uh h.norel R,fun i a v hm=>?_,fun i g hg D s=>?_⟩
 ·rcases C op f x A with y|y|⟨y,_⟩|⟨_,y,z⟩|⟨i,_,y⟩|y
  ·exact (hp.CN n y hs).elim
  ·exact (hp.JD y hs).elim
  ·exact (hp.CO n y hs).elim
  ·exact ⟨y,fun e=>by rw[hu op f,z e];rfl⟩
  ·obtain ⟨a,e,hs⟩:=hs
   rw[show x.loc=_ from y] at e
   cases e
   rcases hs with hs|hs
   ·exact absurd hs.symm B.1
   ·exact absurd hs.symm B.2
  ·obtain ⟨a,e,_⟩:=hs;rw[e] at y;cases y
 ·refine noRace_append (h.nr said) hu fun i a v op f b m s=>?_
  rcases C op f b m with y|y|⟨y,z⟩|⟨y,y',z⟩|⟨j,rfl,y⟩|y
  ·exact h.own p n _ y i a v s.1
  ·have:=CL h.low v
   rw[s.1] at this
   exact (CK this y).elim
  ·exact h.ro p n _ y i a v s.1 (s.2.2.1.resolve_right (by rw[z];simp))
  ·rcases h.quiet i a v (by rw[s.1];exact y) with ⟨Z,ab⟩|q
   ·obtain ⟨_,_,_,ad⟩:=s
    rcases ad with e|e|⟨_,e,H⟩
    ·exact absurd e Z
    ·exact absurd e y'
    ·have D:=ab e
     unfold Trace.g? at D
     obtain ⟨o,ae,al⟩:=Option.map_eq_some_iff.1 D
     have:=knows_own ae
     rw[al] at this
     rw[z H];exact this
   ·exact q p n
  ·exact h.ua j (by omega) _ y i a v s.1
  ·rw[<-s.1,s.2.1] at y;cases y
 ·by_cases r:q=p
  ·subst r
   rcases S l d with y|y
   ·exact (h.own q hq l y).app fun op f _ _ _=>hu op f
   ·exact fresh l y
  ·rw[M q r] at d
   exact (h.own q hq l d).app fun op f b m e=>absurd e (W q hq r l d op f b m)
 ·by_cases r:q=p
  ·subst r
   rcases T l d with y|y|y
   ·exact (h.ro q hq l y).app fun op f _ _ _ _=>hu op f
   ·exact .of ((h.own q hq l y).app fun op f _ _ _=>hu op f)
   ·exact .of (fresh l y)
  ·rw[M q r] at d
   exact (h.ro q hq l d).app fun op f b m e hw=>(X q hq r l d op f b m e hw).elim
 ·refine (h.ua i hi l d).app fun op f b m e=>?_
  rcases C op f b m with y|y|⟨y,_⟩|⟨y,_⟩|⟨j,H,y⟩|y<;>rw[e] at y
  ·exact (hp.yo n y d).elim
  ·exact (hp.CP y d).elim
  ·exact (hp.yp n y d).elim
  ·obtain ⟨a,e,hs⟩:=y
   rw[show l=_ from d] at e
   cases e
   rcases hs with hs|hs
   ·exact absurd hs.symm B.1
   ·exact absurd hs.symm B.2
  ·have:i=j:=by rw[show l=_ from d] at y;cases y;rfl
   rw[hu op f,H,this];rfl
  ·rw[show l=_ from d] at y;cases y
 ·refine (h.uf i hi l d).app fun op f b m e=>?_
  rcases C op f b m with y|y|⟨y,_⟩|⟨y,_⟩|⟨j,H,y⟩|y<;>rw[e] at y
  ·exact (hp.yo n y d).elim
  ·exact (hp.CP y d).elim
  ·exact (hp.yp n y d).elim
  ·obtain ⟨a,e,hs⟩:=y
   rw[show l=_ from d] at e
   cases e
   rcases hs with hs|hs
   ·exact absurd hs.symm B.1
   ·exact absurd hs.symm B.2
  ·have:i=j:=by rw[show l=_ from d] at y;cases y;rfl
   omega
  ·rw[show l=_ from d] at y;cases y
 ·exact (Array.mem_append.1 f).elim (fun x=>MemAct.low_mono P (h.low op x)) (Q op)
 ·obtain ⟨x,A,J⟩:=touch_of v
  rcases getElem?_append_cases A with ⟨hi,K⟩|⟨_,G⟩
  ·rcases h.known i a (by rw[touchAt_of K];exact J) hm with y|y|⟨j,E,y⟩
   ·exact .inl (y.app u)
   ·exact .inr (.inl y)
   ·exact .inr (.inr ⟨j,E,by rw[g?_old hi];exact y⟩)
  ·cases p with
   |zero=>have:=knows_own A;rw[hu x G] at this;exact .inl this
   |succ j=>exact .inr (.inr ⟨j,by omega,by simp[Trace.g?,A,hu x G,Cy.gid]⟩)
 ·by_cases hi:i<t.size
  ·rcases h.over i g (by rw[<-g?_old (u:=u) hi];exact hg) D ((counts_old hi).1 s) with ⟨j,E,y⟩|y
   ·have ao:j<t.size:=by
     unfold Trace.g? at E
     obtain ⟨z,L,_⟩:=Option.map_eq_some_iff.1 E
     exact lt_size_of_getElem? L
    exact .inl ⟨j,by rw[g?_old ao];exact E,hb_app u y⟩
   ·exact .inr y
  ·unfold Trace.g? at hg
   obtain ⟨z,L,N⟩:=Option.map_eq_some_iff.1 hg
   rcases getElem?_append_cases L with ⟨ar,_⟩|⟨_,O⟩
   ·exact absurd ar hi
   ·cases p with
    |zero=>exact absurd (N▸(hu z O)) D
    |succ j=>exact .inr ⟨j,by omega,by rw[<-N,hu z O];rfl⟩
theorem gi.app {g r:Nat}(h:gi c t g r)(hu:∀i x,t.size<=i->(t++u).g? i=some g->touchAt (t++u) i=some x->x.kind= .atomic/\¬(t++u).heard i/\∃a,x.loc= .cell a/\a.block=c.Wg):gi c (t++u) g r:=by
 have b:r<t.size:=lt_of_act? h.act
 refine ⟨h.late,by rw[act?_old b];exact h.act,by rw[g?_old b];exact h.CJ,(heard_old b).2 h.heard,fun i x hi hg e=>?_⟩
 rcases Nat.lt_or_ge i t.size with d|f
 ·rw[heard_old d]
  exact h.after i x hi (by rw[<-g?_old (u:=u) d];exact hg) (by rw[<-touchAt_old (u:=u) d];exact e)
 ·exact hu i x f hg e
theorem gi.other {g r g':Nat}(h:gi c t g r)(a:g'≠g)(hu:∀op∈u,op.g=g'):gi c (t++u) g r:=by
 refine h.app fun i x hi hg f=>?_
 unfold Trace.g? at hg
 obtain ⟨z,b,d⟩:=Option.map_eq_some_iff.1 hg
 rcases getElem?_append_cases b with ⟨j,_⟩|⟨_,e⟩
 ·omega
 ·exact absurd (hu z e▸d) a
theorem ei.fork (hb:0<c.base)(hp:dw c k Fr w)(h:ei c bq k Fr w.heap.size t){x y:MemOp}(o:x.g=0/\x.act= .go (c.base+k))(r:y.g=c.base+k/\y.act= .start)(h0:Deaf t 0=0)(C:Deaf t (c.base+k)=0)
  {cP:Nat->af} (E:∀q,q<=k->cP q=Fr q) (H:∀l,¬eZ (cP (k+1)) l) (I:∀l,iJ (cP (k+1)) l->iJ (Fr 0) l):ei c bq (k+1) cP w.heap.size (t++#[x,y]):=by
 have s:∀op∈#[x,y],∀b,op.act.touch?=some b->False:=by
  intro op d b hb
  simp only[List.mem_toArray,List.mem_cons,List.not_mem_nil,or_false] at d
  rcases d with rfl|rfl
  ·rw[o.2] at hb;cases hb
  ·rw[r.2] at hb;cases hb
 have old:∀{i:Nat} {a:Touch},touchAt (t++#[x,y]) i=some a->touchAt t i=some a/\i<t.size:=by
  intro i a m
  obtain ⟨z,v,F⟩:=touch_of m
  rcases getElem?_append_cases v with ⟨hi,J⟩|⟨_,K⟩
  ·exact ⟨by rw[touchAt_of J];exact F,hi⟩
  ·exact (s z K a F).elim
 refine ⟨by have:=h.len;simp;omega,fun i a m hs=>?_,fun said=>?_,fun q hq l f=>?_,fun q hq l f=>?_,fun i hi l f=>?_,fun i hi l f=>?_,fun op d=>?_,uh h.norel fun op d=>?_,fun i a m hm=>?_,fun i g hg L G=>?_⟩
 ·obtain ⟨D,hi⟩:=old m
  rcases h.quiet i a D hs with ⟨M,N⟩|q
  ·exact .inl ⟨M,fun e=>by rw[g?_old hi];exact N e⟩
  ·refine .inr fun p hp=>?_
   rcases Nat.lt_or_ge k p with B|n
   ·obtain rfl:p=k+1:=by omega
    exact fork_knows o r h0 C (q 0 (Nat.zero_le _))
   ·exact (q p n).app _
 ·have e:t++#[x,y]=(t++#[x])++#[y]:=by apply Array.ext';simp
  rw[e]
  refine noRace_append (g:=c.base+k) (noRace_append (g:=0) (h.nr said) (fun op d=>by simp at d;rw[d];exact o.1) (fun i a _ op d b hb _=>(s op (by simp at d ⊢;exact .inl d) b hb).elim))
   (fun op d=>by simp at d;rw[d];exact r.1) (fun i a _ op d b hb _=>(s op (by simp at d ⊢;exact .inr d) b hb).elim)
 ·rcases Nat.lt_or_ge k q with B|n
  ·obtain rfl:q=k+1:=by omega
   exact (H l f).elim
  ·rw[E q n] at f
   exact (h.own q n l f).app fun op d b hb _=>(s op d b hb).elim
 ·rcases Nat.lt_or_ge k q with B|n
  ·obtain rfl:q=k+1:=by omega
   exact fun i a m e hw=>fork_knows o r h0 C (h.ro 0 (Nat.zero_le _) l (I l f) i a (old m).1 e hw)
  ·rw[E q n] at f
   exact (h.ro q n l f).app fun op d b hb _ _=>(s op d b hb).elim
 ·rcases Nat.lt_or_ge i k with B|n
  ·exact (h.ua i B l f).app fun op d b hb _=>(s op d b hb).elim
  ·obtain rfl:i=k:=by omega
   exact fun j a m e=>fork_knows o r h0 C (h.uf i (Nat.le_refl _) l f j a (old m).1 e)
 ·exact (h.uf i (by omega) l f).app fun op d b hb _=>(s op d b hb).elim
 ·rcases Array.mem_append.1 d with z|z
  ·exact h.low op z
  ·simp only[List.mem_toArray,List.mem_cons,List.not_mem_nil,or_false] at z
   rcases z with rfl|rfl
   ·rw[o.2];trivial
   ·rw[r.2];trivial
 ·simp only[List.mem_toArray,List.mem_cons,List.not_mem_nil,or_false] at d
  rcases d with rfl|rfl
  ·rw[o.2];simp
  ·rw[r.2];simp
 ·obtain ⟨D,hi⟩:=old m
  rcases h.known i a D hm with z|z|⟨j,A,z⟩
  ·exact .inl (z.app _)
  ·exact .inr (.inl z)
  ·exact .inr (.inr ⟨j,by omega,by rw[g?_old hi];exact z⟩)
 ·have O:=G
  obtain ⟨z,v,_⟩:=G
  obtain ⟨_,hi⟩:=old (show touchAt _ i=some z from v)
  rcases h.over i g (by rw[<-g?_old (u:=#[x,y]) hi];exact hg) L ((counts_old hi).1 O) with ⟨j,A,y'⟩|⟨j,A,y'⟩
  ·have P:j<t.size:=by
    unfold Trace.g? at A
    obtain ⟨z,v,_⟩:=Option.map_eq_some_iff.1 A
    exact lt_size_of_getElem? v
   exact .inl ⟨j,by rw[g?_old P];exact A,hb_app _ y'⟩
  ·exact .inr ⟨j,by omega,y'⟩
theorem ei.fH (h:ei c bq k Fr w.heap.size t)(d:∀i,i<k->∃r,gi c t (c.base+i) r){y:MemOp}(f:y.g=0/\y.act= .mark (.acquire (stA c.Wg)))(h0:Deaf t 0=0)(F:c.Wg<w.heap.size):
  Past (fun l=>bq l\/∃a,l= .cell a/\a.block=c.Wg) w.heap.size (t++#[y]):=by
 have hyp:(t++#[y])[t.size]?=some y:=by rw[Array.getElem?_append_right (Nat.le_refl _)];simp
 have x:∀op∈#[y],∀b,op.act.touch?=some b->False:=by
  intro op e b hb
  simp only[List.mem_toArray,List.mem_cons,List.not_mem_nil,or_false] at e
  rw[e,f.2] at hb;cases hb
 have old:∀{i:Nat} {a:Touch},touchAt (t++#[y]) i=some a->touchAt t i=some a/\i<t.size:=by
  intro i a s
  obtain ⟨z,o,A⟩:=touch_of s
  rcases getElem?_append_cases o with ⟨hi,v⟩|⟨_,G⟩
  ·exact ⟨by rw[touchAt_of v];exact A,hi⟩
  ·exact (x z G a A).elim
 have heard:(t++#[y]).heard t.size:=⟨0,by simp[Trace.g?,f.1],by rw[deaf_old (Nat.le_refl _)];exact h0⟩
 have norel:=uh (u:=#[y]) h.norel fun op e=>by
  simp only[List.mem_toArray,List.mem_cons,List.not_mem_nil,or_false] at e
  rw[e,f.2];simp
 have qN:∀g r,gi c t g r->HappensBefore (t++#[y]) r t.size:=fun g r d=>
  .single (.inr ⟨.marked (a:=stA c.Wg) (lt_of_act? d.act) (.inr (by rw[act?_old (lt_of_act? d.act)];exact d.act)) (by rw[act?_of hyp,f.2]) (fun k H _=>norel k (Nat.le_of_lt (Nat.lt_of_le_of_lt d.late H))),(heard_old (lt_of_act? d.act)).2 d.heard,heard⟩)
 have upto:∀g r i,gi c t g r->t.g? i=some g->i<=r->HappensBefore (t++#[y]) i t.size:=fun g r i d hg hle=>by
  have B:=lt_of_act? d.act
  rcases Nat.lt_or_ge i r with n|p
  ·exact .trans (.single (.inl ⟨n,g,by rw[g?_old (Nat.lt_trans n B)];exact hg,by rw[g?_old B];exact d.CJ⟩)) (qN g r d)
  ·obtain rfl:i=r:=by omega
   exact qN g i d
 refine ⟨fun said=>noRace_append (g:=0) (h.nr said) (fun op e=>by simp at e;rw[e];exact f.1) (fun i a _ op e b hb _=>(x op e b hb).elim),fun i a s hm=>?_,fun i g hg I C=>?_,?_,fun op e=>?_⟩
 ·obtain ⟨D,hi⟩:=old s
  rcases h.known i a D hm with z|z|⟨j,m,z⟩
  ·exact .inl (z.app _)
  ·exact .inr ⟨.inl z.1,z.2⟩
  ·obtain ⟨r,d⟩:=d j m
   rcases Nat.lt_or_ge r i with n|p
   ·obtain ⟨h1,_,h2⟩:=d.after i a n z D
    exact .inr ⟨.inr h2,h1⟩
   ·exact .inl ⟨t.size,y,hyp,f.1,.inr (upto _ r i d z p)⟩
 ·have J:=C
  obtain ⟨z,o,M,K⟩:=C
  obtain ⟨v,hi⟩:=old (show touchAt _ i=some z from o)
  rcases h.over i g (by rw[<-g?_old (u:=#[y]) hi];exact hg) I ((counts_old hi).1 J) with ⟨j,m,y'⟩|⟨j,m,y'⟩
  ·have L:j<t.size:=by
    unfold Trace.g? at m
    obtain ⟨z,o,_⟩:=Option.map_eq_some_iff.1 m
    exact lt_size_of_getElem? o
   exact ⟨j,by rw[g?_old L];exact m,hb_app _ y'⟩
  ·obtain ⟨r,d⟩:=d j m
   have E:t.g? i=some (c.base+j):=by rw[<-g?_old (u:=#[y]) hi,hg,y']
   rcases Nat.lt_or_ge r i with n|p
   ·obtain ⟨h1,h2,_⟩:=d.after i z n E v
    rcases K with q|q
    ·exact absurd h1 q
    ·exact absurd ((heard_old hi).1 q) h2
   ·exact ⟨t.size,by simp[Trace.g?,f.1],upto _ r i d E p⟩
 ·rw[Deaf_push]
  simp only[deafStep,f.2]
  exact h0
 ·rcases Array.mem_append.1 e with z|z
  ·exact h.low op z
  ·simp only[List.mem_toArray,List.mem_cons,List.not_mem_nil,or_false] at z
   rw[z,f.2];exact F
end
end Go.Sep
end
section
namespace Go.Sep
open Go Go.Conc
open Go.ConcN (sumTo upd upd_ne upd_same sumTo_congr)
open Go.ConcM (MuAt muA msA muBlock OsLater)
open Go.ConcR (WgAt wgBlock stA smA)
def cC (m:Mark):Event:=⟨.mark m,false,true⟩
def cq (c:Cy)(w:World)(s:Sh):Prop:=MuAt c.tM c.Mu w s.mu s.ms/\WgAt c.tW c.Wg w s.wg s.ws/\w.heap[c.Is]?=some (.cells (s.is.map Value.bool).toArray c.tI)
structure ir (c:Cy)(w w':World):Prop where
 tape:w'.tape=w.tape
 output:w'.output=w.output
 size:w'.heap.size=w.heap.size
 os:OsLater w.os w'.os
 block:∀k,¬c.shared k->w'.heap[k]?=w.heap[k]?
theorem ir.refl (c:Cy)(w:World):ir c w w:=⟨rfl,rfl,rfl,.refl _,fun _ _=>rfl⟩
inductive EvA (c:Cy)(i:Nat)(ph aI:Ph)(es:Array Event):Prop
 |book (h:∀e∈es,e=cC .disable\/e=cC .enable\/∃a x,e=⟨.cell a,x,true⟩/\(a.block=c.Wg\/(a.block=c.Mu/\ph.gp= .cnt))) (hd:deafBehind ph.deaf es=aI.deaf)
   (ht:∀j e,es[j]?=some e->(MemAct.ofEvent e).touch?=none\/0<deafBehind ph.deaf (es.extract 0 j)) (hg:aI.gp= .cnt↔ph.gp= .cnt)
 |word (m:Mark) (he:es=#[cC m]) (hm:m= .acquire (muA c.Mu)\/m= .releaseMerge (muA c.Mu)) (hd:aI.deaf=ph.deaf) (hg:aI.gp= .cnt/\ph.gp= .cnt)
 |store (he:es=#[⟨.cell ⟨c.Is,i,none⟩,true,false⟩]) (hd:aI.deaf=ph.deaf) (hg:aI.gp= .cnt/\ph.gp= .cnt)
 |rel (he:es=#[cC (.releaseMerge (stA c.Wg))]) (hd:ph.deaf=0/\aI.deaf=0) (hg:ph.gp= .cnt)
def iK (c:Cy)(i:Nat):Rk->Goroutine->af->Ph->Prop
 | .mk ι f,g,F,ph=>
  (ph.gp= .gone/\∃q,Rk.mk ι f=Rk.nat q/\QuitsD c.P q ph.deaf g)\/
  (g.status= .running/\g.offers=none/\ph.gp= .cnt/\∀w,Has F w->∃(x:ι) (g':Goroutine) (w':World) (es:Array Event) (F':af),
   stepG c.P false g w= .go g' w' es/\dK F F' w w'/\Has F' w'/\(∀e∈es,iQ F.ro (gX F w.heap.size w'.heap.size) e)/\iK c i (f x) g' F' ph)\/
  (g.status= .running/\g.offers=none/\ph.gp≠ .gone/\∀(w:World) (s:Sh) (k:Nat) (φ:Nat->Ph) (p0:P0),Has F w->cq c w s->i<c.n->φ i=ph->Inv c.n c.bs k φ p0 s->
   (ph.mp.iH=true/\s.ms=0/\stepG c.P false g w= .go {g with status:=.blocked} w #[])\/
   (∃(x:ι) (g':Goroutine) (w':World) (es:Array Event) (s':Sh) (aI:Ph) (F':af),stepG c.P false g w= .go g' w' es/\cq c w' s'/\ir c w w'/\Inv c.n c.bs k (upd φ i aI) p0 s'/\EvA c i ph aI es/\
    (mayWake c.P g=true\/(s'.ms<=s.ms/\s'.ws<=s.ws))/\Le F' F/\iK c i (f x) g' F' aI))
def Wk (c:Cy)(i:Nat)(ph:Ph)(g:Goroutine)(F:af):Prop:=∃F0 r,Le F0 F/\iK c i r g F0 ph
theorem Wk.mono {c:Cy}{i:Nat}{ph:Ph}{g:Goroutine}{F F':af}(hle:Le F F')(h:Wk c i ph g F):Wk c i ph g F':=
 let ⟨F0,r,h1,h2⟩:=h;⟨F0,r,h1.trans hle,h2⟩
theorem Wk.closed (c:Cy)(i:Nat)(ph:Ph)(hg:ph.gp= .cnt):Closed c.P false (fun g F=>Wk c i ph g F) where
 mono hle h:=h.mono hle
 step {fr cs F} h:=by
  classical
  let Q:World->Rk->Prop:=fun w r=>∃(g':Goroutine) (w':World) (es:Array Event) (F':af),
   stepG c.P false (G fr cs) w= .go g' w' es/\dK F F' w w'/\Has F' w'/\(∀e∈es,iQ F.ro (gX F w.heap.size w'.heap.size) e)/\iK c i r g' F' ph
  refine ⟨F,.mk World fun w=>if d:∃r,Q w r then Classical.choose d else Rk.nat 0,.refl F,?_⟩
  refine .inr (.inl ⟨rfl,rfl,hg,fun w hw=>?_⟩)
  obtain ⟨g',w',es,F',h1,h2,h3,j,F0,r,f,k⟩:=h w hw
  have d:∃r,Q w r:=⟨r,g',w',es,F0,h1,⟨h2.os,h2.tape,h2.output,h2.size,h2.frame,fun a l=>(f.ro a l).elim (h2.ro a) fun x=>.inr (h2.own _ x),fun b hb=>h2.own b (f.own b hb)⟩,f.has _ h3,j,k⟩
  obtain ⟨g',w',es,F',k1,m,n,o,p⟩:=Classical.choose_spec d
  exact ⟨w,g',w',es,F',k1,m,n,o,by simp only[dif_pos d];exact p⟩
theorem Wk.act {c:Cy}{i:Nat}{ph:Ph}{g:Goroutine}{F:af}(hs:g.status= .running)(o:g.offers=none)(hg:ph.gp≠ .gone)
  (h:∀(w:World) (s:Sh) (k:Nat) (φ:Nat->Ph) (p0:P0),Has F w->cq c w s->i<c.n->φ i=ph->Inv c.n c.bs k φ p0 s->
   (ph.mp.iH=true/\s.ms=0/\stepG c.P false g w= .go {g with status:=.blocked} w #[])\/
   (∃(g':Goroutine) (w':World) (es:Array Event) (s':Sh) (aI:Ph),stepG c.P false g w= .go g' w' es/\cq c w' s'/\ir c w w'/\Inv c.n c.bs k (upd φ i aI) p0 s'/\EvA c i ph aI es/\
    (mayWake c.P g=true\/(s'.ms<=s.ms/\s'.ws<=s.ws))/\Wk c i aI g' F)):Wk c i ph g F:=by
 classical
 let Q:World×Sh×Nat×(Nat->Ph)×P0->Rk->Prop:=fun y r=>∃(g':Goroutine) (w':World) (es:Array Event) (s':Sh) (aI:Ph) (F':af),stepG c.P false g y.1= .go g' w' es/\cq c w' s'/\ir c y.1 w'/\Inv c.n c.bs y.2.2.1 (upd y.2.2.2.1 i aI) y.2.2.2.2 s'/\EvA c i ph aI es/\
    (mayWake c.P g=true\/(s'.ms<=y.2.1.ms/\s'.ws<=y.2.1.ws))/\Le F' F/\iK c i r g' F' aI
 refine ⟨F,.mk (World×Sh×Nat×(Nat->Ph)×P0) fun y=>if a:∃r,Q y r then Classical.choose a else Rk.nat 0,.refl F,?_⟩
 refine .inr (.inr ⟨hs,o,hg,fun w s k φ p0 h1 h2 h3 p q=>?_⟩)
 rcases h w s k φ p0 h1 h2 h3 p q with x|⟨g',w',es,s',aI,k1,b,d,e,f,j,F',r,l,m⟩
 ·exact .inl x
 ·have a:∃r,Q (w,s,k,φ,p0) r:=⟨r,g',w',es,s',aI,F',k1,b,d,e,f,j,l,m⟩
  obtain ⟨g',w',es,s',aI,F',k1,b,d,e,f,j,l,m⟩:=Classical.choose_spec a
  exact .inr ⟨(w,s,k,φ,p0),g',w',es,s',aI,F',k1,b,d,e,f,j,l,by simp only[dif_pos a];exact m⟩
theorem Wk.gone {c:Cy}{i:Nat}{ph:Ph}{g:Goroutine}{F:af}{q:Nat}(hg:ph.gp= .gone)(h:QuitsD c.P q ph.deaf g):Wk c i ph g F:=by
 refine ⟨F,Rk.nat q,.refl F,?_⟩
 cases q with
 |zero=>exact .inl ⟨hg,0,rfl,h⟩
 |succ q=>exact .inl ⟨hg,q+1,rfl,h⟩
structure dg (c:Cy)(B0:Nat)(F F':af)(w w':World):Prop where
 os:OsLater w.os w'.os
 tape:w'.tape=w.tape
 output:w'.output=w.output
 size:w.heap.size<=w'.heap.size
 frame:∀b,b<B0->b∉keys F.own->¬c.shared b->w'.heap[b]?=w.heap[b]?
 ro:∀a,(F'.ro a).isSome=true->(F.ro a).isSome=true\/a.block∈keys F.own\/B0<=a.block\/c.shared a.block
 own:∀b,b∈keys F'.own->b∈keys F.own\/B0<=b\/c.shared b
theorem dg.refl (c:Cy)(B0:Nat)(F:af)(w:World):dg c B0 F F w w:=⟨.refl _,rfl,rfl,Nat.le_refl _,fun _ _ _ _=>rfl,fun _ h=>.inl h,fun _ h=>.inl h⟩
theorem dg.trans {c:Cy}{B0:Nat}{F G H:af}{u v w:World}(h:dg c B0 F G u v)(k:dg c B0 G H v w):dg c B0 F H u w where
 os:=h.os.trans k.os
 tape:=k.tape.trans h.tape
 output:=k.output.trans h.output
 size:=Nat.le_trans h.size k.size
 frame b hb hn hs:=by
  rw[k.frame b hb (fun d=>(h.own b d).elim hn fun x=>x.elim (fun y=>absurd hb (by omega)) hs) hs]
  exact h.frame b hb hn hs
 ro a x:=by
  rcases k.ro a x with y|y|y
  ·exact h.ro a y
  ·exact .inr (h.own _ y)
  ·exact .inr (.inr y)
 own b hb:=by
  rcases k.own b hb with x|x
  ·exact h.own b x
  ·exact .inr x
theorem dg.le {c:Cy}{B0:Nat}{F G H:af}{w w':World}(h:Le F G)(u:dg c B0 F H w w'):dg c B0 G H w w' where
 os:=u.os
 tape:=u.tape
 output:=u.output
 size:=u.size
 frame b hb hn hs:=u.frame b hb (fun x=>hn (h.own b x)) hs
 ro a x:=by
  rcases u.ro a x with y|y|y
  ·exact (h.ro a y).imp id .inl
  ·exact .inr (.inl (h.own _ y))
  ·exact .inr (.inr y)
 own b hb:=(u.own b hb).imp (h.own b) id
def oX (c:Cy)(i:Nat)(r:Rk)(x:Goroutine)(F:af)(ph:Ph)(s:Sh):Prop:=
 (ph.gp= .gone/\∃q,r=Rk.nat q/\QuitsD c.P q ph.deaf x)\/
 (ph.gp≠ .gone/\iK c i r {x with status:=.running} F ph/\x.offers=none/\(x.status= .running\/(x.status= .blocked/\ph.mp.iH=true/\s.ms=0)))
structure dx (c:Cy)(B0:Nat)(bq:Loc->Prop)(p0:P0)(d0 k:Nat)(g:Goroutine)(Fr:Nat->af)(gs:Array Goroutine)(w:World)(t:Trace)(ρ:Nat->Rk)(φ:Nat->Ph)(s:Sh):Prop where
 size:gs.size=c.base+k
 base:0<c.base
 run:g.status= .running
 off:g.offers=none
 g0:∃x,gs[0]?=some x/\{x with status:=.running}=g/\(x.status= .running\/(x.status= .blocked/\p0= .reg/\s.ws=0))
 old:∀j x,0<j->j<c.base->gs[j]?=some x->∃q,ρ j=Rk.nat q/\QuitsD c.P q (Deaf t j) x
 wk:∀i,i<k->∃x,gs[c.base+i]?=some x/\oX c i (ρ (c.base+i)) x (Fr (i+1)) (φ i) s
 deaf:∀i,i<k->Deaf t (c.base+i)=(φ i).deaf
 above:∀j,gs.size<=j->Deaf t j=0
 deaf0:Deaf t 0=d0
 parts:dw c k Fr w
 sh:cq c w s
 inv:Inv c.n c.bs k φ p0 s
 gU:ei c bq k Fr w.heap.size t
 rel:∀i,i<k->(φ i).gp≠ .cnt->∃r,gi c t (c.base+i) r
 apart:∀l,bq l->¬(Fr 0).gG l
 low:∀l,bq l->l.low B0
 jr:∀i,i<k->∀b∈keys (Fr (i+1)).own,B0<=b
 js:B0<=w.heap.size
 ne:c.Mu≠c.Wg/\c.Mu≠c.Is/\c.Wg≠c.Is
section
variable {c : Cy} {B0 : Nat} {bq : Loc → Prop} {p0 : P0} {d0 k : Nat} {g : Goroutine} {Fr : Nat → af} {gs : Array Goroutine} {w : World} {t : Trace} {ρ : Nat → Rk} {φ : Nat → Ph} {s : Sh}
theorem Inv.CR (h:Inv c.n c.bs k φ p0 s):0<=s.ms:=by
 obtain ⟨C,S,W,L,m,hm⟩:=h.m
 have:=hm.cnt
 omega
theorem Inv.JE (h:Inv c.n c.bs k φ p0 s):0<=s.ws:=by
 have:=h.w.inv
 cases p0<;>simp only at this<;>omega
theorem oX.woken {i:Nat}{r:Rk}{x:Goroutine}{F:af}{ph:Ph}{s s':Sh}(h:oX c i r x F ph s){y y':Goroutine}{w':World}(h0:0<=s'.ms)
  (hw:(mayWake c.P y=true/\y'.status≠ .blocked/\y'.status≠ .waiting)\/s'.ms<=s.ms):oX c i r (woken c.P y y' w' x) F ph s':=by
 rcases h with ⟨hg,q,l,hq⟩|⟨hg,f,e,m⟩
 ·exact .inl ⟨hg,q,l,by rw[woken_quitsD hq];exact hq⟩
 ·rcases m with j|⟨k,n,p⟩
  ·rw[woken_run j];exact .inr ⟨hg,f,e,.inl j⟩
  ·have o:x.again w'={x with status:=.running}:=by
    unfold Goroutine.again
    simp only[k,e]
   by_cases g:(mayWake c.P y&&y'.status != .blocked&&y'.status != .waiting)=true
   ·have:Go.Conc.woken c.P y y' w' x={x with status:=.running}:=by unfold Go.Conc.woken;rw[if_pos g,o]
    rw[this]
    exact .inr ⟨hg,f,e,.inl rfl⟩
   ·have:Go.Conc.woken c.P y y' w' x=x:=by unfold Go.Conc.woken;rw[if_neg g]
    rw[this]
    refine .inr ⟨hg,f,e,.inr ⟨k,n,?_⟩⟩
    rcases hw with ⟨a,b,d⟩|hw
    ·simp[a,b,d] at g
    ·omega
theorem JG {x:Goroutine}{s s':Sh}(h:x.offers=none)(i:x.status= .running\/(x.status= .blocked/\p0= .reg/\s.ws=0)){y y':Goroutine}{w':World}(h0:0<=s'.ws)
  (hw:(mayWake c.P y=true/\y'.status≠ .blocked/\y'.status≠ .waiting)\/s'.ws<=s.ws):
  {woken c.P y y' w' x with status:=.running}=({x with status:=.running}:Goroutine)/\((woken c.P y y' w' x).status= .running\/((woken c.P y y' w' x).status= .blocked/\p0= .reg/\s'.ws=0)):=by
 rcases i with f|⟨g,hp,k⟩
 ·rw[woken_run f];exact ⟨rfl,.inl f⟩
 ·have j:x.again w'={x with status:=.running}:=by
   unfold Goroutine.again
   simp only[g,h]
  by_cases e:(mayWake c.P y&&y'.status != .blocked&&y'.status != .waiting)=true
  ·have:Go.Conc.woken c.P y y' w' x={x with status:=.running}:=by unfold Go.Conc.woken;rw[if_pos e,j]
   rw[this]
   exact ⟨rfl,.inl rfl⟩
  ·have:Go.Conc.woken c.P y y' w' x=x:=by unfold Go.Conc.woken;rw[if_neg e]
   rw[this]
   refine ⟨rfl,.inr ⟨g,hp,?_⟩⟩
   rcases hw with ⟨a,b,d⟩|hw
   ·simp[a,b,d] at e
   ·omega
theorem dx.jV (h:dx c B0 bq p0 d0 k g Fr gs w t ρ φ s){j:Nat}{x f:Goroutine}{w':World}{es:Array Event}{fn:FuncId}{pos:String}{ρ':Nat->Rk}{φ':Nat->Ph}{cP:Nat->af}{s':Sh}(U:0<j)(E:gs[j]?=some x)
  (A:(mayWake c.P x=true/\f.status≠ .blocked/\f.status≠ .waiting)\/(s'.ms<=s.ms/\s'.ws<=s.ws))
  (B:∀a,a≠j->ρ' a=ρ a) (v:∀i,c.base+i≠j->φ' i=φ i) (C:∀i,c.base+i≠j->cP (i+1)=Fr (i+1)) (F:cP 0=Fr 0)
  (hold:j<c.base->∃q,ρ' j=Rk.nat q/\QuitsD c.P q (Deaf (t++MemOp.ofEvents j fn pos es) j) f)
  (p:∀i,j=c.base+i->i<k->oX c i (ρ' j) f (cP (i+1)) (φ' i) s'/\Deaf (t++MemOp.ofEvents j fn pos es) j=(φ' i).deaf/\((φ' i).gp≠ .cnt->∃r,gi c (t++MemOp.ofEvents j fn pos es) j r)/\∀b∈keys (cP (i+1)).own,B0<=b)
  (G:dw c k cP w') (H:cq c w' s') (hinv:Inv c.n c.bs k φ' p0 s') (I:ei c bq k cP w'.heap.size (t++MemOp.ofEvents j fn pos es)) (J:w.heap.size<=w'.heap.size):
  dx c B0 bq p0 d0 k g cP ((gs.map (woken c.P x f w')).setIfInBounds j f) w' (t++MemOp.ofEvents j fn pos es) ρ' φ' s':=by
 have K:j<gs.size:=(Array.getElem?_eq_some_iff.1 E).1
 have hu:∀op∈MemOp.ofEvents j fn pos es,op.g=j:=fun op L=>by obtain ⟨e,_,rfl⟩:=Go.Conc.mem_ofEvents L;rfl
 have other:∀a,a≠j->∀y,((gs.map (woken c.P x f w')).setIfInBounds j f)[a]?=some y->∃z,gs[a]?=some z/\y=woken c.P x f w' z:=fun a d y o=>by
  rw[Array.getElem?_setIfInBounds_ne (Ne.symm d),Array.getElem?_map] at o
  obtain ⟨z,m,rfl⟩:=Option.map_eq_some_iff.1 o
  exact ⟨z,m,rfl⟩
 have at_:∀a z,a≠j->gs[a]?=some z->((gs.map (woken c.P x f w')).setIfInBounds j f)[a]?=some (woken c.P x f w' z):=fun a z d m=>by
  rw[Array.getElem?_setIfInBounds_ne (Ne.symm d),Array.getElem?_map,m];rfl
 have self:((gs.map (woken c.P x f w')).setIfInBounds j f)[j]?=some f:=Array.getElem?_setIfInBounds_self_of_lt (by simpa using K)
 have u:∀a,a≠j->Deaf (t++MemOp.ofEvents j fn pos es) a=Deaf t a:=fun a d=>Deaf_other t (Ne.symm d) _ hu
 have M:(mayWake c.P x=true/\f.status≠ .blocked/\f.status≠ .waiting)\/s'.ms<=s.ms:=A.imp id And.left
 have N:(mayWake c.P x=true/\f.status≠ .blocked/\f.status≠ .waiting)\/s'.ws<=s.ws:=A.imp id And.right
 refine ⟨by simpa using h.size,h.base,h.run,h.off,?_,fun a y h0 hb o=>?_,fun i hi=>?_,fun i hi=>?_,fun a O=>?_,?_,G,H,hinv,I,fun i hi hg=>?_,fun l Q=>by rw[F];exact h.apart l Q,h.low,fun i hi b hb=>?_,Nat.le_trans h.js J,h.ne⟩
 ·obtain ⟨z,m,e,R⟩:=h.g0
  have S:z.offers=none:=by have:=h.off;rw[<-e] at this;exact this
  obtain ⟨h1,h2⟩:=JG (c:=c) (p0:=p0) (s':=s') (y:=x) (y':=f) (w':=w') S R hinv.JE N
  exact ⟨_,at_ 0 z (by omega) m,h1.trans e,h2⟩
 ·by_cases d:a=j
  ·subst d
   rw[self] at o
   cases o
   exact hold hb
  ·obtain ⟨z,m,rfl⟩:=other a d y o
   obtain ⟨q,hq,D⟩:=h.old a z h0 hb m
   exact ⟨q,by rw[B a d];exact hq,by rw[woken_quitsD D,u a d];exact D⟩
 ·by_cases d:c.base+i=j
  ·subst d
   exact ⟨f,self,(p i rfl hi).1⟩
  ·obtain ⟨z,m,hW⟩:=h.wk i hi
   refine ⟨_,at_ _ z d m,?_⟩
   rw[B _ d,v i d,C i d]
   exact hW.woken hinv.CR M
 ·by_cases d:c.base+i=j
  ·subst d;exact (p i rfl hi).2.1
  ·rw[u _ d,v i d];exact h.deaf i hi
 ·have:gs.size<=a:=by simpa using O
  rw[u a (by omega)]
  exact h.above a this
 ·rw[u 0 (by omega)];exact h.deaf0
 ·by_cases d:c.base+i=j
  ·subst d;exact (p i rfl hi).2.2.1 hg
  ·rw[v i d] at hg
   obtain ⟨r,T⟩:=h.rel i hi hg
   exact ⟨r,T.other (Ne.symm d) hu⟩
 ·by_cases d:c.base+i=j
  ·exact (p i d.symm hi).2.2.2 b hb
  ·rw[C i d] at hb;exact h.jr i hi b hb
end
end Go.Sep
end
section
namespace Go.Sep
open Go Go.Conc
open Go.ConcN (sumTo upd upd_ne upd_same sumTo_congr sumTo_upd)
open Go.ConcM (MuAt muA msA muBlock OsLater)
open Go.ConcR (WgAt wgBlock stA smA)
def lY (x:Option Goroutine):Nat:=match x with
 |some x=>if x.status= .running then 1 else 0
 |none=>0
def runs (gs:Array Goroutine):Nat:=sumTo gs.size fun j=>lY gs[j]?
theorem CS {gs:Array Goroutine}{j:Nat}{x y:Goroutine}(c:gs[j]?=some x)(f:x.status= .running)(g:y.status≠ .running):runs (gs.setIfInBounds j y)<runs gs:=by
 have d:j<gs.size:=(Array.getElem?_eq_some_iff.1 c).1
 have h:=sumTo_upd (fun a=>lY gs[a]?) (0:Nat) id d
 simp only[id] at h
 have e:runs (gs.setIfInBounds j y)=sumTo gs.size (upd (fun a=>lY gs[a]?) j 0):=by
  unfold runs
  rw[Array.size_setIfInBounds]
  refine sumTo_congr fun a i=>?_
  by_cases b:a=j
  ·subst b
   rw[upd_same,Array.getElem?_setIfInBounds_self_of_lt d]
   simp[lY,g]
  ·rw[upd_ne _ _ b,Array.getElem?_setIfInBounds_ne (Ne.symm b)]
 have h1:lY gs[j]?=1:=by rw[c];simp[lY,f]
 rw[e]
 unfold runs
 simp only[h1] at h
 have:sumTo gs.size (fun a=>upd (fun a=>lY gs[a]?) j 0 a)=sumTo gs.size (upd (fun a=>lY gs[a]?) j 0):=rfl
 omega
theorem iK.up {c:Cy}{i:Nat}{r:Rk}{g:Goroutine}{F:af}{ph:Ph}(h:iK c i r g F ph)(hg:ph.gp≠ .gone):g.status= .running/\g.offers=none:=by
 cases r with
 |mk ι f=>
  rcases h with h|h|h
  ·exact absurd h.1 hg
  ·exact ⟨h.1,h.2.1⟩
  ·exact ⟨h.1,h.2.1⟩
theorem iK.left {c:Cy}{i:Nat}{r:Rk}{g:Goroutine}{F:af}{ph:Ph}(h:iK c i r g F ph)(hg:ph.gp= .gone):∃q,r=Rk.nat q/\QuitsD c.P q ph.deaf g:=by
 cases r with
 |mk ι f=>
  rcases h with h|h|h
  ·exact h.2
  ·rw[hg] at h;cases h.2.2.1
  ·exact absurd hg h.2.2.1
theorem iK.yq {c:Cy}{i:Nat}{r:Rk}{g:Goroutine}{F:af}{ph:Ph}(h:iK c i r g F ph)(s:Sh):oX c i r g F ph s/\g.status≠ .blocked/\g.status≠ .waiting:=by
 by_cases hg:ph.gp= .gone
 ·obtain ⟨q,a,hq⟩:=h.left hg
  refine ⟨.inl ⟨hg,q,a,hq⟩,?_,?_⟩<;>rcases hq.status with e|e<;>rw[e]<;>simp
 ·obtain ⟨h1,h2⟩:=h.up hg
  refine ⟨.inr ⟨hg,?_,h2,.inl h1⟩,by rw[h1];simp,by rw[h1];simp⟩
  have:({g with status:=.running}:Goroutine)=g:=by cases g;simp_all
  rw[this];exact h
section
variable {c : Cy} {B0 : Nat} {bq : Loc → Prop} {p0 : P0} {d0 k : Nat} {g : Goroutine} {Fr : Nat → af} {gs : Array Goroutine} {w : World} {t u : Trace} {ρ : Nat → Rk} {φ : Nat → Ph} {s : Sh}
theorem ei.still {B:Nat}(h:ei c bq k Fr B t)(hn:∀op∈u,op.act.touch?=none)(e:∀op∈u,op.act.low B)(s:∀op∈u,op.act≠ .mark (.release (stA c.Wg))){gg:Nat}(hu:∀op∈u,op.g=gg):ei c bq k Fr B (t++u):=by
 have f:∀op∈u,∀b,op.act.touch?=some b->False:=fun op d b hb=>by rw[hn op d] at hb;cases hb
 have old:∀{i:Nat} {a:Touch},touchAt (t++u) i=some a->touchAt t i=some a/\i<t.size:=by
  intro i a o
  obtain ⟨z,m,p⟩:=touch_of o
  rcases getElem?_append_cases m with ⟨hi,v⟩|⟨_,w⟩
  ·exact ⟨by rw[touchAt_of v];exact p,hi⟩
  ·exact (f z w a p).elim
 refine ⟨by have:=h.len;simp;omega,CQ h.quiet fun op d b hb _=>(f op d b hb).elim,fun said=>noRace_append (g:=gg) (h.nr said) hu fun i a _ op d b hb _=>(f op d b hb).elim,fun q hq l e=>(h.own q hq l e).app fun op d b hb _=>(f op d b hb).elim,fun q hq l e=>(h.ro q hq l e).app fun op d b hb _ _=>(f op d b hb).elim,
  fun i hi l e=>(h.ua i hi l e).app fun op d b hb _=>(f op d b hb).elim,fun i hi l e=>(h.uf i hi l e).app fun op d b hb _=>(f op d b hb).elim,fun op d=>(Array.mem_append.1 d).elim (h.low op) (e op),uh h.norel s,fun i a o hm=>?_,fun i g hg x r=>?_⟩
 ·obtain ⟨y,hi⟩:=old o
  rcases h.known i a y hm with z|z|⟨j,n,z⟩
  ·exact .inl (z.app _)
  ·exact .inr (.inl z)
  ·exact .inr (.inr ⟨j,n,by rw[g?_old hi];exact z⟩)
 ·have A:=r
  obtain ⟨z,m,_⟩:=r
  obtain ⟨_,hi⟩:=old (show touchAt _ i=some z from m)
  rcases h.over i g (by rw[<-g?_old (u:=u) hi];exact hg) x ((counts_old hi).1 A) with ⟨j,n,y'⟩|y'
  ·have C:j<t.size:=by
    unfold Trace.g? at n
    obtain ⟨z,m,_⟩:=Option.map_eq_some_iff.1 n
    exact lt_size_of_getElem? m
   exact .inl ⟨j,by rw[g?_old C];exact n,hb_app _ y'⟩
  ·exact .inr y'
theorem ei.mute {B:Nat}(h:ei c bq k Fr B t){j:Nat}{fn:FuncId}{pos:String}{es:Array Event}(hm:∀e∈es,e.mute=true):ei c bq k Fr B (t++MemOp.ofEvents j fn pos es):=by
 refine h.still (gg:=j) (fun op a=>?_) (fun op a=>?_) (fun op a=>?_) (fun op a=>?_)<;>obtain ⟨e,he,rfl⟩:=Go.Conc.mem_ofEvents a
 ·exact touch_mute (hm e he)
 ·exact low_mute (hm e he) B
 ·have:=hm e he
  obtain ⟨loc,wr,sy⟩:=e
  cases loc with
  |mark m=>cases m<;>simp_all [Event.mute,MemAct.ofEvent]
  |_=>simp_all [Event.mute]
 ·rfl
theorem Inv.deaf {n:Nat}{bs:Nat->Bool}(h:Inv n bs k φ p0 s){i:Nat}(hi:i<n)(hg:(φ i).gp≠ .new)(d:Nat):Inv n bs k (upd φ i {φ i with deaf:=d}) p0 s:=by
 obtain ⟨C,S,W,L,m,hm⟩:=h.m
 refine ⟨⟨C,S,W,L,m,nk hm hi _ (.inl rfl)⟩,tZ h.w hi _ (.inl rfl),h.i.len,h.i.kn,fun j a=>?_,fun j a=>?_,fun j a hn=>?_,fun j a h1 h2=>?_⟩<;>by_cases e:j=i
 ·subst e;rw[upd_same];exact h.i.all j a
 ·rw[upd_ne _ _ e];exact h.i.all j a
 ·subst e;rw[upd_same];exact h.i.born j a
 ·rw[upd_ne _ _ e];exact h.i.born j a
 ·subst e;rw[upd_same] at hn;exact absurd hn hg
 ·rw[upd_ne _ _ e] at hn ⊢;exact h.i.new j a hn
 ·subst e;rw[upd_same] at h1 h2 ⊢;exact h.i.done j a h1 h2
 ·rw[upd_ne _ _ e] at h1 h2 ⊢;exact h.i.done j a h1 h2
theorem cq.keep {w w':World}(h:cq c w s)(he:∀b,c.shared b->w'.heap[b]?=w.heap[b]?):cq c w' s:=by
 obtain ⟨h1,h2,h3⟩:=h
 refine ⟨?_,?_,?_⟩
 ·unfold MuAt at*;rw[he _ (.inl rfl)];exact h1
 ·unfold WgAt at*;rw[he _ (.inr (.inl rfl))];exact h2
 ·rw[he _ (.inr (.inr rfl))];exact h3
theorem dw.walk (h:dw c k Fr w){p:Nat}(hp:p<=k){F':af}{w':World}(hu:dK (Fr p) F' w w')(n:Has F' w'):dw c k (upd Fr p F') w':=by
 have keep:∀b,b<w.heap.size->b∉keys (Fr p).own->w'.heap[b]?=w.heap[b]?:=hu.frame
 have i:∀q,q≠p->(upd Fr p F') q=Fr q:=fun q hq=>upd_ne _ _ hq
 have self:(upd Fr p F') p=F':=upd_same _ _ _
 refine ⟨fun q hq=>?_,fun q r hq d g b hb j=>?_,fun q r hq d g a f hb=>?_,fun q hq b hb hs=>?_,fun q hq a f hs=>?_,fun b hb=>Nat.lt_of_lt_of_le (h.gD b hb) hu.size⟩
 ·by_cases e:q=p
  ·subst e;rw[self];exact n
  ·rw[i q e]
   have l:=h.has q hq
   exact ⟨fun a v d=>by
    have:=l.ro a v d
    unfold World.cell? at this ⊢
    rw[keep _ (l.gY (a:=a) (by rw[d];rfl)) (fun hm=>h.ro q p hq hp e a (by rw[d];rfl) hm)]
    exact this,fun b o hb=>by rw[keep b (l.lt (eW hb)) (fun hm=>h.own q p hq hp e b (eW hb) hm)];exact l.own b o hb,l.nodup,l.apart⟩
 ·by_cases eq:q=p
  ·subst eq
   rw[self] at hb
   rw[i r (Ne.symm g)] at j
   rcases hu.own b hb with x|x
   ·exact h.own q r hq d g b x j
   ·have:=(h.has r d).lt j;omega
  ·rw[i q eq] at hb
   by_cases m:r=p
   ·subst m
    rw[self] at j
    rcases hu.own b j with x|x
    ·exact h.own q r hq d g b hb x
    ·have:=(h.has q hq).lt hb;omega
   ·rw[i r m] at j
    exact h.own q r hq d g b hb j
 ·by_cases eq:q=p
  ·subst eq
   rw[self] at f
   rw[i r (Ne.symm g)] at hb
   rcases hu.ro a f with x|x|x
   ·exact h.ro q r hq d g a x hb
   ·exact h.own q r hq d g _ x hb
   ·have:=(h.has r d).lt hb;omega
  ·rw[i q eq] at f
   by_cases m:r=p
   ·subst m
    rw[self] at hb
    rcases hu.own _ hb with x|x
    ·exact h.ro q r hq d g a f x
    ·have:=(h.has q hq).gY f;omega
   ·rw[i r m] at hb
    exact h.ro q r hq d g a f hb
 ·by_cases e:q=p
  ·subst e
   rw[self] at hb
   rcases hu.own b hb with x|x
   ·exact h.gS q hq b x hs
   ·have:=h.gD b hs;omega
  ·rw[i q e] at hb
   exact h.gS q hq b hb hs
 ·by_cases e:q=p
  ·subst e
   rw[self] at f
   rcases hu.ro a f with x|x|x
   ·exact h.jq q hq a x hs
   ·exact h.gS q hq _ x hs
   ·have:=h.gD _ hs;omega
  ·rw[i q e] at f
   exact h.jq q hq a f hs
theorem dw.act (h:dw c k Fr w){p:Nat}(hp:p<=k){F':af}{w':World}(he:ir c w w')(hle:Le F' (Fr p)):dw c k (upd Fr p F') w':=by
 have m:∀q,q<=k->Has (Fr q) w':=fun q hq=>by
  have i:=h.has q hq
  exact ⟨fun a v f=>by
   have:=i.ro a v f
   unfold World.cell? at this ⊢
   rw[he.block _ (h.jq q hq a (by rw[f];rfl))]
   exact this,fun b o hb=>by rw[he.block b (h.gS q hq b (eW hb))];exact i.own b o hb,i.nodup,i.apart⟩
 have l:∀q,q≠p->(upd Fr p F') q=Fr q:=fun q hq=>upd_ne _ _ hq
 have self:(upd Fr p F') p=F':=upd_same _ _ _
 have g:∀q b,b∈keys ((upd Fr p F') q).own->b∈keys (Fr q).own:=fun q b hb=>by
  by_cases e:q=p
  ·subst e;rw[self] at hb;exact hle.own b hb
  ·rw[l q e] at hb;exact hb
 have n:∀q a,(((upd Fr p F') q).ro a).isSome=true->((Fr q).ro a).isSome=true\/a.block∈keys (Fr q).own:=fun q a d=>by
  by_cases e:q=p
  ·subst e;rw[self] at d;exact hle.ro a d
  ·rw[l q e] at d;exact .inl d
 refine ⟨fun q hq=>?_,fun q r hq f j b hb s=>h.own q r hq f j b (g q b hb) (g r b s),fun q r hq f j a d hb=>(n q a d).elim (fun x=>h.ro q r hq f j a x (g r _ hb)) (fun x=>h.own q r hq f j _ x (g r _ hb)),
  fun q hq b hb hs=>h.gS q hq b (g q b hb) hs,fun q hq a d hs=>(n q a d).elim (fun x=>h.jq q hq a x hs) (fun x=>h.gS q hq _ x hs),fun b hb=>by rw[he.size];exact h.gD b hb⟩
 by_cases e:q=p
 ·subst e;rw[self];exact hle.has _ (m q hq)
 ·rw[l q e];exact m q hq
theorem dw.at (h:dw c k Fr w)(d:Nat):dw c k Fr (w.at d):=⟨fun p hp=>(h.has p hp).at d,h.own,h.ro,h.gS,h.jq,h.gD⟩
theorem dx.at (h:dx c B0 bq p0 d0 k g Fr gs w t ρ φ s)(d:Nat):dx c B0 bq p0 d0 k g Fr gs (w.at d) t ρ φ s:=
 ⟨h.size,h.base,h.run,h.off,h.g0,h.old,h.wk,h.deaf,h.above,h.deaf0,h.parts.at d,h.sh,h.inv,h.gU,h.rel,h.apart,h.low,h.jr,h.js,h.ne⟩
theorem lZ {F:af}{w w':World}(g:Has F w)(h:w.heap.size<=w'.heap.size){e:Event}(he:iQ F.ro (gX F w.heap.size w'.heap.size) e)(p:Nat):
  (∀x,(MemAct.ofEvent e).touch?=some x->ug c F w.heap.size p x)/\(MemAct.ofEvent e).low w'.heap.size/\MemAct.ofEvent e≠ .mark (.release (stA c.Wg))/\e.loc≠ .mark .disable/\e.loc≠ .mark .enable:=by
 have hm:∀b,gX F w.heap.size w'.heap.size b->b<w'.heap.size:=fun b hb=>hb.elim (fun x=>Nat.lt_of_lt_of_le (g.lt x) h) (fun x=>x.2)
 rcases he with ⟨a,wr,rfl,d⟩|⟨r,wr,rfl,d⟩|⟨m,rfl,i⟩
 ·refine ⟨fun x f=>?_,?_,by cases wr<;>simp[MemAct.ofEvent],by simp,by simp⟩
  ·have e1:x=⟨.cell a,wr,.plain⟩:=by cases wr<;>simp[MemAct.ofEvent,MemAct.touch?] at f<;>rw[<-f]
   subst e1
   rcases d with (d|d)|⟨hw,d⟩
   ·exact .inl d
   ·exact .inr (.inl d.1)
   ·exact .inr (.inr (.inl ⟨⟨a,rfl,d⟩,hw⟩))
  ·have:a.block<w'.heap.size:=d.elim (hm _) fun x=>Nat.lt_of_lt_of_le (g.gY x.2) h
   cases wr<;>exact this
 ·refine ⟨fun x f=>?_,?_,by cases wr<;>simp[MemAct.ofEvent],by simp,by simp⟩
  ·have e1:x=⟨.obj r,wr,.plain⟩:=by cases wr<;>simp[MemAct.ofEvent,MemAct.touch?] at f<;>rw[<-f]
   subst e1
   rcases d with d|d
   ·exact .inl d
   ·exact .inr (.inl d.1)
  ·have:=hm _ d
   cases wr<;>exact this
 ·cases m<;>simp[pn] at i<;>exact ⟨fun x d=>by simp[MemAct.ofEvent,MemAct.touch?] at d,trivial,by simp[MemAct.ofEvent],by simp,by simp⟩
theorem JH {i:Nat}{ph aI:Ph}{es:Array Event}(h:EvA c i ph aI es)(F:af)(B:Nat)(f:∀b,c.shared b->b<B):∀e∈es,
  (∀x,(MemAct.ofEvent e).touch?=some x->ug c F B (i+1) x)/\(MemAct.ofEvent e).low B/\MemAct.ofEvent e≠ .mark (.release (stA c.Wg)):=by
 intro e he
 cases h with
 |book h hd ht hg=>
  rcases h e he with rfl|rfl|⟨a,x,rfl,k⟩
  ·exact ⟨fun x d=>by simp[cC,MemAct.ofEvent,MemAct.touch?] at d,trivial,by simp[cC,MemAct.ofEvent]⟩
  ·exact ⟨fun x d=>by simp[cC,MemAct.ofEvent,MemAct.touch?] at d,trivial,by simp[cC,MemAct.ofEvent]⟩
  ·refine ⟨fun y g=>?_,?_,by cases x<;>simp[MemAct.ofEvent]⟩
   ·have:y=⟨.cell a,x,.atomic⟩:=by cases x<;>simp[MemAct.ofEvent,MemAct.touch?] at g<;>rw[<-g]
    subst this
    exact .inr (.inr (.inr (.inl ⟨⟨a,rfl,k.elim .inr fun z=>.inl z.1⟩,by simp,by simp⟩)))
   ·have:a.block<B:=f _ (k.elim (fun z=>.inr (.inl z)) fun z=>.inl z.1)
    cases x<;>exact this
 |word m j hm hd hg=>
  rw[j] at he
  simp only[List.mem_toArray,List.mem_singleton] at he
  subst he
  rcases hm with rfl|rfl
  ·exact ⟨fun x d=>by simp[cC,MemAct.ofEvent,MemAct.touch?] at d,f _ (.inl rfl),by simp[cC,MemAct.ofEvent]⟩
  ·exact ⟨fun x d=>by simp[cC,MemAct.ofEvent,MemAct.touch?] at d,f _ (.inl rfl),by simp[cC,MemAct.ofEvent]⟩
 |store j hd hg=>
  rw[j] at he
  simp only[List.mem_toArray,List.mem_singleton] at he
  subst he
  refine ⟨fun y g=>?_,f _ (.inr (.inr rfl)),by simp[MemAct.ofEvent]⟩
  have:y=⟨.cell ⟨c.Is,i,none⟩,true,.plain⟩:=by simp[MemAct.ofEvent,MemAct.touch?] at g;rw[<-g]
  subst this
  exact .inr (.inr (.inr (.inr (.inl ⟨i,rfl,rfl⟩))))
 |rel j hd hg=>
  rw[j] at he
  simp only[List.mem_toArray,List.mem_singleton] at he
  subst he
  exact ⟨fun x d=>by simp[cC,MemAct.ofEvent,MemAct.touch?] at d,f _ (.inr (.inl rfl)),by simp[cC,MemAct.ofEvent]⟩
theorem JI {i:Nat}{ph aI:Ph}{es:Array Event}(h:EvA c i ph aI es):deafBehind ph.deaf es=aI.deaf:=by
 cases h with
 |book h hd ht hg=>exact hd
 |word m a hm hd hg=>rw[a,hd];rcases hm with rfl|rfl<;>simp[cC,deafBehind]
 |store a hd hg=>rw[a,hd];simp[deafBehind]
 |rel a hd hg=>rw[a,hd.2,hd.1];simp[cC,deafBehind]
theorem JJ (d:Nat)(es:Array Event)(n:Nat)(h:n<=es.size){fn:FuncId}{pos:String}{j:Nat}(t:Trace)(hd:Deaf t j=d):(t++MemOp.ofEvents j fn pos es).deaf j (t.size+n)=deafBehind d (es.extract 0 n):=by
 have e1:es=es.extract 0 n++es.extract n es.size:=by simp[Array.extract_append_extract,h]
 have e2:MemOp.ofEvents j fn pos es=MemOp.ofEvents j fn pos (es.extract 0 n)++MemOp.ofEvents j fn pos (es.extract n es.size):=by
  rw[Go.Conc.ofEvents_eq,Go.Conc.ofEvents_eq,Go.Conc.ofEvents_eq,<-Array.map_append,<-e1]
 rw[e2,<-Array.append_assoc]
 have hs:(t++MemOp.ofEvents j fn pos (es.extract 0 n)).size=t.size+n:=by rw[Go.Conc.ofEvents_eq];simp;omega
 rw[<-hs,deaf_old (Nat.le_refl _)]
 have:=Deaf_own t j fn pos (es.extract 0 n)
 unfold Deaf at this
 rw[this]
 exact congrArg (fun d=>deafBehind d _) hd
theorem JK {i j:Nat}{ph aI:Ph}{es:Array Event}{fn:FuncId}{pos:String}(hlen:c.T0<=t.size)(h:EvA c i ph aI es)(hd:Deaf t j=ph.deaf)(k:ph.gp≠ .cnt->∃r,gi c t j r)(l:aI.gp≠ .cnt):∃r,gi c (t++MemOp.ofEvents j fn pos es) j r:=by
 cases h with
 |book h d ht hg=>
  have o:ph.gp≠ .cnt:=fun e=>l (hg.2 e)
  obtain ⟨r,k⟩:=k o
  refine ⟨r,k.app fun idx x hi p n=>?_⟩
  obtain ⟨z,f,b⟩:=touch_of n
  have s:(MemOp.ofEvents j fn pos es)[idx - t.size]?=some z:=by rw[Array.getElem?_append_right hi] at f;exact f
  rw[Go.Conc.ofEvents_eq,Array.getElem?_map] at s
  obtain ⟨e,he,rfl⟩:=Option.map_eq_some_iff.1 s
  have u:idx - t.size<es.size:=(Array.getElem?_eq_some_iff.1 he).1
  rcases ht _ e he with q|q
  ·simp only at b;rw[q] at b;cases b
  rcases h e (Array.mem_of_getElem? he) with rfl|rfl|⟨a,y,rfl,v⟩
  ·simp[cC,MemAct.ofEvent,MemAct.touch?] at b
  ·simp[cC,MemAct.ofEvent,MemAct.touch?] at b
  ·have:x=⟨.cell a,y,.atomic⟩:=by cases y<;>simp[MemAct.ofEvent,MemAct.touch?] at b<;>rw[<-b]
   subst this
   refine ⟨rfl,?_,a,rfl,v.resolve_right fun z=>o z.2⟩
   rintro ⟨g,hg,w⟩
   have A:g=j:=by rw[p] at hg;exact (Option.some.inj hg).symm
   subst A
   have e1:idx=t.size+(idx - t.size):=by omega
   rw[e1,JJ ph.deaf es (idx - t.size) (Nat.le_of_lt u) t hd] at w
   omega
 |word m he hm d hg=>exact absurd hg.1 l
 |store he d hg=>exact absurd hg.1 l
 |rel he d hg=>
  refine ⟨t.size,?_⟩
  have B:MemOp.ofEvents j fn pos es=#[{g:=j,fn:=fn,pos:=pos,act:=.mark (.releaseMerge (stA c.Wg))}]:=by rw[Go.Conc.ofEvents_eq,he];simp[cC,MemAct.ofEvent]
  rw[B]
  have C:(t++#[({g:=j,fn:=fn,pos:=pos,act:=.mark (.releaseMerge (stA c.Wg))}:MemOp)])[t.size]?=some {g:=j,fn:=fn,pos:=pos,act:=.mark (.releaseMerge (stA c.Wg))}:=by
   rw[Array.getElem?_append_right (Nat.le_refl _)];simp
  refine ⟨hlen,act?_of C,by simp[Trace.g?],⟨j,by simp[Trace.g?],by rw[deaf_old (Nat.le_refl _)];exact hd.trans d.1⟩,fun idx x hi p n=>?_⟩
  obtain ⟨z,f,_⟩:=touch_of n
  have:=lt_size_of_getElem? f
  simp at this
  omega
end
section
variable {c : Cy} {B0 : Nat} {bq : Loc → Prop} {p0 : P0} {d0 k : Nat} {g : Goroutine} {Fr : Nat → af} {gs : Array Goroutine} {w : World} {t u : Trace} {ρ : Nat → Rk} {φ : Nat → Ph} {s : Sh}
theorem dg.at_ (F:af)(w:World)(d:Nat):dg c B0 F F w (w.at d):=⟨.refl _,rfl,rfl,Nat.le_refl _,fun _ _ _ _=>rfl,fun _ h=>.inl h,fun _ h=>.inl h⟩
structure JL (c:Cy)(B0:Nat)(bq:Loc->Prop)(p0:P0)(d0 k:Nat)(g:Goroutine)(Fr:Nat->af)(gs:Array Goroutine)(w:World)(t:Trace)(ρ:Nat->Rk)(m:Machine)(ops:Array MemOp)(sl:Option (Nat×Nat)):Prop where
 ex:∃(bQ:Array Goroutine) (w':World) (ρ':Nat->Rk) (φ':Nat->Ph) (cP:Nat->af) (s':Sh),m=crowd bQ w' sl/\dx c B0 bq p0 d0 k g cP bQ w' (t++ops) ρ' φ' s'/\
  bQ.size=gs.size/\cP 0=Fr 0/\dg c B0 (Fr 0) (Fr 0) w w'/\zI gs.size (ρ',runs bQ) (ρ,runs gs)
def l5 (ρ:Nat->Rk)(j:Nat)(r:Rk)(a:Nat):Rk:=if a=j then r else ρ a
theorem oY (ρ:Nat->Rk)(j:Nat)(r:Rk):l5 ρ j r j=r:=if_pos rfl
theorem nq (ρ:Nat->Rk)(r:Rk){a j:Nat}(h:a≠j):l5 ρ j r a=ρ a:=if_neg h
theorem uj {n j:Nat}{ρ:Nat->Rk}{r:Rk}(a:j<n)(h:(ρ j).kids r):q7 n (l5 ρ j r) ρ:=⟨j,a,by rw[oY];exact h,fun _ b=>nq _ _ b⟩
theorem dx.other (h:dx c B0 bq p0 d0 k g Fr gs w t ρ φ s){j:Nat}{x:Goroutine}(K:0<j)(B:gs[j]?=some x)(G:x.status= .running)(sl:Option (Nat×Nat)):
  ∃m ops,runT c.P (crowd gs w sl) j=(.next m,ops)/\JL c B0 bq p0 d0 k g Fr gs w t ρ m ops sl:=by
 have Q:j<gs.size:=(Array.getElem?_eq_some_iff.1 B).1
 have M:(j==0)=false:=by simp;omega
 rcases Nat.lt_or_ge j c.base with al|al
 ·
  obtain ⟨q,hq,N⟩:=h.old j x K al B
  cases q with
  |zero=>rw[N.1] at G;cases G
  |succ q=>
   rcases N with ⟨U,_⟩|⟨_,V,es,hm,H,W⟩
   ·rw[U] at G;cases G
   have F:=runT_crowd_go (P:=c.P) (gs:=gs) (w:=w) (sl:=sl) (i:=j) B (by rw[M];exact H w)
   refine ⟨_,_,F,⟨_,w,l5 ρ j (Rk.nat q),φ,Fr,s,rfl,?_,by simp,rfl,.refl _ _ _ _,.inl (uj Q (by rw[hq];exact Rk.zG q))⟩⟩
   refine h.jV K B (.inr ⟨Int.le_refl _,Int.le_refl _⟩) (fun X E=>nq _ _ E) (fun _ _=>rfl) (fun _ _=>rfl) rfl (fun _=>⟨q,oY _ _ _,by rw[Deaf_own];exact W⟩) (fun i e _=>by omega) h.parts h.sh h.inv (h.gU.mute hm) (Nat.le_refl _)
 ·
  have bs:=h.size
  obtain ⟨i,rfl⟩:∃i,j=c.base+i:=⟨j - c.base,by omega⟩
  have C:i<k:=by omega
  have ao:i<c.n:=Nat.lt_of_lt_of_le C h.inv.i.kn
  obtain ⟨u,ar,hW⟩:=h.wk i C
  obtain rfl:u=x:=by rw[B] at ar;exact (Option.some.inj ar).symm
  have E:∀d,c.base+d≠c.base+i->d≠i:=fun d D e=>D (by rw[e])
  rcases hW with ⟨hg,q,hq,N⟩|⟨hg,Y,a0,_⟩
  ·cases q with
   |zero=>rw[N.1] at G;cases G
   |succ q=>
    rcases N with ⟨U,_⟩|⟨_,V,es,hm,H,W⟩
    ·rw[U] at G;cases G
    have F:=runT_crowd_go (P:=c.P) (gs:=gs) (w:=w) (sl:=sl) (i:=c.base+i) B (by rw[M];exact H w)
    refine ⟨_,_,F,⟨_,w,l5 ρ (c.base+i) (Rk.nat q),upd φ i {φ i with deaf:=deafBehind (φ i).deaf es},Fr,s,rfl,?_,by simp,rfl,.refl _ _ _ _,.inl (uj Q (by rw[hq];exact Rk.zG q))⟩⟩
    have hd:=h.deaf i C
    refine h.jV K B (.inr ⟨Int.le_refl _,Int.le_refl _⟩) (fun X E=>nq _ _ E) (fun d D=>upd_ne _ _ (E d D)) (fun _ _=>rfl) rfl (fun D=>by omega) (fun d e R=>?_) h.parts h.sh (h.inv.deaf ao (by rw[hg];simp) _) (h.gU.mute hm) (Nat.le_refl _)
    obtain rfl:d=i:=by omega
    rw[oY,upd_same]
    refine ⟨.inl ⟨hg,q,rfl,W⟩,by rw[Deaf_own,hd],fun L=>?_,h.jr d C⟩
    obtain ⟨r,F⟩:=h.rel d C (by rw[hg];simp)
    refine ⟨r,F.app fun idx y hi bz a7=>?_⟩
    obtain ⟨z,O,a2⟩:=touch_of a7
    rcases getElem?_append_cases O with ⟨R,_⟩|⟨_,a8⟩
    ·omega
    ·obtain ⟨e,he,rfl⟩:=Go.Conc.mem_ofEvents a8
     rw[touch_mute (hm e he)] at a2;cases a2
  ·have ex:({u with status:=.running}:Goroutine)=u:=by cases u;simp_all
   rw[ex] at Y
   cases S:ρ (c.base+i) with
   |mk ι f=>
    rw[S] at Y
    rcases Y with ⟨a9,_⟩|⟨_,_,ba,bb⟩|⟨_,_,_,a3⟩
    ·exact absurd a9 hg
    ·
     obtain ⟨y,V,w',es,F',H,hu,bc,J,Z⟩:=bb w (h.parts.has (i+1) (by omega))
     have F:=runT_crowd_go (P:=c.P) (gs:=gs) (w:=w) (sl:=sl) (i:=c.base+i) B (by rw[M];exact H)
     have T:=h.parts.has (i+1) (by omega)
     obtain ⟨ab,a4,a5⟩:=Z.yq s
     have a6:∀b,b<w.heap.size->b∉keys (Fr (i+1)).own->w'.heap[b]?=w.heap[b]?:=hu.frame
     refine ⟨_,_,F,⟨_,w',l5 ρ (c.base+i) (f y),φ,upd Fr (i+1) F',s,rfl,?_,by simp,upd_ne _ _ (by omega),?_,.inl (uj Q (by rw[S];exact ⟨y,rfl⟩))⟩⟩
     ·have bd:Deaf (t++MemOp.ofEvents (c.base+i) u.frame.fn u.frame.place es) (c.base+i)=(φ i).deaf:=by
       rw[Deaf_own,deafBehind_still (fun e he=>(lZ (c:=c) T hu.size (J e he) 0).2.2.2)]
       exact h.deaf i C
      refine h.jV K B (.inr ⟨Int.le_refl _,Int.le_refl _⟩) (fun X E=>nq _ _ E) (fun _ _=>rfl) (fun d D=>upd_ne _ _ (by have:=E d D;omega)) (upd_ne _ _ (by omega)) (fun D=>by omega) (fun d e R=>?_) (h.parts.walk (by omega) hu bc)
       (h.sh.keep fun b hb=>a6 b (h.parts.gD b hb) (fun hm=>h.parts.gS (i+1) (by omega) b hm hb)) h.inv ?_ hu.size
      ·obtain rfl:d=i:=by omega
       rw[oY,upd_same]
       refine ⟨ab,bd,fun L=>absurd ba L,fun b hb=>?_⟩
       rcases hu.own b hb with z|z
       ·exact h.jr d C b z
       ·exact Nat.le_trans h.js z
      ·refine ei.app h.base ⟨h.ne.2.1,h.ne.2.2⟩ h.parts h.gU (p:=i+1) (by omega) hu.size (fun op v=>?_) (fun op v z O=>?_) (fun op v=>?_) (fun op v=>?_) (fun q hq=>upd_ne _ _ hq) (fun l A=>?_) (fun l A=>?_)
       ·obtain ⟨e,_,rfl⟩:=Go.Conc.mem_ofEvents v;rfl
       ·obtain ⟨e,he,rfl⟩:=Go.Conc.mem_ofEvents v;exact (lZ (c:=c) T hu.size (J e he) (i+1)).1 z O
       ·obtain ⟨e,he,rfl⟩:=Go.Conc.mem_ofEvents v;exact (lZ (c:=c) T hu.size (J e he) (i+1)).2.1
       ·obtain ⟨e,he,rfl⟩:=Go.Conc.mem_ofEvents v;exact (lZ (c:=c) T hu.size (J e he) (i+1)).2.2.1
       ·rw[upd_same] at A
        cases l with
        |cell a=>exact hu.own _ A
        |obj r=>exact hu.own _ A
        |_=>exact A.elim
       ·rw[upd_same] at A
        obtain ⟨a,rfl,ad⟩:=A
        rcases hu.ro a ad with z|z|z
        ·exact .inl ⟨a,rfl,z⟩
        ·exact .inr (.inl z)
        ·exact .inr (.inr z)
     ·exact ⟨by rw[hu.os];exact .refl _,hu.tape,hu.output,hu.size,fun b hb _ _=>a6 b (Nat.lt_of_lt_of_le hb h.js) (fun hm=>by have:=h.jr i C b hm;omega),fun _ h=>.inl h,fun _ h=>.inl h⟩
    ·
     rcases a3 w s k φ p0 (h.parts.has (i+1) (by omega)) h.sh ao rfl h.inv with ⟨bj,bk,H⟩|⟨y,V,w',es,s',aI,F',H,bl,I,hinv,J,bm,hle,Z⟩
     ·
      have F:=runT_crowd_go (P:=c.P) (gs:=gs) (w:=w) (sl:=sl) (i:=c.base+i) B (by rw[M];exact H)
      have bo:gs.map (woken c.P u {u with status:=.blocked} w)=gs:=by
       have:woken c.P u {u with status:=.blocked} w=id:=by funext o;unfold Go.Conc.woken;simp
       rw[this,Array.map_id]
      refine ⟨_,_,F,⟨_,w,ρ,φ,Fr,s,rfl,?_,by simp,rfl,.refl _ _ _ _,.inr ⟨rfl,?_⟩⟩⟩
      ·have he:t++MemOp.ofEvents (c.base+i) u.frame.fn u.frame.place #[]=t:=by simp[MemOp.ofEvents]
       refine h.jV K B (.inr ⟨Int.le_refl _,Int.le_refl _⟩) (fun _ _=>rfl) (fun _ _=>rfl) (fun _ _=>rfl) rfl (fun D=>by omega) (fun d e R=>?_) h.parts h.sh h.inv (by rw[he];exact h.gU) (Nat.le_refl _)
       obtain rfl:d=i:=by omega
       rw[he]
       refine ⟨.inr ⟨hg,?_,a0,.inr ⟨rfl,bj,bk⟩⟩,h.deaf d C,fun L=>h.rel d C L,h.jr d C⟩
       have e2:({({u with status:=.blocked}:Goroutine) with status:=.running}:Goroutine)=u:=by cases u;simp_all
       rw[e2,S]
       exact .inr (.inr ⟨G,a0,hg,a3⟩)
      ·rw[bo];exact CS B G (by simp)
     ·have F:=runT_crowd_go (P:=c.P) (gs:=gs) (w:=w) (sl:=sl) (i:=c.base+i) B (by rw[M];exact H)
      obtain ⟨ab,a4,a5⟩:=Z.yq s'
      have hd:=h.deaf i C
      have ae:=JH J (Fr (i+1)) w.heap.size h.parts.gD
      refine ⟨_,_,F,⟨_,w',l5 ρ (c.base+i) (f y),upd φ i aI,upd Fr (i+1) F',s',rfl,?_,by simp,upd_ne _ _ (by omega),?_,.inl (uj Q (by rw[S];exact ⟨y,rfl⟩))⟩⟩
      ·refine h.jV K B (bm.imp (fun z=>⟨z,a4,a5⟩) id) (fun X E=>nq _ _ E) (fun d D=>upd_ne _ _ (E d D)) (fun d D=>upd_ne _ _ (by have:=E d D;omega)) (upd_ne _ _ (by omega)) (fun D=>by omega) (fun d e R=>?_) (h.parts.act (by omega) I hle) bl hinv ?_ (by rw[I.size];exact Nat.le_refl _)
       ·obtain rfl:d=i:=by omega
        rw[oY,upd_same,upd_same]
        exact ⟨ab,by rw[Deaf_own,hd];exact JI J,fun L=>JK h.gU.len J hd (fun br=>h.rel d C br) L,fun b hb=>h.jr d C b (hle.own b hb)⟩
       ·refine ei.app h.base ⟨h.ne.2.1,h.ne.2.2⟩ h.parts h.gU (p:=i+1) (by omega) (by rw[I.size];exact Nat.le_refl _) (fun op v=>?_) (fun op v z O=>?_) (fun op v=>?_) (fun op v=>?_) (fun q hq=>upd_ne _ _ hq) (fun l A=>?_) (fun l A=>?_)
        ·obtain ⟨e,_,rfl⟩:=Go.Conc.mem_ofEvents v;rfl
        ·obtain ⟨e,he,rfl⟩:=Go.Conc.mem_ofEvents v;exact (ae e he).1 z O
        ·obtain ⟨e,he,rfl⟩:=Go.Conc.mem_ofEvents v;rw[I.size];exact (ae e he).2.1
        ·obtain ⟨e,he,rfl⟩:=Go.Conc.mem_ofEvents v;exact (ae e he).2.2
        ·rw[upd_same] at A
         refine .inl ?_
         cases l with
         |cell a=>exact hle.own _ A
         |obj r=>exact hle.own _ A
         |_=>exact A.elim
        ·rw[upd_same] at A
         obtain ⟨a,rfl,ad⟩:=A
         rcases hle.ro a ad with z|z
         ·exact .inl ⟨a,rfl,z⟩
         ·exact .inr (.inl z)
      ·exact ⟨I.os,I.tape,I.output,by rw[I.size];exact Nat.le_refl _,fun b _ _ hs=>I.block b hs,fun _ h=>.inl h,fun _ h=>.inl h⟩
theorem dx.awake (h:dx c B0 bq p0 d0 k g Fr gs w t ρ φ s):∀x∈gs,awake x:=by
 intro x b
 obtain ⟨j,l,rfl⟩:=Array.mem_iff_getElem.1 b
 have b:=Array.getElem?_eq_getElem l
 rcases Nat.eq_zero_or_pos j with rfl|m
 ·obtain ⟨z,a,_,d⟩:=h.g0
  obtain rfl:z=gs[0]:=by rw[b] at a;exact (Option.some.inj a).symm
  exact awake_of (d.imp id fun y=>.inl y.1)
 ·rcases Nat.lt_or_ge j c.base with i|i
  ·obtain ⟨q,_,f⟩:=h.old j _ m i b
   exact awake_of (f.status.elim .inl fun y=>.inr (.inr y))
  ·have n:=h.size
   obtain ⟨z,a,hW⟩:=h.wk (j - c.base) (by omega)
   have e:c.base+(j - c.base)=j:=by omega
   rw[e] at a
   obtain rfl:z=gs[j]:=by rw[b] at a;exact (Option.some.inj a).symm
   rcases hW with ⟨_,q,_,f⟩|⟨_,_,_,d⟩
   ·exact awake_of (f.status.elim .inl fun y=>.inr (.inr y))
   ·exact awake_of (d.imp id fun y=>.inl y.1)
theorem dx.pick (h:dx c B0 bq p0 d0 k g Fr gs w t ρ φ s)(O:p0= .reg->k=c.n)(sl:Option (Nat×Nat))(Q:p0= .reg->∀w s,cq c w s->s.ws=0->stepG c.P true g w= .go {g with status:=.blocked} w #[]):
  ∃(N:Nat) (bQ:Array Goroutine) (w':World) (a A:Option (Nat×Nat)) (e:Trace) (ρ':Nat->Rk) (φ':Nat->Ph) (cP:Nat->af) (s':Sh),
   runNT c.P N (crowd gs w sl) t=(.next (crowd bQ w' a),e)/\(∃d,stepT c.P (crowd bQ w' a)=runT c.P (crowd bQ (w'.at d) A) 0)/\dx c B0 bq p0 d0 k g cP bQ w' e ρ' φ' s'/\bQ[0]?=some g/\cP 0=Fr 0/\
   dg c B0 (Fr 0) (Fr 0) w w'/\(p0= .reg->s'.ws≠0):=by
 have key:∀(y:(Nat->Rk)×Nat),∀gs w t ρ φ s l sl,y=(ρ,runs gs)->l 0=Fr 0->dx c B0 bq p0 d0 k g l gs w t ρ φ s->∀n,gs.size=n->n=c.base+k->
   ∃(N:Nat) (bQ:Array Goroutine) (w':World) (a A:Option (Nat×Nat)) (e:Trace) (ρ':Nat->Rk) (φ':Nat->Ph) (cP:Nat->af) (s':Sh),
   runNT c.P N (crowd gs w sl) t=(.next (crowd bQ w' a),e)/\(∃d,stepT c.P (crowd bQ w' a)=runT c.P (crowd bQ (w'.at d) A) 0)/\dx c B0 bq p0 d0 k g cP bQ w' e ρ' φ' s'/\bQ[0]?=some g/\cP 0=Fr 0/\
   dg c B0 (Fr 0) (Fr 0) w w'/\(p0= .reg->s'.ws≠0):=by
  intro y
  induction (zJ (c.base+k)).apply y with
  |intro y _ ih=>
   intro gs w t ρ φ s l sl p r h n hn B
   subst p
   have R:∃(j:Nat) (x:Goroutine),gs[j]?=some x/\x.status= .running:=by
    obtain ⟨z,u,_,f⟩:=h.g0
    rcases f with q|⟨_,hp,S⟩
    ·exact ⟨0,z,u,q⟩
    ·have T:=O hp
     have hinv:=h.inv
     rw[hp,T] at hinv
     obtain ⟨i,hi,hg,U⟩:=live hinv S
     obtain ⟨x,b,hW⟩:=h.wk i (by omega)
     rcases hW with ⟨V,_⟩|⟨_,_,_,f⟩
     ·exact absurd V hg
     ·rcases f with q|⟨_,h1,h2⟩
      ·exact ⟨_,x,b,q⟩
      ·exact absurd h2 (U h1)
   obtain ⟨j,x,d,a,b,q,f⟩:=crowd_pick (P:=c.P) (w:=w) (sl:=sl) h.awake R
   have hd:=h.at d
   rcases Nat.eq_zero_or_pos j with rfl|W
   ·obtain ⟨z,u,he,a7⟩:=h.g0
    obtain rfl:z=x:=by rw[b] at u;exact (Option.some.inj u).symm
    have K:z=g:=by rw[<-he];cases z;simp_all
    by_cases v:p0= .reg/\s.ws=0
    ·
     have X:=Q v.1 (w.at d) s h.sh v.2
     have Y:=runT_crowd_go (P:=c.P) (gs:=gs) (w:=w.at d) (sl:=a) (i:=0) b (by rw[K];exact X)
     have Z:gs.map (woken c.P z {g with status:=.blocked} (w.at d))=gs:=by
      have:woken c.P z {g with status:=.blocked} (w.at d)=id:=by funext o;unfold Go.Conc.woken;simp
      rw[this,Array.map_id]
     have ab:0<gs.size:=(Array.getElem?_eq_some_iff.1 b).1
     have ad:t++MemOp.ofEvents 0 z.frame.fn z.frame.place #[]=t:=by simp[MemOp.ofEvents]
     have ae:dx c B0 bq p0 d0 k g l (gs.setIfInBounds 0 {g with status:=.blocked}) (w.at d) t ρ φ s:=by
      refine ⟨by simpa using hd.size,hd.base,hd.run,hd.off,⟨{g with status:=.blocked},Array.getElem?_setIfInBounds_self_of_lt ab,by have:=h.run;cases g;simp_all,.inr ⟨rfl,v⟩⟩,fun j y h0 hb p=>?_,fun i hi=>?_,hd.deaf,fun j al=>hd.above j (by simpa using al),hd.deaf0,hd.parts,hd.sh,hd.inv,hd.gU,hd.rel,hd.apart,hd.low,hd.jr,hd.js,hd.ne⟩
      ·rw[Array.getElem?_setIfInBounds_ne (by omega)] at p
       exact hd.old j y h0 hb p
      ·obtain ⟨y,p,hW⟩:=hd.wk i hi
       exact ⟨y,by rw[Array.getElem?_setIfInBounds_ne (by have:=h.base;omega)];exact p,hW⟩
     obtain ⟨N,bQ,w',C,D,e,ρ',φ',cP,s',k1,E,F,G,H,I,J⟩:=ih (ρ,runs (gs.setIfInBounds 0 {g with status:=.blocked})) (.inr ⟨rfl,CS b q (by simp)⟩) _ _ _ _ _ _ l a rfl r ae n (by simpa using hn) B
     refine ⟨N+1,bQ,w',C,D,e,ρ',φ',cP,s',?_,E,F,G,H,(dg.at_ _ _ _).trans I,J⟩
     simp only[runNT,f,Y]
     rw[Z,ad]
     exact k1
    ·refine ⟨0,gs,w,sl,a,t,ρ,φ,l,s,rfl,⟨d,f⟩,h,by rw[b,K],r,.refl _ _ _ _,fun hp hs=>v ⟨hp,hs⟩⟩
   ·obtain ⟨m,ops,ao,⟨bQ,w',ρ',φ',cP,s',rfl,ar,a0,a2,L,M⟩⟩:=hd.other W b q a
    rw[hn,B] at M
    obtain ⟨N,a3,w2,C,D,t2,a4,a5,a6,s2,k1,E,F,G,H,I,J⟩:=ih (ρ',runs bQ) M _ _ _ _ _ _ cP a rfl (a2.trans r) ar n (a0.trans hn) B
    refine ⟨N+1,a3,w2,C,D,t2,a4,a5,a6,s2,?_,E,F,G,H,?_,J⟩
    ·simp only[runNT,f,ao]
     exact k1
    ·rw[r] at L
     exact ((dg.at_ _ _ _).trans L).trans I
 exact key (ρ,runs gs) gs w t ρ φ s Fr sl rfl rfl h gs.size rfl h.size
theorem dx.q6 (h:dx c B0 bq p0 d0 k g Fr gs w t ρ φ s)(B:p0= .reg->k=c.n)(sl:Option (Nat×Nat)):
  ∃(N:Nat) (bQ:Array Goroutine) (w':World) (a q:Option (Nat×Nat)) (e:Trace) (ρ':Nat->Rk) (φ':Nat->Ph) (cP:Nat->af) (s':Sh),
   runNT c.P N (crowd gs w sl) t=(.next (crowd bQ w' a),e)/\(∃d,stepT c.P (crowd bQ w' a)=runT c.P (crowd bQ (w'.at d) q) 0)/\dx c B0 bq p0 d0 k g cP bQ w' e ρ' φ' s'/\bQ[0]?=some g/\cP 0=Fr 0/\
   dg c B0 (Fr 0) (Fr 0) w w':=by
 have key:∀(y:(Nat->Rk)×Nat),∀gs w t ρ φ s o sl,y=(ρ,runs gs)->o 0=Fr 0->dx c B0 bq p0 d0 k g o gs w t ρ φ s->∀n,gs.size=n->n=c.base+k->
   ∃(N:Nat) (bQ:Array Goroutine) (w':World) (a q:Option (Nat×Nat)) (e:Trace) (ρ':Nat->Rk) (φ':Nat->Ph) (cP:Nat->af) (s':Sh),
   runNT c.P N (crowd gs w sl) t=(.next (crowd bQ w' a),e)/\(∃d,stepT c.P (crowd bQ w' a)=runT c.P (crowd bQ (w'.at d) q) 0)/\dx c B0 bq p0 d0 k g cP bQ w' e ρ' φ' s'/\bQ[0]?=some g/\cP 0=Fr 0/\
   dg c B0 (Fr 0) (Fr 0) w w':=by
  intro y
  induction (zJ (c.base+k)).apply y with
  |intro y _ ih=>
   intro gs w t ρ φ s o sl C r h n hn u
   subst C
   have D:∃(j:Nat) (x:Goroutine),gs[j]?=some x/\x.status= .running:=by
    obtain ⟨z,p,_,b⟩:=h.g0
    rcases b with f|⟨_,hp,E⟩
    ·exact ⟨0,z,p,f⟩
    ·have F:=B hp
     have hinv:=h.inv
     rw[hp,F] at hinv
     obtain ⟨i,hi,hg,G⟩:=live hinv E
     obtain ⟨x,l,hW⟩:=h.wk i (by omega)
     rcases hW with ⟨H,_⟩|⟨_,_,_,b⟩
     ·exact absurd H hg
     ·rcases b with f|⟨_,h1,h2⟩
      ·exact ⟨_,x,l,f⟩
      ·exact absurd h2 (G h1)
   obtain ⟨j,x,d,a,l,f,b⟩:=crowd_pick (P:=c.P) (w:=w) (sl:=sl) h.awake D
   have hd:=h.at d
   rcases Nat.eq_zero_or_pos j with rfl|I
   ·obtain ⟨z,p,he,ad⟩:=h.g0
    obtain rfl:z=x:=by rw[l] at p;exact (Option.some.inj p).symm
    have J:z=g:=by rw[<-he];cases z;simp_all
    exact ⟨0,gs,w,sl,a,t,ρ,φ,o,s,rfl,⟨d,b⟩,h,by rw[l,J],r,.refl _ _ _ _⟩
   ·obtain ⟨m,ops,K,⟨bQ,w',ρ',φ',cP,s',rfl,L,M,O,v,A⟩⟩:=hd.other I l f a
    rw[hn,u] at A
    obtain ⟨N,Q,w2,R,S,t2,T,U,V,s2,k1,W,X,Y,Z,ab⟩:=ih (ρ',runs bQ) A _ _ _ _ _ _ cP a rfl (O.trans r) L n (M.trans hn) u
    refine ⟨N+1,Q,w2,R,S,t2,T,U,V,s2,?_,W,X,Y,Z,?_⟩
    ·simp only[runNT,b,K]
     exact k1
    ·rw[r] at v
     exact ((dg.at_ _ _ _).trans v).trans ab
 exact key (ρ,runs gs) gs w t ρ φ s Fr sl rfl rfl h gs.size rfl h.size
end
def ej (c:Cy)(B0:Nat)(Φ:Goroutine->af->Prop)(k:Nat)(p0:P0)(d0:Nat)(g:Goroutine)(F:af):Prop:=
 g.status= .running/\g.offers=none/\∀(bq:Loc->Prop) (gs:Array Goroutine) (w:World) (sl:Option (Nat×Nat)) (t:Trace) (Fr:Nat->af) (ρ:Nat->Rk) (φ:Nat->Ph) (s:Sh),Fr 0=F->dx c B0 bq p0 d0 k g Fr gs w t ρ φ s->
  (∀a,bq (.cell a)->¬c.shared a.block)->(∀r,bq (.obj r)->¬c.shared r)->
  ∃(N:Nat) (bQ:Array Goroutine) (w':World) (e:Option (Nat×Nat)) (b:Trace) (f:Nat->Nat) (g':Goroutine) (F':af) (d:Loc->Prop),
   runNT c.P N (crowd gs w sl) t=(.next (crowd bQ w' e),b)/\jz c.P d g' F' bQ w' b f/\dg c B0 F F' w w'/\(∀l,d l->bq l\/∃a,l= .cell a/\a.block=c.Wg)/\Φ g' F'
structure Ev0 (c:Cy)(d0 e8:Nat)(es:Array Event):Prop where
 all:∀e∈es,e=cC .disable\/e=cC .enable\/∃a,a.block=c.Wg/\((∃x,e=⟨.cell a,x,true⟩)\/e=cC (.read a)\/e=cC (.write a))
 deaf:deafBehind d0 es=e8
theorem CU {c:Cy}{d0 e8:Nat}{es:Array Event}(h:Ev0 c d0 e8 es)(F:af)(B:Nat)(f:c.Wg<B):∀e∈es,
  (∀x,(MemAct.ofEvent e).touch?=some x->ug c F B 0 x)/\(MemAct.ofEvent e).low B/\MemAct.ofEvent e≠ .mark (.release (stA c.Wg)):=by
 intro e he
 rcases h.all e he with rfl|rfl|⟨a,d,⟨x,rfl⟩|rfl|rfl⟩
 ·exact ⟨fun x g=>by simp[cC,MemAct.ofEvent,MemAct.touch?] at g,trivial,by simp[cC,MemAct.ofEvent]⟩
 ·exact ⟨fun x g=>by simp[cC,MemAct.ofEvent,MemAct.touch?] at g,trivial,by simp[cC,MemAct.ofEvent]⟩
 ·have hb:a.block<B:=d▸f
  refine ⟨fun y b=>?_,by cases x<;>exact hb,by cases x<;>simp[MemAct.ofEvent]⟩
  have:y=⟨.cell a,x,.atomic⟩:=by cases x<;>simp[MemAct.ofEvent,MemAct.touch?] at b<;>rw[<-b]
  subst this
  exact .inr (.inr (.inr (.inl ⟨⟨a,rfl,.inr d⟩,by simp,by simp⟩)))
 ·have hb:a.block<B:=d▸f
  refine ⟨fun y b=>?_,hb,by simp[cC,MemAct.ofEvent]⟩
  have:y=⟨.cell a,false,.said⟩:=by simp[cC,MemAct.ofEvent,MemAct.touch?] at b;rw[<-b]
  subst this
  exact .inr (.inr (.inr (.inl ⟨⟨a,rfl,.inr d⟩,by simp,fun _=>rfl⟩)))
 ·have hb:a.block<B:=d▸f
  refine ⟨fun y b=>?_,hb,by simp[cC,MemAct.ofEvent]⟩
  have:y=⟨.cell a,true,.said⟩:=by simp[cC,MemAct.ofEvent,MemAct.touch?] at b;rw[<-b]
  subst this
  exact .inr (.inr (.inr (.inl ⟨⟨a,rfl,.inr d⟩,by simp,fun _=>rfl⟩)))
section
variable {c : Cy} {B0 : Nat} {bq : Loc → Prop} {p0 : P0} {d0 k : Nat} {g : Goroutine} {Fr : Nat → af} {gs : Array Goroutine} {w : World} {t u : Trace} {ρ : Nat → Rk} {φ : Nat → Ph} {s : Sh} {Φ : Goroutine → af → Prop}
theorem dx.zero (h:dx c B0 bq p0 d0 k g Fr gs w t ρ φ s){g':Goroutine}{w':World}{es:Array Event}{fn:FuncId}{pos:String}{s':Sh}{gE:P0}{e8:Nat}{F':af}(u:gs[0]?=some g)(f:g'.status= .running)(v:g'.offers=none)
  (x:mayWake c.P g=true\/(s'.ms<=s.ms/\s'.ws<=s.ws)) (hd:deafBehind d0 es=e8) (A:dw c k (upd Fr 0 F') w') (B:cq c w' s') (hinv:Inv c.n c.bs k φ gE s') (C:ei c bq k (upd Fr 0 F') w'.heap.size (t++MemOp.ofEvents 0 fn pos es))
  (D:w.heap.size<=w'.heap.size) (E:∀l,bq l->¬F'.gG l):
  dx c B0 bq gE e8 k g' (upd Fr 0 F') ((gs.map (woken c.P g g' w')).setIfInBounds 0 g') w' (t++MemOp.ofEvents 0 fn pos es) ρ φ s':=by
 have F:0<gs.size:=(Array.getElem?_eq_some_iff.1 u).1
 have hu:∀op∈MemOp.ofEvents 0 fn pos es,op.g=0:=fun op G=>by obtain ⟨e,_,rfl⟩:=Go.Conc.mem_ofEvents G;rfl
 have other:∀a,a≠0->∀y,((gs.map (woken c.P g g' w')).setIfInBounds 0 g')[a]?=some y->∃z,gs[a]?=some z/\y=woken c.P g g' w' z:=fun a m y j=>by
  rw[Array.getElem?_setIfInBounds_ne (Ne.symm m),Array.getElem?_map] at j
  obtain ⟨z,d,rfl⟩:=Option.map_eq_some_iff.1 j
  exact ⟨z,d,rfl⟩
 have o:∀a,a≠0->Deaf (t++MemOp.ofEvents 0 fn pos es) a=Deaf t a:=fun a m=>Deaf_other t (Ne.symm m) _ hu
 have H:(mayWake c.P g=true/\g'.status≠ .blocked/\g'.status≠ .waiting)\/s'.ms<=s.ms:=x.imp (fun z=>⟨z,by rw[f];simp,by rw[f];simp⟩) And.left
 refine ⟨by simpa using h.size,h.base,f,v,⟨g',Array.getElem?_setIfInBounds_self_of_lt (by simpa using F),by cases g';simp_all,.inl f⟩,fun a y h0 hb j=>?_,fun i hi=>?_,fun i hi=>?_,fun a I=>?_,?_,A,B,hinv,C,fun i hi hg=>?_,fun l J=>by rw[upd_same];exact E l J,h.low,fun i hi b hb=>?_,Nat.le_trans h.js D,h.ne⟩
 ·obtain ⟨z,d,rfl⟩:=other a (by omega) y j
  obtain ⟨q,hq,p⟩:=h.old a z h0 hb d
  exact ⟨q,hq,by rw[woken_quitsD p,o a (by omega)];exact p⟩
 ·have hb:=h.base
  obtain ⟨z,d,hW⟩:=h.wk i hi
  refine ⟨woken c.P g g' w' z,by rw[Array.getElem?_setIfInBounds_ne (by omega),Array.getElem?_map,d];rfl,?_⟩
  rw[upd_ne _ _ (by omega)]
  exact hW.woken hinv.CR H
 ·have hb:=h.base
  rw[o _ (by omega)];exact h.deaf i hi
 ·have:gs.size<=a:=by simpa using I
  rw[o a (by omega)]
  exact h.above a this
 ·rw[Deaf_own,h.deaf0];exact hd
 ·obtain ⟨r,K⟩:=h.rel i hi hg
  have hb:=h.base
  exact ⟨r,K.other (by omega) hu⟩
 ·rw[upd_ne _ _ (by omega)] at hb;exact h.jr i hi b hb
theorem dx.le (h:dx c B0 bq p0 d0 k g Fr gs w t ρ φ s){F:af}(hle:Le F (Fr 0)):dx c B0 bq p0 d0 k g (upd Fr 0 F) gs w t ρ φ s:=by
 have ht:ei c bq k (upd Fr 0 F) w.heap.size t:=by
  have:=ei.app (u:=#[]) h.base ⟨h.ne.2.1,h.ne.2.2⟩ h.parts h.gU (p:=0) (Nat.zero_le _) (cP:=upd Fr 0 F) (Nat.le_refl _) (by simp) (by simp) (by simp) (by simp) (fun q hq=>upd_ne _ _ hq) (fun l d=>?_) (fun l d=>?_)
  ·simpa using this
  ·rw[upd_same] at d
   refine .inl ?_
   cases l with
   |cell a=>exact hle.own _ d
   |obj r=>exact hle.own _ d
   |_=>exact d.elim
  ·rw[upd_same] at d
   obtain ⟨a,rfl,f⟩:=d
   rcases hle.ro a f with z|z
   ·exact .inl ⟨a,rfl,z⟩
   ·exact .inr (.inl z)
 refine ⟨h.size,h.base,h.run,h.off,h.g0,h.old,fun i hi=>?_,h.deaf,h.above,h.deaf0,h.parts.act (Nat.zero_le _) (.refl _ _) hle,h.sh,h.inv,ht,h.rel,fun l d e=>?_,h.low,fun i hi b hb=>?_,h.js,h.ne⟩
 ·rw[upd_ne _ _ (by omega)];exact h.wk i hi
 ·rw[upd_same] at e;exact h.apart l d (hle.gG e)
 ·rw[upd_ne _ _ (by omega)] at hb;exact h.jr i hi b hb
theorem dg.pF {F F':af}{w w':World}(h:dK F F' w w')(d:B0<=w.heap.size):dg c B0 F F' w w':=
 ⟨by rw[h.os];exact .refl _,h.tape,h.output,h.size,fun b hb hn _=>h.frame b (Nat.lt_of_lt_of_le hb d) hn,fun a e=>(h.ro a e).imp id fun x=>x.imp id fun y=>.inl (Nat.le_trans d y),fun b hb=>(h.own b hb).imp id fun y=>.inl (Nat.le_trans d y)⟩
theorem dg.CV {F:af}{w w':World}(h:ir c w w'):dg c B0 F F w w':=
 ⟨h.os,h.tape,h.output,by rw[h.size];exact Nat.le_refl _,fun b _ _ hs=>h.block b hs,fun _ h=>.inl h,fun _ h=>.inl h⟩
theorem ej.mono {F F':af}(hle:Le F F')(h:ej c B0 Φ k p0 d0 g F):ej c B0 Φ k p0 d0 g F':=by
 refine ⟨h.1,h.2.1,fun bq gs w sl t Fr ρ φ s a b d e=>?_⟩
 obtain ⟨N,bQ,w',f,i,j,g',l,m,h1,h2,h3,n,o⟩:=h.2.2 bq gs w sl t (upd Fr 0 F) ρ φ s (upd_same _ _ _) (b.le (by rw[a];exact hle)) d e
 exact ⟨N,bQ,w',f,i,j,g',l,m,h1,h2,h3.le hle,n,o⟩
theorem ej.closed (c:Cy)(B0:Nat)(Φ:Goroutine->af->Prop)(k:Nat)(p0:P0)(d0:Nat)(hp:p0≠ .reg):Closed c.P true (ej c B0 Φ k p0 d0) where
 mono hle h:=h.mono hle
 step {fr cs F} h:=by
  refine ⟨rfl,rfl,fun bq gs w sl t Fr ρ φ s y I J K=>?_⟩
  obtain ⟨N,B,w1,a0,A,t1,a2,a3,C,s1,L,⟨d,M⟩,f,D,E,H,_⟩:=I.pick (fun e=>absurd e hp) sl (fun e=>absurd e hp)
  have o:Has F (w1.at d):=by have:=f.parts.has 0 (Nat.zero_le _);rw[E,y] at this;exact this.at d
  obtain ⟨g',w',es,F',hgo,hu,O,u,hJ⟩:=h (w1.at d) o
  have v:=f.at d
  have Q:=runT_crowd_go (P:=c.P) (gs:=B) (w:=w1.at d) (sl:=A) (i:=0) D (show stepG c.P (0==0) (G fr cs) (w1.at d)=_ from hgo)
  have n:C 0=F:=E.trans y
  have R:∀b,b<w1.heap.size->b∉keys (C 0).own->w'.heap[b]?=w1.heap[b]?:=by rw[n];exact hu.frame
  have S:=v.zero (g':=g') (w':=w') (es:=es) (fn:=fr.fn) (pos:=fr.place) (s':=s1) (gE:=p0) (e8:=d0) (F':=F') D hJ.1 hJ.2.1 (.inr ⟨Int.le_refl _,Int.le_refl _⟩)
   (deafBehind_still (fun e he=>(lZ (c:=c) o hu.size (u e he) 0).2.2.2) _) (v.parts.walk (Nat.zero_le _) (by rw[n];exact hu) O)
   (v.sh.keep fun b hb=>R b (f.parts.gD b hb) (fun hm=>f.parts.gS 0 (Nat.zero_le _) b hm hb)) v.inv
   (ei.app f.base ⟨f.ne.2.1,f.ne.2.2⟩ f.parts f.gU (p:=0) (Nat.zero_le _) hu.size (fun op j=>by obtain ⟨e,_,rfl⟩:=Go.Conc.mem_ofEvents j;rfl)
    (fun op j z T=>by obtain ⟨e,he,rfl⟩:=Go.Conc.mem_ofEvents j;rw[n];exact (lZ (c:=c) o hu.size (u e he) 0).1 z T)
    (fun op j=>by obtain ⟨e,he,rfl⟩:=Go.Conc.mem_ofEvents j;exact (lZ (c:=c) o hu.size (u e he) 0).2.1)
    (fun op j=>by obtain ⟨e,he,rfl⟩:=Go.Conc.mem_ofEvents j;exact (lZ (c:=c) o hu.size (u e he) 0).2.2.1) (fun q hq=>upd_ne _ _ hq)
    (fun l g=>by
     rw[upd_same] at g
     rw[n]
     cases l with
     |cell a=>exact hu.own _ g
     |obj r=>exact hu.own _ g
     |_=>exact g.elim)
    (fun l g=>by
     rw[upd_same] at g
     rw[n]
     obtain ⟨a,rfl,U⟩:=g
     rcases hu.ro a U with z|z|z
     ·exact .inl ⟨a,rfl,z⟩
     ·exact .inr (.inl z)
     ·exact .inr (.inr z)))
   hu.size (fun l g m=>by
    have h1:=f.apart l g
    have h2:=Loc.low_mono f.js (f.low l g)
    rw[n] at h1
    cases l with
    |cell a=>
     rcases m with m|m
     ·rcases hu.own _ m with x|x
      ·exact h1 (.inl x)
      ·exact absurd h2 (Nat.not_lt.2 x)
     ·rcases hu.ro _ m with x|x|x
      ·exact h1 (.inr x)
      ·exact h1 (.inl x)
      ·exact absurd h2 (Nat.not_lt.2 x)
    |obj r=>
     rcases hu.own _ m with x|x
     ·exact h1 x
     ·exact absurd h2 (Nat.not_lt.2 x)
    |_=>exact m)
  obtain ⟨V,W,w2,X,t2,Y,Z,ab,ad,k1,ae,al,ao,ar⟩:=hJ.2.2 bq _ w' A _ _ _ _ _ (upd_same _ _ _) S J K
  refine ⟨N+1+V,W,w2,X,t2,Y,Z,ab,ad,?_,ae,?_,ao,ar⟩
  ·have:runNT c.P (N+1) (crowd gs w sl) t=(.next (crowd ((B.map (woken c.P (G fr cs) g' w')).setIfInBounds 0 g') w' A),t1++MemOp.ofEvents 0 fr.fn fr.place es):=by
    rw[runNT_add,L]
    simp only[runNT,M,Q]
    rfl
   rw[jA this]
   exact k1
  ·rw[y] at H
   exact (H.trans (dg.at_ _ _ _)).trans ((dg.pF (w:=w1.at d) hu f.js).trans al)
end
section
variable {c : Cy} {B0 : Nat} {bq : Loc → Prop} {p0 : P0} {d0 k : Nat} {g : Goroutine} {F : af} {Fr : Nat → af} {gs : Array Goroutine} {w : World} {t u : Trace} {ρ : Nat → Rk} {φ : Nat → Ph} {s : Sh} {Φ : Goroutine → af → Prop}
theorem ej.act (G:g.status= .running)(H:g.offers=none)(x:p0= .reg->k=c.n/\∀w s,cq c w s->s.ws=0->stepG c.P true g w= .go {g with status:=.blocked} w #[])
  (h:∀(w:World) (s:Sh) (φ:Nat->Ph),Has F w->cq c w s->Inv c.n c.bs k φ p0 s->(p0= .reg->s.ws≠0)->∃(g':Goroutine) (w':World) (es:Array Event) (s':Sh) (gE:P0) (e8:Nat),
   stepG c.P true g w= .go g' w' es/\cq c w' s'/\ir c w w'/\Inv c.n c.bs k φ gE s'/\Ev0 c d0 e8 es/\(mayWake c.P g=true\/(s'.ms<=s.ms/\s'.ws<=s.ws))/\ej c B0 Φ k gE e8 g' F):ej c B0 Φ k p0 d0 g F:=by
 refine ⟨G,H,fun bq gs w sl t Fr ρ φ s y I J K=>?_⟩
 obtain ⟨N,A,w1,a4,m,t1,a5,L,o,s1,M,⟨d,O⟩,a,B,Q,C,R⟩:=I.pick (fun e=>(x e).1) sl (fun e=>(x e).2)
 have D:o 0=F:=Q.trans y
 have S:Has F (w1.at d):=by have:=a.parts.has 0 (Nat.zero_le _);rw[D] at this;exact this.at d
 have j:=a.at d
 obtain ⟨g',w',es,s',gE,e8,hgo,T,r,hinv,E,U,hJ⟩:=h (w1.at d) s1 L S j.sh j.inv R
 have V:=runT_crowd_go (P:=c.P) (gs:=A) (w:=w1.at d) (sl:=m) (i:=0) B (show stepG c.P (0==0) g (w1.at d)=_ from hgo)
 have u:=CU E (o 0) w1.heap.size (a.parts.gD _ (.inr (.inl rfl)))
 have v:w'.heap.size=w1.heap.size:=r.size
 have W:=j.zero (g':=g') (w':=w') (es:=es) (fn:=g.frame.fn) (pos:=g.frame.place) (s':=s') (gE:=gE) (e8:=e8) (F':=o 0) B hJ.1 hJ.2.1 U E.deaf (j.parts.act (Nat.zero_le _) r (.refl _)) T hinv
  (ei.app a.base ⟨a.ne.2.1,a.ne.2.2⟩ a.parts a.gU (p:=0) (Nat.zero_le _) (by rw[v];exact Nat.le_refl _) (fun op b=>by obtain ⟨e,_,rfl⟩:=Go.Conc.mem_ofEvents b;rfl)
   (fun op b z X=>by obtain ⟨e,he,rfl⟩:=Go.Conc.mem_ofEvents b;exact (u e he).1 z X)
   (fun op b=>by obtain ⟨e,he,rfl⟩:=Go.Conc.mem_ofEvents b;rw[v];exact (u e he).2.1)
   (fun op b=>by obtain ⟨e,he,rfl⟩:=Go.Conc.mem_ofEvents b;exact (u e he).2.2) (fun q hq=>upd_ne _ _ hq)
   (fun l f=>by rw[upd_same] at f;exact .inl f) (fun l f=>by rw[upd_same] at f;exact .inl f))
  (by rw[v];exact Nat.le_refl _) (fun l f=>a.apart l f)
 obtain ⟨Y,Z,w2,ab,t2,ad,ae,al,ao,k1,ar,a0,a2,a3⟩:=hJ.2.2 bq _ w' m _ _ _ _ _ (by rw[upd_same];exact D) W J K
 refine ⟨N+1+Y,Z,w2,ab,t2,ad,ae,al,ao,?_,ar,?_,a2,a3⟩
 ·have:runNT c.P (N+1) (crowd gs w sl) t=(.next (crowd ((A.map (woken c.P g g' w')).setIfInBounds 0 g') w' m),t1++MemOp.ofEvents 0 g.frame.fn g.frame.place es):=by
   rw[runNT_add,M]
   simp only[runNT,O,V]
  rw[jA this]
  exact k1
 ·rw[y] at C
  exact (C.trans (dg.at_ _ _ _)).trans ((dg.CV r).trans a0)
theorem ej.yt (E:g.status= .running)(G:g.offers=none)(H:p0= .reg->k=c.n)
  (h:∀(w:World) (s:Sh) (φ:Nat->Ph),Has F w->cq c w s->Inv c.n c.bs k φ p0 s->∃(g':Goroutine) (w':World) (es:Array Event) (s':Sh) (gE:P0) (e8:Nat),
   stepG c.P true g w= .go g' w' es/\cq c w' s'/\ir c w w'/\Inv c.n c.bs k φ gE s'/\Ev0 c d0 e8 es/\(mayWake c.P g=true\/(s'.ms<=s.ms/\s'.ws<=s.ws))/\ej c B0 Φ k gE e8 g' F):ej c B0 Φ k p0 d0 g F:=by
 refine ⟨E,G,fun bq gs w sl t Fr ρ φ s x I J K=>?_⟩
 obtain ⟨N,y,w1,a3,m,t1,a4,L,o,s1,M,⟨d,O⟩,a,A,Q,B⟩:=I.q6 H sl
 have C:o 0=F:=Q.trans x
 have R:Has F (w1.at d):=by have:=a.parts.has 0 (Nat.zero_le _);rw[C] at this;exact this.at d
 have j:=a.at d
 obtain ⟨g',w',es,s',gE,e8,hgo,S,r,hinv,D,T,hJ⟩:=h (w1.at d) s1 L R j.sh j.inv
 have U:=runT_crowd_go (P:=c.P) (gs:=y) (w:=w1.at d) (sl:=m) (i:=0) A (show stepG c.P (0==0) g (w1.at d)=_ from hgo)
 have u:=CU D (o 0) w1.heap.size (a.parts.gD _ (.inr (.inl rfl)))
 have v:w'.heap.size=w1.heap.size:=r.size
 have V:=j.zero (g':=g') (w':=w') (es:=es) (fn:=g.frame.fn) (pos:=g.frame.place) (s':=s') (gE:=gE) (e8:=e8) (F':=o 0) A hJ.1 hJ.2.1 T D.deaf (j.parts.act (Nat.zero_le _) r (.refl _)) S hinv
  (ei.app a.base ⟨a.ne.2.1,a.ne.2.2⟩ a.parts a.gU (p:=0) (Nat.zero_le _) (by rw[v];exact Nat.le_refl _) (fun op b=>by obtain ⟨e,_,rfl⟩:=Go.Conc.mem_ofEvents b;rfl)
   (fun op b z W=>by obtain ⟨e,he,rfl⟩:=Go.Conc.mem_ofEvents b;exact (u e he).1 z W)
   (fun op b=>by obtain ⟨e,he,rfl⟩:=Go.Conc.mem_ofEvents b;rw[v];exact (u e he).2.1)
   (fun op b=>by obtain ⟨e,he,rfl⟩:=Go.Conc.mem_ofEvents b;exact (u e he).2.2) (fun q hq=>upd_ne _ _ hq)
   (fun l f=>by rw[upd_same] at f;exact .inl f) (fun l f=>by rw[upd_same] at f;exact .inl f))
  (by rw[v];exact Nat.le_refl _) (fun l f=>a.apart l f)
 obtain ⟨X,Y,w2,Z,t2,ab,ad,ae,al,k1,ao,ar,a0,a2⟩:=hJ.2.2 bq _ w' m _ _ _ _ _ (by rw[upd_same];exact C) V J K
 refine ⟨N+1+X,Y,w2,Z,t2,ab,ad,ae,al,?_,ao,?_,a0,a2⟩
 ·have:runNT c.P (N+1) (crowd gs w sl) t=(.next (crowd ((y.map (woken c.P g g' w')).setIfInBounds 0 g') w' m),t1++MemOp.ofEvents 0 g.frame.fn g.frame.place es):=by
   rw[runNT_add,M]
   simp only[runNT,O,U]
  rw[jA this]
  exact k1
 ·rw[x] at B
  exact (B.trans (dg.at_ _ _ _)).trans ((dg.CV r).trans ar)
theorem ej.spawn (D:g.status= .running)(a5:g.offers=none)(Q:k<c.n)
  (h:∀w,Has F w->∃g' child,stepG c.P true g w= .spawn g' child w #[]/\Wk c k {mp:=.idle,gp:=.cnt,stored:=false,deaf:=0} child ⟨F.ro,[]⟩/\child.status= .running/\child.offers=none/\ej c B0 Φ (k+1) (.opn 0) 0 g' F):
  ej c B0 Φ k (.opn 1) 0 g F:=by
 refine ⟨D,a5,fun bq gs w sl t Fr ρ φ s al a6 a7 a8=>?_⟩
 obtain ⟨N,G,w1,dp,Z,t1,a9,U,V,s1,ba,⟨d,bb⟩,f,ao,bc,ar,_⟩:=a6.pick (fun e=>by cases e) sl (fun e=>by cases e)
 have ab:V 0=F:=bc.trans al
 have a0:Has F (w1.at d):=by have:=f.parts.has 0 (Nat.zero_le _);rw[ab] at this;exact this.at d
 have R:=f.at d
 obtain ⟨g',child,hgo,⟨M,r,hle,hW⟩,dq,ds,hJ⟩:=h (w1.at d) a0
 have bd:=runT_crowd_spawn (P:=c.P) (gs:=G) (w:=w1.at d) (sl:=Z) (i:=0) ao (show stepG c.P (0==0) g (w1.at d)=_ from hgo)
 have a2:=f.size
 have bj:0<G.size:=(Array.getElem?_eq_some_iff.1 ao).1
 let I:Ph:={mp:=.idle,gp:=.cnt,stored:=false,deaf:=0}
 have J:keys M.own=[]:=by
  cases bk:keys M.own with
  |nil=>rfl
  |cons b l=>exact absurd (hle.own b (by rw[bk];simp)) (by simp[keys])
 have X:∀a,(M.ro a).isSome=true->((V 0).ro a).isSome=true:=fun a p=>by
  rw[ab]
  rcases hle.ro a p with x|x
  ·exact x
  ·simp[keys] at x
 have bl:Has M (w1.at d):=hle.has _ ⟨a0.ro,fun b o hb=>(by cases hb),List.nodup_nil,fun a v D hm=>(by cases hm)⟩
 have H:=R.inv.i
 have a3:(U k).gp= .new:=by
  have:=(H.born k Q)
  rcases Classical.em ((U k).gp= .new) with x|x
  ·exact x
  ·exact absurd (this.2 x) (Nat.lt_irrefl _)
 obtain ⟨bm,bo,dt⟩:=H.new k Q a3
 let O:Nat->af:=upd V (k+1) M
 have e1:∀q,q<=k->O q=V q:=fun q hq=>upd_ne _ _ (by omega)
 have e2:O (k+1)=M:=upd_same _ _ _
 have br:dw c (k+1) O (w1.at d):=by
  have hp:=R.parts
  have cs:∀q,q<=k+1->q<=k\/q=k+1:=fun q hq=>by omega
  refine ⟨fun q hq=>?_,fun q r hq D ad b hb A=>?_,fun q r hq D ad a p hb=>?_,fun q hq b hb=>?_,fun q hq a p=>?_,hp.gD⟩
  ·rcases cs q hq with x|rfl
   ·rw[e1 q x];exact hp.has q x
   ·rw[e2];exact bl
  ·rcases cs q hq with x|rfl
   ·rcases cs r D with y|rfl
    ·rw[e1 q x] at hb;rw[e1 r y] at A;exact hp.own q r x y ad b hb A
    ·rw[e2,J] at A;cases A
   ·rw[e2,J] at hb;cases hb
  ·rcases cs r D with y|rfl
   ·rw[e1 r y] at hb
    rcases cs q hq with x|rfl
    ·rw[e1 q x] at p;exact hp.ro q r x y ad a p hb
    ·rw[e2] at p
     rcases Nat.eq_zero_or_pos r with rfl|du
     ·obtain ⟨v,bz⟩:=Option.isSome_iff_exists.1 (X a p)
      exact (hp.has 0 (Nat.zero_le _)).apart a v bz hb
     ·exact hp.ro 0 r (Nat.zero_le _) y (by omega) a (X a p) hb
   ·rw[e2,J] at hb;cases hb
  ·rcases cs q hq with x|rfl
   ·rw[e1 q x] at hb;exact hp.gS q x b hb
   ·rw[e2,J] at hb;cases hb
  ·rcases cs q hq with x|rfl
   ·rw[e1 q x] at p;exact hp.jq q x a p
   ·rw[e2] at p;exact hp.jq 0 (Nat.zero_le _) a (X a p)
 have hinv:Inv c.n c.bs (k+1) (upd U k I) (.opn 0) s1:=by
  obtain ⟨C,S,W,L,m,hm⟩:=R.inv.m
  refine ⟨⟨C,S,W,L,m,nk hm Q I (.inl bo.symm)⟩,Jo R.inv.w Q I a3 rfl,H.len,Q,fun j E=>?_,fun j E=>?_,fun j E hn=>?_,fun j E h1 h2=>?_⟩<;>by_cases e:j=k
  ·subst e;rw[upd_same,H.all j E,bm]
  ·rw[upd_ne _ _ e];exact H.all j E
  ·subst e;rw[upd_same];exact ⟨fun _=>by simp[I],fun _=>by omega⟩
  ·rw[upd_ne _ _ e,<-H.born j E];omega
  ·subst e;rw[upd_same] at hn;simp[I] at hn
  ·rw[upd_ne _ _ e] at hn ⊢;exact H.new j E hn
  ·subst e;rw[upd_same] at h1;simp[I] at h1
  ·rw[upd_ne _ _ e] at h1 h2 ⊢;exact H.done j E h1 h2
 let u:Array MemOp:=#[{g:=0,fn:=g.frame.fn,pos:=g.frame.place,act:=.go G.size},{g:=G.size,fn:=child.frame.fn,pos:=g.frame.place,act:=.start}]
 have bS:((MemOp.ofEvents 0 g.frame.fn g.frame.place #[]).push {g:=0,fn:=g.frame.fn,pos:=g.frame.place,act:=.go G.size}|>.push {g:=G.size,fn:=child.frame.fn,pos:=g.frame.place,act:=.start})=u:=by simp[MemOp.ofEvents,u]
 have b0:ei c bq (k+1) O w1.heap.size (t1++u):=f.gU.fork f.base f.parts ⟨rfl,by rw[a2]⟩ ⟨by rw[a2],rfl⟩ f.deaf0 (f.above _ (by omega)) e1 (fun l B=>by
  rw[e2] at B
  cases l with
  |cell a=>simp only[eZ,J] at B;cases B
  |obj r=>simp only[eZ,J] at B;cases B
  |_=>exact B) (fun l B=>by
  rw[e2] at B
  obtain ⟨a,rfl,p⟩:=B
  exact ⟨a,rfl,X a p⟩)
 have T:∀j,Deaf (t1++u) j=Deaf t1 j:=fun j=>by
  have:=Deaf_append t1 j u.toList
  simp only[Array.toArray_toList] at this
  rw[this]
  rfl
 have b1:∀j r,gi c t1 j r->gi c (t1++u) j r:=fun j r D=>D.app fun idx x hi hg b2=>by
  obtain ⟨z,b3,b4⟩:=touch_of b2
  rcases getElem?_append_cases b3 with ⟨dv,_⟩|⟨_,a4⟩
  ·omega
  ·simp only[u,List.mem_toArray,List.mem_cons,List.not_mem_nil,or_false] at a4
   rcases a4 with rfl|rfl<;>cases b4
 have b5:dx c B0 bq (.opn 0) 0 (k+1) g' O ((G.setIfInBounds 0 g').push child) (w1.at d) (t1++u) (l5 a9 (c.base+k) r) (upd U k I) s1:=by
  have hb:=f.base
  refine ⟨by simp;omega,hb,hJ.1,hJ.2.1,⟨g',by rw[Array.getElem?_push,if_neg (by simp;omega)];exact Array.getElem?_setIfInBounds_self_of_lt bj,by have:=hJ.1;cases g';simp_all,.inl hJ.1⟩,fun j y h0 A Y=>?_,fun i hi=>?_,fun i hi=>?_,fun j E=>?_,?_,br,R.sh,hinv,b0,fun i hi hg=>?_,fun l B=>by rw[e1 0 (Nat.zero_le _)];exact f.apart l B,f.low,fun i hi b A=>?_,f.js,f.ne⟩
  ·rw[Array.getElem?_push,if_neg (by simp;omega),Array.getElem?_setIfInBounds_ne (by omega)] at Y
   obtain ⟨q,hq,ca⟩:=f.old j y h0 A Y
   exact ⟨q,by rw[nq _ _ (by omega)];exact hq,by rw[T];exact ca⟩
  ·rcases Nat.lt_or_ge i k with K|ae
   ·obtain ⟨y,Y,cb⟩:=f.wk i K
    refine ⟨y,by rw[Array.getElem?_push,if_neg (by simp;omega),Array.getElem?_setIfInBounds_ne (by omega)];exact Y,?_⟩
    rw[nq _ _ (by omega),upd_ne _ _ (by omega),e1 (i+1) (by omega)]
    exact cb
   ·obtain rfl:i=k:=by omega
    refine ⟨child,by rw[Array.getElem?_push,if_pos (by simp;omega)],?_⟩
    rw[oY,upd_same,e2]
    exact (hW.yq s1).1
  ·rcases Nat.lt_or_ge i k with K|ae
   ·rw[T,upd_ne _ _ (by omega)];exact f.deaf i K
   ·obtain rfl:i=k:=by omega
    rw[T,upd_same];exact f.above _ (by omega)
  ·rw[T];exact f.above j (by simp at E;omega)
  ·rw[T];exact f.deaf0
  ·rcases Nat.lt_or_ge i k with K|ae
   ·rw[upd_ne _ _ (by omega)] at hg
    obtain ⟨r,D⟩:=f.rel i K hg
    exact ⟨r,b1 _ _ D⟩
   ·obtain rfl:i=k:=by omega
    rw[upd_same] at hg
    exact absurd rfl hg
  ·rcases Nat.lt_or_ge i k with K|ae
   ·rw[e1 (i+1) (by omega)] at A;exact f.jr i K b A
   ·obtain rfl:i=k:=by omega
    rw[e2,J] at A;cases A
 obtain ⟨cd,cf,w2,cl,t2,cy,cS,c0,da,k1,db,dd,df,dk⟩:=hJ.2.2 bq _ (w1.at d) Z _ O _ _ _ (by rw[e1 0 (Nat.zero_le _)];exact ab) b5 a7 a8
 refine ⟨N+1+cd,cf,w2,cl,t2,cy,cS,c0,da,?_,db,?_,df,dk⟩
 ·have:runNT c.P (N+1) (crowd gs w sl) t=(.next (crowd ((G.setIfInBounds 0 g').push child) (w1.at d) Z),t1++u):=by
   rw[runNT_add,ba]
   simp only[runNT,bb,bd,bS]
  rw[jA this]
  exact k1
 ·rw[al] at ar
  exact (ar.trans (dg.at_ _ _ _)).trans dd
def Cy.fin (c:Cy):Obj:=.cells ((List.range c.n).map fun i=>Value.bool (c.bs i)).toArray c.tI
theorem ej.join (G:g.status= .running)(S:g.offers=none)
  (h:∀w,Has F w->∃g',stepG c.P true g w= .go g' w #[cC (.acquire (stA c.Wg))]/\g'.status= .running/\Φ g' ⟨F.ro,(c.Is,c.fin)::F.own⟩):ej c B0 Φ c.n .eV 0 g F:=by
 refine ⟨G,S,fun bq gs w sl t Fr ρ φ s K T U V=>?_⟩
 obtain ⟨N,p,w1,bc,L,t1,bd,W,X,s1,Y,⟨d,Z⟩,f,M,ab,O,_⟩:=T.pick (fun e=>by cases e) sl (fun e=>by cases e)
 have A:X 0=F:=ab.trans K
 have ad:Has F w1:=by have:=f.parts.has 0 (Nat.zero_le _);rw[A] at this;exact this
 have C:Has F (w1.at d):=ad.at d
 obtain ⟨g',hgo,bj,ae⟩:=h (w1.at d) C
 have al:=runT_crowd_go (P:=c.P) (gs:=p) (w:=w1.at d) (sl:=L) (i:=0) M (show stepG c.P (0==0) g (w1.at d)=_ from hgo)
 have ao:0<p.size:=(Array.getElem?_eq_some_iff.1 M).1
 obtain ⟨_,ar,a0,a2⟩:=CI f.inv.w
 have H:∀i,i<c.n->(W i).gp= .gone:=fun i hi=>(Ju ar a0 a2 hi).resolve_right fun e=>((f.inv.i.born i hi).1 hi) e
 have a3:∀i,i<c.n->∃r,gi c t1 (c.base+i) r:=fun i hi=>f.rel i hi (by rw[H i hi];simp)
 have a4:=f.gU.fH a3 (y:={g:=0,fn:=g.frame.fn,pos:=g.frame.place,act:=.mark (.acquire (stA c.Wg))}) ⟨rfl,rfl⟩ f.deaf0 (f.parts.gD _ (.inr (.inl rfl)))
 have a5:MemOp.ofEvents 0 g.frame.fn g.frame.place #[cC (.acquire (stA c.Wg))]=#[{g:=0,fn:=g.frame.fn,pos:=g.frame.place,act:=.mark (.acquire (stA c.Wg))}]:=by rw[Go.Conc.ofEvents_eq];simp[cC,MemAct.ofEvent]
 have a6:s1.is=(List.range c.n).map c.bs:=by
  refine List.ext_getElem? fun i=>?_
  by_cases hi:i<c.n
  ·rw[f.inv.i.all i hi,(f.inv.i.done i hi (by rw[H i hi];simp) (by rw[H i hi];simp)).1]
   simp[hi]
  ·have h1:s1.is.length=c.n:=f.inv.i.len
   rw[List.getElem?_eq_none (by omega),List.getElem?_eq_none (by simp;omega)]
 have a7:w1.heap[c.Is]?=some c.fin:=by
  have:=f.sh.2.2
  rw[a6,List.map_map] at this
  exact this
 have hq:∀j,∃q,∀x,0<j->p[j]?=some x->QuitsD c.P q (Deaf t1 j) x:=fun j=>by
  by_cases I:∃x,0<j/\p[j]?=some x
  ·obtain ⟨x,h0,D⟩:=I
   rcases Nat.lt_or_ge j c.base with Q|Q
   ·obtain ⟨q,_,B⟩:=f.old j x h0 Q D
    exact ⟨q,fun y _ u=>by rw[D] at u;cases u;exact B⟩
   ·have k:j<p.size:=(Array.getElem?_eq_some_iff.1 D).1
    have bk:=f.size
    obtain ⟨i,rfl⟩:∃i,j=c.base+i:=⟨j - c.base,by omega⟩
    obtain ⟨y,u,hW⟩:=f.wk i (by omega)
    rcases hW with ⟨_,q,_,B⟩|⟨a8,_⟩
    ·exact ⟨q,fun z _ J=>by rw[u] at J;cases J;rw[f.deaf i (by omega)];exact B⟩
    ·exact absurd (H i (by omega)) a8
  ·exact ⟨0,fun x h0 D=>absurd ⟨x,h0,D⟩ I⟩
 let q:Nat->Nat:=fun j=>Classical.choose (hq j)
 have a9:∀j x,0<j->p[j]?=some x->QuitsD c.P (q j) (Deaf t1 j) x:=fun j=>Classical.choose_spec (hq j)
 have R:∀j,j≠0->Deaf (t1++#[({g:=0,fn:=g.frame.fn,pos:=g.frame.place,act:=.mark (.acquire (stA c.Wg))}:MemOp)]) j=Deaf t1 j:=fun j ba=>Deaf_other t1 (g':=0) (Ne.symm ba) _ (by simp)
 refine ⟨N+1,(p.map (woken c.P g g' (w1.at d))).setIfInBounds 0 g',w1.at d,L,t1++#[{g:=0,fn:=g.frame.fn,pos:=g.frame.place,act:=.mark (.acquire (stA c.Wg))}],q,g',⟨F.ro,(c.Is,c.fin)::F.own⟩,_,?_,⟨?_,⟨fun j y h0 u=>?_,fun j I=>?_⟩,a4,?_,fun l k m=>?_,fun l k=>?_⟩,?_,fun l k=>k,ae⟩
 ·rw[runNT_add,Y]
  simp only[runNT,Z,al,a5]
 ·exact Array.getElem?_setIfInBounds_self_of_lt (by simpa using ao)
 ·rw[Array.getElem?_setIfInBounds_ne (by omega),Array.getElem?_map] at u
  obtain ⟨z,J,rfl⟩:=Option.map_eq_some_iff.1 u
  have B:=a9 j z h0 J
  rw[woken_quitsD B,R j (by omega)];exact B
 ·have:p.size<=j:=by simpa using I
  rw[R j (by omega)]
  exact f.above j this
 ·have bb:c.Is∉keys F.own:=fun hm=>f.parts.gS 0 (Nat.zero_le _) _ (by rw[A];exact hm) (.inr (.inr rfl))
  refine ⟨C.ro,fun b o hb=>?_,?_,fun a v G hm=>?_⟩
  ·rcases List.mem_cons.1 hb with x|x
   ·cases x;exact a7
   ·exact C.own b o x
  ·exact List.nodup_cons.2 ⟨bb,C.nodup⟩
  ·rcases List.mem_cons.1 hm with x|x
   ·exact f.parts.jq 0 (Nat.zero_le _) a (by rw[A,G];rfl) (.inr (.inr x))
   ·exact C.apart a v G x
 ·rcases k with k|⟨a,rfl,E⟩
  ·have h1:=f.apart l k
   rw[A] at h1
   cases l with
   |cell a=>
    rcases m with m|m
    ·rcases List.mem_cons.1 m with x|x
     ·exact U a k (.inr (.inr x))
     ·exact h1 (.inl x)
    ·exact h1 (.inr m)
   |obj r=>
    rcases List.mem_cons.1 m with x|x
    ·exact V r k (.inr (.inr x))
    ·exact h1 x
   |_=>exact m
  ·rcases m with m|m
   ·rcases List.mem_cons.1 m with x|x
    ·exact f.ne.2.2 (E▸x)
    ·exact f.parts.gS 0 (Nat.zero_le _) a.block (by rw[A];exact x) (.inr (.inl E))
   ·exact f.parts.jq 0 (Nat.zero_le _) a (by rw[A];exact m) (.inr (.inl E))
 ·rcases k with k|⟨a,rfl,E⟩
  ·exact Loc.low_mono f.js (f.low l k)
  ·show a.block<_;rw[E];exact f.parts.gD _ (.inr (.inl rfl))
 ·rw[K] at O
  refine (O.trans (dg.at_ _ _ _)).trans ⟨.refl _,rfl,rfl,Nat.le_refl _,fun _ _ _ _=>rfl,fun _ h=>.inl h,fun b hb=>?_⟩
  rcases List.mem_cons.1 hb with x|x
  ·exact .inr (.inr (.inr (.inr x)))
  ·exact .inl x
end
def iL (P:Program)(Φ:Goroutine->af->Prop)(g:Goroutine)(F:af):Prop:=
 g.status= .running/\g.offers=none/\∀(bq:Loc->Prop) (gs:Array Goroutine) (w:World) (sl:Option (Nat×Nat)) (t:Trace) (q:Nat->Nat),jz P bq g F gs w t q->
  ∃(N:Nat) (bQ:Array Goroutine) (w':World) (c:Option (Nat×Nat)) (a:Trace) (d:Nat->Nat) (g':Goroutine) (F':af) (b:Loc->Prop),
   runNT P N (crowd gs w sl) t=(.next (crowd bQ w' c),a)/\jz P b g' F' bQ w' a d/\fe F F' w w'/\(∀l,b l->bq l\/¬l.low w.heap.size\/eZ F l)/\Φ g' F'
theorem iL.done {P:Program}{Φ:Goroutine->af->Prop}{g:Goroutine}{F:af}(a:g.status= .running)(b:g.offers=none)(h:Φ g F):iL P Φ g F:=
 ⟨a,b,fun bq gs w sl t q c=>⟨0,gs,w,sl,t,q,g,F,bq,rfl,c,.refl _ _,fun _ h=>.inl h,h⟩⟩
theorem Le.JM {F F':af}(h:Le F F'){l:Loc}(b:eZ F l):eZ F' l:=by
 cases l with
 |cell a=>exact h.own _ b
 |obj r=>exact h.own _ b
 |_=>exact b
theorem CW (P:Program)(Φ:Goroutine->af->Prop):Closed P true (iL P Φ) where
 mono hle h:=by
  refine ⟨h.1,h.2.1,fun bq gs w sl t q b=>?_⟩
  obtain ⟨N,bQ,w',A,B,C,g',F',D,k,E,hu,H,hp⟩:=h.2.2 bq gs w sl t q ⟨b.g0,b.lv,b.fH,hle.has w b.has,fun l hs I=>b.apart l hs (hle.gG I),b.low⟩
  exact ⟨N,bQ,w',A,B,C,g',F',D,k,E,hu.le hle,fun l m=>(H l m).imp id fun x=>x.imp id hle.JM,hp⟩
 step {fr cs F} h:=by
  refine ⟨rfl,rfl,fun bq gs w sl t q b=>?_⟩
  obtain ⟨N,n,d,o,a0,p,t1,J,k,a2,h0,u,K,L⟩:=q6 (P:=P) (a:=G fr cs) rfl _ gs w sl t q (Nat.le_refl _) b.g0 b.lv b.fH
  obtain ⟨g',w',es,F',hgo,hu,M,O,hJ⟩:=h (w.at o) (b.has.at o)
  have c:dK F F' w w':=⟨hu.os,hu.tape,hu.output,hu.size,hu.frame,hu.ro,hu.own⟩
  have Q:=runT_crowd_go (P:=P) (sl:=p) (i:=0) h0 (show stepG P (0==0) (G fr cs) (w.at o)=_ from hgo)
  have R:0<n.size:=(Array.getElem?_eq_some_iff.1 h0).1
  have v:=jz.next (P:=P) b.apart b.low c
  obtain ⟨S,T,w2,U,t2,V,W,X,Y,Z,ab,ad,ae,al⟩:=hJ.2.2 bq ((n.map (woken P (G fr cs) g' w')).setIfInBounds 0 g') w' p (t1++MemOp.ofEvents 0 (G fr cs).frame.fn (G fr cs).frame.place es) J
   {g0:=by simp[R]
    lv:=⟨fun j x g z=>by
     have ao:0≠j:=by omega
     rw[Array.getElem?_setIfInBounds_ne ao,Array.getElem?_map] at z
     obtain ⟨y,ar,rfl⟩:=Option.map_eq_some_iff.1 z
     have hq:=u.old j y g ar
     rw[woken_quitsD hq,Deaf_other t1 (by omega) _ (fun op s=>by obtain ⟨e,_,rfl⟩:=Go.Conc.mem_ofEvents s;rfl)]
     exact hq,fun j g=>by
     rw[Deaf_other t1 (g':=0) (by simp at g;omega) _ (fun op s=>by obtain ⟨e,_,rfl⟩:=Go.Conc.mem_ofEvents s;rfl)]
     exact u.above j (by simpa using g)⟩
    fH:=(K.mono c.size).own fun e he=>zE b.has c.size b.apart b.low (O e he)
    has:=M
    apart:=v.1
    low:=v.2}
  refine ⟨N+1+S,T,w2,U,t2,V,W,X,Y,?_,ab,(fe.pF c).trans ad,fun l m=>?_,al⟩
  ·have:runNT P (N+1) (crowd gs w sl) t=(.next (crowd ((n.map (woken P (G fr cs) g' w')).setIfInBounds 0 g') w' p),t1++MemOp.ofEvents 0 (G fr cs).frame.fn (G fr cs).frame.place es):=by
    rw[runNT_add,k]
    simp only[runNT,L,Q]
   rw[jA this]
   exact Z
  ·rcases ae l m with x|x|x
   ·exact .inl x
   ·exact .inr (.inl fun f=>x (Loc.low_mono c.size f))
   ·cases l with
    |cell a=>
     rcases c.own _ x with y|y
     ·exact .inr (.inr y)
     ·exact .inr (.inl fun f=>absurd f (Nat.not_lt.2 y))
    |obj r=>
     rcases c.own _ x with y|y
     ·exact .inr (.inr y)
     ·exact .inr (.inl fun f=>absurd f (Nat.not_lt.2 y))
    |_=>exact x.elim
theorem fL.JN {P:Program}{f:FuncId}{args:Array Value}{ro:Addr->Option Value}{R:Value->af->Prop}(h:∀Φ,cL P (iL P Φ) f args ⟨ro,[]⟩ R):fL P f args ⟨ro,[]⟩ R:=by
 intro Φ c cs b bq gs w sl t q d
 obtain ⟨N,bQ,w',e,g,i,g',F',j,k,m,hu,n,v,rfl,a⟩:=(h (fun g' F'=>∃v,g'=G (c.finish v) cs/\R v F') c cs (fun v F' a=>iL.done rfl rfl ⟨v,rfl,a⟩)).2.2 bq gs w sl t q d
 obtain ⟨o,p,w2,r,t2,s,u,z,A,B,C,D,E,F⟩:=b v F' a j bQ w' e g i m
 refine ⟨N+o,p,w2,r,t2,s,u,z,A,by rw[jA k];exact B,C,hu.trans D,fun l H=>?_,F⟩
 rcases E l H with x|x
 ·rcases n l x with y|y|y
  ·exact .inl y
  ·exact .inr y
  ·cases l<;>first|(simp only[eZ,keys,List.map_nil] at y;cases y)|exact y.elim
 ·exact .inr fun I=>x (Loc.low_mono hu.size I)
theorem iL.found {P:Program}{Φ:Goroutine->af->Prop}{g:Goroutine}{F C:af}{Mu Wg Is:Nat}{tM tW tI:TypeId}{n:Nat}(bs:Nat->Bool)(H:g.status= .running)(M:g.offers=none)
  (hle:Le ⟨C.ro,(Mu,muBlock tM 0 0)::(Wg,wgBlock tW 0 0)::(Is,.cells (List.replicate n (Value.bool false)).toArray tI)::C.own⟩ F)
  (h:∀base B0 T0,0<base->(Mu≠Wg/\Mu≠Is/\Wg≠Is)->ej ⟨P,Mu,Wg,Is,tM,tW,tI,n,bs,base,T0⟩ B0 (iL P Φ) 0 (.opn 0) 0 g C):iL P Φ g F:=by
 refine ⟨H,M,fun bq gs w sl t q k=>?_⟩
 have A:=hle.has w k.has
 have O:0<gs.size:=(Array.getElem?_eq_some_iff.1 k.g0).1
 let c:Cy:=⟨P,Mu,Wg,Is,tM,tW,tI,n,bs,gs.size,t.size⟩
 have Q:=A.nodup
 simp only[keys,List.map_cons,List.nodup_cons,List.mem_cons,not_or] at Q
 obtain ⟨⟨n1,n2,n3⟩,⟨R,S⟩,T,U⟩:=Q
 have u:∀b,c.shared b->b∈keys F.own:=fun b hb=>by
  rcases hb with rfl|rfl|rfl<;>exact hle.own _ (by simp[keys,c])
 have D:∀b,b∈keys C.own->b∈keys F.own:=fun b hb=>hle.own b (by simp only[keys,List.map_cons,List.mem_cons];exact .inr (.inr (.inr hb)))
 have K:∀a,(C.ro a).isSome=true->(F.ro a).isSome=true\/a.block∈keys F.own:=fun a d=>hle.ro a d
 have V:Has C w:=⟨A.ro,fun b o hb=>A.own b o (List.mem_cons_of_mem _ (List.mem_cons_of_mem _ (List.mem_cons_of_mem _ hb))),U,fun a v H hm=>A.apart a v H (by simp only[keys,List.map_cons,List.mem_cons];exact .inr (.inr (.inr hm)))⟩
 have J:∀l,F.gG l->∀i a,touchAt t i=some a->a.loc=l->l.isMemory=true->Go.Conc.Knows t 0 i:=fun l m i a d e hm=>by
  rcases k.fH.known i a d (by rw[e];exact hm) with x|⟨x,_⟩
  ·exact x
  ·exact absurd m (k.apart l (e▸x))
 let φ:Nat->Ph:=fun _=>{mp:=.idle,gp:=.new,stored:=false,deaf:=0}
 let s:Sh:=⟨0,0,0,0,List.replicate n false⟩
 have W:dx c w.heap.size bq (.opn 0) 0 0 g (fun _=>C) gs w t (fun j=>Rk.nat (q j)) φ s:=by
  refine ⟨rfl,O,H,M,⟨g,k.g0,by cases g;simp_all,.inl H⟩,fun j x h0 _ X=>⟨q j,rfl,k.lv.old j x h0 X⟩,fun i hi=>by omega,fun i hi=>by omega,k.lv.above,k.fH.hears,⟨fun p hp=>V,fun p q hp hq Y=>by omega,fun p q hp hq Y=>by omega,fun p hp b hb hs=>?_,fun p hp a d hs=>?_,fun b hb=>k.has.lt (u b hb)⟩,
   ⟨?_,?_,?_⟩,⟨⟨0,0,0,0,0,⟨⟨rfl,by omega,by omega,by omega⟩,rfl,?_,fun _=>?_,fun e=>by omega,fun i hi o G Z=>by simp[φ,Mp.seen] at Z⟩⟩,⟨?_⟩,⟨by simp[s,c],Nat.zero_le _,fun i hi=>?_,fun i hi=>?_,fun i hi _=>⟨rfl,rfl,rfl⟩,fun i hi _ hn=>by simp[φ] at hn⟩⟩,
   ⟨Nat.le_refl _,fun i a d hs=>.inr fun p hp=>?_,k.fH.clean,fun p hp l m=>?_,fun p hp l m=>?_,fun i hi=>by omega,fun i hi l m=>?_,k.fH.seen,fun i hi e=>?_,fun i a d hm=>?_,fun i g hg ab ad=>.inl (k.fH.over i g hg ab ad)⟩,
   fun i hi=>by omega,fun l m E=>?_,k.low,fun i hi=>by omega,Nat.le_refl _,⟨n1,n2,R⟩⟩
  ·rcases hs with e|e|e
   ·exact n3 (by rw[<-show b=Mu from e];exact hb)
   ·exact S (by rw[<-show b=Wg from e];exact hb)
   ·exact T (by rw[<-show b=Is from e];exact hb)
  ·obtain ⟨v,ae⟩:=Option.isSome_iff_exists.1 d
   refine A.apart a v ae ?_
   rcases hs with e|e|e
   ·rw[show a.block=Mu from e];simp[keys]
   ·rw[show a.block=Wg from e];simp[keys]
   ·rw[show a.block=Is from e];simp[keys]
  ·exact A.own Mu (muBlock tM 0 0) (.head _)
  ·exact A.own Wg (wgBlock tW 0 0) (.tail _ (.head _))
  ·have:=A.own Is (.cells (List.replicate n (Value.bool false)).toArray tI) (.tail _ (.tail _ (.head _)))
   rw[show (s.is.map Value.bool)=List.replicate n (Value.bool false) from by simp[s]]
   exact this
  ·exact (ym fun i hi=>rfl).symm
  ·have z:∀f:Mp->Nat,f .idle=0->sm n φ f=0:=fun f E=>ym fun i hi=>E
   have a1:=z Mp.nI rfl;have a2:=z Mp.nY rfl;have a3:=z Mp.nA rfl;have a4:=z Mp.nK rfl;have a5:=z Mp.nT rfl;have bS:=z Mp.nQ rfl
   refine ⟨a1,a2,?_,?_,fun e=>absurd e (Nat.lt_irrefl _)⟩
   ·show 0=sm n φ Mp.nA+0+sm n φ Mp.nK+sm n φ Mp.nT;omega
   ·show 0+0+sm n φ Mp.nT=sm n φ Mp.nQ;omega
  ·have z:∀f:Gp->Nat,f .new=0->sg n φ f=0:=fun f E=>tY fun i hi=>E
   refine ⟨by omega,?_,rfl,z _ rfl,z _ rfl⟩
   show (0:Int)=((sg n φ Gp.nV+0:Nat):Int)*cO
   rw[z _ rfl];rfl
  ·simp[s,φ,show i<n from hi]
  ·exact ⟨fun e=>by omega,fun e=>by simp[φ] at e⟩
  ·obtain rfl:p=0:=by omega
   obtain ⟨b,e,hb⟩:=hs
   exact J a.loc (by rw[e];exact .inl (u _ (hb.elim .inl fun x=>.inr (.inl x)))) i a d rfl (by rw[e];rfl)
  ·obtain rfl:p=0:=by omega
   intro i a d e
   refine J l ?_ i a d e ?_
   ·cases l with
    |cell a=>exact .inl (D _ m)
    |obj r=>exact D _ m
    |_=>exact m.elim
   ·cases l<;>first|rfl|exact m.elim
  ·obtain rfl:p=0:=by omega
   obtain ⟨b,rfl,hb⟩:=m
   exact fun i a d e _=>J (.cell b) ((K b hb).elim (fun x=>Or.inr x) (fun x=>Or.inl x)) i a d e rfl
  ·intro j a d e
   rw[show l=_ from m] at e
   exact J (.cell ⟨Is,i,none⟩) (Or.inl (u Is (.inr (.inr rfl)))) j a d e rfl
  ·exact absurd (lt_of_act? e) (Nat.not_lt.2 hi)
  ·rcases k.fH.known i a d hm with x|x
   ·exact .inl x
   ·exact .inr (.inl x)
  ·refine k.apart l m ?_
   cases l with
   |cell a=>exact E.elim (fun x=>.inl (D _ x)) fun x=>(K a x).elim .inr .inl
   |obj r=>exact D _ E
   |_=>exact E
 obtain ⟨N,bQ,w',al,ao,ar,g',F',a0,k1,a6,B,a7,a8⟩:=(h gs.size w.heap.size t.size O ⟨n1,n2,R⟩).2.2 bq gs w sl t _ _ _ _ rfl W (fun a hs hb=>k.apart _ hs (.inl (u _ hb))) (fun r hs hb=>k.apart _ hs (u _ hb))
 obtain ⟨a9,ba,w2,bb,t2,bc,bd,bj,bk,bl,bm,bo,br,bz⟩:=a8.2.2 a0 bQ w' al ao ar a6
 have L:fe F F' w w':=⟨B.os,B.tape,B.output,B.size,fun b hb hn=>B.frame b hb (fun x=>hn (D b x)) (fun x=>hn (u b x)),fun a d=>by
  rcases B.ro a d with x|x|x|x
  ·exact (K a x).imp id .inl
  ·exact .inr (.inl (D _ x))
  ·exact .inr (.inr x)
  ·exact .inr (.inl (u _ x)),fun b hb=>by
  rcases B.own b hb with x|x|x
  ·exact .inl (D b x)
  ·exact .inr x
  ·exact .inl (u b x)⟩
 refine ⟨N+a9,ba,w2,bb,t2,bc,bd,bj,bk,by rw[jA k1];exact bl,bm,L.trans bo,fun l m=>?_,bz⟩
 rcases br l m with x|x|x
 ·rcases a7 l x with y|⟨a,rfl,d⟩
  ·exact .inl y
  ·exact .inr (.inr (show a.block∈keys F.own from u _ (.inr (.inl d))))
 ·exact .inr (.inl fun I=>x (Loc.low_mono B.size I))
 ·cases l with
  |cell a=>
   rcases L.own _ x with y|y
   ·exact .inr (.inr y)
   ·exact .inr (.inl fun I=>absurd I (Nat.not_lt.2 y))
  |obj r=>
   rcases L.own _ x with y|y
   ·exact .inr (.inr y)
   ·exact .inr (.inl fun I=>absurd I (Nat.not_lt.2 y))
  |_=>exact x.elim
end Go.Sep
end

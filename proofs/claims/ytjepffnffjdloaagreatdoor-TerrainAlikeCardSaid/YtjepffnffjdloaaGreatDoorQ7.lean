/- A part of the proof of a row and its tied card: Q7. -/
import Derived.Test.YtjepffnffjdloaaGreatDoorQ6
import Derived.Conc.CrowdTrace
set_option linter.all false
section
namespace Go.Sep
open Go Go.Conc
open Go.ConcN (PermW fork_knows)
open Go.ConcM (MuAt muA msA muBlock)
open Go.ConcR (WgAt wgBlock stA smA)
structure Cy where
 P:Program
 Mu:Nat
 Wg:Nat
 Is:Nat
 tM:TypeId
 tW:TypeId
 tI:TypeId
 n:Nat
 bs:Nat->Bool
 base:Nat
 T0:Nat
def Cy.shared (c:Cy)(b:Nat):Prop:=b=c.Mu\/b=c.Wg\/b=c.Is
def Cy.sy (c:Cy)(l:Loc):Prop:=∃a,l= .cell a/\(a.block=c.Mu\/a.block=c.Wg)
def Cy.gid (c:Cy):Nat->Nat
 |0=>0
 |i+1=>c.base+i
theorem Cy.HV (c:Cy)(hb:0<c.base){p q:Nat}(h:p≠q):c.gid p≠c.gid q:=by
 cases p<;>cases q<;>simp[Cy.gid] at*<;>omega
def eR (F:af):Loc->Prop
 | .cell a=>a.block∈keys F.own
 | .obj r=>r∈keys F.own
 |_=>False
def ij (F:af)(l:Loc):Prop:=∃a,l= .cell a/\(F.ro a).isSome=true
def kC (B:Nat):Loc->Prop
 | .cell a=>B<=a.block
 | .obj r=>B<=r
 |_=>False
def oe (c:Cy)(i:Nat)(l:Loc):Prop:=l= .cell ⟨c.Is,i,none⟩
structure dz (c:Cy)(k:Nat)(Fr:Nat->af)(w:World):Prop where
 has:∀p,p<=k->Has (Fr p) w
 own:∀p q,p<=k->q<=k->p≠q->∀b∈keys (Fr p).own,b∉keys (Fr q).own
 ro:∀p q,p<=k->q<=k->p≠q->∀a,((Fr p).ro a).isSome=true->a.block∉keys (Fr q).own
 gz:∀p,p<=k->∀b∈keys (Fr p).own,¬c.shared b
 iV:∀p,p<=k->∀a,((Fr p).ro a).isSome=true->¬c.shared a.block
 ga:∀b,c.shared b->b<w.heap.size
structure fO (c:Cy)(t:Trace)(g r:Nat):Prop where
 late:c.T0<=r
 act:t.act? r=some (.mark (.releaseMerge (stA c.Wg)))
 BL:t.g? r=some g
 heard:t.heard r
 after:∀i x,r<i->t.g? i=some g->touchAt t i=some x->x.kind= .atomic/\¬t.heard i/\∃a,x.loc= .cell a/\a.block=c.Wg
structure ee (c:Cy)(bt:Loc->Prop)(k:Nat)(Fr:Nat->af)(B:Nat)(t:Trace):Prop where
 len:c.T0<=t.size
 quiet:∀i a,touchAt t i=some a->c.sy a.loc->(a.kind≠ .plain/\(a.kind= .said->t.g? i=some 0))\/∀p,p<=k->Go.Conc.Knows t (c.gid p) i
 nr:∀said,¬Race said t
 own:∀p,p<=k->∀l,eR (Fr p) l->Perm t (c.gid p) l
 ro:∀p,p<=k->∀l,ij (Fr p) l->PermW t (c.gid p) l
 s8:∀i,i<k->∀l,oe c i l->Perm t (c.base+i) l
 s9:∀i,k<=i->∀l,oe c i l->Perm t 0 l
 low:∀op∈t,op.act.low B
 norel:∀i,c.T0<=i->t.act? i≠some (.mark (.release (stA c.Wg)))
 known:∀i a,touchAt t i=some a->a.loc.isMemory=true->Go.Conc.Knows t 0 i\/(bt a.loc/\a.kind= .atomic)\/∃j,j<k/\t.g? i=some (c.base+j)
 over:∀i g,t.g? i=some g->g≠0->t.counts i->(∃j,t.g? j=some 0/\HappensBefore t i j)\/∃j,j<k/\g=c.base+j
def ta (c:Cy)(F:af)(B p:Nat)(x:Touch):Prop:=
 eR F x.loc\/kC B x.loc\/(ij F x.loc/\x.write=false)\/(c.sy x.loc/\x.kind≠ .plain/\(x.kind= .said->p=0))\/(∃i,p=i+1/\oe c i x.loc)\/x.loc.isMemory=false
theorem BM {B:Nat}{l:Loc}(h:l.low B)(b:kC B l):False:=by
 cases l with
 |cell a=>exact absurd h (Nat.not_lt.2 b)
 |obj r=>exact absurd h (Nat.not_lt.2 b)
 |_=>exact b
theorem BN {B:Nat}{t:Trace}(h:∀op∈t,op.act.low B){i:Nat}{a:Touch}(c:touchAt t i=some a):a.loc.low B:=by
 obtain ⟨x,d,b⟩:=touch_of c
 have hm:=h x (Array.mem_of_getElem? d)
 obtain ⟨g,fn,pos,act⟩:=x
 cases act with
 |access e=>simp only[MemAct.touch?,Option.some.injEq] at b;subst b;exact hm
 |mark m=>cases m<;>simp only[MemAct.touch?,Option.some.injEq] at b<;>first|(subst b;exact hm)|cases b
 |_=>cases b
theorem HW {F:af}{w:World}(h:Has F w){l:Loc}(b:eR F l):¬kC w.heap.size l:=by
 cases l with
 |cell a=>exact fun x=>absurd (h.lt b) (Nat.not_lt.2 x)
 |obj r=>exact fun x=>absurd (h.lt b) (Nat.not_lt.2 x)
 |_=>exact b.elim
theorem HX {F:af}{w:World}(h:Has F w){l:Loc}(b:ij F l):¬kC w.heap.size l:=by
 obtain ⟨a,rfl,c⟩:=b
 exact fun x=>absurd (h.gG c) (Nat.not_lt.2 x)
section
variable {c : Cy} {bt : Loc → Prop} {k : Nat} {Fr : Nat → af} {w : World} {t u : Trace}
theorem dz.sep (h:dz c k Fr w){p q:Nat}(b:p<=k)(d:q<=k)(e:p≠q){l:Loc}(h1:eR (Fr p) l)(h2:eR (Fr q) l):False:=by
 cases l with
 |cell a=>exact h.own p q b d e _ h1 h2
 |obj r=>exact h.own p q b d e _ h1 h2
 |_=>exact h1
theorem dz.BO (h:dz c k Fr w){p q:Nat}(b:p<=k)(d:q<=k)(e:p≠q){l:Loc}(h1:ij (Fr p) l)(h2:eR (Fr q) l):False:=by
 obtain ⟨a,rfl,f⟩:=h1
 exact h.ro p q b d e a f h2
theorem dz.BP (h:dz c k Fr w){p:Nat}(b:p<=k){l:Loc}(h1:eR (Fr p) l)(h2:c.sy l):False:=by
 obtain ⟨a,rfl,h2⟩:=h2
 exact h.gz p b _ h1 (h2.elim .inl fun x=>.inr (.inl x))
theorem dz.BQ (h:dz c k Fr w){p:Nat}(b:p<=k){l:Loc}(h1:ij (Fr p) l)(h2:c.sy l):False:=by
 obtain ⟨a,rfl,h1⟩:=h1
 obtain ⟨a',e,h2⟩:=h2
 cases e
 exact h.iV p b _ h1 (h2.elim .inl fun x=>.inr (.inl x))
theorem dz.xp (h:dz c k Fr w){p i:Nat}(a:p<=k){l:Loc}(h1:eR (Fr p) l)(h2:oe c i l):False:=by
 subst h2
 exact h.gz p a _ h1 (.inr (.inr rfl))
theorem dz.xq (h:dz c k Fr w){p i:Nat}(b:p<=k){l:Loc}(h1:ij (Fr p) l)(h2:oe c i l):False:=by
 subst h2
 obtain ⟨a,e,h1⟩:=h1
 cases e
 exact h.iV p b _ h1 (.inr (.inr rfl))
theorem dz.HY (h:dz c k Fr w){l:Loc}(h1:kC w.heap.size l)(h2:c.sy l):False:=by
 obtain ⟨a,rfl,h2⟩:=h2
 exact absurd (h.ga _ (h2.elim .inl fun x=>.inr (.inl x))) (Nat.not_lt.2 h1)
theorem dz.BR (h:dz c k Fr w){i:Nat}{l:Loc}(h1:kC w.heap.size l)(h2:oe c i l):False:=by
 subst h2
 exact absurd (h.ga _ (.inr (.inr rfl))) (Nat.not_lt.2 h1)
theorem tc {a:Addr}{T:Nat}(h:∀i,T<=i->t.act? i≠some (.mark (.release a)))(hu:∀op∈u,op.act≠ .mark (.release a)):∀i,T<=i->(t++u).act? i≠some (.mark (.release a)):=by
 intro i c hi
 obtain ⟨op,d,b⟩:=Option.map_eq_some_iff.1 hi
 rcases getElem?_append_cases d with ⟨_,e⟩|⟨_,f⟩
 ·exact h i c (by rw[act?_of e,b])
 ·exact hu op f b
theorem BS (h:∀i a,touchAt t i=some a->c.sy a.loc->(a.kind≠ .plain/\(a.kind= .said->t.g? i=some 0))\/∀p,p<=k->Go.Conc.Knows t (c.gid p) i)
  (hu:∀op∈u,∀x,op.act.touch?=some x->c.sy x.loc->x.kind≠ .plain/\(x.kind= .said->op.g=0)):
  ∀i a,touchAt (t++u) i=some a->c.sy a.loc->(a.kind≠ .plain/\(a.kind= .said->(t++u).g? i=some 0))\/∀p,p<=k->Go.Conc.Knows (t++u) (c.gid p) i:=by
 intro i a f hs
 obtain ⟨x,b,d⟩:=touch_of f
 rcases getElem?_append_cases b with ⟨hi,j⟩|⟨_,l⟩
 ·rcases h i a (by rw[touchAt_of j];exact d) hs with ⟨y,z⟩|y
  ·exact .inl ⟨y,fun e=>by rw[g?_old hi];exact z e⟩
  ·exact .inr fun p m=>(y p m).app u
 ·obtain ⟨y,z⟩:=hu x l a d hs
  exact .inl ⟨y,fun e=>by simp[Trace.g?,b,z e]⟩
theorem ee.app (hb:0<c.base)(D:c.Mu≠c.Is/\c.Wg≠c.Is)(n:dz c k Fr w)(h:ee c bt k Fr w.heap.size t){p:Nat}(s:p<=k){cO:Nat->af}{K:Nat}(R:w.heap.size<=K)
  (hu:∀op∈u,op.g=c.gid p) (E:∀op∈u,∀x,op.act.touch?=some x->ta c (Fr p) w.heap.size p x)
  (S:∀op∈u,op.act.low K) (T:∀op∈u,op.act≠ .mark (.release (stA c.Wg)))
  (O:∀q,q≠p->cO q=Fr q) (U:∀l,eR (cO p) l->eR (Fr p) l\/kC w.heap.size l) (V:∀l,ij (cO p) l->ij (Fr p) l\/eR (Fr p) l\/kC w.heap.size l):
  ee c bt k cO K (t++u):=by
 have a3:∀op∈u,∀x,op.act.touch?=some x->x.loc.isMemory=false->∀l:Loc,l.isMemory=true->x.loc≠l:=fun op _ x _ h0 l d e=>by rw[e,d] at h0;cases h0
 have W:∀{F:af} {l:Loc},eR F l->l.isMemory=true:=fun {F l} d=>by cases l<;>first|rfl|exact d.elim
 have X:∀{F:af} {l:Loc},ij F l->l.isMemory=true:=fun {F l} d=>by obtain ⟨a,rfl,_⟩:=d;rfl
 have a4:∀q,q≠p->c.gid q≠c.gid p:=fun q m=>c.HV hb m
 have Y:∀q,q<=k->q≠p->∀l,eR (Fr q) l->∀op∈u,∀b,op.act.touch?=some b->b.loc≠l:=by
  intro q m v l d op f b r e
  rcases E op f b r with x|x|⟨x,_⟩|⟨x,_⟩|⟨i,_,x⟩|x<;>rw[e] at x
  ·exact n.sep m s v d x
  ·exact HW (n.has q m) d x
  ·exact n.BO s m (Ne.symm v) x d
  ·exact n.BP m d x
  ·exact n.xp m d x
  ·rw[W d] at x;cases x
 have Z:∀q,q<=k->q≠p->∀l,ij (Fr q) l->∀op∈u,∀b,op.act.touch?=some b->b.loc=l->b.write=true->False:=by
  intro q m v l d op f b r e hw
  rcases E op f b r with x|x|⟨x,ab⟩|⟨x,_⟩|⟨i,_,x⟩|x
  ·rw[e] at x;exact n.BO m s v d x
  ·rw[e] at x;exact HX (n.has q m) d x
  ·rw[ab] at hw;cases hw
  ·rw[e] at x;exact n.BQ m d x
  ·rw[e] at x;exact n.xq m d x
  ·rw[e,X d] at x;cases x
 have fresh:∀l,kC w.heap.size l->Perm (t++u) (c.gid p) l:=by
  intro l d i a B e
  obtain ⟨x,C,L⟩:=touch_of B
  rcases getElem?_append_cases C with ⟨hi,M⟩|⟨_,I⟩
  ·have:=BN h.low (show touchAt t i=some a by rw[touchAt_of M];exact L)
   rw[e] at this
   exact (BM this d).elim
  ·have:=knows_own C
   rwa [hu x I] at this
 refine ⟨by have:=h.len;simp;omega,BS h.quiet fun op f x C hs=>?_,fun said=>?_,fun q m l d=>?_,fun q m l d=>?_,fun i hi l d=>?_,fun i hi l d=>?_,fun op f=>?_,tc h.norel T,fun i a B hm=>?_,fun i g hg G A=>?_⟩
 ·rcases E op f x C with y|y|⟨y,_⟩|⟨_,y,z⟩|⟨i,_,y⟩|y
  ·exact (n.BP s y hs).elim
  ·exact (n.HY y hs).elim
  ·exact (n.BQ s y hs).elim
  ·exact ⟨y,fun e=>by rw[hu op f,z e];rfl⟩
  ·obtain ⟨a,e,hs⟩:=hs
   rw[show x.loc=_ from y] at e
   cases e
   rcases hs with hs|hs
   ·exact absurd hs.symm D.1
   ·exact absurd hs.symm D.2
  ·obtain ⟨a,e,_⟩:=hs;rw[e] at y;cases y
 ·refine noRace_append (h.nr said) hu fun i a B op f b r A=>?_
  rcases E op f b r with y|y|⟨y,z⟩|⟨y,y',z⟩|⟨j,rfl,y⟩|y
  ·exact h.own p s _ y i a B A.1
  ·have:=BN h.low B
   rw[A.1] at this
   exact (BM this y).elim
  ·exact h.ro p s _ y i a B A.1 (A.2.2.1.resolve_right (by rw[z];simp))
  ·rcases h.quiet i a B (by rw[A.1];exact y) with ⟨ad,ae⟩|q
   ·obtain ⟨_,_,_,al⟩:=A
    rcases al with e|e|⟨_,e,J⟩
    ·exact absurd e ad
    ·exact absurd e y'
    ·have G:=ae e
     unfold Trace.g? at G
     obtain ⟨o,ao,ar⟩:=Option.map_eq_some_iff.1 G
     have:=knows_own ao
     rw[ar] at this
     rw[z J];exact this
   ·exact q p s
  ·exact h.s8 j (by omega) _ y i a B A.1
  ·rw[<-A.1,A.2.1] at y;cases y
 ·by_cases v:q=p
  ·subst v
   rcases U l d with y|y
   ·exact (h.own q m l y).app fun op f _ _ _=>hu op f
   ·exact fresh l y
  ·rw[O q v] at d
   exact (h.own q m l d).app fun op f b r e=>absurd e (Y q m v l d op f b r)
 ·by_cases v:q=p
  ·subst v
   rcases V l d with y|y|y
   ·exact (h.ro q m l y).app fun op f _ _ _ _=>hu op f
   ·exact .of ((h.own q m l y).app fun op f _ _ _=>hu op f)
   ·exact .of (fresh l y)
  ·rw[O q v] at d
   exact (h.ro q m l d).app fun op f b r e hw=>(Z q m v l d op f b r e hw).elim
 ·refine (h.s8 i hi l d).app fun op f b r e=>?_
  rcases E op f b r with y|y|⟨y,_⟩|⟨y,_⟩|⟨j,J,y⟩|y<;>rw[e] at y
  ·exact (n.xp s y d).elim
  ·exact (n.BR y d).elim
  ·exact (n.xq s y d).elim
  ·obtain ⟨a,e,hs⟩:=y
   rw[show l=_ from d] at e
   cases e
   rcases hs with hs|hs
   ·exact absurd hs.symm D.1
   ·exact absurd hs.symm D.2
  ·have:i=j:=by rw[show l=_ from d] at y;cases y;rfl
   rw[hu op f,J,this];rfl
  ·rw[show l=_ from d] at y;cases y
 ·refine (h.s9 i hi l d).app fun op f b r e=>?_
  rcases E op f b r with y|y|⟨y,_⟩|⟨y,_⟩|⟨j,J,y⟩|y<;>rw[e] at y
  ·exact (n.xp s y d).elim
  ·exact (n.BR y d).elim
  ·exact (n.xq s y d).elim
  ·obtain ⟨a,e,hs⟩:=y
   rw[show l=_ from d] at e
   cases e
   rcases hs with hs|hs
   ·exact absurd hs.symm D.1
   ·exact absurd hs.symm D.2
  ·have:i=j:=by rw[show l=_ from d] at y;cases y;rfl
   omega
  ·rw[show l=_ from d] at y;cases y
 ·exact (Array.mem_append.1 f).elim (fun x=>MemAct.low_mono R (h.low op x)) (S op)
 ·obtain ⟨x,C,L⟩:=touch_of B
  rcases getElem?_append_cases C with ⟨hi,M⟩|⟨_,I⟩
  ·rcases h.known i a (by rw[touchAt_of M];exact L) hm with y|y|⟨j,H,y⟩
   ·exact .inl (y.app u)
   ·exact .inr (.inl y)
   ·exact .inr (.inr ⟨j,H,by rw[g?_old hi];exact y⟩)
  ·cases p with
   |zero=>have:=knows_own C;rw[hu x I] at this;exact .inl this
   |succ j=>exact .inr (.inr ⟨j,by omega,by simp[Trace.g?,C,hu x I,Cy.gid]⟩)
 ·by_cases hi:i<t.size
  ·rcases h.over i g (by rw[<-g?_old (u:=u) hi];exact hg) G ((counts_old hi).1 A) with ⟨j,H,y⟩|y
   ·have a0:j<t.size:=by
     unfold Trace.g? at H
     obtain ⟨z,N,_⟩:=Option.map_eq_some_iff.1 H
     exact lt_size_of_getElem? N
    exact .inl ⟨j,by rw[g?_old a0];exact H,hb_app u y⟩
   ·exact .inr y
  ·unfold Trace.g? at hg
   obtain ⟨z,N,P⟩:=Option.map_eq_some_iff.1 hg
   rcases getElem?_append_cases N with ⟨a2,_⟩|⟨_,Q⟩
   ·exact absurd a2 hi
   ·cases p with
    |zero=>exact absurd (P▸(hu z Q)) G
    |succ j=>exact .inr ⟨j,by omega,by rw[<-P,hu z Q];rfl⟩
theorem fO.app {g r:Nat}(h:fO c t g r)(hu:∀i x,t.size<=i->(t++u).g? i=some g->touchAt (t++u) i=some x->x.kind= .atomic/\¬(t++u).heard i/\∃a,x.loc= .cell a/\a.block=c.Wg):fO c (t++u) g r:=by
 have b:r<t.size:=lt_of_act? h.act
 refine ⟨h.late,by rw[act?_old b];exact h.act,by rw[g?_old b];exact h.BL,(heard_old b).2 h.heard,fun i x hi hg e=>?_⟩
 rcases Nat.lt_or_ge i t.size with d|f
 ·rw[heard_old d]
  exact h.after i x hi (by rw[<-g?_old (u:=u) d];exact hg) (by rw[<-touchAt_old (u:=u) d];exact e)
 ·exact hu i x f hg e
theorem fO.other {g r g':Nat}(h:fO c t g r)(a:g'≠g)(hu:∀op∈u,op.g=g'):fO c (t++u) g r:=by
 refine h.app fun i x hi hg f=>?_
 unfold Trace.g? at hg
 obtain ⟨z,b,d⟩:=Option.map_eq_some_iff.1 hg
 rcases getElem?_append_cases b with ⟨j,_⟩|⟨_,e⟩
 ·omega
 ·exact absurd (hu z e▸d) a
theorem ee.fork (hb:0<c.base)(G:dz c k Fr w)(h:ee c bt k Fr w.heap.size t){x y:MemOp}(o:x.g=0/\x.act= .go (c.base+k))(r:y.g=c.base+k/\y.act= .start)(h0:Deaf t 0=0)(hk:Deaf t (c.base+k)=0)
  {cO:Nat->af} (D:∀q,q<=k->cO q=Fr q) (H:∀l,¬eR (cO (k+1)) l) (I:∀l,ij (cO (k+1)) l->ij (Fr 0) l):ee c bt (k+1) cO w.heap.size (t++#[x,y]):=by
 have s:∀op∈#[x,y],∀b,op.act.touch?=some b->False:=by
  intro op d b hb
  simp only[List.mem_toArray,List.mem_cons,List.not_mem_nil,or_false] at d
  rcases d with rfl|rfl
  ·rw[o.2] at hb;cases hb
  ·rw[r.2] at hb;cases hb
 have old:∀{i:Nat} {a:Touch},touchAt (t++#[x,y]) i=some a->touchAt t i=some a/\i<t.size:=by
  intro i a m
  obtain ⟨z,v,E⟩:=touch_of m
  rcases getElem?_append_cases v with ⟨hi,J⟩|⟨_,K⟩
  ·exact ⟨by rw[touchAt_of J];exact E,hi⟩
  ·exact (s z K a E).elim
 refine ⟨by have:=h.len;simp;omega,fun i a m hs=>?_,fun said=>?_,fun q L l f=>?_,fun q L l f=>?_,fun i hi l f=>?_,fun i hi l f=>?_,fun op d=>?_,tc h.norel fun op d=>?_,fun i a m hm=>?_,fun i g hg M F=>?_⟩
 ·obtain ⟨C,hi⟩:=old m
  rcases h.quiet i a C hs with ⟨N,O⟩|q
  ·exact .inl ⟨N,fun e=>by rw[g?_old hi];exact O e⟩
  ·refine .inr fun p G=>?_
   rcases Nat.lt_or_ge k p with B|n
   ·obtain rfl:p=k+1:=by omega
    exact fork_knows o r h0 hk (q 0 (Nat.zero_le _))
   ·exact (q p n).app _
 ·have e:t++#[x,y]=(t++#[x])++#[y]:=by apply Array.ext';simp
  rw[e]
  refine noRace_append (g:=c.base+k) (noRace_append (g:=0) (h.nr said) (fun op d=>by simp at d;rw[d];exact o.1) (fun i a _ op d b hb _=>(s op (by simp at d ⊢;exact .inl d) b hb).elim))
   (fun op d=>by simp at d;rw[d];exact r.1) (fun i a _ op d b hb _=>(s op (by simp at d ⊢;exact .inr d) b hb).elim)
 ·rcases Nat.lt_or_ge k q with B|n
  ·obtain rfl:q=k+1:=by omega
   exact (H l f).elim
  ·rw[D q n] at f
   exact (h.own q n l f).app fun op d b hb _=>(s op d b hb).elim
 ·rcases Nat.lt_or_ge k q with B|n
  ·obtain rfl:q=k+1:=by omega
   exact fun i a m e hw=>fork_knows o r h0 hk (h.ro 0 (Nat.zero_le _) l (I l f) i a (old m).1 e hw)
  ·rw[D q n] at f
   exact (h.ro q n l f).app fun op d b hb _ _=>(s op d b hb).elim
 ·rcases Nat.lt_or_ge i k with B|n
  ·exact (h.s8 i B l f).app fun op d b hb _=>(s op d b hb).elim
  ·obtain rfl:i=k:=by omega
   exact fun j a m e=>fork_knows o r h0 hk (h.s9 i (Nat.le_refl _) l f j a (old m).1 e)
 ·exact (h.s9 i (by omega) l f).app fun op d b hb _=>(s op d b hb).elim
 ·rcases Array.mem_append.1 d with z|z
  ·exact h.low op z
  ·simp only[List.mem_toArray,List.mem_cons,List.not_mem_nil,or_false] at z
   rcases z with rfl|rfl
   ·rw[o.2];trivial
   ·rw[r.2];trivial
 ·simp only[List.mem_toArray,List.mem_cons,List.not_mem_nil,or_false] at d
  rcases d with rfl|rfl
  ·rw[o.2];simp
  ·rw[r.2];simp
 ·obtain ⟨C,hi⟩:=old m
  rcases h.known i a C hm with z|z|⟨j,A,z⟩
  ·exact .inl (z.app _)
  ·exact .inr (.inl z)
  ·exact .inr (.inr ⟨j,by omega,by rw[g?_old hi];exact z⟩)
 ·have P:=F
  obtain ⟨z,v,_⟩:=F
  obtain ⟨_,hi⟩:=old (show touchAt _ i=some z from v)
  rcases h.over i g (by rw[<-g?_old (u:=#[x,y]) hi];exact hg) M ((counts_old hi).1 P) with ⟨j,A,y'⟩|⟨j,A,y'⟩
  ·have Q:j<t.size:=by
    unfold Trace.g? at A
    obtain ⟨z,v,_⟩:=Option.map_eq_some_iff.1 A
    exact lt_size_of_getElem? v
   exact .inl ⟨j,by rw[g?_old Q];exact A,hb_app _ y'⟩
  ·exact .inr ⟨j,by omega,y'⟩
theorem ee.fq (h:ee c bt k Fr w.heap.size t)(d:∀i,i<k->∃r,fO c t (c.base+i) r){y:MemOp}(f:y.g=0/\y.act= .mark (.acquire (stA c.Wg)))(h0:Deaf t 0=0)(F:c.Wg<w.heap.size):
  Past (fun l=>bt l\/∃a,l= .cell a/\a.block=c.Wg) w.heap.size (t++#[y]):=by
 have hyp:(t++#[y])[t.size]?=some y:=by rw[Array.getElem?_append_right (Nat.le_refl _)];simp
 have x:∀op∈#[y],∀b,op.act.touch?=some b->False:=by
  intro op e b hb
  simp only[List.mem_toArray,List.mem_cons,List.not_mem_nil,or_false] at e
  rw[e,f.2] at hb;cases hb
 have old:∀{i:Nat} {a:Touch},touchAt (t++#[y]) i=some a->touchAt t i=some a/\i<t.size:=by
  intro i a s
  obtain ⟨z,o,A⟩:=touch_of s
  rcases getElem?_append_cases o with ⟨hi,v⟩|⟨_,G⟩
  ·exact ⟨by rw[touchAt_of v];exact A,hi⟩
  ·exact (x z G a A).elim
 have heard:(t++#[y]).heard t.size:=⟨0,by simp[Trace.g?,f.1],by rw[deaf_old (Nat.le_refl _)];exact h0⟩
 have norel:=tc (u:=#[y]) h.norel fun op e=>by
  simp only[List.mem_toArray,List.mem_cons,List.not_mem_nil,or_false] at e
  rw[e,f.2];simp
 have xh:∀g r,fO c t g r->HappensBefore (t++#[y]) r t.size:=fun g r d=>
  .single (.inr ⟨.marked (a:=stA c.Wg) (lt_of_act? d.act) (.inr (by rw[act?_old (lt_of_act? d.act)];exact d.act)) (by rw[act?_of hyp,f.2]) (fun k hk _=>norel k (Nat.le_of_lt (Nat.lt_of_le_of_lt d.late hk))),(heard_old (lt_of_act? d.act)).2 d.heard,heard⟩)
 have upto:∀g r i,fO c t g r->t.g? i=some g->i<=r->HappensBefore (t++#[y]) i t.size:=fun g r i d hg hle=>by
  have B:=lt_of_act? d.act
  rcases Nat.lt_or_ge i r with n|p
  ·exact .trans (.single (.inl ⟨n,g,by rw[g?_old (Nat.lt_trans n B)];exact hg,by rw[g?_old B];exact d.BL⟩)) (xh g r d)
  ·obtain rfl:i=r:=by omega
   exact xh g i d
 refine ⟨fun said=>noRace_append (g:=0) (h.nr said) (fun op e=>by simp at e;rw[e];exact f.1) (fun i a _ op e b hb _=>(x op e b hb).elim),fun i a s hm=>?_,fun i g hg H C=>?_,?_,fun op e=>?_⟩
 ·obtain ⟨D,hi⟩:=old s
  rcases h.known i a D hm with z|z|⟨j,m,z⟩
  ·exact .inl (z.app _)
  ·exact .inr ⟨.inl z.1,z.2⟩
  ·obtain ⟨r,d⟩:=d j m
   rcases Nat.lt_or_ge r i with n|p
   ·obtain ⟨h1,_,h2⟩:=d.after i a n z D
    exact .inr ⟨.inr h2,h1⟩
   ·exact .inl ⟨t.size,y,hyp,f.1,.inr (upto _ r i d z p)⟩
 ·have I:=C
  obtain ⟨z,o,L,J⟩:=C
  obtain ⟨v,hi⟩:=old (show touchAt _ i=some z from o)
  rcases h.over i g (by rw[<-g?_old (u:=#[y]) hi];exact hg) H ((counts_old hi).1 I) with ⟨j,m,y'⟩|⟨j,m,y'⟩
  ·have K:j<t.size:=by
    unfold Trace.g? at m
    obtain ⟨z,o,_⟩:=Option.map_eq_some_iff.1 m
    exact lt_size_of_getElem? o
   exact ⟨j,by rw[g?_old K];exact m,hb_app _ y'⟩
  ·obtain ⟨r,d⟩:=d j m
   have E:t.g? i=some (c.base+j):=by rw[<-g?_old (u:=#[y]) hi,hg,y']
   rcases Nat.lt_or_ge r i with n|p
   ·obtain ⟨h1,h2,_⟩:=d.after i z n E v
    rcases J with q|q
    ·exact absurd h1 q
    ·exact absurd ((heard_old hi).1 q) h2
   ·exact ⟨t.size,by simp[Trace.g?,f.1],upto _ r i d E p⟩
 ·rw[Deaf_push]
  simp only[deafStep,f.2]
  exact h0
 ·rcases Array.mem_append.1 e with z|z
  ·exact h.low op z
  ·simp only[List.mem_toArray,List.mem_cons,List.not_mem_nil,or_false] at z
   rw[z,f.2];exact F
end
end Go.Sep
end
section
namespace Go.Sep
open Go Go.Conc
open Go.ConcN (sumTo upd upd_ne upd_same sumTo_congr)
open Go.ConcM (MuAt muA msA muBlock OsLater)
open Go.ConcR (WgAt wgBlock stA smA)
def cF (m:Mark):Event:=⟨.mark m,false,true⟩
def cw (c:Cy)(w:World)(s:Sh):Prop:=MuAt c.tM c.Mu w s.mu s.ms/\WgAt c.tW c.Wg w s.wg s.ws/\w.heap[c.Is]?=some (.cells (s.is.map Value.bool).toArray c.tI)
structure gS (c:Cy)(w w':World):Prop where
 tape:w'.tape=w.tape
 output:w'.output=w.output
 size:w'.heap.size=w.heap.size
 os:OsLater w.os w'.os
 block:∀k,¬c.shared k->w'.heap[k]?=w.heap[k]?
theorem gS.refl (c:Cy)(w:World):gS c w w:=⟨rfl,rfl,rfl,.refl _,fun _ _=>rfl⟩
inductive EvA (c:Cy)(i:Nat)(ph aH:Ph)(es:Array Event):Prop
 |book (h:∀e∈es,e=cF .disable\/e=cF .enable\/∃a x,e=⟨.cell a,x,true⟩/\(a.block=c.Wg\/(a.block=c.Mu/\ph.gp= .cnt))) (hd:deafBehind ph.deaf es=aH.deaf)
   (ht:∀j e,es[j]?=some e->(MemAct.ofEvent e).touch?=none\/0<deafBehind ph.deaf (es.extract 0 j)) (hg:aH.gp= .cnt↔ph.gp= .cnt)
 |word (m:Mark) (he:es=#[cF m]) (hm:m= .acquire (muA c.Mu)\/m= .releaseMerge (muA c.Mu)) (hd:aH.deaf=ph.deaf) (hg:aH.gp= .cnt/\ph.gp= .cnt)
 |store (he:es=#[⟨.cell ⟨c.Is,i,none⟩,true,false⟩]) (hd:aH.deaf=ph.deaf) (hg:aH.gp= .cnt/\ph.gp= .cnt)
 |rel (he:es=#[cF (.releaseMerge (stA c.Wg))]) (hd:ph.deaf=0/\aH.deaf=0) (hg:ph.gp= .cnt)
def iq (c:Cy)(i:Nat):Rk->Goroutine->af->Ph->Prop
 | .mk ι f,g,F,ph=>
  (ph.gp= .gone/\∃q,Rk.mk ι f=Rk.nat q/\QuitsD c.P q ph.deaf g)\/
  (g.status= .running/\g.offers=none/\ph.gp= .cnt/\∀w,Has F w->∃(x:ι) (g':Goroutine) (w':World) (es:Array Event) (F':af),
   stepG c.P false g w= .go g' w' es/\dJ F F' w w'/\Has F' w'/\(∀e∈es,iA F.ro (gF F w.heap.size w'.heap.size) e)/\iq c i (f x) g' F' ph)\/
  (g.status= .running/\g.offers=none/\ph.gp≠ .gone/\∀(w:World) (s:Sh) (k:Nat) (φ:Nat->Ph) (p0:P0),Has F w->cw c w s->i<c.n->φ i=ph->Inv c.n c.bs k φ p0 s->
   (ph.mp.ie=true/\s.ms=0/\stepG c.P false g w= .go {g with status:=.blocked} w #[])\/
   (∃(x:ι) (g':Goroutine) (w':World) (es:Array Event) (s':Sh) (aH:Ph) (F':af),stepG c.P false g w= .go g' w' es/\cw c w' s'/\gS c w w'/\Inv c.n c.bs k (upd φ i aH) p0 s'/\EvA c i ph aH es/\
    (mayWake c.P g=true\/(s'.ms<=s.ms/\s'.ws<=s.ws))/\Le F' F/\iq c i (f x) g' F' aH))
def Wk (c:Cy)(i:Nat)(ph:Ph)(g:Goroutine)(F:af):Prop:=∃F0 r,Le F0 F/\iq c i r g F0 ph
theorem Wk.mono {c:Cy}{i:Nat}{ph:Ph}{g:Goroutine}{F F':af}(hle:Le F F')(h:Wk c i ph g F):Wk c i ph g F':=
 let ⟨F0,r,h1,h2⟩:=h;⟨F0,r,h1.trans hle,h2⟩
theorem Wk.closed (c:Cy)(i:Nat)(ph:Ph)(hg:ph.gp= .cnt):Closed c.P false (fun g F=>Wk c i ph g F) where
 mono hle h:=h.mono hle
 step {fr cs F} h:=by
  classical
  let Q:World->Rk->Prop:=fun w r=>∃(g':Goroutine) (w':World) (es:Array Event) (F':af),
   stepG c.P false (G fr cs) w= .go g' w' es/\dJ F F' w w'/\Has F' w'/\(∀e∈es,iA F.ro (gF F w.heap.size w'.heap.size) e)/\iq c i r g' F' ph
  refine ⟨F,.mk World fun w=>if d:∃r,Q w r then Classical.choose d else Rk.nat 0,.refl F,?_⟩
  refine .inr (.inl ⟨rfl,rfl,hg,fun w hw=>?_⟩)
  obtain ⟨g',w',es,F',h1,h2,h3,j,F0,r,f,k⟩:=h w hw
  have d:∃r,Q w r:=⟨r,g',w',es,F0,h1,⟨h2.os,h2.tape,h2.output,h2.size,h2.frame,fun a l=>(f.ro a l).elim (h2.ro a) fun x=>.inr (h2.own _ x),fun b hb=>h2.own b (f.own b hb)⟩,f.has _ h3,j,k⟩
  obtain ⟨g',w',es,F',k1,m,n,o,p⟩:=Classical.choose_spec d
  exact ⟨w,g',w',es,F',k1,m,n,o,by simp only[dif_pos d];exact p⟩
theorem Wk.act {c:Cy}{i:Nat}{ph:Ph}{g:Goroutine}{F:af}(hs:g.status= .running)(o:g.offers=none)(hg:ph.gp≠ .gone)
  (h:∀(w:World) (s:Sh) (k:Nat) (φ:Nat->Ph) (p0:P0),Has F w->cw c w s->i<c.n->φ i=ph->Inv c.n c.bs k φ p0 s->
   (ph.mp.ie=true/\s.ms=0/\stepG c.P false g w= .go {g with status:=.blocked} w #[])\/
   (∃(g':Goroutine) (w':World) (es:Array Event) (s':Sh) (aH:Ph),stepG c.P false g w= .go g' w' es/\cw c w' s'/\gS c w w'/\Inv c.n c.bs k (upd φ i aH) p0 s'/\EvA c i ph aH es/\
    (mayWake c.P g=true\/(s'.ms<=s.ms/\s'.ws<=s.ws))/\Wk c i aH g' F)):Wk c i ph g F:=by
 classical
 let Q:World×Sh×Nat×(Nat->Ph)×P0->Rk->Prop:=fun y r=>∃(g':Goroutine) (w':World) (es:Array Event) (s':Sh) (aH:Ph) (F':af),stepG c.P false g y.1= .go g' w' es/\cw c w' s'/\gS c y.1 w'/\Inv c.n c.bs y.2.2.1 (upd y.2.2.2.1 i aH) y.2.2.2.2 s'/\EvA c i ph aH es/\
    (mayWake c.P g=true\/(s'.ms<=y.2.1.ms/\s'.ws<=y.2.1.ws))/\Le F' F/\iq c i r g' F' aH
 refine ⟨F,.mk (World×Sh×Nat×(Nat->Ph)×P0) fun y=>if a:∃r,Q y r then Classical.choose a else Rk.nat 0,.refl F,?_⟩
 refine .inr (.inr ⟨hs,o,hg,fun w s k φ p0 h1 h2 h3 p q=>?_⟩)
 rcases h w s k φ p0 h1 h2 h3 p q with x|⟨g',w',es,s',aH,k1,b,d,e,f,j,F',r,l,m⟩
 ·exact .inl x
 ·have a:∃r,Q (w,s,k,φ,p0) r:=⟨r,g',w',es,s',aH,F',k1,b,d,e,f,j,l,m⟩
  obtain ⟨g',w',es,s',aH,F',k1,b,d,e,f,j,l,m⟩:=Classical.choose_spec a
  exact .inr ⟨(w,s,k,φ,p0),g',w',es,s',aH,F',k1,b,d,e,f,j,l,by simp only[dif_pos a];exact m⟩
theorem Wk.gone {c:Cy}{i:Nat}{ph:Ph}{g:Goroutine}{F:af}{q:Nat}(hg:ph.gp= .gone)(h:QuitsD c.P q ph.deaf g):Wk c i ph g F:=by
 refine ⟨F,Rk.nat q,.refl F,?_⟩
 cases q with
 |zero=>exact .inl ⟨hg,0,rfl,h⟩
 |succ q=>exact .inl ⟨hg,q+1,rfl,h⟩
structure di (c:Cy)(B0:Nat)(F F':af)(w w':World):Prop where
 os:OsLater w.os w'.os
 tape:w'.tape=w.tape
 output:w'.output=w.output
 size:w.heap.size<=w'.heap.size
 frame:∀b,b<B0->b∉keys F.own->¬c.shared b->w'.heap[b]?=w.heap[b]?
 ro:∀a,(F'.ro a).isSome=true->(F.ro a).isSome=true\/a.block∈keys F.own\/B0<=a.block\/c.shared a.block
 own:∀b,b∈keys F'.own->b∈keys F.own\/B0<=b\/c.shared b
theorem di.refl (c:Cy)(B0:Nat)(F:af)(w:World):di c B0 F F w w:=⟨.refl _,rfl,rfl,Nat.le_refl _,fun _ _ _ _=>rfl,fun _ h=>.inl h,fun _ h=>.inl h⟩
theorem di.trans {c:Cy}{B0:Nat}{F G H:af}{u v w:World}(h:di c B0 F G u v)(k:di c B0 G H v w):di c B0 F H u w where
 os:=h.os.trans k.os
 tape:=k.tape.trans h.tape
 output:=k.output.trans h.output
 size:=Nat.le_trans h.size k.size
 frame b hb hn hs:=by
  rw[k.frame b hb (fun hk=>(h.own b hk).elim hn fun x=>x.elim (fun y=>absurd hb (by omega)) hs) hs]
  exact h.frame b hb hn hs
 ro a x:=by
  rcases k.ro a x with y|y|y
  ·exact h.ro a y
  ·exact .inr (h.own _ y)
  ·exact .inr (.inr y)
 own b hb:=by
  rcases k.own b hb with x|x
  ·exact h.own b x
  ·exact .inr x
theorem di.le {c:Cy}{B0:Nat}{F G H:af}{w w':World}(h:Le F G)(u:di c B0 F H w w'):di c B0 G H w w' where
 os:=u.os
 tape:=u.tape
 output:=u.output
 size:=u.size
 frame b hb hn hs:=u.frame b hb (fun x=>hn (h.own b x)) hs
 ro a x:=by
  rcases u.ro a x with y|y|y
  ·exact (h.ro a y).imp id .inl
  ·exact .inr (.inl (h.own _ y))
  ·exact .inr (.inr y)
 own b hb:=(u.own b hb).imp (h.own b) id
def og (c:Cy)(i:Nat)(r:Rk)(x:Goroutine)(F:af)(ph:Ph)(s:Sh):Prop:=
 (ph.gp= .gone/\∃q,r=Rk.nat q/\QuitsD c.P q ph.deaf x)\/
 (ph.gp≠ .gone/\iq c i r {x with status:=.running} F ph/\x.offers=none/\(x.status= .running\/(x.status= .blocked/\ph.mp.ie=true/\s.ms=0)))
structure dA (c:Cy)(B0:Nat)(bt:Loc->Prop)(p0:P0)(d0 k:Nat)(g:Goroutine)(Fr:Nat->af)(gs:Array Goroutine)(w:World)(t:Trace)(ρ:Nat->Rk)(φ:Nat->Ph)(s:Sh):Prop where
 size:gs.size=c.base+k
 base:0<c.base
 run:g.status= .running
 off:g.offers=none
 g0:∃x,gs[0]?=some x/\{x with status:=.running}=g/\(x.status= .running\/(x.status= .blocked/\p0= .reg/\s.ws=0))
 old:∀j x,0<j->j<c.base->gs[j]?=some x->∃q,ρ j=Rk.nat q/\QuitsD c.P q (Deaf t j) x
 wk:∀i,i<k->∃x,gs[c.base+i]?=some x/\og c i (ρ (c.base+i)) x (Fr (i+1)) (φ i) s
 deaf:∀i,i<k->Deaf t (c.base+i)=(φ i).deaf
 above:∀j,gs.size<=j->Deaf t j=0
 deaf0:Deaf t 0=d0
 parts:dz c k Fr w
 sh:cw c w s
 inv:Inv c.n c.bs k φ p0 s
 gA:ee c bt k Fr w.heap.size t
 rel:∀i,i<k->(φ i).gp≠ .cnt->∃r,fO c t (c.base+i) r
 apart:∀l,bt l->¬(Fr 0).gf l
 low:∀l,bt l->l.low B0
 iW:∀i,i<k->∀b∈keys (Fr (i+1)).own,B0<=b
 iX:B0<=w.heap.size
 ne:c.Mu≠c.Wg/\c.Mu≠c.Is/\c.Wg≠c.Is
section
variable {c : Cy} {B0 : Nat} {bt : Loc → Prop} {p0 : P0} {d0 k : Nat} {g : Goroutine} {Fr : Nat → af} {gs : Array Goroutine} {w : World} {t : Trace} {ρ : Nat → Rk} {φ : Nat → Ph} {s : Sh}
theorem Inv.BT (h:Inv c.n c.bs k φ p0 s):0<=s.ms:=by
 obtain ⟨C,S,W,L,m,hm⟩:=h.m
 have:=hm.cnt
 omega
theorem Inv.HZ (h:Inv c.n c.bs k φ p0 s):0<=s.ws:=by
 have:=h.w.inv
 cases p0<;>simp only at this<;>omega
theorem og.woken {i:Nat}{r:Rk}{x:Goroutine}{F:af}{ph:Ph}{s s':Sh}(h:og c i r x F ph s){y y':Goroutine}{w':World}(h0:0<=s'.ms)
  (hw:(mayWake c.P y=true/\y'.status≠ .blocked/\y'.status≠ .waiting)\/s'.ms<=s.ms):og c i r (woken c.P y y' w' x) F ph s':=by
 rcases h with ⟨hg,q,l,g⟩|⟨hg,hk,e,m⟩
 ·exact .inl ⟨hg,q,l,by rw[woken_quitsD g];exact g⟩
 ·rcases m with j|⟨k,n,p⟩
  ·rw[woken_run j];exact .inr ⟨hg,hk,e,.inl j⟩
  ·have o:x.again w'={x with status:=.running}:=by
    unfold Goroutine.again
    simp only[k,e]
   by_cases f:(mayWake c.P y&&y'.status != .blocked&&y'.status != .waiting)=true
   ·have:Go.Conc.woken c.P y y' w' x={x with status:=.running}:=by unfold Go.Conc.woken;rw[if_pos f,o]
    rw[this]
    exact .inr ⟨hg,hk,e,.inl rfl⟩
   ·have:Go.Conc.woken c.P y y' w' x=x:=by unfold Go.Conc.woken;rw[if_neg f]
    rw[this]
    refine .inr ⟨hg,hk,e,.inr ⟨k,n,?_⟩⟩
    rcases hw with ⟨a,b,d⟩|hw
    ·simp[a,b,d] at f
    ·omega
theorem H6 {x:Goroutine}{s s':Sh}(h:x.offers=none)(i:x.status= .running\/(x.status= .blocked/\p0= .reg/\s.ws=0)){y y':Goroutine}{w':World}(h0:0<=s'.ws)
  (hw:(mayWake c.P y=true/\y'.status≠ .blocked/\y'.status≠ .waiting)\/s'.ws<=s.ws):
  {woken c.P y y' w' x with status:=.running}=({x with status:=.running}:Goroutine)/\((woken c.P y y' w' x).status= .running\/((woken c.P y y' w' x).status= .blocked/\p0= .reg/\s'.ws=0)):=by
 rcases i with f|⟨g,j,l⟩
 ·rw[woken_run f];exact ⟨rfl,.inl f⟩
 ·have k:x.again w'={x with status:=.running}:=by
   unfold Goroutine.again
   simp only[g,h]
  by_cases e:(mayWake c.P y&&y'.status != .blocked&&y'.status != .waiting)=true
  ·have:Go.Conc.woken c.P y y' w' x={x with status:=.running}:=by unfold Go.Conc.woken;rw[if_pos e,k]
   rw[this]
   exact ⟨rfl,.inl rfl⟩
  ·have:Go.Conc.woken c.P y y' w' x=x:=by unfold Go.Conc.woken;rw[if_neg e]
   rw[this]
   refine ⟨rfl,.inr ⟨g,j,?_⟩⟩
   rcases hw with ⟨a,b,d⟩|hw
   ·simp[a,b,d] at e
   ·omega
theorem dA.jE (h:dA c B0 bt p0 d0 k g Fr gs w t ρ φ s){j:Nat}{x f:Goroutine}{w':World}{es:Array Event}{fn:FuncId}{pos:String}{ρ':Nat->Rk}{φ':Nat->Ph}{cO:Nat->af}{s':Sh}(V:0<j)(E:gs[j]?=some x)
  (A:(mayWake c.P x=true/\f.status≠ .blocked/\f.status≠ .waiting)\/(s'.ms<=s.ms/\s'.ws<=s.ws))
  (B:∀a,a≠j->ρ' a=ρ a) (v:∀i,c.base+i≠j->φ' i=φ i) (C:∀i,c.base+i≠j->cO (i+1)=Fr (i+1)) (F:cO 0=Fr 0)
  (hold:j<c.base->∃q,ρ' j=Rk.nat q/\QuitsD c.P q (Deaf (t++MemOp.ofEvents j fn pos es) j) f)
  (p:∀i,j=c.base+i->i<k->og c i (ρ' j) f (cO (i+1)) (φ' i) s'/\Deaf (t++MemOp.ofEvents j fn pos es) j=(φ' i).deaf/\((φ' i).gp≠ .cnt->∃r,fO c (t++MemOp.ofEvents j fn pos es) j r)/\∀b∈keys (cO (i+1)).own,B0<=b)
  (G:dz c k cO w') (H:cw c w' s') (hinv:Inv c.n c.bs k φ' p0 s') (I:ee c bt k cO w'.heap.size (t++MemOp.ofEvents j fn pos es)) (J:w.heap.size<=w'.heap.size):
  dA c B0 bt p0 d0 k g cO ((gs.map (woken c.P x f w')).setIfInBounds j f) w' (t++MemOp.ofEvents j fn pos es) ρ' φ' s':=by
 have K:j<gs.size:=(Array.getElem?_eq_some_iff.1 E).1
 have hu:∀op∈MemOp.ofEvents j fn pos es,op.g=j:=fun op L=>by obtain ⟨e,_,rfl⟩:=Go.Conc.mem_ofEvents L;rfl
 have other:∀a,a≠j->∀y,((gs.map (woken c.P x f w')).setIfInBounds j f)[a]?=some y->∃z,gs[a]?=some z/\y=woken c.P x f w' z:=fun a d y o=>by
  rw[Array.getElem?_setIfInBounds_ne (Ne.symm d),Array.getElem?_map] at o
  obtain ⟨z,m,rfl⟩:=Option.map_eq_some_iff.1 o
  exact ⟨z,m,rfl⟩
 have at_:∀a z,a≠j->gs[a]?=some z->((gs.map (woken c.P x f w')).setIfInBounds j f)[a]?=some (woken c.P x f w' z):=fun a z d m=>by
  rw[Array.getElem?_setIfInBounds_ne (Ne.symm d),Array.getElem?_map,m];rfl
 have self:((gs.map (woken c.P x f w')).setIfInBounds j f)[j]?=some f:=Array.getElem?_setIfInBounds_self_of_lt (by simpa using K)
 have u:∀a,a≠j->Deaf (t++MemOp.ofEvents j fn pos es) a=Deaf t a:=fun a d=>Deaf_other t (Ne.symm d) _ hu
 have M:(mayWake c.P x=true/\f.status≠ .blocked/\f.status≠ .waiting)\/s'.ms<=s.ms:=A.imp id And.left
 have N:(mayWake c.P x=true/\f.status≠ .blocked/\f.status≠ .waiting)\/s'.ws<=s.ws:=A.imp id And.right
 refine ⟨by simpa using h.size,h.base,h.run,h.off,?_,fun a y h0 hb o=>?_,fun i hi=>?_,fun i hi=>?_,fun a O=>?_,?_,G,H,hinv,I,fun i hi hg=>?_,fun l Q=>by rw[F];exact h.apart l Q,h.low,fun i hi b hb=>?_,Nat.le_trans h.iX J,h.ne⟩
 ·obtain ⟨z,m,e,R⟩:=h.g0
  have S:z.offers=none:=by have:=h.off;rw[<-e] at this;exact this
  obtain ⟨h1,h2⟩:=H6 (c:=c) (p0:=p0) (s':=s') (y:=x) (y':=f) (w':=w') S R hinv.HZ N
  exact ⟨_,at_ 0 z (by omega) m,h1.trans e,h2⟩
 ·by_cases d:a=j
  ·subst d
   rw[self] at o
   cases o
   exact hold hb
  ·obtain ⟨z,m,rfl⟩:=other a d y o
   obtain ⟨q,T,D⟩:=h.old a z h0 hb m
   exact ⟨q,by rw[B a d];exact T,by rw[woken_quitsD D,u a d];exact D⟩
 ·by_cases d:c.base+i=j
  ·subst d
   exact ⟨f,self,(p i rfl hi).1⟩
  ·obtain ⟨z,m,hW⟩:=h.wk i hi
   refine ⟨_,at_ _ z d m,?_⟩
   rw[B _ d,v i d,C i d]
   exact hW.woken hinv.BT M
 ·by_cases d:c.base+i=j
  ·subst d;exact (p i rfl hi).2.1
  ·rw[u _ d,v i d];exact h.deaf i hi
 ·have:gs.size<=a:=by simpa using O
  rw[u a (by omega)]
  exact h.above a this
 ·rw[u 0 (by omega)];exact h.deaf0
 ·by_cases d:c.base+i=j
  ·subst d;exact (p i rfl hi).2.2.1 hg
  ·rw[v i d] at hg
   obtain ⟨r,U⟩:=h.rel i hi hg
   exact ⟨r,U.other (Ne.symm d) hu⟩
 ·by_cases d:c.base+i=j
  ·exact (p i d.symm hi).2.2.2 b hb
  ·rw[C i d] at hb;exact h.iW i hi b hb
end
end Go.Sep
end
section
namespace Go.Sep
open Go Go.Conc
open Go.ConcN (sumTo upd upd_ne upd_same sumTo_congr sumTo_upd)
open Go.ConcM (MuAt muA msA muBlock OsLater)
open Go.ConcR (WgAt wgBlock stA smA)
def lg (x:Option Goroutine):Nat:=match x with
 |some x=>if x.status= .running then 1 else 0
 |none=>0
def runs (gs:Array Goroutine):Nat:=sumTo gs.size fun j=>lg gs[j]?
theorem BU {gs:Array Goroutine}{j:Nat}{x y:Goroutine}(c:gs[j]?=some x)(f:x.status= .running)(g:y.status≠ .running):runs (gs.setIfInBounds j y)<runs gs:=by
 have d:j<gs.size:=(Array.getElem?_eq_some_iff.1 c).1
 have h:=sumTo_upd (fun a=>lg gs[a]?) (0:Nat) id d
 simp only[id] at h
 have e:runs (gs.setIfInBounds j y)=sumTo gs.size (upd (fun a=>lg gs[a]?) j 0):=by
  unfold runs
  rw[Array.size_setIfInBounds]
  refine sumTo_congr fun a i=>?_
  by_cases b:a=j
  ·subst b
   rw[upd_same,Array.getElem?_setIfInBounds_self_of_lt d]
   simp[lg,g]
  ·rw[upd_ne _ _ b,Array.getElem?_setIfInBounds_ne (Ne.symm b)]
 have h1:lg gs[j]?=1:=by rw[c];simp[lg,f]
 rw[e]
 unfold runs
 simp only[h1] at h
 have:sumTo gs.size (fun a=>upd (fun a=>lg gs[a]?) j 0 a)=sumTo gs.size (upd (fun a=>lg gs[a]?) j 0):=rfl
 omega
theorem iq.up {c:Cy}{i:Nat}{r:Rk}{g:Goroutine}{F:af}{ph:Ph}(h:iq c i r g F ph)(hg:ph.gp≠ .gone):g.status= .running/\g.offers=none:=by
 cases r with
 |mk ι f=>
  rcases h with h|h|h
  ·exact absurd h.1 hg
  ·exact ⟨h.1,h.2.1⟩
  ·exact ⟨h.1,h.2.1⟩
theorem iq.left {c:Cy}{i:Nat}{r:Rk}{g:Goroutine}{F:af}{ph:Ph}(h:iq c i r g F ph)(hg:ph.gp= .gone):∃q,r=Rk.nat q/\QuitsD c.P q ph.deaf g:=by
 cases r with
 |mk ι f=>
  rcases h with h|h|h
  ·exact h.2
  ·rw[hg] at h;cases h.2.2.1
  ·exact absurd hg h.2.2.1
theorem iq.xu {c:Cy}{i:Nat}{r:Rk}{g:Goroutine}{F:af}{ph:Ph}(h:iq c i r g F ph)(s:Sh):og c i r g F ph s/\g.status≠ .blocked/\g.status≠ .waiting:=by
 by_cases hg:ph.gp= .gone
 ·obtain ⟨q,b,a⟩:=h.left hg
  refine ⟨.inl ⟨hg,q,b,a⟩,?_,?_⟩<;>rcases a.status with e|e<;>rw[e]<;>simp
 ·obtain ⟨h1,h2⟩:=h.up hg
  refine ⟨.inr ⟨hg,?_,h2,.inl h1⟩,by rw[h1];simp,by rw[h1];simp⟩
  have:({g with status:=.running}:Goroutine)=g:=by cases g;simp_all
  rw[this];exact h
section
variable {c : Cy} {B0 : Nat} {bt : Loc → Prop} {p0 : P0} {d0 k : Nat} {g : Goroutine} {Fr : Nat → af} {gs : Array Goroutine} {w : World} {t u : Trace} {ρ : Nat → Rk} {φ : Nat → Ph} {s : Sh}
theorem ee.still {B:Nat}(h:ee c bt k Fr B t)(hn:∀op∈u,op.act.touch?=none)(e:∀op∈u,op.act.low B)(v:∀op∈u,op.act≠ .mark (.release (stA c.Wg))){gg:Nat}(hu:∀op∈u,op.g=gg):ee c bt k Fr B (t++u):=by
 have f:∀op∈u,∀b,op.act.touch?=some b->False:=fun op d b hb=>by rw[hn op d] at hb;cases hb
 have old:∀{i:Nat} {a:Touch},touchAt (t++u) i=some a->touchAt t i=some a/\i<t.size:=by
  intro i a o
  obtain ⟨z,m,r⟩:=touch_of o
  rcases getElem?_append_cases m with ⟨hi,w⟩|⟨_,x⟩
  ·exact ⟨by rw[touchAt_of w];exact r,hi⟩
  ·exact (f z x a r).elim
 refine ⟨by have:=h.len;simp;omega,BS h.quiet fun op d b hb _=>(f op d b hb).elim,fun said=>noRace_append (g:=gg) (h.nr said) hu fun i a _ op d b hb _=>(f op d b hb).elim,fun q p l e=>(h.own q p l e).app fun op d b hb _=>(f op d b hb).elim,fun q p l e=>(h.ro q p l e).app fun op d b hb _ _=>(f op d b hb).elim,
  fun i hi l e=>(h.s8 i hi l e).app fun op d b hb _=>(f op d b hb).elim,fun i hi l e=>(h.s9 i hi l e).app fun op d b hb _=>(f op d b hb).elim,fun op d=>(Array.mem_append.1 d).elim (h.low op) (e op),tc h.norel v,fun i a o hm=>?_,fun i g hg y s=>?_⟩
 ·obtain ⟨A,hi⟩:=old o
  rcases h.known i a A hm with z|z|⟨j,n,z⟩
  ·exact .inl (z.app _)
  ·exact .inr (.inl z)
  ·exact .inr (.inr ⟨j,n,by rw[g?_old hi];exact z⟩)
 ·have C:=s
  obtain ⟨z,m,_⟩:=s
  obtain ⟨_,hi⟩:=old (show touchAt _ i=some z from m)
  rcases h.over i g (by rw[<-g?_old (u:=u) hi];exact hg) y ((counts_old hi).1 C) with ⟨j,n,y'⟩|y'
  ·have D:j<t.size:=by
    unfold Trace.g? at n
    obtain ⟨z,m,_⟩:=Option.map_eq_some_iff.1 n
    exact lt_size_of_getElem? m
   exact .inl ⟨j,by rw[g?_old D];exact n,hb_app _ y'⟩
  ·exact .inr y'
theorem ee.mute {B:Nat}(h:ee c bt k Fr B t){j:Nat}{fn:FuncId}{pos:String}{es:Array Event}(hm:∀e∈es,e.mute=true):ee c bt k Fr B (t++MemOp.ofEvents j fn pos es):=by
 refine h.still (gg:=j) (fun op a=>?_) (fun op a=>?_) (fun op a=>?_) (fun op a=>?_)<;>obtain ⟨e,he,rfl⟩:=Go.Conc.mem_ofEvents a
 ·exact touch_mute (hm e he)
 ·exact low_mute (hm e he) B
 ·have:=hm e he
  obtain ⟨loc,wr,sy⟩:=e
  cases loc with
  |mark m=>cases m<;>simp_all [Event.mute,MemAct.ofEvent]
  |_=>simp_all [Event.mute]
 ·rfl
theorem Inv.deaf {n:Nat}{bs:Nat->Bool}(h:Inv n bs k φ p0 s){i:Nat}(hi:i<n)(hg:(φ i).gp≠ .new)(d:Nat):Inv n bs k (upd φ i {φ i with deaf:=d}) p0 s:=by
 obtain ⟨C,S,W,L,m,hm⟩:=h.m
 refine ⟨⟨C,S,W,L,m,mI hm hi _ (.inl rfl)⟩,s7 h.w hi _ (.inl rfl),h.i.len,h.i.kn,fun j a=>?_,fun j a=>?_,fun j a hn=>?_,fun j a h1 h2=>?_⟩<;>by_cases e:j=i
 ·subst e;rw[upd_same];exact h.i.all j a
 ·rw[upd_ne _ _ e];exact h.i.all j a
 ·subst e;rw[upd_same];exact h.i.born j a
 ·rw[upd_ne _ _ e];exact h.i.born j a
 ·subst e;rw[upd_same] at hn;exact absurd hn hg
 ·rw[upd_ne _ _ e] at hn ⊢;exact h.i.new j a hn
 ·subst e;rw[upd_same] at h1 h2 ⊢;exact h.i.done j a h1 h2
 ·rw[upd_ne _ _ e] at h1 h2 ⊢;exact h.i.done j a h1 h2
theorem cw.keep {w w':World}(h:cw c w s)(he:∀b,c.shared b->w'.heap[b]?=w.heap[b]?):cw c w' s:=by
 obtain ⟨h1,h2,h3⟩:=h
 refine ⟨?_,?_,?_⟩
 ·unfold MuAt at*;rw[he _ (.inl rfl)];exact h1
 ·unfold WgAt at*;rw[he _ (.inr (.inl rfl))];exact h2
 ·rw[he _ (.inr (.inr rfl))];exact h3
theorem dz.walk (h:dz c k Fr w){p:Nat}(s:p<=k){F':af}{w':World}(hu:dJ (Fr p) F' w w')(t:Has F' w'):dz c k (upd Fr p F') w':=by
 have keep:∀b,b<w.heap.size->b∉keys (Fr p).own->w'.heap[b]?=w.heap[b]?:=hu.frame
 have j:∀q,q≠p->(upd Fr p F') q=Fr q:=fun q d=>upd_ne _ _ d
 have self:(upd Fr p F') p=F':=upd_same _ _ _
 refine ⟨fun q d=>?_,fun q r d f i b hb l=>?_,fun q r d f i a g hb=>?_,fun q d b hb hs=>?_,fun q d a g hs=>?_,fun b hb=>Nat.lt_of_lt_of_le (h.ga b hb) hu.size⟩
 ·by_cases e:q=p
  ·subst e;rw[self];exact t
  ·rw[j q e]
   have m:=h.has q d
   exact ⟨fun a v f=>by
    have:=m.ro a v f
    unfold World.cell? at this ⊢
    rw[keep _ (m.gG (a:=a) (by rw[f];rfl)) (fun hm=>h.ro q p d s e a (by rw[f];rfl) hm)]
    exact this,fun b o hb=>by rw[keep b (m.lt (eK hb)) (fun hm=>h.own q p d s e b (eK hb) hm)];exact m.own b o hb,m.nodup,m.apart⟩
 ·by_cases eq:q=p
  ·subst eq
   rw[self] at hb
   rw[j r (Ne.symm i)] at l
   rcases hu.own b hb with x|x
   ·exact h.own q r d f i b x l
   ·have:=(h.has r f).lt l;omega
  ·rw[j q eq] at hb
   by_cases n:r=p
   ·subst n
    rw[self] at l
    rcases hu.own b l with x|x
    ·exact h.own q r d f i b hb x
    ·have:=(h.has q d).lt hb;omega
   ·rw[j r n] at l
    exact h.own q r d f i b hb l
 ·by_cases eq:q=p
  ·subst eq
   rw[self] at g
   rw[j r (Ne.symm i)] at hb
   rcases hu.ro a g with x|x|x
   ·exact h.ro q r d f i a x hb
   ·exact h.own q r d f i _ x hb
   ·have:=(h.has r f).lt hb;omega
  ·rw[j q eq] at g
   by_cases n:r=p
   ·subst n
    rw[self] at hb
    rcases hu.own _ hb with x|x
    ·exact h.ro q r d f i a g x
    ·have:=(h.has q d).gG g;omega
   ·rw[j r n] at hb
    exact h.ro q r d f i a g hb
 ·by_cases e:q=p
  ·subst e
   rw[self] at hb
   rcases hu.own b hb with x|x
   ·exact h.gz q d b x hs
   ·have:=h.ga b hs;omega
  ·rw[j q e] at hb
   exact h.gz q d b hb hs
 ·by_cases e:q=p
  ·subst e
   rw[self] at g
   rcases hu.ro a g with x|x|x
   ·exact h.iV q d a x hs
   ·exact h.gz q d _ x hs
   ·have:=h.ga _ hs;omega
  ·rw[j q e] at g
   exact h.iV q d a g hs
theorem dz.act (h:dz c k Fr w){p:Nat}(u:p<=k){F':af}{w':World}(he:gS c w w')(hle:Le F' (Fr p)):dz c k (upd Fr p F') w':=by
 have n:∀q,q<=k->Has (Fr q) w':=fun q d=>by
  have j:=h.has q d
  exact ⟨fun a v g=>by
   have:=j.ro a v g
   unfold World.cell? at this ⊢
   rw[he.block _ (h.iV q d a (by rw[g];rfl))]
   exact this,fun b o hb=>by rw[he.block b (h.gz q d b (eK hb))];exact j.own b o hb,j.nodup,j.apart⟩
 have m:∀q,q≠p->(upd Fr p F') q=Fr q:=fun q d=>upd_ne _ _ d
 have self:(upd Fr p F') p=F':=upd_same _ _ _
 have i:∀q b,b∈keys ((upd Fr p F') q).own->b∈keys (Fr q).own:=fun q b hb=>by
  by_cases e:q=p
  ·subst e;rw[self] at hb;exact hle.own b hb
  ·rw[m q e] at hb;exact hb
 have s:∀q a,(((upd Fr p F') q).ro a).isSome=true->((Fr q).ro a).isSome=true\/a.block∈keys (Fr q).own:=fun q a f=>by
  by_cases e:q=p
  ·subst e;rw[self] at f;exact hle.ro a f
  ·rw[m q e] at f;exact .inl f
 refine ⟨fun q d=>?_,fun q r d g l b hb t=>h.own q r d g l b (i q b hb) (i r b t),fun q r d g l a f hb=>(s q a f).elim (fun x=>h.ro q r d g l a x (i r _ hb)) (fun x=>h.own q r d g l _ x (i r _ hb)),
  fun q d b hb hs=>h.gz q d b (i q b hb) hs,fun q d a f hs=>(s q a f).elim (fun x=>h.iV q d a x hs) (fun x=>h.gz q d _ x hs),fun b hb=>by rw[he.size];exact h.ga b hb⟩
 by_cases e:q=p
 ·subst e;rw[self];exact hle.has _ (n q d)
 ·rw[m q e];exact n q d
theorem dz.at (h:dz c k Fr w)(d:Nat):dz c k Fr (w.at d):=⟨fun p a=>(h.has p a).at d,h.own,h.ro,h.gz,h.iV,h.ga⟩
theorem dA.at (h:dA c B0 bt p0 d0 k g Fr gs w t ρ φ s)(d:Nat):dA c B0 bt p0 d0 k g Fr gs (w.at d) t ρ φ s:=
 ⟨h.size,h.base,h.run,h.off,h.g0,h.old,h.wk,h.deaf,h.above,h.deaf0,h.parts.at d,h.sh,h.inv,h.gA,h.rel,h.apart,h.low,h.iW,h.iX,h.ne⟩
theorem lp {F:af}{w w':World}(g:Has F w)(h:w.heap.size<=w'.heap.size){e:Event}(he:iA F.ro (gF F w.heap.size w'.heap.size) e)(p:Nat):
  (∀x,(MemAct.ofEvent e).touch?=some x->ta c F w.heap.size p x)/\(MemAct.ofEvent e).low w'.heap.size/\MemAct.ofEvent e≠ .mark (.release (stA c.Wg))/\e.loc≠ .mark .disable/\e.loc≠ .mark .enable:=by
 have hm:∀b,gF F w.heap.size w'.heap.size b->b<w'.heap.size:=fun b hb=>hb.elim (fun x=>Nat.lt_of_lt_of_le (g.lt x) h) (fun x=>x.2)
 rcases he with ⟨a,wr,rfl,d⟩|⟨r,wr,rfl,d⟩|⟨m,rfl,i⟩
 ·refine ⟨fun x f=>?_,?_,by cases wr<;>simp[MemAct.ofEvent],by simp,by simp⟩
  ·have e1:x=⟨.cell a,wr,.plain⟩:=by cases wr<;>simp[MemAct.ofEvent,MemAct.touch?] at f<;>rw[<-f]
   subst e1
   rcases d with (d|d)|⟨hw,d⟩
   ·exact .inl d
   ·exact .inr (.inl d.1)
   ·exact .inr (.inr (.inl ⟨⟨a,rfl,d⟩,hw⟩))
  ·have:a.block<w'.heap.size:=d.elim (hm _) fun x=>Nat.lt_of_lt_of_le (g.gG x.2) h
   cases wr<;>exact this
 ·refine ⟨fun x f=>?_,?_,by cases wr<;>simp[MemAct.ofEvent],by simp,by simp⟩
  ·have e1:x=⟨.obj r,wr,.plain⟩:=by cases wr<;>simp[MemAct.ofEvent,MemAct.touch?] at f<;>rw[<-f]
   subst e1
   rcases d with d|d
   ·exact .inl d
   ·exact .inr (.inl d.1)
  ·have:=hm _ d
   cases wr<;>exact this
 ·cases m<;>simp[oC] at i<;>exact ⟨fun x d=>by simp[MemAct.ofEvent,MemAct.touch?] at d,trivial,by simp[MemAct.ofEvent],by simp,by simp⟩
theorem H7 {i:Nat}{ph aH:Ph}{es:Array Event}(h:EvA c i ph aH es)(F:af)(B:Nat)(f:∀b,c.shared b->b<B):∀e∈es,
  (∀x,(MemAct.ofEvent e).touch?=some x->ta c F B (i+1) x)/\(MemAct.ofEvent e).low B/\MemAct.ofEvent e≠ .mark (.release (stA c.Wg)):=by
 intro e he
 cases h with
 |book h hd ht hg=>
  rcases h e he with rfl|rfl|⟨a,x,rfl,k⟩
  ·exact ⟨fun x d=>by simp[cF,MemAct.ofEvent,MemAct.touch?] at d,trivial,by simp[cF,MemAct.ofEvent]⟩
  ·exact ⟨fun x d=>by simp[cF,MemAct.ofEvent,MemAct.touch?] at d,trivial,by simp[cF,MemAct.ofEvent]⟩
  ·refine ⟨fun y g=>?_,?_,by cases x<;>simp[MemAct.ofEvent]⟩
   ·have:y=⟨.cell a,x,.atomic⟩:=by cases x<;>simp[MemAct.ofEvent,MemAct.touch?] at g<;>rw[<-g]
    subst this
    exact .inr (.inr (.inr (.inl ⟨⟨a,rfl,k.elim .inr fun z=>.inl z.1⟩,by simp,by simp⟩)))
   ·have:a.block<B:=f _ (k.elim (fun z=>.inr (.inl z)) fun z=>.inl z.1)
    cases x<;>exact this
 |word m j hm hd hg=>
  rw[j] at he
  simp only[List.mem_toArray,List.mem_singleton] at he
  subst he
  rcases hm with rfl|rfl
  ·exact ⟨fun x d=>by simp[cF,MemAct.ofEvent,MemAct.touch?] at d,f _ (.inl rfl),by simp[cF,MemAct.ofEvent]⟩
  ·exact ⟨fun x d=>by simp[cF,MemAct.ofEvent,MemAct.touch?] at d,f _ (.inl rfl),by simp[cF,MemAct.ofEvent]⟩
 |store j hd hg=>
  rw[j] at he
  simp only[List.mem_toArray,List.mem_singleton] at he
  subst he
  refine ⟨fun y g=>?_,f _ (.inr (.inr rfl)),by simp[MemAct.ofEvent]⟩
  have:y=⟨.cell ⟨c.Is,i,none⟩,true,.plain⟩:=by simp[MemAct.ofEvent,MemAct.touch?] at g;rw[<-g]
  subst this
  exact .inr (.inr (.inr (.inr (.inl ⟨i,rfl,rfl⟩))))
 |rel j hd hg=>
  rw[j] at he
  simp only[List.mem_toArray,List.mem_singleton] at he
  subst he
  exact ⟨fun x d=>by simp[cF,MemAct.ofEvent,MemAct.touch?] at d,f _ (.inr (.inl rfl)),by simp[cF,MemAct.ofEvent]⟩
theorem H8 {i:Nat}{ph aH:Ph}{es:Array Event}(h:EvA c i ph aH es):deafBehind ph.deaf es=aH.deaf:=by
 cases h with
 |book h hd ht hg=>exact hd
 |word m a hm hd hg=>rw[a,hd];rcases hm with rfl|rfl<;>simp[cF,deafBehind]
 |store a hd hg=>rw[a,hd];simp[deafBehind]
 |rel a hd hg=>rw[a,hd.2,hd.1];simp[cF,deafBehind]
theorem H9 (d:Nat)(es:Array Event)(n:Nat)(h:n<=es.size){fn:FuncId}{pos:String}{j:Nat}(t:Trace)(hd:Deaf t j=d):(t++MemOp.ofEvents j fn pos es).deaf j (t.size+n)=deafBehind d (es.extract 0 n):=by
 have e1:es=es.extract 0 n++es.extract n es.size:=by simp[Array.extract_append_extract,h]
 have e2:MemOp.ofEvents j fn pos es=MemOp.ofEvents j fn pos (es.extract 0 n)++MemOp.ofEvents j fn pos (es.extract n es.size):=by
  rw[Go.Conc.ofEvents_eq,Go.Conc.ofEvents_eq,Go.Conc.ofEvents_eq,<-Array.map_append,<-e1]
 rw[e2,<-Array.append_assoc]
 have hs:(t++MemOp.ofEvents j fn pos (es.extract 0 n)).size=t.size+n:=by rw[Go.Conc.ofEvents_eq];simp;omega
 rw[<-hs,deaf_old (Nat.le_refl _)]
 have:=Deaf_own t j fn pos (es.extract 0 n)
 unfold Deaf at this
 rw[this]
 exact congrArg (fun d=>deafBehind d _) hd
theorem Ia {i j:Nat}{ph aH:Ph}{es:Array Event}{fn:FuncId}{pos:String}(hlen:c.T0<=t.size)(h:EvA c i ph aH es)(hd:Deaf t j=ph.deaf)(k:ph.gp≠ .cnt->∃r,fO c t j r)(l:aH.gp≠ .cnt):∃r,fO c (t++MemOp.ofEvents j fn pos es) j r:=by
 cases h with
 |book h d ht hg=>
  have o:ph.gp≠ .cnt:=fun e=>l (hg.2 e)
  obtain ⟨r,k⟩:=k o
  refine ⟨r,k.app fun idx x hi p n=>?_⟩
  obtain ⟨z,f,b⟩:=touch_of n
  have s:(MemOp.ofEvents j fn pos es)[idx - t.size]?=some z:=by rw[Array.getElem?_append_right hi] at f;exact f
  rw[Go.Conc.ofEvents_eq,Array.getElem?_map] at s
  obtain ⟨e,he,rfl⟩:=Option.map_eq_some_iff.1 s
  have u:idx - t.size<es.size:=(Array.getElem?_eq_some_iff.1 he).1
  rcases ht _ e he with q|q
  ·simp only at b;rw[q] at b;cases b
  rcases h e (Array.mem_of_getElem? he) with rfl|rfl|⟨a,y,rfl,v⟩
  ·simp[cF,MemAct.ofEvent,MemAct.touch?] at b
  ·simp[cF,MemAct.ofEvent,MemAct.touch?] at b
  ·have:x=⟨.cell a,y,.atomic⟩:=by cases y<;>simp[MemAct.ofEvent,MemAct.touch?] at b<;>rw[<-b]
   subst this
   refine ⟨rfl,?_,a,rfl,v.resolve_right fun z=>o z.2⟩
   rintro ⟨g,hg,w⟩
   have A:g=j:=by rw[p] at hg;exact (Option.some.inj hg).symm
   subst A
   have e1:idx=t.size+(idx - t.size):=by omega
   rw[e1,H9 ph.deaf es (idx - t.size) (Nat.le_of_lt u) t hd] at w
   omega
 |word m he hm d hg=>exact absurd hg.1 l
 |store he d hg=>exact absurd hg.1 l
 |rel he d hg=>
  refine ⟨t.size,?_⟩
  have B:MemOp.ofEvents j fn pos es=#[{g:=j,fn:=fn,pos:=pos,act:=.mark (.releaseMerge (stA c.Wg))}]:=by rw[Go.Conc.ofEvents_eq,he];simp[cF,MemAct.ofEvent]
  rw[B]
  have C:(t++#[({g:=j,fn:=fn,pos:=pos,act:=.mark (.releaseMerge (stA c.Wg))}:MemOp)])[t.size]?=some {g:=j,fn:=fn,pos:=pos,act:=.mark (.releaseMerge (stA c.Wg))}:=by
   rw[Array.getElem?_append_right (Nat.le_refl _)];simp
  refine ⟨hlen,act?_of C,by simp[Trace.g?],⟨j,by simp[Trace.g?],by rw[deaf_old (Nat.le_refl _)];exact hd.trans d.1⟩,fun idx x hi p n=>?_⟩
  obtain ⟨z,f,_⟩:=touch_of n
  have:=lt_size_of_getElem? f
  simp at this
  omega
end
section
variable {c : Cy} {B0 : Nat} {bt : Loc → Prop} {p0 : P0} {d0 k : Nat} {g : Goroutine} {Fr : Nat → af} {gs : Array Goroutine} {w : World} {t u : Trace} {ρ : Nat → Rk} {φ : Nat → Ph} {s : Sh}
theorem di.at_ (F:af)(w:World)(d:Nat):di c B0 F F w (w.at d):=⟨.refl _,rfl,rfl,Nat.le_refl _,fun _ _ _ _=>rfl,fun _ h=>.inl h,fun _ h=>.inl h⟩
structure Ib (c:Cy)(B0:Nat)(bt:Loc->Prop)(p0:P0)(d0 k:Nat)(g:Goroutine)(Fr:Nat->af)(gs:Array Goroutine)(w:World)(t:Trace)(ρ:Nat->Rk)(m:Machine)(ops:Array MemOp)(sl:Option (Nat×Nat)):Prop where
 ex:∃(bT:Array Goroutine) (w':World) (ρ':Nat->Rk) (φ':Nat->Ph) (cO:Nat->af) (s':Sh),m=crowd bT w' sl/\dA c B0 bt p0 d0 k g cO bT w' (t++ops) ρ' φ' s'/\
  bT.size=gs.size/\cO 0=Fr 0/\di c B0 (Fr 0) (Fr 0) w w'/\yR gs.size (ρ',runs bT) (ρ,runs gs)
def lq (ρ:Nat->Rk)(j:Nat)(r:Rk)(a:Nat):Rk:=if a=j then r else ρ a
theorem oh (ρ:Nat->Rk)(j:Nat)(r:Rk):lq ρ j r j=r:=if_pos rfl
theorem mJ (ρ:Nat->Rk)(r:Rk){a j:Nat}(h:a≠j):lq ρ j r a=ρ a:=if_neg h
theorem td {n j:Nat}{ρ:Nat->Rk}{r:Rk}(a:j<n)(h:(ρ j).kids r):qD n (lq ρ j r) ρ:=⟨j,a,by rw[oh];exact h,fun _ b=>mJ _ _ b⟩
theorem dA.other (h:dA c B0 bt p0 d0 k g Fr gs w t ρ φ s){j:Nat}{x:Goroutine}(L:0<j)(B:gs[j]?=some x)(G:x.status= .running)(sl:Option (Nat×Nat)):
  ∃m ops,runT c.P (crowd gs w sl) j=(.next m,ops)/\Ib c B0 bt p0 d0 k g Fr gs w t ρ m ops sl:=by
 have R:j<gs.size:=(Array.getElem?_eq_some_iff.1 B).1
 have N:(j==0)=false:=by simp;omega
 rcases Nat.lt_or_ge j c.base with ao|ao
 ·
  obtain ⟨q,K,O⟩:=h.old j x L ao B
  cases q with
  |zero=>rw[O.1] at G;cases G
  |succ q=>
   rcases O with ⟨V,_⟩|⟨_,W,es,hm,H,X⟩
   ·rw[V] at G;cases G
   have F:=runT_crowd_go (P:=c.P) (gs:=gs) (w:=w) (sl:=sl) (i:=j) B (by rw[N];exact H w)
   refine ⟨_,_,F,⟨_,w,lq ρ j (Rk.nat q),φ,Fr,s,rfl,?_,by simp,rfl,.refl _ _ _ _,.inl (td R (by rw[K];exact Rk.yP q))⟩⟩
   refine h.jE L B (.inr ⟨Int.le_refl _,Int.le_refl _⟩) (fun Y E=>mJ _ _ E) (fun _ _=>rfl) (fun _ _=>rfl) rfl (fun _=>⟨q,oh _ _ _,by rw[Deaf_own];exact X⟩) (fun i e _=>by omega) h.parts h.sh h.inv (h.gA.mute hm) (Nat.le_refl _)
 ·
  have bz:=h.size
  obtain ⟨i,rfl⟩:∃i,j=c.base+i:=⟨j - c.base,by omega⟩
  have C:i<k:=by omega
  have ar:i<c.n:=Nat.lt_of_lt_of_le C h.inv.i.kn
  obtain ⟨u,a0,hW⟩:=h.wk i C
  obtain rfl:u=x:=by rw[B] at a0;exact (Option.some.inj a0).symm
  have E:∀d,c.base+d≠c.base+i->d≠i:=fun d D e=>D (by rw[e])
  rcases hW with ⟨hg,q,K,O⟩|⟨hg,Z,a2,_⟩
  ·cases q with
   |zero=>rw[O.1] at G;cases G
   |succ q=>
    rcases O with ⟨V,_⟩|⟨_,W,es,hm,H,X⟩
    ·rw[V] at G;cases G
    have F:=runT_crowd_go (P:=c.P) (gs:=gs) (w:=w) (sl:=sl) (i:=c.base+i) B (by rw[N];exact H w)
    refine ⟨_,_,F,⟨_,w,lq ρ (c.base+i) (Rk.nat q),upd φ i {φ i with deaf:=deafBehind (φ i).deaf es},Fr,s,rfl,?_,by simp,rfl,.refl _ _ _ _,.inl (td R (by rw[K];exact Rk.yP q))⟩⟩
    have hd:=h.deaf i C
    refine h.jE L B (.inr ⟨Int.le_refl _,Int.le_refl _⟩) (fun Y E=>mJ _ _ E) (fun d D=>upd_ne _ _ (E d D)) (fun _ _=>rfl) rfl (fun D=>by omega) (fun d e S=>?_) h.parts h.sh (h.inv.deaf ar (by rw[hg];simp) _) (h.gA.mute hm) (Nat.le_refl _)
    obtain rfl:d=i:=by omega
    rw[oh,upd_same]
    refine ⟨.inl ⟨hg,q,rfl,X⟩,by rw[Deaf_own,hd],fun M=>?_,h.iW d C⟩
    obtain ⟨r,F⟩:=h.rel d C (by rw[hg];simp)
    refine ⟨r,F.app fun idx y hi bS a8=>?_⟩
    obtain ⟨z,Q,a3⟩:=touch_of a8
    rcases getElem?_append_cases Q with ⟨S,_⟩|⟨_,a9⟩
    ·omega
    ·obtain ⟨e,he,rfl⟩:=Go.Conc.mem_ofEvents a9
     rw[touch_mute (hm e he)] at a3;cases a3
  ·have ex:({u with status:=.running}:Goroutine)=u:=by cases u;simp_all
   rw[ex] at Z
   cases T:ρ (c.base+i) with
   |mk ι f=>
    rw[T] at Z
    rcases Z with ⟨ba,_⟩|⟨_,_,bb,bc⟩|⟨_,_,_,a4⟩
    ·exact absurd ba hg
    ·
     obtain ⟨y,W,w',es,F',H,hu,bd,J,ab⟩:=bc w (h.parts.has (i+1) (by omega))
     have F:=runT_crowd_go (P:=c.P) (gs:=gs) (w:=w) (sl:=sl) (i:=c.base+i) B (by rw[N];exact H)
     have U:=h.parts.has (i+1) (by omega)
     obtain ⟨ad,a5,a6⟩:=ab.xu s
     have a7:∀b,b<w.heap.size->b∉keys (Fr (i+1)).own->w'.heap[b]?=w.heap[b]?:=hu.frame
     refine ⟨_,_,F,⟨_,w',lq ρ (c.base+i) (f y),φ,upd Fr (i+1) F',s,rfl,?_,by simp,upd_ne _ _ (by omega),?_,.inl (td R (by rw[T];exact ⟨y,rfl⟩))⟩⟩
     ·have bj:Deaf (t++MemOp.ofEvents (c.base+i) u.frame.fn u.frame.place es) (c.base+i)=(φ i).deaf:=by
       rw[Deaf_own,deafBehind_still (fun e he=>(lp (c:=c) U hu.size (J e he) 0).2.2.2)]
       exact h.deaf i C
      refine h.jE L B (.inr ⟨Int.le_refl _,Int.le_refl _⟩) (fun Y E=>mJ _ _ E) (fun _ _=>rfl) (fun d D=>upd_ne _ _ (by have:=E d D;omega)) (upd_ne _ _ (by omega)) (fun D=>by omega) (fun d e S=>?_) (h.parts.walk (by omega) hu bd)
       (h.sh.keep fun b hb=>a7 b (h.parts.ga b hb) (fun hm=>h.parts.gz (i+1) (by omega) b hm hb)) h.inv ?_ hu.size
      ·obtain rfl:d=i:=by omega
       rw[oh,upd_same]
       refine ⟨ad,bj,fun M=>absurd bb M,fun b hb=>?_⟩
       rcases hu.own b hb with z|z
       ·exact h.iW d C b z
       ·exact Nat.le_trans h.iX z
      ·refine ee.app h.base ⟨h.ne.2.1,h.ne.2.2⟩ h.parts h.gA (p:=i+1) (by omega) hu.size (fun op v=>?_) (fun op v z Q=>?_) (fun op v=>?_) (fun op v=>?_) (fun q K=>upd_ne _ _ K) (fun l A=>?_) (fun l A=>?_)
       ·obtain ⟨e,_,rfl⟩:=Go.Conc.mem_ofEvents v;rfl
       ·obtain ⟨e,he,rfl⟩:=Go.Conc.mem_ofEvents v;exact (lp (c:=c) U hu.size (J e he) (i+1)).1 z Q
       ·obtain ⟨e,he,rfl⟩:=Go.Conc.mem_ofEvents v;exact (lp (c:=c) U hu.size (J e he) (i+1)).2.1
       ·obtain ⟨e,he,rfl⟩:=Go.Conc.mem_ofEvents v;exact (lp (c:=c) U hu.size (J e he) (i+1)).2.2.1
       ·rw[upd_same] at A
        cases l with
        |cell a=>exact hu.own _ A
        |obj r=>exact hu.own _ A
        |_=>exact A.elim
       ·rw[upd_same] at A
        obtain ⟨a,rfl,ae⟩:=A
        rcases hu.ro a ae with z|z|z
        ·exact .inl ⟨a,rfl,z⟩
        ·exact .inr (.inl z)
        ·exact .inr (.inr z)
     ·exact ⟨by rw[hu.os];exact .refl _,hu.tape,hu.output,hu.size,fun b hb _ _=>a7 b (Nat.lt_of_lt_of_le hb h.iX) (fun hm=>by have:=h.iW i C b hm;omega),fun _ h=>.inl h,fun _ h=>.inl h⟩
    ·
     rcases a4 w s k φ p0 (h.parts.has (i+1) (by omega)) h.sh ar rfl h.inv with ⟨bk,bl,H⟩|⟨y,W,w',es,s',aH,F',H,bm,I,hinv,J,bo,hle,ab⟩
     ·
      have F:=runT_crowd_go (P:=c.P) (gs:=gs) (w:=w) (sl:=sl) (i:=c.base+i) B (by rw[N];exact H)
      have br:gs.map (woken c.P u {u with status:=.blocked} w)=gs:=by
       have:woken c.P u {u with status:=.blocked} w=id:=by funext o;unfold Go.Conc.woken;simp
       rw[this,Array.map_id]
      refine ⟨_,_,F,⟨_,w,ρ,φ,Fr,s,rfl,?_,by simp,rfl,.refl _ _ _ _,.inr ⟨rfl,?_⟩⟩⟩
      ·have he:t++MemOp.ofEvents (c.base+i) u.frame.fn u.frame.place #[]=t:=by simp[MemOp.ofEvents]
       refine h.jE L B (.inr ⟨Int.le_refl _,Int.le_refl _⟩) (fun _ _=>rfl) (fun _ _=>rfl) (fun _ _=>rfl) rfl (fun D=>by omega) (fun d e S=>?_) h.parts h.sh h.inv (by rw[he];exact h.gA) (Nat.le_refl _)
       obtain rfl:d=i:=by omega
       rw[he]
       refine ⟨.inr ⟨hg,?_,a2,.inr ⟨rfl,bk,bl⟩⟩,h.deaf d C,fun M=>h.rel d C M,h.iW d C⟩
       have e2:({({u with status:=.blocked}:Goroutine) with status:=.running}:Goroutine)=u:=by cases u;simp_all
       rw[e2,T]
       exact .inr (.inr ⟨G,a2,hg,a4⟩)
      ·rw[br];exact BU B G (by simp)
     ·have F:=runT_crowd_go (P:=c.P) (gs:=gs) (w:=w) (sl:=sl) (i:=c.base+i) B (by rw[N];exact H)
      obtain ⟨ad,a5,a6⟩:=ab.xu s'
      have hd:=h.deaf i C
      have al:=H7 J (Fr (i+1)) w.heap.size h.parts.ga
      refine ⟨_,_,F,⟨_,w',lq ρ (c.base+i) (f y),upd φ i aH,upd Fr (i+1) F',s',rfl,?_,by simp,upd_ne _ _ (by omega),?_,.inl (td R (by rw[T];exact ⟨y,rfl⟩))⟩⟩
      ·refine h.jE L B (bo.imp (fun z=>⟨z,a5,a6⟩) id) (fun Y E=>mJ _ _ E) (fun d D=>upd_ne _ _ (E d D)) (fun d D=>upd_ne _ _ (by have:=E d D;omega)) (upd_ne _ _ (by omega)) (fun D=>by omega) (fun d e S=>?_) (h.parts.act (by omega) I hle) bm hinv ?_ (by rw[I.size];exact Nat.le_refl _)
       ·obtain rfl:d=i:=by omega
        rw[oh,upd_same,upd_same]
        exact ⟨ad,by rw[Deaf_own,hd];exact H8 J,fun M=>Ia h.gA.len J hd (fun bs=>h.rel d C bs) M,fun b hb=>h.iW d C b (hle.own b hb)⟩
       ·refine ee.app h.base ⟨h.ne.2.1,h.ne.2.2⟩ h.parts h.gA (p:=i+1) (by omega) (by rw[I.size];exact Nat.le_refl _) (fun op v=>?_) (fun op v z Q=>?_) (fun op v=>?_) (fun op v=>?_) (fun q K=>upd_ne _ _ K) (fun l A=>?_) (fun l A=>?_)
        ·obtain ⟨e,_,rfl⟩:=Go.Conc.mem_ofEvents v;rfl
        ·obtain ⟨e,he,rfl⟩:=Go.Conc.mem_ofEvents v;exact (al e he).1 z Q
        ·obtain ⟨e,he,rfl⟩:=Go.Conc.mem_ofEvents v;rw[I.size];exact (al e he).2.1
        ·obtain ⟨e,he,rfl⟩:=Go.Conc.mem_ofEvents v;exact (al e he).2.2
        ·rw[upd_same] at A
         refine .inl ?_
         cases l with
         |cell a=>exact hle.own _ A
         |obj r=>exact hle.own _ A
         |_=>exact A.elim
        ·rw[upd_same] at A
         obtain ⟨a,rfl,ae⟩:=A
         rcases hle.ro a ae with z|z
         ·exact .inl ⟨a,rfl,z⟩
         ·exact .inr (.inl z)
      ·exact ⟨I.os,I.tape,I.output,by rw[I.size];exact Nat.le_refl _,fun b _ _ hs=>I.block b hs,fun _ h=>.inl h,fun _ h=>.inl h⟩
theorem dA.awake (h:dA c B0 bt p0 d0 k g Fr gs w t ρ φ s):∀x∈gs,awake x:=by
 intro x b
 obtain ⟨j,l,rfl⟩:=Array.mem_iff_getElem.1 b
 have b:=Array.getElem?_eq_getElem l
 rcases Nat.eq_zero_or_pos j with rfl|m
 ·obtain ⟨z,a,_,d⟩:=h.g0
  obtain rfl:z=gs[0]:=by rw[b] at a;exact (Option.some.inj a).symm
  exact awake_of (d.imp id fun y=>.inl y.1)
 ·rcases Nat.lt_or_ge j c.base with i|i
  ·obtain ⟨q,_,f⟩:=h.old j _ m i b
   exact awake_of (f.status.elim .inl fun y=>.inr (.inr y))
  ·have n:=h.size
   obtain ⟨z,a,hW⟩:=h.wk (j - c.base) (by omega)
   have e:c.base+(j - c.base)=j:=by omega
   rw[e] at a
   obtain rfl:z=gs[j]:=by rw[b] at a;exact (Option.some.inj a).symm
   rcases hW with ⟨_,q,_,f⟩|⟨_,_,_,d⟩
   ·exact awake_of (f.status.elim .inl fun y=>.inr (.inr y))
   ·exact awake_of (d.imp id fun y=>.inl y.1)
theorem dA.pick (h:dA c B0 bt p0 d0 k g Fr gs w t ρ φ s)(hk:p0= .reg->k=c.n)(sl:Option (Nat×Nat))(Q:p0= .reg->∀w s,cw c w s->s.ws=0->stepG c.P true g w= .go {g with status:=.blocked} w #[]):
  ∃(N:Nat) (bT:Array Goroutine) (w':World) (a B:Option (Nat×Nat)) (e:Trace) (ρ':Nat->Rk) (φ':Nat->Ph) (cO:Nat->af) (s':Sh),
   runNT c.P N (crowd gs w sl) t=(.next (crowd bT w' a),e)/\(∃d,stepT c.P (crowd bT w' a)=runT c.P (crowd bT (w'.at d) B) 0)/\dA c B0 bt p0 d0 k g cO bT w' e ρ' φ' s'/\bT[0]?=some g/\cO 0=Fr 0/\
   di c B0 (Fr 0) (Fr 0) w w'/\(p0= .reg->s'.ws≠0):=by
 have key:∀(y:(Nat->Rk)×Nat),∀gs w t ρ φ s l sl,y=(ρ,runs gs)->l 0=Fr 0->dA c B0 bt p0 d0 k g l gs w t ρ φ s->∀n,gs.size=n->n=c.base+k->
   ∃(N:Nat) (bT:Array Goroutine) (w':World) (a B:Option (Nat×Nat)) (e:Trace) (ρ':Nat->Rk) (φ':Nat->Ph) (cO:Nat->af) (s':Sh),
   runNT c.P N (crowd gs w sl) t=(.next (crowd bT w' a),e)/\(∃d,stepT c.P (crowd bT w' a)=runT c.P (crowd bT (w'.at d) B) 0)/\dA c B0 bt p0 d0 k g cO bT w' e ρ' φ' s'/\bT[0]?=some g/\cO 0=Fr 0/\
   di c B0 (Fr 0) (Fr 0) w w'/\(p0= .reg->s'.ws≠0):=by
  intro y
  induction (yS (c.base+k)).apply y with
  |intro y _ ih=>
   intro gs w t ρ φ s l sl p r h n hn C
   subst p
   have R:∃(j:Nat) (x:Goroutine),gs[j]?=some x/\x.status= .running:=by
    obtain ⟨z,u,_,f⟩:=h.g0
    rcases f with q|⟨_,v,S⟩
    ·exact ⟨0,z,u,q⟩
    ·have T:=hk v
     have hinv:=h.inv
     rw[v,T] at hinv
     obtain ⟨i,hi,hg,U⟩:=live hinv S
     obtain ⟨x,b,hW⟩:=h.wk i (by omega)
     rcases hW with ⟨V,_⟩|⟨_,_,_,f⟩
     ·exact absurd V hg
     ·rcases f with q|⟨_,h1,h2⟩
      ·exact ⟨_,x,b,q⟩
      ·exact absurd h2 (U h1)
   obtain ⟨j,x,d,a,b,q,f⟩:=crowd_pick (P:=c.P) (w:=w) (sl:=sl) h.awake R
   have hd:=h.at d
   rcases Nat.eq_zero_or_pos j with rfl|W
   ·obtain ⟨z,u,he,a7⟩:=h.g0
    obtain rfl:z=x:=by rw[b] at u;exact (Option.some.inj u).symm
    have L:z=g:=by rw[<-he];cases z;simp_all
    by_cases A:p0= .reg/\s.ws=0
    ·
     have X:=Q A.1 (w.at d) s h.sh A.2
     have Y:=runT_crowd_go (P:=c.P) (gs:=gs) (w:=w.at d) (sl:=a) (i:=0) b (by rw[L];exact X)
     have Z:gs.map (woken c.P z {g with status:=.blocked} (w.at d))=gs:=by
      have:woken c.P z {g with status:=.blocked} (w.at d)=id:=by funext o;unfold Go.Conc.woken;simp
      rw[this,Array.map_id]
     have ab:0<gs.size:=(Array.getElem?_eq_some_iff.1 b).1
     have ad:t++MemOp.ofEvents 0 z.frame.fn z.frame.place #[]=t:=by simp[MemOp.ofEvents]
     have ae:dA c B0 bt p0 d0 k g l (gs.setIfInBounds 0 {g with status:=.blocked}) (w.at d) t ρ φ s:=by
      refine ⟨by simpa using hd.size,hd.base,hd.run,hd.off,⟨{g with status:=.blocked},Array.getElem?_setIfInBounds_self_of_lt ab,by have:=h.run;cases g;simp_all,.inr ⟨rfl,A⟩⟩,fun j y h0 hb p=>?_,fun i hi=>?_,hd.deaf,fun j al=>hd.above j (by simpa using al),hd.deaf0,hd.parts,hd.sh,hd.inv,hd.gA,hd.rel,hd.apart,hd.low,hd.iW,hd.iX,hd.ne⟩
      ·rw[Array.getElem?_setIfInBounds_ne (by omega)] at p
       exact hd.old j y h0 hb p
      ·obtain ⟨y,p,hW⟩:=hd.wk i hi
       exact ⟨y,by rw[Array.getElem?_setIfInBounds_ne (by have:=h.base;omega)];exact p,hW⟩
     obtain ⟨N,bT,w',D,E,e,ρ',φ',cO,s',k1,F,G,H,I,J,K⟩:=ih (ρ,runs (gs.setIfInBounds 0 {g with status:=.blocked})) (.inr ⟨rfl,BU b q (by simp)⟩) _ _ _ _ _ _ l a rfl r ae n (by simpa using hn) C
     refine ⟨N+1,bT,w',D,E,e,ρ',φ',cO,s',?_,F,G,H,I,(di.at_ _ _ _).trans J,K⟩
     simp only[runNT,f,Y]
     rw[Z,ad]
     exact k1
    ·refine ⟨0,gs,w,sl,a,t,ρ,φ,l,s,rfl,⟨d,f⟩,h,by rw[b,L],r,.refl _ _ _ _,fun v hs=>A ⟨v,hs⟩⟩
   ·obtain ⟨m,ops,ao,⟨bT,w',ρ',φ',cO,s',rfl,ar,a0,a2,M,O⟩⟩:=hd.other W b q a
    rw[hn,C] at O
    obtain ⟨N,a3,w2,D,E,t2,a4,a5,a6,s2,k1,F,G,H,I,J,K⟩:=ih (ρ',runs bT) O _ _ _ _ _ _ cO a rfl (a2.trans r) ar n (a0.trans hn) C
    refine ⟨N+1,a3,w2,D,E,t2,a4,a5,a6,s2,?_,F,G,H,I,?_,K⟩
    ·simp only[runNT,f,ao]
     exact k1
    ·rw[r] at M
     exact ((di.at_ _ _ _).trans M).trans J
 exact key (ρ,runs gs) gs w t ρ φ s Fr sl rfl rfl h gs.size rfl h.size
theorem dA.qC (h:dA c B0 bt p0 d0 k g Fr gs w t ρ φ s)(hk:p0= .reg->k=c.n)(sl:Option (Nat×Nat)):
  ∃(N:Nat) (bT:Array Goroutine) (w':World) (a q:Option (Nat×Nat)) (e:Trace) (ρ':Nat->Rk) (φ':Nat->Ph) (cO:Nat->af) (s':Sh),
   runNT c.P N (crowd gs w sl) t=(.next (crowd bT w' a),e)/\(∃d,stepT c.P (crowd bT w' a)=runT c.P (crowd bT (w'.at d) q) 0)/\dA c B0 bt p0 d0 k g cO bT w' e ρ' φ' s'/\bT[0]?=some g/\cO 0=Fr 0/\
   di c B0 (Fr 0) (Fr 0) w w':=by
 have key:∀(y:(Nat->Rk)×Nat),∀gs w t ρ φ s o sl,y=(ρ,runs gs)->o 0=Fr 0->dA c B0 bt p0 d0 k g o gs w t ρ φ s->∀n,gs.size=n->n=c.base+k->
   ∃(N:Nat) (bT:Array Goroutine) (w':World) (a q:Option (Nat×Nat)) (e:Trace) (ρ':Nat->Rk) (φ':Nat->Ph) (cO:Nat->af) (s':Sh),
   runNT c.P N (crowd gs w sl) t=(.next (crowd bT w' a),e)/\(∃d,stepT c.P (crowd bT w' a)=runT c.P (crowd bT (w'.at d) q) 0)/\dA c B0 bt p0 d0 k g cO bT w' e ρ' φ' s'/\bT[0]?=some g/\cO 0=Fr 0/\
   di c B0 (Fr 0) (Fr 0) w w':=by
  intro y
  induction (yS (c.base+k)).apply y with
  |intro y _ ih=>
   intro gs w t ρ φ s o sl C r h n hn u
   subst C
   have D:∃(j:Nat) (x:Goroutine),gs[j]?=some x/\x.status= .running:=by
    obtain ⟨z,p,_,b⟩:=h.g0
    rcases b with f|⟨_,v,E⟩
    ·exact ⟨0,z,p,f⟩
    ·have F:=hk v
     have hinv:=h.inv
     rw[v,F] at hinv
     obtain ⟨i,hi,hg,G⟩:=live hinv E
     obtain ⟨x,l,hW⟩:=h.wk i (by omega)
     rcases hW with ⟨H,_⟩|⟨_,_,_,b⟩
     ·exact absurd H hg
     ·rcases b with f|⟨_,h1,h2⟩
      ·exact ⟨_,x,l,f⟩
      ·exact absurd h2 (G h1)
   obtain ⟨j,x,d,a,l,f,b⟩:=crowd_pick (P:=c.P) (w:=w) (sl:=sl) h.awake D
   have hd:=h.at d
   rcases Nat.eq_zero_or_pos j with rfl|I
   ·obtain ⟨z,p,he,ad⟩:=h.g0
    obtain rfl:z=x:=by rw[l] at p;exact (Option.some.inj p).symm
    have J:z=g:=by rw[<-he];cases z;simp_all
    exact ⟨0,gs,w,sl,a,t,ρ,φ,o,s,rfl,⟨d,b⟩,h,by rw[l,J],r,.refl _ _ _ _⟩
   ·obtain ⟨m,ops,K,⟨bT,w',ρ',φ',cO,s',rfl,L,M,O,A,B⟩⟩:=hd.other I l f a
    rw[hn,u] at B
    obtain ⟨N,Q,w2,R,S,t2,T,U,V,s2,k1,W,X,Y,Z,ab⟩:=ih (ρ',runs bT) B _ _ _ _ _ _ cO a rfl (O.trans r) L n (M.trans hn) u
    refine ⟨N+1,Q,w2,R,S,t2,T,U,V,s2,?_,W,X,Y,Z,?_⟩
    ·simp only[runNT,b,K]
     exact k1
    ·rw[r] at A
     exact ((di.at_ _ _ _).trans A).trans ab
 exact key (ρ,runs gs) gs w t ρ φ s Fr sl rfl rfl h gs.size rfl h.size
end
def ef (c:Cy)(B0:Nat)(Φ:Goroutine->af->Prop)(k:Nat)(p0:P0)(d0:Nat)(g:Goroutine)(F:af):Prop:=
 g.status= .running/\g.offers=none/\∀(bt:Loc->Prop) (gs:Array Goroutine) (w:World) (sl:Option (Nat×Nat)) (t:Trace) (Fr:Nat->af) (ρ:Nat->Rk) (φ:Nat->Ph) (s:Sh),Fr 0=F->dA c B0 bt p0 d0 k g Fr gs w t ρ φ s->
  (∀a,bt (.cell a)->¬c.shared a.block)->(∀r,bt (.obj r)->¬c.shared r)->
  ∃(N:Nat) (bT:Array Goroutine) (w':World) (e:Option (Nat×Nat)) (b:Trace) (f:Nat->Nat) (g':Goroutine) (F':af) (d:Loc->Prop),
   runNT c.P N (crowd gs w sl) t=(.next (crowd bT w' e),b)/\jd c.P d g' F' bT w' b f/\di c B0 F F' w w'/\(∀l,d l->bt l\/∃a,l= .cell a/\a.block=c.Wg)/\Φ g' F'
structure Ev0 (c:Cy)(d0 eY:Nat)(es:Array Event):Prop where
 all:∀e∈es,e=cF .disable\/e=cF .enable\/∃a,a.block=c.Wg/\((∃x,e=⟨.cell a,x,true⟩)\/e=cF (.read a)\/e=cF (.write a))
 deaf:deafBehind d0 es=eY
theorem BV {c:Cy}{d0 eY:Nat}{es:Array Event}(h:Ev0 c d0 eY es)(F:af)(B:Nat)(f:c.Wg<B):∀e∈es,
  (∀x,(MemAct.ofEvent e).touch?=some x->ta c F B 0 x)/\(MemAct.ofEvent e).low B/\MemAct.ofEvent e≠ .mark (.release (stA c.Wg)):=by
 intro e he
 rcases h.all e he with rfl|rfl|⟨a,d,⟨x,rfl⟩|rfl|rfl⟩
 ·exact ⟨fun x g=>by simp[cF,MemAct.ofEvent,MemAct.touch?] at g,trivial,by simp[cF,MemAct.ofEvent]⟩
 ·exact ⟨fun x g=>by simp[cF,MemAct.ofEvent,MemAct.touch?] at g,trivial,by simp[cF,MemAct.ofEvent]⟩
 ·have hb:a.block<B:=d▸f
  refine ⟨fun y b=>?_,by cases x<;>exact hb,by cases x<;>simp[MemAct.ofEvent]⟩
  have:y=⟨.cell a,x,.atomic⟩:=by cases x<;>simp[MemAct.ofEvent,MemAct.touch?] at b<;>rw[<-b]
  subst this
  exact .inr (.inr (.inr (.inl ⟨⟨a,rfl,.inr d⟩,by simp,by simp⟩)))
 ·have hb:a.block<B:=d▸f
  refine ⟨fun y b=>?_,hb,by simp[cF,MemAct.ofEvent]⟩
  have:y=⟨.cell a,false,.said⟩:=by simp[cF,MemAct.ofEvent,MemAct.touch?] at b;rw[<-b]
  subst this
  exact .inr (.inr (.inr (.inl ⟨⟨a,rfl,.inr d⟩,by simp,fun _=>rfl⟩)))
 ·have hb:a.block<B:=d▸f
  refine ⟨fun y b=>?_,hb,by simp[cF,MemAct.ofEvent]⟩
  have:y=⟨.cell a,true,.said⟩:=by simp[cF,MemAct.ofEvent,MemAct.touch?] at b;rw[<-b]
  subst this
  exact .inr (.inr (.inr (.inl ⟨⟨a,rfl,.inr d⟩,by simp,fun _=>rfl⟩)))
section
variable {c : Cy} {B0 : Nat} {bt : Loc → Prop} {p0 : P0} {d0 k : Nat} {g : Goroutine} {Fr : Nat → af} {gs : Array Goroutine} {w : World} {t u : Trace} {ρ : Nat → Rk} {φ : Nat → Ph} {s : Sh} {Φ : Goroutine → af → Prop}
theorem dA.zero (h:dA c B0 bt p0 d0 k g Fr gs w t ρ φ s){g':Goroutine}{w':World}{es:Array Event}{fn:FuncId}{pos:String}{s':Sh}{gb:P0}{eY:Nat}{F':af}(u:gs[0]?=some g)(f:g'.status= .running)(v:g'.offers=none)
  (x:mayWake c.P g=true\/(s'.ms<=s.ms/\s'.ws<=s.ws)) (hd:deafBehind d0 es=eY) (A:dz c k (upd Fr 0 F') w') (B:cw c w' s') (hinv:Inv c.n c.bs k φ gb s') (C:ee c bt k (upd Fr 0 F') w'.heap.size (t++MemOp.ofEvents 0 fn pos es))
  (D:w.heap.size<=w'.heap.size) (E:∀l,bt l->¬F'.gf l):
  dA c B0 bt gb eY k g' (upd Fr 0 F') ((gs.map (woken c.P g g' w')).setIfInBounds 0 g') w' (t++MemOp.ofEvents 0 fn pos es) ρ φ s':=by
 have F:0<gs.size:=(Array.getElem?_eq_some_iff.1 u).1
 have hu:∀op∈MemOp.ofEvents 0 fn pos es,op.g=0:=fun op G=>by obtain ⟨e,_,rfl⟩:=Go.Conc.mem_ofEvents G;rfl
 have other:∀a,a≠0->∀y,((gs.map (woken c.P g g' w')).setIfInBounds 0 g')[a]?=some y->∃z,gs[a]?=some z/\y=woken c.P g g' w' z:=fun a m y j=>by
  rw[Array.getElem?_setIfInBounds_ne (Ne.symm m),Array.getElem?_map] at j
  obtain ⟨z,d,rfl⟩:=Option.map_eq_some_iff.1 j
  exact ⟨z,d,rfl⟩
 have o:∀a,a≠0->Deaf (t++MemOp.ofEvents 0 fn pos es) a=Deaf t a:=fun a m=>Deaf_other t (Ne.symm m) _ hu
 have H:(mayWake c.P g=true/\g'.status≠ .blocked/\g'.status≠ .waiting)\/s'.ms<=s.ms:=x.imp (fun z=>⟨z,by rw[f];simp,by rw[f];simp⟩) And.left
 refine ⟨by simpa using h.size,h.base,f,v,⟨g',Array.getElem?_setIfInBounds_self_of_lt (by simpa using F),by cases g';simp_all,.inl f⟩,fun a y h0 hb j=>?_,fun i hi=>?_,fun i hi=>?_,fun a I=>?_,?_,A,B,hinv,C,fun i hi hg=>?_,fun l J=>by rw[upd_same];exact E l J,h.low,fun i hi b hb=>?_,Nat.le_trans h.iX D,h.ne⟩
 ·obtain ⟨z,d,rfl⟩:=other a (by omega) y j
  obtain ⟨q,K,p⟩:=h.old a z h0 hb d
  exact ⟨q,K,by rw[woken_quitsD p,o a (by omega)];exact p⟩
 ·have hb:=h.base
  obtain ⟨z,d,hW⟩:=h.wk i hi
  refine ⟨woken c.P g g' w' z,by rw[Array.getElem?_setIfInBounds_ne (by omega),Array.getElem?_map,d];rfl,?_⟩
  rw[upd_ne _ _ (by omega)]
  exact hW.woken hinv.BT H
 ·have hb:=h.base
  rw[o _ (by omega)];exact h.deaf i hi
 ·have:gs.size<=a:=by simpa using I
  rw[o a (by omega)]
  exact h.above a this
 ·rw[Deaf_own,h.deaf0];exact hd
 ·obtain ⟨r,L⟩:=h.rel i hi hg
  have hb:=h.base
  exact ⟨r,L.other (by omega) hu⟩
 ·rw[upd_ne _ _ (by omega)] at hb;exact h.iW i hi b hb
theorem dA.le (h:dA c B0 bt p0 d0 k g Fr gs w t ρ φ s){F:af}(hle:Le F (Fr 0)):dA c B0 bt p0 d0 k g (upd Fr 0 F) gs w t ρ φ s:=by
 have ht:ee c bt k (upd Fr 0 F) w.heap.size t:=by
  have:=ee.app (u:=#[]) h.base ⟨h.ne.2.1,h.ne.2.2⟩ h.parts h.gA (p:=0) (Nat.zero_le _) (cO:=upd Fr 0 F) (Nat.le_refl _) (by simp) (by simp) (by simp) (by simp) (fun q f=>upd_ne _ _ f) (fun l d=>?_) (fun l d=>?_)
  ·simpa using this
  ·rw[upd_same] at d
   refine .inl ?_
   cases l with
   |cell a=>exact hle.own _ d
   |obj r=>exact hle.own _ d
   |_=>exact d.elim
  ·rw[upd_same] at d
   obtain ⟨a,rfl,j⟩:=d
   rcases hle.ro a j with z|z
   ·exact .inl ⟨a,rfl,z⟩
   ·exact .inr (.inl z)
 refine ⟨h.size,h.base,h.run,h.off,h.g0,h.old,fun i hi=>?_,h.deaf,h.above,h.deaf0,h.parts.act (Nat.zero_le _) (.refl _ _) hle,h.sh,h.inv,ht,h.rel,fun l d e=>?_,h.low,fun i hi b hb=>?_,h.iX,h.ne⟩
 ·rw[upd_ne _ _ (by omega)];exact h.wk i hi
 ·rw[upd_same] at e;exact h.apart l d (hle.gf e)
 ·rw[upd_ne _ _ (by omega)] at hb;exact h.iW i hi b hb
theorem di.oG {F F':af}{w w':World}(h:dJ F F' w w')(d:B0<=w.heap.size):di c B0 F F' w w':=
 ⟨by rw[h.os];exact .refl _,h.tape,h.output,h.size,fun b hb hn _=>h.frame b (Nat.lt_of_lt_of_le hb d) hn,fun a e=>(h.ro a e).imp id fun x=>x.imp id fun y=>.inl (Nat.le_trans d y),fun b hb=>(h.own b hb).imp id fun y=>.inl (Nat.le_trans d y)⟩
theorem di.BW {F:af}{w w':World}(h:gS c w w'):di c B0 F F w w':=
 ⟨h.os,h.tape,h.output,by rw[h.size];exact Nat.le_refl _,fun b _ _ hs=>h.block b hs,fun _ h=>.inl h,fun _ h=>.inl h⟩
theorem ef.mono {F F':af}(hle:Le F F')(h:ef c B0 Φ k p0 d0 g F):ef c B0 Φ k p0 d0 g F':=by
 refine ⟨h.1,h.2.1,fun bt gs w sl t Fr ρ φ s a b d e=>?_⟩
 obtain ⟨N,bT,w',f,i,j,g',l,m,h1,h2,h3,n,o⟩:=h.2.2 bt gs w sl t (upd Fr 0 F) ρ φ s (upd_same _ _ _) (b.le (by rw[a];exact hle)) d e
 exact ⟨N,bT,w',f,i,j,g',l,m,h1,h2,h3.le hle,n,o⟩
theorem ef.closed (c:Cy)(B0:Nat)(Φ:Goroutine->af->Prop)(k:Nat)(p0:P0)(d0:Nat)(B:p0≠ .reg):Closed c.P true (ef c B0 Φ k p0 d0) where
 mono hle h:=h.mono hle
 step {fr cs F} h:=by
  refine ⟨rfl,rfl,fun bt gs w sl t Fr ρ φ s y J K L=>?_⟩
  obtain ⟨N,C,w1,a3,A,t1,a4,a5,D,s1,M,⟨d,O⟩,f,E,H,I,_⟩:=J.pick (fun e=>absurd e B) sl (fun e=>absurd e B)
  have o:Has F (w1.at d):=by have:=f.parts.has 0 (Nat.zero_le _);rw[H,y] at this;exact this.at d
  obtain ⟨g',w',es,F',hgo,hu,Q,u,hJ⟩:=h (w1.at d) o
  have v:=f.at d
  have R:=runT_crowd_go (P:=c.P) (gs:=C) (w:=w1.at d) (sl:=A) (i:=0) E (show stepG c.P (0==0) (G fr cs) (w1.at d)=_ from hgo)
  have n:D 0=F:=H.trans y
  have S:∀b,b<w1.heap.size->b∉keys (D 0).own->w'.heap[b]?=w1.heap[b]?:=by rw[n];exact hu.frame
  have T:=v.zero (g':=g') (w':=w') (es:=es) (fn:=fr.fn) (pos:=fr.place) (s':=s1) (gb:=p0) (eY:=d0) (F':=F') E hJ.1 hJ.2.1 (.inr ⟨Int.le_refl _,Int.le_refl _⟩)
   (deafBehind_still (fun e he=>(lp (c:=c) o hu.size (u e he) 0).2.2.2) _) (v.parts.walk (Nat.zero_le _) (by rw[n];exact hu) Q)
   (v.sh.keep fun b hb=>S b (f.parts.ga b hb) (fun hm=>f.parts.gz 0 (Nat.zero_le _) b hm hb)) v.inv
   (ee.app f.base ⟨f.ne.2.1,f.ne.2.2⟩ f.parts f.gA (p:=0) (Nat.zero_le _) hu.size (fun op j=>by obtain ⟨e,_,rfl⟩:=Go.Conc.mem_ofEvents j;rfl)
    (fun op j z U=>by obtain ⟨e,he,rfl⟩:=Go.Conc.mem_ofEvents j;rw[n];exact (lp (c:=c) o hu.size (u e he) 0).1 z U)
    (fun op j=>by obtain ⟨e,he,rfl⟩:=Go.Conc.mem_ofEvents j;exact (lp (c:=c) o hu.size (u e he) 0).2.1)
    (fun op j=>by obtain ⟨e,he,rfl⟩:=Go.Conc.mem_ofEvents j;exact (lp (c:=c) o hu.size (u e he) 0).2.2.1) (fun q V=>upd_ne _ _ V)
    (fun l g=>by
     rw[upd_same] at g
     rw[n]
     cases l with
     |cell a=>exact hu.own _ g
     |obj r=>exact hu.own _ g
     |_=>exact g.elim)
    (fun l g=>by
     rw[upd_same] at g
     rw[n]
     obtain ⟨a,rfl,W⟩:=g
     rcases hu.ro a W with z|z|z
     ·exact .inl ⟨a,rfl,z⟩
     ·exact .inr (.inl z)
     ·exact .inr (.inr z)))
   hu.size (fun l g m=>by
    have h1:=f.apart l g
    have h2:=Loc.low_mono f.iX (f.low l g)
    rw[n] at h1
    cases l with
    |cell a=>
     rcases m with m|m
     ·rcases hu.own _ m with x|x
      ·exact h1 (.inl x)
      ·exact absurd h2 (Nat.not_lt.2 x)
     ·rcases hu.ro _ m with x|x|x
      ·exact h1 (.inr x)
      ·exact h1 (.inl x)
      ·exact absurd h2 (Nat.not_lt.2 x)
    |obj r=>
     rcases hu.own _ m with x|x
     ·exact h1 x
     ·exact absurd h2 (Nat.not_lt.2 x)
    |_=>exact m)
  obtain ⟨X,Y,w2,Z,t2,ab,ad,ae,al,k1,ao,ar,a0,a2⟩:=hJ.2.2 bt _ w' A _ _ _ _ _ (upd_same _ _ _) T K L
  refine ⟨N+1+X,Y,w2,Z,t2,ab,ad,ae,al,?_,ao,?_,a0,a2⟩
  ·have:runNT c.P (N+1) (crowd gs w sl) t=(.next (crowd ((C.map (woken c.P (G fr cs) g' w')).setIfInBounds 0 g') w' A),t1++MemOp.ofEvents 0 fr.fn fr.place es):=by
    rw[runNT_add,M]
    simp only[runNT,O,R]
    rfl
   rw[je this]
   exact k1
  ·rw[y] at I
   exact (I.trans (di.at_ _ _ _)).trans ((di.oG (w:=w1.at d) hu f.iX).trans ar)
end
section
variable {c : Cy} {B0 : Nat} {bt : Loc → Prop} {p0 : P0} {d0 k : Nat} {g : Goroutine} {F : af} {Fr : Nat → af} {gs : Array Goroutine} {w : World} {t u : Trace} {ρ : Nat → Rk} {φ : Nat → Ph} {s : Sh} {Φ : Goroutine → af → Prop}
theorem ef.act (G:g.status= .running)(H:g.offers=none)(x:p0= .reg->k=c.n/\∀w s,cw c w s->s.ws=0->stepG c.P true g w= .go {g with status:=.blocked} w #[])
  (h:∀(w:World) (s:Sh) (φ:Nat->Ph),Has F w->cw c w s->Inv c.n c.bs k φ p0 s->(p0= .reg->s.ws≠0)->∃(g':Goroutine) (w':World) (es:Array Event) (s':Sh) (gb:P0) (eY:Nat),
   stepG c.P true g w= .go g' w' es/\cw c w' s'/\gS c w w'/\Inv c.n c.bs k φ gb s'/\Ev0 c d0 eY es/\(mayWake c.P g=true\/(s'.ms<=s.ms/\s'.ws<=s.ws))/\ef c B0 Φ k gb eY g' F):ef c B0 Φ k p0 d0 g F:=by
 refine ⟨G,H,fun bt gs w sl t Fr ρ φ s y I J K=>?_⟩
 obtain ⟨N,A,w1,a5,m,t1,a6,L,o,s1,M,⟨d,O⟩,a,B,Q,C,R⟩:=I.pick (fun e=>(x e).1) sl (fun e=>(x e).2)
 have D:o 0=F:=Q.trans y
 have S:Has F (w1.at d):=by have:=a.parts.has 0 (Nat.zero_le _);rw[D] at this;exact this.at d
 have j:=a.at d
 obtain ⟨g',w',es,s',gb,eY,hgo,T,r,hinv,E,U,hJ⟩:=h (w1.at d) s1 L S j.sh j.inv R
 have V:=runT_crowd_go (P:=c.P) (gs:=A) (w:=w1.at d) (sl:=m) (i:=0) B (show stepG c.P (0==0) g (w1.at d)=_ from hgo)
 have u:=BV E (o 0) w1.heap.size (a.parts.ga _ (.inr (.inl rfl)))
 have v:w'.heap.size=w1.heap.size:=r.size
 have W:=j.zero (g':=g') (w':=w') (es:=es) (fn:=g.frame.fn) (pos:=g.frame.place) (s':=s') (gb:=gb) (eY:=eY) (F':=o 0) B hJ.1 hJ.2.1 U E.deaf (j.parts.act (Nat.zero_le _) r (.refl _)) T hinv
  (ee.app a.base ⟨a.ne.2.1,a.ne.2.2⟩ a.parts a.gA (p:=0) (Nat.zero_le _) (by rw[v];exact Nat.le_refl _) (fun op b=>by obtain ⟨e,_,rfl⟩:=Go.Conc.mem_ofEvents b;rfl)
   (fun op b z X=>by obtain ⟨e,he,rfl⟩:=Go.Conc.mem_ofEvents b;exact (u e he).1 z X)
   (fun op b=>by obtain ⟨e,he,rfl⟩:=Go.Conc.mem_ofEvents b;rw[v];exact (u e he).2.1)
   (fun op b=>by obtain ⟨e,he,rfl⟩:=Go.Conc.mem_ofEvents b;exact (u e he).2.2) (fun q Y=>upd_ne _ _ Y)
   (fun l f=>by rw[upd_same] at f;exact .inl f) (fun l f=>by rw[upd_same] at f;exact .inl f))
  (by rw[v];exact Nat.le_refl _) (fun l f=>a.apart l f)
 obtain ⟨Z,ab,w2,ad,t2,ae,al,ao,ar,k1,a0,a2,a3,a4⟩:=hJ.2.2 bt _ w' m _ _ _ _ _ (by rw[upd_same];exact D) W J K
 refine ⟨N+1+Z,ab,w2,ad,t2,ae,al,ao,ar,?_,a0,?_,a3,a4⟩
 ·have:runNT c.P (N+1) (crowd gs w sl) t=(.next (crowd ((A.map (woken c.P g g' w')).setIfInBounds 0 g') w' m),t1++MemOp.ofEvents 0 g.frame.fn g.frame.place es):=by
   rw[runNT_add,M]
   simp only[runNT,O,V]
  rw[je this]
  exact k1
 ·rw[y] at C
  exact (C.trans (di.at_ _ _ _)).trans ((di.BW r).trans a2)
theorem ef.xw (E:g.status= .running)(G:g.offers=none)(H:p0= .reg->k=c.n)
  (h:∀(w:World) (s:Sh) (φ:Nat->Ph),Has F w->cw c w s->Inv c.n c.bs k φ p0 s->∃(g':Goroutine) (w':World) (es:Array Event) (s':Sh) (gb:P0) (eY:Nat),
   stepG c.P true g w= .go g' w' es/\cw c w' s'/\gS c w w'/\Inv c.n c.bs k φ gb s'/\Ev0 c d0 eY es/\(mayWake c.P g=true\/(s'.ms<=s.ms/\s'.ws<=s.ws))/\ef c B0 Φ k gb eY g' F):ef c B0 Φ k p0 d0 g F:=by
 refine ⟨E,G,fun bt gs w sl t Fr ρ φ s x I J K=>?_⟩
 obtain ⟨N,y,w1,a4,m,t1,a5,L,o,s1,M,⟨d,O⟩,a,A,Q,B⟩:=I.qC H sl
 have C:o 0=F:=Q.trans x
 have R:Has F (w1.at d):=by have:=a.parts.has 0 (Nat.zero_le _);rw[C] at this;exact this.at d
 have j:=a.at d
 obtain ⟨g',w',es,s',gb,eY,hgo,S,r,hinv,D,T,hJ⟩:=h (w1.at d) s1 L R j.sh j.inv
 have U:=runT_crowd_go (P:=c.P) (gs:=y) (w:=w1.at d) (sl:=m) (i:=0) A (show stepG c.P (0==0) g (w1.at d)=_ from hgo)
 have u:=BV D (o 0) w1.heap.size (a.parts.ga _ (.inr (.inl rfl)))
 have v:w'.heap.size=w1.heap.size:=r.size
 have V:=j.zero (g':=g') (w':=w') (es:=es) (fn:=g.frame.fn) (pos:=g.frame.place) (s':=s') (gb:=gb) (eY:=eY) (F':=o 0) A hJ.1 hJ.2.1 T D.deaf (j.parts.act (Nat.zero_le _) r (.refl _)) S hinv
  (ee.app a.base ⟨a.ne.2.1,a.ne.2.2⟩ a.parts a.gA (p:=0) (Nat.zero_le _) (by rw[v];exact Nat.le_refl _) (fun op b=>by obtain ⟨e,_,rfl⟩:=Go.Conc.mem_ofEvents b;rfl)
   (fun op b z W=>by obtain ⟨e,he,rfl⟩:=Go.Conc.mem_ofEvents b;exact (u e he).1 z W)
   (fun op b=>by obtain ⟨e,he,rfl⟩:=Go.Conc.mem_ofEvents b;rw[v];exact (u e he).2.1)
   (fun op b=>by obtain ⟨e,he,rfl⟩:=Go.Conc.mem_ofEvents b;exact (u e he).2.2) (fun q X=>upd_ne _ _ X)
   (fun l f=>by rw[upd_same] at f;exact .inl f) (fun l f=>by rw[upd_same] at f;exact .inl f))
  (by rw[v];exact Nat.le_refl _) (fun l f=>a.apart l f)
 obtain ⟨Y,Z,w2,ab,t2,ad,ae,al,ao,k1,ar,a0,a2,a3⟩:=hJ.2.2 bt _ w' m _ _ _ _ _ (by rw[upd_same];exact C) V J K
 refine ⟨N+1+Y,Z,w2,ab,t2,ad,ae,al,ao,?_,ar,?_,a2,a3⟩
 ·have:runNT c.P (N+1) (crowd gs w sl) t=(.next (crowd ((y.map (woken c.P g g' w')).setIfInBounds 0 g') w' m),t1++MemOp.ofEvents 0 g.frame.fn g.frame.place es):=by
   rw[runNT_add,M]
   simp only[runNT,O,U]
  rw[je this]
  exact k1
 ·rw[x] at B
  exact (B.trans (di.at_ _ _ _)).trans ((di.BW r).trans a0)
theorem ef.spawn (E:g.status= .running)(a6:g.offers=none)(hk:k<c.n)
  (h:∀w,Has F w->∃g' child,stepG c.P true g w= .spawn g' child w #[]/\Wk c k {mp:=.idle,gp:=.cnt,stored:=false,deaf:=0} child ⟨F.ro,[]⟩/\child.status= .running/\child.offers=none/\ef c B0 Φ (k+1) (.opn 0) 0 g' F):
  ef c B0 Φ k (.opn 1) 0 g F:=by
 refine ⟨E,a6,fun bt gs w sl t Fr ρ φ s ao a7 a8 a9=>?_⟩
 obtain ⟨N,I,w1,dq,ab,t1,ba,V,X,s1,bb,⟨d,bc⟩,f,ar,bd,a0,_⟩:=a7.pick (fun e=>by cases e) sl (fun e=>by cases e)
 have ad:X 0=F:=bd.trans ao
 have a2:Has F (w1.at d):=by have:=f.parts.has 0 (Nat.zero_le _);rw[ad] at this;exact this.at d
 have T:=f.at d
 obtain ⟨g',child,hgo,⟨Q,r,hle,hW⟩,ds,dt,hJ⟩:=h (w1.at d) a2
 have bj:=runT_crowd_spawn (P:=c.P) (gs:=I) (w:=w1.at d) (sl:=ab) (i:=0) ar (show stepG c.P (0==0) g (w1.at d)=_ from hgo)
 have a3:=f.size
 have bk:0<I.size:=(Array.getElem?_eq_some_iff.1 ar).1
 let K:Ph:={mp:=.idle,gp:=.cnt,stored:=false,deaf:=0}
 have M:keys Q.own=[]:=by
  cases bl:keys Q.own with
  |nil=>rfl
  |cons b l=>exact absurd (hle.own b (by rw[bl];simp)) (by simp[keys])
 have Y:∀a,(Q.ro a).isSome=true->((X 0).ro a).isSome=true:=fun a p=>by
  rw[ad]
  rcases hle.ro a p with x|x
  ·exact x
  ·simp[keys] at x
 have bm:Has Q (w1.at d):=hle.has _ ⟨a2.ro,fun b o hb=>(by cases hb),List.nodup_nil,fun a v E hm=>(by cases hm)⟩
 have J:=T.inv.i
 have a4:(V k).gp= .new:=by
  have:=(J.born k hk)
  rcases Classical.em ((V k).gp= .new) with x|x
  ·exact x
  ·exact absurd (this.2 x) (Nat.lt_irrefl _)
 obtain ⟨bo,br,du⟩:=J.new k hk a4
 let R:Nat->af:=upd X (k+1) Q
 have e1:∀q,q<=k->R q=X q:=fun q A=>upd_ne _ _ (by omega)
 have e2:R (k+1)=Q:=upd_same _ _ _
 have bz:dz c (k+1) R (w1.at d):=by
  have H:=T.parts
  have cs:∀q,q<=k+1->q<=k\/q=k+1:=fun q A=>by omega
  refine ⟨fun q A=>?_,fun q r A E ae b hb B=>?_,fun q r A E ae a p hb=>?_,fun q A b hb=>?_,fun q A a p=>?_,H.ga⟩
  ·rcases cs q A with x|rfl
   ·rw[e1 q x];exact H.has q x
   ·rw[e2];exact bm
  ·rcases cs q A with x|rfl
   ·rcases cs r E with y|rfl
    ·rw[e1 q x] at hb;rw[e1 r y] at B;exact H.own q r x y ae b hb B
    ·rw[e2,M] at B;cases B
   ·rw[e2,M] at hb;cases hb
  ·rcases cs r E with y|rfl
   ·rw[e1 r y] at hb
    rcases cs q A with x|rfl
    ·rw[e1 q x] at p;exact H.ro q r x y ae a p hb
    ·rw[e2] at p
     rcases Nat.eq_zero_or_pos r with rfl|dv
     ·obtain ⟨v,bS⟩:=Option.isSome_iff_exists.1 (Y a p)
      exact (H.has 0 (Nat.zero_le _)).apart a v bS hb
     ·exact H.ro 0 r (Nat.zero_le _) y (by omega) a (Y a p) hb
   ·rw[e2,M] at hb;cases hb
  ·rcases cs q A with x|rfl
   ·rw[e1 q x] at hb;exact H.gz q x b hb
   ·rw[e2,M] at hb;cases hb
  ·rcases cs q A with x|rfl
   ·rw[e1 q x] at p;exact H.iV q x a p
   ·rw[e2] at p;exact H.iV 0 (Nat.zero_le _) a (Y a p)
 have hinv:Inv c.n c.bs (k+1) (upd V k K) (.opn 0) s1:=by
  obtain ⟨C,S,W,L,m,hm⟩:=T.inv.m
  refine ⟨⟨C,S,W,L,m,mI hm hk K (.inl br.symm)⟩,HJ T.inv.w hk K a4 rfl,J.len,hk,fun j G=>?_,fun j G=>?_,fun j G hn=>?_,fun j G h1 h2=>?_⟩<;>by_cases e:j=k
  ·subst e;rw[upd_same,J.all j G,bo]
  ·rw[upd_ne _ _ e];exact J.all j G
  ·subst e;rw[upd_same];exact ⟨fun _=>by simp[K],fun _=>by omega⟩
  ·rw[upd_ne _ _ e,<-J.born j G];omega
  ·subst e;rw[upd_same] at hn;simp[K] at hn
  ·rw[upd_ne _ _ e] at hn ⊢;exact J.new j G hn
  ·subst e;rw[upd_same] at h1;simp[K] at h1
  ·rw[upd_ne _ _ e] at h1 h2 ⊢;exact J.done j G h1 h2
 let u:Array MemOp:=#[{g:=0,fn:=g.frame.fn,pos:=g.frame.place,act:=.go I.size},{g:=I.size,fn:=child.frame.fn,pos:=g.frame.place,act:=.start}]
 have b0:((MemOp.ofEvents 0 g.frame.fn g.frame.place #[]).push {g:=0,fn:=g.frame.fn,pos:=g.frame.place,act:=.go I.size}|>.push {g:=I.size,fn:=child.frame.fn,pos:=g.frame.place,act:=.start})=u:=by simp[MemOp.ofEvents,u]
 have b1:ee c bt (k+1) R w1.heap.size (t1++u):=f.gA.fork f.base f.parts ⟨rfl,by rw[a3]⟩ ⟨by rw[a3],rfl⟩ f.deaf0 (f.above _ (by omega)) e1 (fun l D=>by
  rw[e2] at D
  cases l with
  |cell a=>simp only[eR,M] at D;cases D
  |obj r=>simp only[eR,M] at D;cases D
  |_=>exact D) (fun l D=>by
  rw[e2] at D
  obtain ⟨a,rfl,p⟩:=D
  exact ⟨a,rfl,Y a p⟩)
 have U:∀j,Deaf (t1++u) j=Deaf t1 j:=fun j=>by
  have:=Deaf_append t1 j u.toList
  simp only[Array.toArray_toList] at this
  rw[this]
  rfl
 have b2:∀j r,fO c t1 j r->fO c (t1++u) j r:=fun j r E=>E.app fun idx x hi hg b3=>by
  obtain ⟨z,b4,b5⟩:=touch_of b3
  rcases getElem?_append_cases b4 with ⟨dC,_⟩|⟨_,a5⟩
  ·omega
  ·simp only[u,List.mem_toArray,List.mem_cons,List.not_mem_nil,or_false] at a5
   rcases a5 with rfl|rfl<;>cases b5
 have ca:dA c B0 bt (.opn 0) 0 (k+1) g' R ((I.setIfInBounds 0 g').push child) (w1.at d) (t1++u) (lq ba (c.base+k) r) (upd V k K) s1:=by
  have hb:=f.base
  refine ⟨by simp;omega,hb,hJ.1,hJ.2.1,⟨g',by rw[Array.getElem?_push,if_neg (by simp;omega)];exact Array.getElem?_setIfInBounds_self_of_lt bk,by have:=hJ.1;cases g';simp_all,.inl hJ.1⟩,fun j y h0 B Z=>?_,fun i hi=>?_,fun i hi=>?_,fun j G=>?_,?_,bz,T.sh,hinv,b1,fun i hi hg=>?_,fun l D=>by rw[e1 0 (Nat.zero_le _)];exact f.apart l D,f.low,fun i hi b B=>?_,f.iX,f.ne⟩
  ·rw[Array.getElem?_push,if_neg (by simp;omega),Array.getElem?_setIfInBounds_ne (by omega)] at Z
   obtain ⟨q,A,cb⟩:=f.old j y h0 B Z
   exact ⟨q,by rw[mJ _ _ (by omega)];exact A,by rw[U];exact cb⟩
  ·rcases Nat.lt_or_ge i k with O|al
   ·obtain ⟨y,Z,cd⟩:=f.wk i O
    refine ⟨y,by rw[Array.getElem?_push,if_neg (by simp;omega),Array.getElem?_setIfInBounds_ne (by omega)];exact Z,?_⟩
    rw[mJ _ _ (by omega),upd_ne _ _ (by omega),e1 (i+1) (by omega)]
    exact cd
   ·obtain rfl:i=k:=by omega
    refine ⟨child,by rw[Array.getElem?_push,if_pos (by simp;omega)],?_⟩
    rw[oh,upd_same,e2]
    exact (hW.xu s1).1
  ·rcases Nat.lt_or_ge i k with O|al
   ·rw[U,upd_ne _ _ (by omega)];exact f.deaf i O
   ·obtain rfl:i=k:=by omega
    rw[U,upd_same];exact f.above _ (by omega)
  ·rw[U];exact f.above j (by simp at G;omega)
  ·rw[U];exact f.deaf0
  ·rcases Nat.lt_or_ge i k with O|al
   ·rw[upd_ne _ _ (by omega)] at hg
    obtain ⟨r,E⟩:=f.rel i O hg
    exact ⟨r,b2 _ _ E⟩
   ·obtain rfl:i=k:=by omega
    rw[upd_same] at hg
    exact absurd rfl hg
  ·rcases Nat.lt_or_ge i k with O|al
   ·rw[e1 (i+1) (by omega)] at B;exact f.iW i O b B
   ·obtain rfl:i=k:=by omega
    rw[e2,M] at B;cases B
 obtain ⟨cf,cl,w2,cy,t2,cS,c0,da,db,k1,dd,df,dk,dp⟩:=hJ.2.2 bt _ (w1.at d) ab _ R _ _ _ (by rw[e1 0 (Nat.zero_le _)];exact ad) ca a8 a9
 refine ⟨N+1+cf,cl,w2,cy,t2,cS,c0,da,db,?_,dd,?_,dk,dp⟩
 ·have:runNT c.P (N+1) (crowd gs w sl) t=(.next (crowd ((I.setIfInBounds 0 g').push child) (w1.at d) ab),t1++u):=by
   rw[runNT_add,bb]
   simp only[runNT,bc,bj,b0]
  rw[je this]
  exact k1
 ·rw[ao] at a0
  exact (a0.trans (di.at_ _ _ _)).trans df
def Cy.fin (c:Cy):Obj:=.cells ((List.range c.n).map fun i=>Value.bool (c.bs i)).toArray c.tI
theorem ef.join (G:g.status= .running)(T:g.offers=none)
  (h:∀w,Has F w->∃g',stepG c.P true g w= .go g' w #[cF (.acquire (stA c.Wg))]/\g'.status= .running/\Φ g' ⟨F.ro,(c.Is,c.fin)::F.own⟩):ef c B0 Φ c.n .eJ 0 g F:=by
 refine ⟨G,T,fun bt gs w sl t Fr ρ φ s K U V W=>?_⟩
 obtain ⟨N,p,w1,bd,L,t1,bj,X,Y,s1,Z,⟨d,ab⟩,f,M,ad,O,_⟩:=U.pick (fun e=>by cases e) sl (fun e=>by cases e)
 have A:Y 0=F:=ad.trans K
 have ae:Has F w1:=by have:=f.parts.has 0 (Nat.zero_le _);rw[A] at this;exact this
 have C:Has F (w1.at d):=ae.at d
 obtain ⟨g',hgo,bk,al⟩:=h (w1.at d) C
 have ao:=runT_crowd_go (P:=c.P) (gs:=p) (w:=w1.at d) (sl:=L) (i:=0) M (show stepG c.P (0==0) g (w1.at d)=_ from hgo)
 have ar:0<p.size:=(Array.getElem?_eq_some_iff.1 M).1
 obtain ⟨_,a0,a2,a3⟩:=BK f.inv.w
 have H:∀i,i<c.n->(X i).gp= .gone:=fun i hi=>(HP a0 a2 a3 hi).resolve_right fun e=>((f.inv.i.born i hi).1 hi) e
 have a4:∀i,i<c.n->∃r,fO c t1 (c.base+i) r:=fun i hi=>f.rel i hi (by rw[H i hi];simp)
 have a5:=f.gA.fq a4 (y:={g:=0,fn:=g.frame.fn,pos:=g.frame.place,act:=.mark (.acquire (stA c.Wg))}) ⟨rfl,rfl⟩ f.deaf0 (f.parts.ga _ (.inr (.inl rfl)))
 have a6:MemOp.ofEvents 0 g.frame.fn g.frame.place #[cF (.acquire (stA c.Wg))]=#[{g:=0,fn:=g.frame.fn,pos:=g.frame.place,act:=.mark (.acquire (stA c.Wg))}]:=by rw[Go.Conc.ofEvents_eq];simp[cF,MemAct.ofEvent]
 have a7:s1.is=(List.range c.n).map c.bs:=by
  refine List.ext_getElem? fun i=>?_
  by_cases hi:i<c.n
  ·rw[f.inv.i.all i hi,(f.inv.i.done i hi (by rw[H i hi];simp) (by rw[H i hi];simp)).1]
   simp[hi]
  ·have h1:s1.is.length=c.n:=f.inv.i.len
   rw[List.getElem?_eq_none (by omega),List.getElem?_eq_none (by simp;omega)]
 have a8:w1.heap[c.Is]?=some c.fin:=by
  have:=f.sh.2.2
  rw[a7,List.map_map] at this
  exact this
 have Q:∀j,∃q,∀x,0<j->p[j]?=some x->QuitsD c.P q (Deaf t1 j) x:=fun j=>by
  by_cases I:∃x,0<j/\p[j]?=some x
  ·obtain ⟨x,h0,D⟩:=I
   rcases Nat.lt_or_ge j c.base with R|R
   ·obtain ⟨q,_,B⟩:=f.old j x h0 R D
    exact ⟨q,fun y _ u=>by rw[D] at u;cases u;exact B⟩
   ·have k:j<p.size:=(Array.getElem?_eq_some_iff.1 D).1
    have bl:=f.size
    obtain ⟨i,rfl⟩:∃i,j=c.base+i:=⟨j - c.base,by omega⟩
    obtain ⟨y,u,hW⟩:=f.wk i (by omega)
    rcases hW with ⟨_,q,_,B⟩|⟨a9,_⟩
    ·exact ⟨q,fun z _ J=>by rw[u] at J;cases J;rw[f.deaf i (by omega)];exact B⟩
    ·exact absurd (H i (by omega)) a9
  ·exact ⟨0,fun x h0 D=>absurd ⟨x,h0,D⟩ I⟩
 let q:Nat->Nat:=fun j=>Classical.choose (Q j)
 have ba:∀j x,0<j->p[j]?=some x->QuitsD c.P (q j) (Deaf t1 j) x:=fun j=>Classical.choose_spec (Q j)
 have S:∀j,j≠0->Deaf (t1++#[({g:=0,fn:=g.frame.fn,pos:=g.frame.place,act:=.mark (.acquire (stA c.Wg))}:MemOp)]) j=Deaf t1 j:=fun j bb=>Deaf_other t1 (g':=0) (Ne.symm bb) _ (by simp)
 refine ⟨N+1,(p.map (woken c.P g g' (w1.at d))).setIfInBounds 0 g',w1.at d,L,t1++#[{g:=0,fn:=g.frame.fn,pos:=g.frame.place,act:=.mark (.acquire (stA c.Wg))}],q,g',⟨F.ro,(c.Is,c.fin)::F.own⟩,_,?_,⟨?_,⟨fun j y h0 u=>?_,fun j I=>?_⟩,a5,?_,fun l k m=>?_,fun l k=>?_⟩,?_,fun l k=>k,al⟩
 ·rw[runNT_add,Z]
  simp only[runNT,ab,ao,a6]
 ·exact Array.getElem?_setIfInBounds_self_of_lt (by simpa using ar)
 ·rw[Array.getElem?_setIfInBounds_ne (by omega),Array.getElem?_map] at u
  obtain ⟨z,J,rfl⟩:=Option.map_eq_some_iff.1 u
  have B:=ba j z h0 J
  rw[woken_quitsD B,S j (by omega)];exact B
 ·have:p.size<=j:=by simpa using I
  rw[S j (by omega)]
  exact f.above j this
 ·have bc:c.Is∉keys F.own:=fun hm=>f.parts.gz 0 (Nat.zero_le _) _ (by rw[A];exact hm) (.inr (.inr rfl))
  refine ⟨C.ro,fun b o hb=>?_,?_,fun a v G hm=>?_⟩
  ·rcases List.mem_cons.1 hb with x|x
   ·cases x;exact a8
   ·exact C.own b o x
  ·exact List.nodup_cons.2 ⟨bc,C.nodup⟩
  ·rcases List.mem_cons.1 hm with x|x
   ·exact f.parts.iV 0 (Nat.zero_le _) a (by rw[A,G];rfl) (.inr (.inr x))
   ·exact C.apart a v G x
 ·rcases k with k|⟨a,rfl,E⟩
  ·have h1:=f.apart l k
   rw[A] at h1
   cases l with
   |cell a=>
    rcases m with m|m
    ·rcases List.mem_cons.1 m with x|x
     ·exact V a k (.inr (.inr x))
     ·exact h1 (.inl x)
    ·exact h1 (.inr m)
   |obj r=>
    rcases List.mem_cons.1 m with x|x
    ·exact W r k (.inr (.inr x))
    ·exact h1 x
   |_=>exact m
  ·rcases m with m|m
   ·rcases List.mem_cons.1 m with x|x
    ·exact f.ne.2.2 (E▸x)
    ·exact f.parts.gz 0 (Nat.zero_le _) a.block (by rw[A];exact x) (.inr (.inl E))
   ·exact f.parts.iV 0 (Nat.zero_le _) a (by rw[A];exact m) (.inr (.inl E))
 ·rcases k with k|⟨a,rfl,E⟩
  ·exact Loc.low_mono f.iX (f.low l k)
  ·show a.block<_;rw[E];exact f.parts.ga _ (.inr (.inl rfl))
 ·rw[K] at O
  refine (O.trans (di.at_ _ _ _)).trans ⟨.refl _,rfl,rfl,Nat.le_refl _,fun _ _ _ _=>rfl,fun _ h=>.inl h,fun b hb=>?_⟩
  rcases List.mem_cons.1 hb with x|x
  ·exact .inr (.inr (.inr (.inr x)))
  ·exact .inl x
end
def ir (P:Program)(Φ:Goroutine->af->Prop)(g:Goroutine)(F:af):Prop:=
 g.status= .running/\g.offers=none/\∀(bt:Loc->Prop) (gs:Array Goroutine) (w:World) (sl:Option (Nat×Nat)) (t:Trace) (q:Nat->Nat),jd P bt g F gs w t q->
  ∃(N:Nat) (bT:Array Goroutine) (w':World) (c:Option (Nat×Nat)) (a:Trace) (d:Nat->Nat) (g':Goroutine) (F':af) (b:Loc->Prop),
   runNT P N (crowd gs w sl) t=(.next (crowd bT w' c),a)/\jd P b g' F' bT w' a d/\eZ F F' w w'/\(∀l,b l->bt l\/¬l.low w.heap.size\/eR F l)/\Φ g' F'
theorem ir.done {P:Program}{Φ:Goroutine->af->Prop}{g:Goroutine}{F:af}(a:g.status= .running)(b:g.offers=none)(h:Φ g F):ir P Φ g F:=
 ⟨a,b,fun bt gs w sl t q c=>⟨0,gs,w,sl,t,q,g,F,bt,rfl,c,.refl _ _,fun _ h=>.inl h,h⟩⟩
theorem Le.Ic {F F':af}(h:Le F F'){l:Loc}(b:eR F l):eR F' l:=by
 cases l with
 |cell a=>exact h.own _ b
 |obj r=>exact h.own _ b
 |_=>exact b
theorem BX (P:Program)(Φ:Goroutine->af->Prop):Closed P true (ir P Φ) where
 mono hle h:=by
  refine ⟨h.1,h.2.1,fun bt gs w sl t q b=>?_⟩
  obtain ⟨N,bT,w',A,B,C,g',F',D,k,E,hu,H,I⟩:=h.2.2 bt gs w sl t q ⟨b.g0,b.lv,b.fq,hle.has w b.has,fun l hs J=>b.apart l hs (hle.gf J),b.low⟩
  exact ⟨N,bT,w',A,B,C,g',F',D,k,E,hu.le hle,fun l m=>(H l m).imp id fun x=>x.imp id hle.Ic,I⟩
 step {fr cs F} h:=by
  refine ⟨rfl,rfl,fun bt gs w sl t q b=>?_⟩
  obtain ⟨N,n,d,d',a2,o,t1,K,k,a3,h0,s,L,M⟩:=qC (P:=P) (a:=G fr cs) rfl _ gs w sl t q (Nat.le_refl _) b.g0 b.lv b.fq
  obtain ⟨g',w',es,F',hgo,hu,O,Q,hJ⟩:=h (w.at d') (b.has.at d')
  have c:dJ F F' w w':=⟨hu.os,hu.tape,hu.output,hu.size,hu.frame,hu.ro,hu.own⟩
  have R:=runT_crowd_go (P:=P) (sl:=o) (i:=0) h0 (show stepG P (0==0) (G fr cs) (w.at d')=_ from hgo)
  have S:0<n.size:=(Array.getElem?_eq_some_iff.1 h0).1
  have u:=jd.next (P:=P) b.apart b.low c
  obtain ⟨T,U,w2,V,t2,W,X,Y,Z,ab,ad,ae,al,ao⟩:=hJ.2.2 bt ((n.map (woken P (G fr cs) g' w')).setIfInBounds 0 g') w' o (t1++MemOp.ofEvents 0 (G fr cs).frame.fn (G fr cs).frame.place es) K
   {g0:=by simp[S]
    lv:=⟨fun j x g v=>by
     have ar:0≠j:=by omega
     rw[Array.getElem?_setIfInBounds_ne ar,Array.getElem?_map] at v
     obtain ⟨y,a0,rfl⟩:=Option.map_eq_some_iff.1 v
     have z:=s.old j y g a0
     rw[woken_quitsD z,Deaf_other t1 (by omega) _ (fun op p=>by obtain ⟨e,_,rfl⟩:=Go.Conc.mem_ofEvents p;rfl)]
     exact z,fun j g=>by
     rw[Deaf_other t1 (g':=0) (by simp at g;omega) _ (fun op p=>by obtain ⟨e,_,rfl⟩:=Go.Conc.mem_ofEvents p;rfl)]
     exact s.above j (by simpa using g)⟩
    fq:=(L.mono c.size).own fun e he=>yN b.has c.size b.apart b.low (Q e he)
    has:=O
    apart:=u.1
    low:=u.2}
  refine ⟨N+1+T,U,w2,V,t2,W,X,Y,Z,?_,ad,(eZ.oG c).trans ae,fun l m=>?_,ao⟩
  ·have:runNT P (N+1) (crowd gs w sl) t=(.next (crowd ((n.map (woken P (G fr cs) g' w')).setIfInBounds 0 g') w' o),t1++MemOp.ofEvents 0 (G fr cs).frame.fn (G fr cs).frame.place es):=by
    rw[runNT_add,k]
    simp only[runNT,M,R]
   rw[je this]
   exact ab
  ·rcases al l m with x|x|x
   ·exact .inl x
   ·exact .inr (.inl fun f=>x (Loc.low_mono c.size f))
   ·cases l with
    |cell a=>
     rcases c.own _ x with y|y
     ·exact .inr (.inr y)
     ·exact .inr (.inl fun f=>absurd f (Nat.not_lt.2 y))
    |obj r=>
     rcases c.own _ x with y|y
     ·exact .inr (.inr y)
     ·exact .inr (.inl fun f=>absurd f (Nat.not_lt.2 y))
    |_=>exact x.elim
theorem fA.Ie {P:Program}{f:FuncId}{args:Array Value}{ro:Addr->Option Value}{R:Value->af->Prop}(h:∀Φ,cK P (ir P Φ) f args ⟨ro,[]⟩ R):fA P f args ⟨ro,[]⟩ R:=by
 intro Φ c cs b bt gs w sl t q d
 obtain ⟨N,bT,w',e,g,i,g',F',j,k,m,hu,n,v,rfl,a⟩:=(h (fun g' F'=>∃v,g'=G (c.finish v) cs/\R v F') c cs (fun v F' a=>ir.done rfl rfl ⟨v,rfl,a⟩)).2.2 bt gs w sl t q d
 obtain ⟨o,p,w2,r,t2,s,u,z,A,B,C,D,E,F⟩:=b v F' a j bT w' e g i m
 refine ⟨N+o,p,w2,r,t2,s,u,z,A,by rw[je k];exact B,C,hu.trans D,fun l H=>?_,F⟩
 rcases E l H with x|x
 ·rcases n l x with y|y|y
  ·exact .inl y
  ·exact .inr y
  ·cases l<;>first|(simp only[eR,keys,List.map_nil] at y;cases y)|exact y.elim
 ·exact .inr fun I=>x (Loc.low_mono hu.size I)
theorem ir.found {P:Program}{Φ:Goroutine->af->Prop}{g:Goroutine}{F C:af}{Mu Wg Is:Nat}{tM tW tI:TypeId}{n:Nat}(bs:Nat->Bool)(I:g.status= .running)(O:g.offers=none)
  (hle:Le ⟨C.ro,(Mu,muBlock tM 0 0)::(Wg,wgBlock tW 0 0)::(Is,.cells (List.replicate n (Value.bool false)).toArray tI)::C.own⟩ F)
  (h:∀base B0 T0,0<base->(Mu≠Wg/\Mu≠Is/\Wg≠Is)->ef ⟨P,Mu,Wg,Is,tM,tW,tI,n,bs,base,T0⟩ B0 (ir P Φ) 0 (.opn 0) 0 g C):ir P Φ g F:=by
 refine ⟨I,O,fun bt gs w sl t q k=>?_⟩
 have A:=hle.has w k.has
 have Q:0<gs.size:=(Array.getElem?_eq_some_iff.1 k.g0).1
 let c:Cy:=⟨P,Mu,Wg,Is,tM,tW,tI,n,bs,gs.size,t.size⟩
 have R:=A.nodup
 simp only[keys,List.map_cons,List.nodup_cons,List.mem_cons,not_or] at R
 obtain ⟨⟨n1,n2,n3⟩,⟨S,T⟩,U,V⟩:=R
 have u:∀b,c.shared b->b∈keys F.own:=fun b hb=>by
  rcases hb with rfl|rfl|rfl<;>exact hle.own _ (by simp[keys,c])
 have D:∀b,b∈keys C.own->b∈keys F.own:=fun b hb=>hle.own b (by simp only[keys,List.map_cons,List.mem_cons];exact .inr (.inr (.inr hb)))
 have L:∀a,(C.ro a).isSome=true->(F.ro a).isSome=true\/a.block∈keys F.own:=fun a d=>hle.ro a d
 have W:Has C w:=⟨A.ro,fun b o hb=>A.own b o (List.mem_cons_of_mem _ (List.mem_cons_of_mem _ (List.mem_cons_of_mem _ hb))),V,fun a v I hm=>A.apart a v I (by simp only[keys,List.map_cons,List.mem_cons];exact .inr (.inr (.inr hm)))⟩
 have K:∀l,F.gf l->∀i a,touchAt t i=some a->a.loc=l->l.isMemory=true->Go.Conc.Knows t 0 i:=fun l m i a d e hm=>by
  rcases k.fq.known i a d (by rw[e];exact hm) with x|⟨x,_⟩
  ·exact x
  ·exact absurd m (k.apart l (e▸x))
 let φ:Nat->Ph:=fun _=>{mp:=.idle,gp:=.new,stored:=false,deaf:=0}
 let s:Sh:=⟨0,0,0,0,List.replicate n false⟩
 have X:dA c w.heap.size bt (.opn 0) 0 0 g (fun _=>C) gs w t (fun j=>Rk.nat (q j)) φ s:=by
  refine ⟨rfl,Q,I,O,⟨g,k.g0,by cases g;simp_all,.inl I⟩,fun j x h0 _ Y=>⟨q j,rfl,k.lv.old j x h0 Y⟩,fun i hi=>by omega,fun i hi=>by omega,k.lv.above,k.fq.hears,⟨fun p E=>W,fun p q E Z ab=>by omega,fun p q E Z ab=>by omega,fun p E b hb hs=>?_,fun p E a d hs=>?_,fun b hb=>k.has.lt (u b hb)⟩,
   ⟨?_,?_,?_⟩,⟨⟨0,0,0,0,0,⟨⟨rfl,by omega,by omega,by omega⟩,rfl,?_,fun _=>?_,fun e=>by omega,fun i hi o G ad=>by simp[φ,Mp.seen] at ad⟩⟩,⟨?_⟩,⟨by simp[s,c],Nat.zero_le _,fun i hi=>?_,fun i hi=>?_,fun i hi _=>⟨rfl,rfl,rfl⟩,fun i hi _ hn=>by simp[φ] at hn⟩⟩,
   ⟨Nat.le_refl _,fun i a d hs=>.inr fun p E=>?_,k.fq.clean,fun p E l m=>?_,fun p E l m=>?_,fun i hi=>by omega,fun i hi l m=>?_,k.fq.seen,fun i hi e=>?_,fun i a d hm=>?_,fun i g hg ae al=>.inl (k.fq.over i g hg ae al)⟩,
   fun i hi=>by omega,fun l m H=>?_,k.low,fun i hi=>by omega,Nat.le_refl _,⟨n1,n2,S⟩⟩
  ·rcases hs with e|e|e
   ·exact n3 (by rw[<-show b=Mu from e];exact hb)
   ·exact T (by rw[<-show b=Wg from e];exact hb)
   ·exact U (by rw[<-show b=Is from e];exact hb)
  ·obtain ⟨v,ao⟩:=Option.isSome_iff_exists.1 d
   refine A.apart a v ao ?_
   rcases hs with e|e|e
   ·rw[show a.block=Mu from e];simp[keys]
   ·rw[show a.block=Wg from e];simp[keys]
   ·rw[show a.block=Is from e];simp[keys]
  ·exact A.own Mu (muBlock tM 0 0) (.head _)
  ·exact A.own Wg (wgBlock tW 0 0) (.tail _ (.head _))
  ·have:=A.own Is (.cells (List.replicate n (Value.bool false)).toArray tI) (.tail _ (.tail _ (.head _)))
   rw[show (s.is.map Value.bool)=List.replicate n (Value.bool false) from by simp[s]]
   exact this
  ·exact (xo fun i hi=>rfl).symm
  ·have z:∀f:Mp->Nat,f .idle=0->sm n φ f=0:=fun f H=>xo fun i hi=>H
   have a1:=z Mp.nI rfl;have a2:=z Mp.nY rfl;have a3:=z Mp.nA rfl;have a4:=z Mp.nK rfl;have a5:=z Mp.nT rfl;have b1:=z Mp.nQ rfl
   refine ⟨a1,a2,?_,?_,fun e=>absurd e (Nat.lt_irrefl _)⟩
   ·show 0=sm n φ Mp.nA+0+sm n φ Mp.nK+sm n φ Mp.nT;omega
   ·show 0+0+sm n φ Mp.nT=sm n φ Mp.nQ;omega
  ·have z:∀f:Gp->Nat,f .new=0->sg n φ f=0:=fun f H=>s6 fun i hi=>H
   refine ⟨by omega,?_,rfl,z _ rfl,z _ rfl⟩
   show (0:Int)=((sg n φ Gp.nV+0:Nat):Int)*cN
   rw[z _ rfl];rfl
  ·simp[s,φ,show i<n from hi]
  ·exact ⟨fun e=>by omega,fun e=>by simp[φ] at e⟩
  ·obtain rfl:p=0:=by omega
   obtain ⟨b,e,hb⟩:=hs
   exact K a.loc (by rw[e];exact .inl (u _ (hb.elim .inl fun x=>.inr (.inl x)))) i a d rfl (by rw[e];rfl)
  ·obtain rfl:p=0:=by omega
   intro i a d e
   refine K l ?_ i a d e ?_
   ·cases l with
    |cell a=>exact .inl (D _ m)
    |obj r=>exact D _ m
    |_=>exact m.elim
   ·cases l<;>first|rfl|exact m.elim
  ·obtain rfl:p=0:=by omega
   obtain ⟨b,rfl,hb⟩:=m
   exact fun i a d e _=>K (.cell b) ((L b hb).elim (fun x=>Or.inr x) (fun x=>Or.inl x)) i a d e rfl
  ·intro j a d e
   rw[show l=_ from m] at e
   exact K (.cell ⟨Is,i,none⟩) (Or.inl (u Is (.inr (.inr rfl)))) j a d e rfl
  ·exact absurd (lt_of_act? e) (Nat.not_lt.2 hi)
  ·rcases k.fq.known i a d hm with x|x
   ·exact .inl x
   ·exact .inr (.inl x)
  ·refine k.apart l m ?_
   cases l with
   |cell a=>exact H.elim (fun x=>.inl (D _ x)) fun x=>(L a x).elim .inr .inl
   |obj r=>exact D _ H
   |_=>exact H
 obtain ⟨N,bT,w',ar,a0,a6,g',F',a7,k1,a8,B,a9,ba⟩:=(h gs.size w.heap.size t.size Q ⟨n1,n2,S⟩).2.2 bt gs w sl t _ _ _ _ rfl X (fun a hs hb=>k.apart _ hs (.inl (u _ hb))) (fun r hs hb=>k.apart _ hs (u _ hb))
 obtain ⟨bb,bc,w2,bd,t2,bj,bk,bl,bm,bo,br,bz,bS,b0⟩:=ba.2.2 a7 bT w' ar a0 a6 a8
 have M:eZ F F' w w':=⟨B.os,B.tape,B.output,B.size,fun b hb hn=>B.frame b hb (fun x=>hn (D b x)) (fun x=>hn (u b x)),fun a d=>by
  rcases B.ro a d with x|x|x|x
  ·exact (L a x).imp id .inl
  ·exact .inr (.inl (D _ x))
  ·exact .inr (.inr x)
  ·exact .inr (.inl (u _ x)),fun b hb=>by
  rcases B.own b hb with x|x|x
  ·exact .inl (D b x)
  ·exact .inr x
  ·exact .inl (u b x)⟩
 refine ⟨N+bb,bc,w2,bd,t2,bj,bk,bl,bm,by rw[je k1];exact bo,br,M.trans bz,fun l m=>?_,b0⟩
 rcases bS l m with x|x|x
 ·rcases a9 l x with y|⟨a,rfl,d⟩
  ·exact .inl y
  ·exact .inr (.inr (show a.block∈keys F.own from u _ (.inr (.inl d))))
 ·exact .inr (.inl fun J=>x (Loc.low_mono B.size J))
 ·cases l with
  |cell a=>
   rcases M.own _ x with y|y
   ·exact .inr (.inr y)
   ·exact .inr (.inl fun J=>absurd J (Nat.not_lt.2 y))
  |obj r=>
   rcases M.own _ x with y|y
   ·exact .inr (.inr y)
   ·exact .inr (.inl fun J=>absurd J (Nat.not_lt.2 y))
  |_=>exact x.elim
end Go.Sep
end

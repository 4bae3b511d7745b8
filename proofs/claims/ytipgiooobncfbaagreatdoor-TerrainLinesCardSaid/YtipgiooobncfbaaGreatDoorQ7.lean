/- A part of the proof of a row and its tied card: part 7. -/
import Derived.Test.YtipgiooobncfbaaGreatDoorQ6
import Derived.Conc.CrowdTrace
set_option linter.all false
section
namespace Go.Sep
open Go Go.Conc
open Go.ConcN (PermW fork_knows)
open Go.ConcM (MuAt muA msA muBlock)
open Go.ConcR (WgAt wgBlock stA smA)
structure Cy where
 P:Program
 Mu:Nat
 Wg:Nat
 Is:Nat
 tM:TypeId
 tW:TypeId
 tI:TypeId
 n:Nat
 bs:Nat->Bool
 base:Nat
 T0:Nat
def Cy.shared (c:Cy)(b:Nat):Prop:=b=c.Mu\/b=c.Wg\/b=c.Is
def Cy.sy (c:Cy)(l:Loc):Prop:=∃a,l= .cell a/\(a.block=c.Mu\/a.block=c.Wg)
def Cy.gid (c:Cy):Nat->Nat
 |0=>0
 |i+1=>c.base+i
theorem Cy.EX (c:Cy)(hb:0<c.base){p q:Nat}(h:p≠q):c.gid p≠c.gid q:=by
 cases p<;>cases q<;>simp[Cy.gid] at*<;>omega
def ey (F:af):Loc->Prop
 | .cell a=>a.block∈keys F.own
 | .obj r=>r∈keys F.own
 |_=>False
def gI (F:af)(l:Loc):Prop:=∃a,l= .cell a/\(F.ro a).isSome=true
def ju (B:Nat):Loc->Prop
 | .cell a=>B<=a.block
 | .obj r=>B<=r
 |_=>False
def mN (c:Cy)(i:Nat)(l:Loc):Prop:=l= .cell ⟨c.Is,i,none⟩
structure c5 (c:Cy)(k:Nat)(Fr:Nat->af)(w:World):Prop where
 has:∀p,p<=k->Has (Fr p) w
 own:∀p q,p<=k->q<=k->p≠q->∀b∈keys (Fr p).own,b∉keys (Fr q).own
 ro:∀p q,p<=k->q<=k->p≠q->∀a,((Fr p).ro a).isSome=true->a.block∉keys (Fr q).own
 fQ:∀p,p<=k->∀b∈keys (Fr p).own,¬c.shared b
 g9:∀p,p<=k->∀a,((Fr p).ro a).isSome=true->¬c.shared a.block
 fD:∀b,c.shared b->b<w.heap.size
structure ff (c:Cy)(t:Trace)(g r:Nat):Prop where
 late:c.T0<=r
 act:t.act? r=some (.mark (.releaseMerge (stA c.Wg)))
 zK:t.g? r=some g
 heard:t.heard r
 after:∀i x,r<i->t.g? i=some g->touchAt t i=some x->x.kind= .atomic/\¬t.heard i/\∃a,x.loc= .cell a/\a.block=c.Wg
structure dO (c:Cy)(aZ:Loc->Prop)(k:Nat)(Fr:Nat->af)(B:Nat)(t:Trace):Prop where
 len:c.T0<=t.size
 quiet:∀i a,touchAt t i=some a->c.sy a.loc->(a.kind≠ .plain/\(a.kind= .said->t.g? i=some 0))\/∀p,p<=k->Go.Conc.Knows t (c.gid p) i
 nr:∀said,¬Race said t
 own:∀p,p<=k->∀l,ey (Fr p) l->Perm t (c.gid p) l
 ro:∀p,p<=k->∀l,gI (Fr p) l->PermW t (c.gid p) l
 qX:∀i,i<k->∀l,mN c i l->Perm t (c.base+i) l
 qY:∀i,k<=i->∀l,mN c i l->Perm t 0 l
 low:∀op∈t,op.act.low B
 norel:∀i,c.T0<=i->t.act? i≠some (.mark (.release (stA c.Wg)))
 known:∀i a,touchAt t i=some a->a.loc.isMemory=true->Go.Conc.Knows t 0 i\/(aZ a.loc/\a.kind= .atomic)\/∃j,j<k/\t.g? i=some (c.base+j)
 over:∀i g,t.g? i=some g->g≠0->t.counts i->(∃j,t.g? j=some 0/\HappensBefore t i j)\/∃j,j<k/\g=c.base+j
def qZ (c:Cy)(F:af)(B p:Nat)(x:Touch):Prop:=
 ey F x.loc\/ju B x.loc\/(gI F x.loc/\x.write=false)\/(c.sy x.loc/\x.kind≠ .plain/\(x.kind= .said->p=0))\/(∃i,p=i+1/\mN c i x.loc)\/x.loc.isMemory=false
theorem zL {B:Nat}{l:Loc}(h:l.low B)(b:ju B l):False:=by
 cases l with
 |cell a=>exact absurd h (Nat.not_lt.2 b)
 |obj r=>exact absurd h (Nat.not_lt.2 b)
 |_=>exact b
theorem zM {B:Nat}{t:Trace}(h:∀op∈t,op.act.low B){i:Nat}{a:Touch}(c:touchAt t i=some a):a.loc.low B:=by
 obtain ⟨x,d,b⟩:=touch_of c
 have hm:=h x (Array.mem_of_getElem? d)
 obtain ⟨g,fn,pos,act⟩:=x
 cases act with
 |access e=>simp only[MemAct.touch?,Option.some.injEq] at b;subst b;exact hm
 |mark m=>cases m<;>simp only[MemAct.touch?,Option.some.injEq] at b<;>first|(subst b;exact hm)|cases b
 |_=>cases b
theorem EY {F:af}{w:World}(h:Has F w){l:Loc}(b:ey F l):¬ju w.heap.size l:=by
 cases l with
 |cell a=>exact fun x=>absurd (h.lt b) (Nat.not_lt.2 x)
 |obj r=>exact fun x=>absurd (h.lt b) (Nat.not_lt.2 x)
 |_=>exact b.elim
theorem EZ {F:af}{w:World}(h:Has F w){l:Loc}(b:gI F l):¬ju w.heap.size l:=by
 obtain ⟨a,rfl,c⟩:=b
 exact fun x=>absurd (h.fW c) (Nat.not_lt.2 x)
section
variable {c : Cy} {aZ : Loc → Prop} {k : Nat} {Fr : Nat → af} {w : World} {t u : Trace}
theorem c5.sep (h:c5 c k Fr w){p q:Nat}(b:p<=k)(d:q<=k)(e:p≠q){l:Loc}(h1:ey (Fr p) l)(h2:ey (Fr q) l):False:=by
 cases l with
 |cell a=>exact h.own p q b d e _ h1 h2
 |obj r=>exact h.own p q b d e _ h1 h2
 |_=>exact h1
theorem c5.zN (h:c5 c k Fr w){p q:Nat}(b:p<=k)(d:q<=k)(e:p≠q){l:Loc}(h1:gI (Fr p) l)(h2:ey (Fr q) l):False:=by
 obtain ⟨a,rfl,f⟩:=h1
 exact h.ro p q b d e a f h2
theorem c5.zO (h:c5 c k Fr w){p:Nat}(b:p<=k){l:Loc}(h1:ey (Fr p) l)(h2:c.sy l):False:=by
 obtain ⟨a,rfl,h2⟩:=h2
 exact h.fQ p b _ h1 (h2.elim .inl fun x=>.inr (.inl x))
theorem c5.zP (h:c5 c k Fr w){p:Nat}(b:p<=k){l:Loc}(h1:gI (Fr p) l)(h2:c.sy l):False:=by
 obtain ⟨a,rfl,h1⟩:=h1
 obtain ⟨d,e,h2⟩:=h2
 cases e
 exact h.g9 p b _ h1 (h2.elim .inl fun x=>.inr (.inl x))
theorem c5.vf (h:c5 c k Fr w){p i:Nat}(a:p<=k){l:Loc}(h1:ey (Fr p) l)(h2:mN c i l):False:=by
 subst h2
 exact h.fQ p a _ h1 (.inr (.inr rfl))
theorem c5.vg (h:c5 c k Fr w){p i:Nat}(b:p<=k){l:Loc}(h1:gI (Fr p) l)(h2:mN c i l):False:=by
 subst h2
 obtain ⟨a,e,h1⟩:=h1
 cases e
 exact h.g9 p b _ h1 (.inr (.inr rfl))
theorem c5.E0 (h:c5 c k Fr w){l:Loc}(h1:ju w.heap.size l)(h2:c.sy l):False:=by
 obtain ⟨a,rfl,h2⟩:=h2
 exact absurd (h.fD _ (h2.elim .inl fun x=>.inr (.inl x))) (Nat.not_lt.2 h1)
theorem c5.zQ (h:c5 c k Fr w){i:Nat}{l:Loc}(h1:ju w.heap.size l)(h2:mN c i l):False:=by
 subst h2
 exact absurd (h.fD _ (.inr (.inr rfl))) (Nat.not_lt.2 h1)
theorem q2 {a:Addr}{T:Nat}(h:∀i,T<=i->t.act? i≠some (.mark (.release a)))(hu:∀op∈u,op.act≠ .mark (.release a)):∀i,T<=i->(t++u).act? i≠some (.mark (.release a)):=by
 intro i c d
 obtain ⟨op,e,b⟩:=Option.map_eq_some_iff.1 d
 rcases getElem?_append_cases e with ⟨_,f⟩|⟨_,g⟩
 ·exact h i c (by rw[act?_of f,b])
 ·exact hu op g b
theorem zR (h:∀i a,touchAt t i=some a->c.sy a.loc->(a.kind≠ .plain/\(a.kind= .said->t.g? i=some 0))\/∀p,p<=k->Go.Conc.Knows t (c.gid p) i)
  (hu:∀op∈u,∀x,op.act.touch?=some x->c.sy x.loc->x.kind≠ .plain/\(x.kind= .said->op.g=0)):
  ∀i a,touchAt (t++u) i=some a->c.sy a.loc->(a.kind≠ .plain/\(a.kind= .said->(t++u).g? i=some 0))\/∀p,p<=k->Go.Conc.Knows (t++u) (c.gid p) i:=by
 intro i a f hs
 obtain ⟨x,b,d⟩:=touch_of f
 rcases getElem?_append_cases b with ⟨j,l⟩|⟨_,m⟩
 ·rcases h i a (by rw[touchAt_of l];exact d) hs with ⟨y,z⟩|y
  ·exact .inl ⟨y,fun e=>by rw[g?_old j];exact z e⟩
  ·exact .inr fun p n=>(y p n).app u
 ·obtain ⟨y,z⟩:=hu x m a d hs
  exact .inl ⟨y,fun e=>by simp[Trace.g?,b,z e]⟩
theorem dO.app (hb:0<c.base)(E:c.Mu≠c.Is/\c.Wg≠c.Is)(n:c5 c k Fr w)(h:dO c aZ k Fr w.heap.size t){p:Nat}(s:p<=k){cF:Nat->af}{L:Nat}(S:w.heap.size<=L)
  (hu:∀op∈u,op.g=c.gid p) (G:∀op∈u,∀x,op.act.touch?=some x->qZ c (Fr p) w.heap.size p x)
  (T:∀op∈u,op.act.low L) (U:∀op∈u,op.act≠ .mark (.release (stA c.Wg)))
  (P:∀q,q≠p->cF q=Fr q) (V:∀l,ey (cF p) l->ey (Fr p) l\/ju w.heap.size l) (W:∀l,gI (cF p) l->gI (Fr p) l\/ey (Fr p) l\/ju w.heap.size l):
  dO c aZ k cF L (t++u):=by
 have a4:∀op∈u,∀x,op.act.touch?=some x->x.loc.isMemory=false->∀l:Loc,l.isMemory=true->x.loc≠l:=fun op _ x _ h0 l d e=>by rw[e,d] at h0;cases h0
 have X:∀{F:af} {l:Loc},ey F l->l.isMemory=true:=fun {F l} d=>by cases l<;>first|rfl|exact d.elim
 have Y:∀{F:af} {l:Loc},gI F l->l.isMemory=true:=fun {F l} d=>by obtain ⟨a,rfl,_⟩:=d;rfl
 have a5:∀q,q≠p->c.gid q≠c.gid p:=fun q m=>c.EX hb m
 have Z:∀q,q<=k->q≠p->∀l,ey (Fr q) l->∀op∈u,∀b,op.act.touch?=some b->b.loc≠l:=by
  intro q m v l d op f b r e
  rcases G op f b r with x|x|⟨x,_⟩|⟨x,_⟩|⟨i,_,x⟩|x<;>rw[e] at x
  ·exact n.sep m s v d x
  ·exact EY (n.has q m) d x
  ·exact n.zN s m (Ne.symm v) x d
  ·exact n.zO m d x
  ·exact n.vf m d x
  ·rw[X d] at x;cases x
 have ab:∀q,q<=k->q≠p->∀l,gI (Fr q) l->∀op∈u,∀b,op.act.touch?=some b->b.loc=l->b.write=true->False:=by
  intro q m v l d op f b r e hw
  rcases G op f b r with x|x|⟨x,ad⟩|⟨x,_⟩|⟨i,_,x⟩|x
  ·rw[e] at x;exact n.zN m s v d x
  ·rw[e] at x;exact EZ (n.has q m) d x
  ·rw[ad] at hw;cases hw
  ·rw[e] at x;exact n.zP m d x
  ·rw[e] at x;exact n.vg m d x
  ·rw[e,Y d] at x;cases x
 have fresh:∀l,ju w.heap.size l->Perm (t++u) (c.gid p) l:=by
  intro l d i a C e
  obtain ⟨x,D,M⟩:=touch_of C
  rcases getElem?_append_cases D with ⟨B,N⟩|⟨_,J⟩
  ·have:=zM h.low (show touchAt t i=some a by rw[touchAt_of N];exact M)
   rw[e] at this
   exact (zL this d).elim
  ·have:=knows_own D
   rwa [hu x J] at this
 refine ⟨by have:=h.len;simp;omega,zR h.quiet fun op f x D hs=>?_,fun said=>?_,fun q m l d=>?_,fun q m l d=>?_,fun i B l d=>?_,fun i B l d=>?_,fun op f=>?_,q2 h.norel U,fun i a C hm=>?_,fun i g hg H A=>?_⟩
 ·rcases G op f x D with y|y|⟨y,_⟩|⟨_,y,z⟩|⟨i,_,y⟩|y
  ·exact (n.zO s y hs).elim
  ·exact (n.E0 y hs).elim
  ·exact (n.zP s y hs).elim
  ·exact ⟨y,fun e=>by rw[hu op f,z e];rfl⟩
  ·obtain ⟨a,e,hs⟩:=hs
   rw[show x.loc=_ from y] at e
   cases e
   rcases hs with hs|hs
   ·exact absurd hs.symm E.1
   ·exact absurd hs.symm E.2
  ·obtain ⟨a,e,_⟩:=hs;rw[e] at y;cases y
 ·refine noRace_append (h.nr said) hu fun i a C op f b r A=>?_
  rcases G op f b r with y|y|⟨y,z⟩|⟨y,y',z⟩|⟨j,rfl,y⟩|y
  ·exact h.own p s _ y i a C A.1
  ·have:=zM h.low C
   rw[A.1] at this
   exact (zL this y).elim
  ·exact h.ro p s _ y i a C A.1 (A.2.2.1.resolve_right (by rw[z];simp))
  ·rcases h.quiet i a C (by rw[A.1];exact y) with ⟨ae,al⟩|q
   ·obtain ⟨_,_,_,ao⟩:=A
    rcases ao with e|e|⟨_,e,K⟩
    ·exact absurd e ae
    ·exact absurd e y'
    ·have H:=al e
     unfold Trace.g? at H
     obtain ⟨o,ar,a0⟩:=Option.map_eq_some_iff.1 H
     have:=knows_own ar
     rw[a0] at this
     rw[z K];exact this
   ·exact q p s
  ·exact h.qX j (by omega) _ y i a C A.1
  ·rw[<-A.1,A.2.1] at y;cases y
 ·by_cases v:q=p
  ·subst v
   rcases V l d with y|y
   ·exact (h.own q m l y).app fun op f _ _ _=>hu op f
   ·exact fresh l y
  ·rw[P q v] at d
   exact (h.own q m l d).app fun op f b r e=>absurd e (Z q m v l d op f b r)
 ·by_cases v:q=p
  ·subst v
   rcases W l d with y|y|y
   ·exact (h.ro q m l y).app fun op f _ _ _ _=>hu op f
   ·exact .of ((h.own q m l y).app fun op f _ _ _=>hu op f)
   ·exact .of (fresh l y)
  ·rw[P q v] at d
   exact (h.ro q m l d).app fun op f b r e hw=>(ab q m v l d op f b r e hw).elim
 ·refine (h.qX i B l d).app fun op f b r e=>?_
  rcases G op f b r with y|y|⟨y,_⟩|⟨y,_⟩|⟨j,K,y⟩|y<;>rw[e] at y
  ·exact (n.vf s y d).elim
  ·exact (n.zQ y d).elim
  ·exact (n.vg s y d).elim
  ·obtain ⟨a,e,hs⟩:=y
   rw[show l=_ from d] at e
   cases e
   rcases hs with hs|hs
   ·exact absurd hs.symm E.1
   ·exact absurd hs.symm E.2
  ·have:i=j:=by rw[show l=_ from d] at y;cases y;rfl
   rw[hu op f,K,this];rfl
  ·rw[show l=_ from d] at y;cases y
 ·refine (h.qY i B l d).app fun op f b r e=>?_
  rcases G op f b r with y|y|⟨y,_⟩|⟨y,_⟩|⟨j,K,y⟩|y<;>rw[e] at y
  ·exact (n.vf s y d).elim
  ·exact (n.zQ y d).elim
  ·exact (n.vg s y d).elim
  ·obtain ⟨a,e,hs⟩:=y
   rw[show l=_ from d] at e
   cases e
   rcases hs with hs|hs
   ·exact absurd hs.symm E.1
   ·exact absurd hs.symm E.2
  ·have:i=j:=by rw[show l=_ from d] at y;cases y;rfl
   omega
  ·rw[show l=_ from d] at y;cases y
 ·exact (Array.mem_append.1 f).elim (fun x=>MemAct.low_mono S (h.low op x)) (T op)
 ·obtain ⟨x,D,M⟩:=touch_of C
  rcases getElem?_append_cases D with ⟨B,N⟩|⟨_,J⟩
  ·rcases h.known i a (by rw[touchAt_of N];exact M) hm with y|y|⟨j,I,y⟩
   ·exact .inl (y.app u)
   ·exact .inr (.inl y)
   ·exact .inr (.inr ⟨j,I,by rw[g?_old B];exact y⟩)
  ·cases p with
   |zero=>have:=knows_own D;rw[hu x J] at this;exact .inl this
   |succ j=>exact .inr (.inr ⟨j,by omega,by simp[Trace.g?,D,hu x J,Cy.gid]⟩)
 ·by_cases B:i<t.size
  ·rcases h.over i g (by rw[<-g?_old (u:=u) B];exact hg) H ((counts_old B).1 A) with ⟨j,I,y⟩|y
   ·have a2:j<t.size:=by
     unfold Trace.g? at I
     obtain ⟨z,O,_⟩:=Option.map_eq_some_iff.1 I
     exact lt_size_of_getElem? O
    exact .inl ⟨j,by rw[g?_old a2];exact I,hb_app u y⟩
   ·exact .inr y
  ·unfold Trace.g? at hg
   obtain ⟨z,O,Q⟩:=Option.map_eq_some_iff.1 hg
   rcases getElem?_append_cases O with ⟨a3,_⟩|⟨_,R⟩
   ·exact absurd a3 B
   ·cases p with
    |zero=>exact absurd (Q▸(hu z R)) H
    |succ j=>exact .inr ⟨j,by omega,by rw[<-Q,hu z R];rfl⟩
theorem ff.app {g r:Nat}(h:ff c t g r)(hu:∀i x,t.size<=i->(t++u).g? i=some g->touchAt (t++u) i=some x->x.kind= .atomic/\¬(t++u).heard i/\∃a,x.loc= .cell a/\a.block=c.Wg):ff c (t++u) g r:=by
 have b:r<t.size:=lt_of_act? h.act
 refine ⟨h.late,by rw[act?_old b];exact h.act,by rw[g?_old b];exact h.zK,(heard_old b).2 h.heard,fun i x f hg e=>?_⟩
 rcases Nat.lt_or_ge i t.size with d|j
 ·rw[heard_old d]
  exact h.after i x f (by rw[<-g?_old (u:=u) d];exact hg) (by rw[<-touchAt_old (u:=u) d];exact e)
 ·exact hu i x j hg e
theorem ff.other {g r g':Nat}(h:ff c t g r)(a:g'≠g)(hu:∀op∈u,op.g=g'):ff c (t++u) g r:=by
 refine h.app fun i x f hg j=>?_
 unfold Trace.g? at hg
 obtain ⟨z,b,d⟩:=Option.map_eq_some_iff.1 hg
 rcases getElem?_append_cases b with ⟨k,_⟩|⟨_,e⟩
 ·omega
 ·exact absurd (hu z e▸d) a
theorem dO.fork (hb:0<c.base)(I:c5 c k Fr w)(h:dO c aZ k Fr w.heap.size t){x y:MemOp}(r:x.g=0/\x.act= .go (c.base+k))(s:y.g=c.base+k/\y.act= .start)(h0:Deaf t 0=0)(D:Deaf t (c.base+k)=0)
  {cF:Nat->af} (F:∀q,q<=k->cF q=Fr q) (J:∀l,¬ey (cF (k+1)) l) (K:∀l,gI (cF (k+1)) l->gI (Fr 0) l):dO c aZ (k+1) cF w.heap.size (t++#[x,y]):=by
 have v:∀op∈#[x,y],∀b,op.act.touch?=some b->False:=by
  intro op d b hb
  simp only[List.mem_toArray,List.mem_cons,List.not_mem_nil,or_false] at d
  rcases d with rfl|rfl
  ·rw[r.2] at hb;cases hb
  ·rw[s.2] at hb;cases hb
 have old:∀{i:Nat} {a:Touch},touchAt (t++#[x,y]) i=some a->touchAt t i=some a/\i<t.size:=by
  intro i a n
  obtain ⟨z,A,G⟩:=touch_of n
  rcases getElem?_append_cases A with ⟨m,L⟩|⟨_,M⟩
  ·exact ⟨by rw[touchAt_of L];exact G,m⟩
  ·exact (v z M a G).elim
 refine ⟨by have:=h.len;simp;omega,fun i a n hs=>?_,fun said=>?_,fun q N l f=>?_,fun q N l f=>?_,fun i m l f=>?_,fun i m l f=>?_,fun op d=>?_,q2 h.norel fun op d=>?_,fun i a n hm=>?_,fun i g hg O H=>?_⟩
 ·obtain ⟨E,m⟩:=old n
  rcases h.quiet i a E hs with ⟨P,Q⟩|q
  ·exact .inl ⟨P,fun e=>by rw[g?_old m];exact Q e⟩
  ·refine .inr fun p I=>?_
   rcases Nat.lt_or_ge k p with C|o
   ·obtain rfl:p=k+1:=by omega
    exact fork_knows r s h0 D (q 0 (Nat.zero_le _))
   ·exact (q p o).app _
 ·have e:t++#[x,y]=(t++#[x])++#[y]:=by apply Array.ext';simp
  rw[e]
  refine noRace_append (g:=c.base+k) (noRace_append (g:=0) (h.nr said) (fun op d=>by simp at d;rw[d];exact r.1) (fun i a _ op d b hb _=>(v op (by simp at d ⊢;exact .inl d) b hb).elim))
   (fun op d=>by simp at d;rw[d];exact s.1) (fun i a _ op d b hb _=>(v op (by simp at d ⊢;exact .inr d) b hb).elim)
 ·rcases Nat.lt_or_ge k q with C|o
  ·obtain rfl:q=k+1:=by omega
   exact (J l f).elim
  ·rw[F q o] at f
   exact (h.own q o l f).app fun op d b hb _=>(v op d b hb).elim
 ·rcases Nat.lt_or_ge k q with C|o
  ·obtain rfl:q=k+1:=by omega
   exact fun i a n e hw=>fork_knows r s h0 D (h.ro 0 (Nat.zero_le _) l (K l f) i a (old n).1 e hw)
  ·rw[F q o] at f
   exact (h.ro q o l f).app fun op d b hb _ _=>(v op d b hb).elim
 ·rcases Nat.lt_or_ge i k with C|o
  ·exact (h.qX i C l f).app fun op d b hb _=>(v op d b hb).elim
  ·obtain rfl:i=k:=by omega
   exact fun j a n e=>fork_knows r s h0 D (h.qY i (Nat.le_refl _) l f j a (old n).1 e)
 ·exact (h.qY i (by omega) l f).app fun op d b hb _=>(v op d b hb).elim
 ·rcases Array.mem_append.1 d with z|z
  ·exact h.low op z
  ·simp only[List.mem_toArray,List.mem_cons,List.not_mem_nil,or_false] at z
   rcases z with rfl|rfl
   ·rw[r.2];trivial
   ·rw[s.2];trivial
 ·simp only[List.mem_toArray,List.mem_cons,List.not_mem_nil,or_false] at d
  rcases d with rfl|rfl
  ·rw[r.2];simp
  ·rw[s.2];simp
 ·obtain ⟨E,m⟩:=old n
  rcases h.known i a E hm with z|z|⟨j,B,z⟩
  ·exact .inl (z.app _)
  ·exact .inr (.inl z)
  ·exact .inr (.inr ⟨j,by omega,by rw[g?_old m];exact z⟩)
 ·have R:=H
  obtain ⟨z,A,_⟩:=H
  obtain ⟨_,m⟩:=old (show touchAt _ i=some z from A)
  rcases h.over i g (by rw[<-g?_old (u:=#[x,y]) m];exact hg) O ((counts_old m).1 R) with ⟨j,B,y'⟩|⟨j,B,y'⟩
  ·have S:j<t.size:=by
    unfold Trace.g? at B
    obtain ⟨z,A,_⟩:=Option.map_eq_some_iff.1 B
    exact lt_size_of_getElem? A
   exact .inl ⟨j,by rw[g?_old S];exact B,hb_app _ y'⟩
  ·exact .inr ⟨j,by omega,y'⟩
theorem dO.eR (h:dO c aZ k Fr w.heap.size t)(d:∀i,i<k->∃r,ff c t (c.base+i) r){y:MemOp}(f:y.g=0/\y.act= .mark (.acquire (stA c.Wg)))(h0:Deaf t 0=0)(H:c.Wg<w.heap.size):
  Past (fun l=>aZ l\/∃a,l= .cell a/\a.block=c.Wg) w.heap.size (t++#[y]):=by
 have hyp:(t++#[y])[t.size]?=some y:=by rw[Array.getElem?_append_right (Nat.le_refl _)];simp
 have A:∀op∈#[y],∀b,op.act.touch?=some b->False:=by
  intro op e b hb
  simp only[List.mem_toArray,List.mem_cons,List.not_mem_nil,or_false] at e
  rw[e,f.2] at hb;cases hb
 have old:∀{i:Nat} {a:Touch},touchAt (t++#[y]) i=some a->touchAt t i=some a/\i<t.size:=by
  intro i a v
  obtain ⟨z,p,B⟩:=touch_of v
  rcases getElem?_append_cases p with ⟨m,x⟩|⟨_,I⟩
  ·exact ⟨by rw[touchAt_of x];exact B,m⟩
  ·exact (A z I a B).elim
 have heard:(t++#[y]).heard t.size:=⟨0,by simp[Trace.g?,f.1],by rw[deaf_old (Nat.le_refl _)];exact h0⟩
 have norel:=q2 (u:=#[y]) h.norel fun op e=>by
  simp only[List.mem_toArray,List.mem_cons,List.not_mem_nil,or_false] at e
  rw[e,f.2];simp
 have C:∀g r,ff c t g r->HappensBefore (t++#[y]) r t.size:=fun g r d=>
  .single (.inr ⟨.marked (a:=stA c.Wg) (lt_of_act? d.act) (.inr (by rw[act?_old (lt_of_act? d.act)];exact d.act)) (by rw[act?_of hyp,f.2]) (fun k J _=>norel k (Nat.le_of_lt (Nat.lt_of_le_of_lt d.late J))),(heard_old (lt_of_act? d.act)).2 d.heard,heard⟩)
 have upto:∀g r i,ff c t g r->t.g? i=some g->i<=r->HappensBefore (t++#[y]) i t.size:=fun g r i d hg hle=>by
  have D:=lt_of_act? d.act
  rcases Nat.lt_or_ge i r with o|s
  ·exact .trans (.single (.inl ⟨o,g,by rw[g?_old (Nat.lt_trans o D)];exact hg,by rw[g?_old D];exact d.zK⟩)) (C g r d)
  ·obtain rfl:i=r:=by omega
   exact C g i d
 refine ⟨fun said=>noRace_append (g:=0) (h.nr said) (fun op e=>by simp at e;rw[e];exact f.1) (fun i a _ op e b hb _=>(A op e b hb).elim),fun i a v hm=>?_,fun i g hg K E=>?_,?_,fun op e=>?_⟩
 ·obtain ⟨F,m⟩:=old v
  rcases h.known i a F hm with z|z|⟨j,n,z⟩
  ·exact .inl (z.app _)
  ·exact .inr ⟨.inl z.1,z.2⟩
  ·obtain ⟨r,d⟩:=d j n
   rcases Nat.lt_or_ge r i with o|s
   ·obtain ⟨h1,_,h2⟩:=d.after i a o z F
    exact .inr ⟨.inr h2,h1⟩
   ·exact .inl ⟨t.size,y,hyp,f.1,.inr (upto _ r i d z s)⟩
 ·have L:=E
  obtain ⟨z,p,O,M⟩:=E
  obtain ⟨x,m⟩:=old (show touchAt _ i=some z from p)
  rcases h.over i g (by rw[<-g?_old (u:=#[y]) m];exact hg) K ((counts_old m).1 L) with ⟨j,n,y'⟩|⟨j,n,y'⟩
  ·have N:j<t.size:=by
    unfold Trace.g? at n
    obtain ⟨z,p,_⟩:=Option.map_eq_some_iff.1 n
    exact lt_size_of_getElem? p
   exact ⟨j,by rw[g?_old N];exact n,hb_app _ y'⟩
  ·obtain ⟨r,d⟩:=d j n
   have G:t.g? i=some (c.base+j):=by rw[<-g?_old (u:=#[y]) m,hg,y']
   rcases Nat.lt_or_ge r i with o|s
   ·obtain ⟨h1,h2,_⟩:=d.after i z o G x
    rcases M with q|q
    ·exact absurd h1 q
    ·exact absurd ((heard_old m).1 q) h2
   ·exact ⟨t.size,by simp[Trace.g?,f.1],upto _ r i d G s⟩
 ·rw[Deaf_push]
  simp only[deafStep,f.2]
  exact h0
 ·rcases Array.mem_append.1 e with z|z
  ·exact h.low op z
  ·simp only[List.mem_toArray,List.mem_cons,List.not_mem_nil,or_false] at z
   rw[z,f.2];exact H
end
end Go.Sep
end
section
namespace Go.Sep
open Go Go.Conc
open Go.ConcN (sumTo upd upd_ne upd_same sumTo_congr)
open Go.ConcM (MuAt muA msA muBlock OsLater)
open Go.ConcR (WgAt wgBlock stA smA)
def cu (m:Mark):Event:=⟨.mark m,false,true⟩
def cj (c:Cy)(w:World)(s:Sh):Prop:=MuAt c.tM c.Mu w s.mu s.ms/\WgAt c.tW c.Wg w s.wg s.ws/\w.heap[c.Is]?=some (.cells (s.is.map Value.bool).toArray c.tI)
structure gh (c:Cy)(w w':World):Prop where
 tape:w'.tape=w.tape
 output:w'.output=w.output
 size:w'.heap.size=w.heap.size
 os:OsLater w.os w'.os
 block:∀k,¬c.shared k->w'.heap[k]?=w.heap[k]?
theorem gh.refl (c:Cy)(w:World):gh c w w:=⟨rfl,rfl,rfl,.refl _,fun _ _=>rfl⟩
inductive EvA (c:Cy)(i:Nat)(ph aF:Ph)(es:Array Event):Prop
 |book (h:∀e∈es,e=cu .disable\/e=cu .enable\/∃a x,e=⟨.cell a,x,true⟩/\(a.block=c.Wg\/(a.block=c.Mu/\ph.gp= .cnt))) (hd:deafBehind ph.deaf es=aF.deaf)
   (ht:∀j e,es[j]?=some e->(MemAct.ofEvent e).touch?=none\/0<deafBehind ph.deaf (es.extract 0 j)) (hg:aF.gp= .cnt↔ph.gp= .cnt)
 |word (m:Mark) (he:es=#[cu m]) (hm:m= .acquire (muA c.Mu)\/m= .releaseMerge (muA c.Mu)) (hd:aF.deaf=ph.deaf) (hg:aF.gp= .cnt/\ph.gp= .cnt)
 |store (he:es=#[⟨.cell ⟨c.Is,i,none⟩,true,false⟩]) (hd:aF.deaf=ph.deaf) (hg:aF.gp= .cnt/\ph.gp= .cnt)
 |rel (he:es=#[cu (.releaseMerge (stA c.Wg))]) (hd:ph.deaf=0/\aF.deaf=0) (hg:ph.gp= .cnt)
def gJ (c:Cy)(i:Nat):Rk->Goroutine->af->Ph->Prop
 | .mk ι f,g,F,ph=>
  (ph.gp= .gone/\∃q,Rk.mk ι f=Rk.nat q/\QuitsD c.P q ph.deaf g)\/
  (g.status= .running/\g.offers=none/\ph.gp= .cnt/\∀w,Has F w->∃(x:ι) (g':Goroutine) (w':World) (es:Array Event) (F':af),
   stepG c.P false g w= .go g' w' es/\dm F F' w w'/\Has F' w'/\(∀e∈es,gO F.ro (fV F w.heap.size w'.heap.size) e)/\gJ c i (f x) g' F' ph)\/
  (g.status= .running/\g.offers=none/\ph.gp≠ .gone/\∀(w:World) (s:Sh) (k:Nat) (φ:Nat->Ph) (p0:P0),Has F w->cj c w s->i<c.n->φ i=ph->Inv c.n c.bs k φ p0 s->
   (ph.mp.gG=true/\s.ms=0/\stepG c.P false g w= .go {g with status:=.blocked} w #[])\/
   (∃(x:ι) (g':Goroutine) (w':World) (es:Array Event) (s':Sh) (aF:Ph) (F':af),stepG c.P false g w= .go g' w' es/\cj c w' s'/\gh c w w'/\Inv c.n c.bs k (upd φ i aF) p0 s'/\EvA c i ph aF es/\
    (mayWake c.P g=true\/(s'.ms<=s.ms/\s'.ws<=s.ws))/\Le F' F/\gJ c i (f x) g' F' aF))
def Wk (c:Cy)(i:Nat)(ph:Ph)(g:Goroutine)(F:af):Prop:=∃F0 r,Le F0 F/\gJ c i r g F0 ph
theorem Wk.mono {c:Cy}{i:Nat}{ph:Ph}{g:Goroutine}{F F':af}(hle:Le F F')(h:Wk c i ph g F):Wk c i ph g F':=
 let ⟨F0,r,h1,h2⟩:=h;⟨F0,r,h1.trans hle,h2⟩
theorem Wk.closed (c:Cy)(i:Nat)(ph:Ph)(hg:ph.gp= .cnt):Closed c.P false (fun g F=>Wk c i ph g F) where
 mono hle h:=h.mono hle
 step {fr cs F} h:=by
  classical
  let Q:World->Rk->Prop:=fun w r=>∃(g':Goroutine) (w':World) (es:Array Event) (F':af),
   stepG c.P false (G fr cs) w= .go g' w' es/\dm F F' w w'/\Has F' w'/\(∀e∈es,gO F.ro (fV F w.heap.size w'.heap.size) e)/\gJ c i r g' F' ph
  refine ⟨F,.mk World fun w=>if d:∃r,Q w r then Classical.choose d else Rk.nat 0,.refl F,?_⟩
  refine .inr (.inl ⟨rfl,rfl,hg,fun w hw=>?_⟩)
  obtain ⟨g',w',es,F',h1,h2,h3,j,F0,r,f,k⟩:=h w hw
  have d:∃r,Q w r:=⟨r,g',w',es,F0,h1,⟨h2.os,h2.tape,h2.output,h2.size,h2.frame,fun a l=>(f.ro a l).elim (h2.ro a) fun x=>.inr (h2.own _ x),fun b hb=>h2.own b (f.own b hb)⟩,f.has _ h3,j,k⟩
  obtain ⟨g',w',es,F',k1,m,n,o,p⟩:=Classical.choose_spec d
  exact ⟨w,g',w',es,F',k1,m,n,o,by simp only[dif_pos d];exact p⟩
theorem Wk.act {c:Cy}{i:Nat}{ph:Ph}{g:Goroutine}{F:af}(hs:g.status= .running)(o:g.offers=none)(hg:ph.gp≠ .gone)
  (h:∀(w:World) (s:Sh) (k:Nat) (φ:Nat->Ph) (p0:P0),Has F w->cj c w s->i<c.n->φ i=ph->Inv c.n c.bs k φ p0 s->
   (ph.mp.gG=true/\s.ms=0/\stepG c.P false g w= .go {g with status:=.blocked} w #[])\/
   (∃(g':Goroutine) (w':World) (es:Array Event) (s':Sh) (aF:Ph),stepG c.P false g w= .go g' w' es/\cj c w' s'/\gh c w w'/\Inv c.n c.bs k (upd φ i aF) p0 s'/\EvA c i ph aF es/\
    (mayWake c.P g=true\/(s'.ms<=s.ms/\s'.ws<=s.ws))/\Wk c i aF g' F)):Wk c i ph g F:=by
 classical
 let Q:World×Sh×Nat×(Nat->Ph)×P0->Rk->Prop:=fun y r=>∃(g':Goroutine) (w':World) (es:Array Event) (s':Sh) (aF:Ph) (F':af),stepG c.P false g y.1= .go g' w' es/\cj c w' s'/\gh c y.1 w'/\Inv c.n c.bs y.2.2.1 (upd y.2.2.2.1 i aF) y.2.2.2.2 s'/\EvA c i ph aF es/\
    (mayWake c.P g=true\/(s'.ms<=y.2.1.ms/\s'.ws<=y.2.1.ws))/\Le F' F/\gJ c i r g' F' aF
 refine ⟨F,.mk (World×Sh×Nat×(Nat->Ph)×P0) fun y=>if a:∃r,Q y r then Classical.choose a else Rk.nat 0,.refl F,?_⟩
 refine .inr (.inr ⟨hs,o,hg,fun w s k φ p0 h1 h2 h3 p q=>?_⟩)
 rcases h w s k φ p0 h1 h2 h3 p q with x|⟨g',w',es,s',aF,k1,b,d,e,f,j,F',r,l,m⟩
 ·exact .inl x
 ·have a:∃r,Q (w,s,k,φ,p0) r:=⟨r,g',w',es,s',aF,F',k1,b,d,e,f,j,l,m⟩
  obtain ⟨g',w',es,s',aF,F',k1,b,d,e,f,j,l,m⟩:=Classical.choose_spec a
  exact .inr ⟨(w,s,k,φ,p0),g',w',es,s',aF,F',k1,b,d,e,f,j,l,by simp only[dif_pos a];exact m⟩
theorem Wk.gone {c:Cy}{i:Nat}{ph:Ph}{g:Goroutine}{F:af}{q:Nat}(hg:ph.gp= .gone)(h:QuitsD c.P q ph.deaf g):Wk c i ph g F:=by
 refine ⟨F,Rk.nat q,.refl F,?_⟩
 cases q with
 |zero=>exact .inl ⟨hg,0,rfl,h⟩
 |succ q=>exact .inl ⟨hg,q+1,rfl,h⟩
structure cT (c:Cy)(B0:Nat)(F F':af)(w w':World):Prop where
 os:OsLater w.os w'.os
 tape:w'.tape=w.tape
 output:w'.output=w.output
 size:w.heap.size<=w'.heap.size
 frame:∀b,b<B0->b∉keys F.own->¬c.shared b->w'.heap[b]?=w.heap[b]?
 ro:∀a,(F'.ro a).isSome=true->(F.ro a).isSome=true\/a.block∈keys F.own\/B0<=a.block\/c.shared a.block
 own:∀b,b∈keys F'.own->b∈keys F.own\/B0<=b\/c.shared b
theorem cT.refl (c:Cy)(B0:Nat)(F:af)(w:World):cT c B0 F F w w:=⟨.refl _,rfl,rfl,Nat.le_refl _,fun _ _ _ _=>rfl,fun _ h=>.inl h,fun _ h=>.inl h⟩
theorem cT.trans {c:Cy}{B0:Nat}{F G H:af}{u v w:World}(h:cT c B0 F G u v)(k:cT c B0 G H v w):cT c B0 F H u w where
 os:=h.os.trans k.os
 tape:=k.tape.trans h.tape
 output:=k.output.trans h.output
 size:=Nat.le_trans h.size k.size
 frame b hb d hs:=by
  rw[k.frame b hb (fun e=>(h.own b e).elim d fun x=>x.elim (fun y=>absurd hb (by omega)) hs) hs]
  exact h.frame b hb d hs
 ro a x:=by
  rcases k.ro a x with y|y|y
  ·exact h.ro a y
  ·exact .inr (h.own _ y)
  ·exact .inr (.inr y)
 own b hb:=by
  rcases k.own b hb with x|x
  ·exact h.own b x
  ·exact .inr x
theorem cT.le {c:Cy}{B0:Nat}{F G H:af}{w w':World}(h:Le F G)(u:cT c B0 F H w w'):cT c B0 G H w w' where
 os:=u.os
 tape:=u.tape
 output:=u.output
 size:=u.size
 frame b hb d hs:=u.frame b hb (fun x=>d (h.own b x)) hs
 ro a x:=by
  rcases u.ro a x with y|y|y
  ·exact (h.ro a y).imp id .inl
  ·exact .inr (.inl (h.own _ y))
  ·exact .inr (.inr y)
 own b hb:=(u.own b hb).imp (h.own b) id
def mO (c:Cy)(i:Nat)(r:Rk)(x:Goroutine)(F:af)(ph:Ph)(s:Sh):Prop:=
 (ph.gp= .gone/\∃q,r=Rk.nat q/\QuitsD c.P q ph.deaf x)\/
 (ph.gp≠ .gone/\gJ c i r {x with status:=.running} F ph/\x.offers=none/\(x.status= .running\/(x.status= .blocked/\ph.mp.gG=true/\s.ms=0)))
structure c6 (c:Cy)(B0:Nat)(aZ:Loc->Prop)(p0:P0)(d0 k:Nat)(g:Goroutine)(Fr:Nat->af)(gs:Array Goroutine)(w:World)(t:Trace)(ρ:Nat->Rk)(φ:Nat->Ph)(s:Sh):Prop where
 size:gs.size=c.base+k
 base:0<c.base
 run:g.status= .running
 off:g.offers=none
 g0:∃x,gs[0]?=some x/\{x with status:=.running}=g/\(x.status= .running\/(x.status= .blocked/\p0= .reg/\s.ws=0))
 old:∀j x,0<j->j<c.base->gs[j]?=some x->∃q,ρ j=Rk.nat q/\QuitsD c.P q (Deaf t j) x
 wk:∀i,i<k->∃x,gs[c.base+i]?=some x/\mO c i (ρ (c.base+i)) x (Fr (i+1)) (φ i) s
 deaf:∀i,i<k->Deaf t (c.base+i)=(φ i).deaf
 above:∀j,gs.size<=j->Deaf t j=0
 deaf0:Deaf t 0=d0
 parts:c5 c k Fr w
 sh:cj c w s
 inv:Inv c.n c.bs k φ p0 s
 fR:dO c aZ k Fr w.heap.size t
 rel:∀i,i<k->(φ i).gp≠ .cnt->∃r,ff c t (c.base+i) r
 apart:∀l,aZ l->¬(Fr 0).fF l
 low:∀l,aZ l->l.low B0
 hH:∀i,i<k->∀b∈keys (Fr (i+1)).own,B0<=b
 hO:B0<=w.heap.size
 ne:c.Mu≠c.Wg/\c.Mu≠c.Is/\c.Wg≠c.Is
section
variable {c : Cy} {B0 : Nat} {aZ : Loc → Prop} {p0 : P0} {d0 k : Nat} {g : Goroutine} {Fr : Nat → af} {gs : Array Goroutine} {w : World} {t : Trace} {ρ : Nat → Rk} {φ : Nat → Ph} {s : Sh}
theorem Inv.zS (h:Inv c.n c.bs k φ p0 s):0<=s.ms:=by
 obtain ⟨C,S,W,L,m,hm⟩:=h.m
 have:=hm.cnt
 omega
theorem Inv.E1 (h:Inv c.n c.bs k φ p0 s):0<=s.ws:=by
 have:=h.w.inv
 cases p0<;>simp only at this<;>omega
theorem mO.woken {i:Nat}{r:Rk}{x:Goroutine}{F:af}{ph:Ph}{s s':Sh}(h:mO c i r x F ph s){y y':Goroutine}{w':World}(h0:0<=s'.ms)
  (hw:(mayWake c.P y=true/\y'.status≠ .blocked/\y'.status≠ .waiting)\/s'.ms<=s.ms):mO c i r (woken c.P y y' w' x) F ph s':=by
 rcases h with ⟨hg,q,m,j⟩|⟨hg,f,e,n⟩
 ·exact .inl ⟨hg,q,m,by rw[woken_quitsD j];exact j⟩
 ·rcases n with k|⟨l,o,t⟩
  ·rw[woken_run k];exact .inr ⟨hg,f,e,.inl k⟩
  ·have p:x.again w'={x with status:=.running}:=by
    unfold Goroutine.again
    simp only[l,e]
   by_cases g:(mayWake c.P y&&y'.status != .blocked&&y'.status != .waiting)=true
   ·have:Go.Conc.woken c.P y y' w' x={x with status:=.running}:=by unfold Go.Conc.woken;rw[if_pos g,p]
    rw[this]
    exact .inr ⟨hg,f,e,.inl rfl⟩
   ·have:Go.Conc.woken c.P y y' w' x=x:=by unfold Go.Conc.woken;rw[if_neg g]
    rw[this]
    refine .inr ⟨hg,f,e,.inr ⟨l,o,?_⟩⟩
    rcases hw with ⟨a,b,d⟩|hw
    ·simp[a,b,d] at g
    ·omega
theorem E2 {x:Goroutine}{s s':Sh}(h:x.offers=none)(i:x.status= .running\/(x.status= .blocked/\p0= .reg/\s.ws=0)){y y':Goroutine}{w':World}(h0:0<=s'.ws)
  (hw:(mayWake c.P y=true/\y'.status≠ .blocked/\y'.status≠ .waiting)\/s'.ws<=s.ws):
  {woken c.P y y' w' x with status:=.running}=({x with status:=.running}:Goroutine)/\((woken c.P y y' w' x).status= .running\/((woken c.P y y' w' x).status= .blocked/\p0= .reg/\s'.ws=0)):=by
 rcases i with f|⟨g,j,l⟩
 ·rw[woken_run f];exact ⟨rfl,.inl f⟩
 ·have k:x.again w'={x with status:=.running}:=by
   unfold Goroutine.again
   simp only[g,h]
  by_cases e:(mayWake c.P y&&y'.status != .blocked&&y'.status != .waiting)=true
  ·have:Go.Conc.woken c.P y y' w' x={x with status:=.running}:=by unfold Go.Conc.woken;rw[if_pos e,k]
   rw[this]
   exact ⟨rfl,.inl rfl⟩
  ·have:Go.Conc.woken c.P y y' w' x=x:=by unfold Go.Conc.woken;rw[if_neg e]
   rw[this]
   refine ⟨rfl,.inr ⟨g,j,?_⟩⟩
   rcases hw with ⟨a,b,d⟩|hw
   ·simp[a,b,d] at e
   ·omega
theorem c6.iK (h:c6 c B0 aZ p0 d0 k g Fr gs w t ρ φ s){j:Nat}{x f:Goroutine}{w':World}{es:Array Event}{fn:FuncId}{pos:String}{ρ':Nat->Rk}{φ':Nat->Ph}{cF:Nat->af}{s':Sh}(W:0<j)(F:gs[j]?=some x)
  (B:(mayWake c.P x=true/\f.status≠ .blocked/\f.status≠ .waiting)\/(s'.ms<=s.ms/\s'.ws<=s.ws))
  (C:∀a,a≠j->ρ' a=ρ a) (A:∀i,c.base+i≠j->φ' i=φ i) (D:∀i,c.base+i≠j->cF (i+1)=Fr (i+1)) (G:cF 0=Fr 0)
  (hold:j<c.base->∃q,ρ' j=Rk.nat q/\QuitsD c.P q (Deaf (t++MemOp.ofEvents j fn pos es) j) f)
  (u:∀i,j=c.base+i->i<k->mO c i (ρ' j) f (cF (i+1)) (φ' i) s'/\Deaf (t++MemOp.ofEvents j fn pos es) j=(φ' i).deaf/\((φ' i).gp≠ .cnt->∃r,ff c (t++MemOp.ofEvents j fn pos es) j r)/\∀b∈keys (cF (i+1)).own,B0<=b)
  (H:c5 c k cF w') (I:cj c w' s') (hinv:Inv c.n c.bs k φ' p0 s') (J:dO c aZ k cF w'.heap.size (t++MemOp.ofEvents j fn pos es)) (K:w.heap.size<=w'.heap.size):
  c6 c B0 aZ p0 d0 k g cF ((gs.map (woken c.P x f w')).setIfInBounds j f) w' (t++MemOp.ofEvents j fn pos es) ρ' φ' s':=by
 have L:j<gs.size:=(Array.getElem?_eq_some_iff.1 F).1
 have hu:∀op∈MemOp.ofEvents j fn pos es,op.g=j:=fun op M=>by obtain ⟨e,_,rfl⟩:=Go.Conc.mem_ofEvents M;rfl
 have other:∀a,a≠j->∀y,((gs.map (woken c.P x f w')).setIfInBounds j f)[a]?=some y->∃z,gs[a]?=some z/\y=woken c.P x f w' z:=fun a d y p=>by
  rw[Array.getElem?_setIfInBounds_ne (Ne.symm d),Array.getElem?_map] at p
  obtain ⟨z,o,rfl⟩:=Option.map_eq_some_iff.1 p
  exact ⟨z,o,rfl⟩
 have at_:∀a z,a≠j->gs[a]?=some z->((gs.map (woken c.P x f w')).setIfInBounds j f)[a]?=some (woken c.P x f w' z):=fun a z d o=>by
  rw[Array.getElem?_setIfInBounds_ne (Ne.symm d),Array.getElem?_map,o];rfl
 have self:((gs.map (woken c.P x f w')).setIfInBounds j f)[j]?=some f:=Array.getElem?_setIfInBounds_self_of_lt (by simpa using L)
 have v:∀a,a≠j->Deaf (t++MemOp.ofEvents j fn pos es) a=Deaf t a:=fun a d=>Deaf_other t (Ne.symm d) _ hu
 have N:(mayWake c.P x=true/\f.status≠ .blocked/\f.status≠ .waiting)\/s'.ms<=s.ms:=B.imp id And.left
 have O:(mayWake c.P x=true/\f.status≠ .blocked/\f.status≠ .waiting)\/s'.ws<=s.ws:=B.imp id And.right
 refine ⟨by simpa using h.size,h.base,h.run,h.off,?_,fun a y h0 hb p=>?_,fun i m=>?_,fun i m=>?_,fun a Q=>?_,?_,H,I,hinv,J,fun i m hg=>?_,fun l R=>by rw[G];exact h.apart l R,h.low,fun i m b hb=>?_,Nat.le_trans h.hO K,h.ne⟩
 ·obtain ⟨z,o,e,S⟩:=h.g0
  have T:z.offers=none:=by have:=h.off;rw[<-e] at this;exact this
  obtain ⟨h1,h2⟩:=E2 (c:=c) (p0:=p0) (s':=s') (y:=x) (y':=f) (w':=w') T S hinv.E1 O
  exact ⟨_,at_ 0 z (by omega) o,h1.trans e,h2⟩
 ·by_cases d:a=j
  ·subst d
   rw[self] at p
   cases p
   exact hold hb
  ·obtain ⟨z,o,rfl⟩:=other a d y p
   obtain ⟨q,U,E⟩:=h.old a z h0 hb o
   exact ⟨q,by rw[C a d];exact U,by rw[woken_quitsD E,v a d];exact E⟩
 ·by_cases d:c.base+i=j
  ·subst d
   exact ⟨f,self,(u i rfl m).1⟩
  ·obtain ⟨z,o,hW⟩:=h.wk i m
   refine ⟨_,at_ _ z d o,?_⟩
   rw[C _ d,A i d,D i d]
   exact hW.woken hinv.zS N
 ·by_cases d:c.base+i=j
  ·subst d;exact (u i rfl m).2.1
  ·rw[v _ d,A i d];exact h.deaf i m
 ·have:gs.size<=a:=by simpa using Q
  rw[v a (by omega)]
  exact h.above a this
 ·rw[v 0 (by omega)];exact h.deaf0
 ·by_cases d:c.base+i=j
  ·subst d;exact (u i rfl m).2.2.1 hg
  ·rw[A i d] at hg
   obtain ⟨r,V⟩:=h.rel i m hg
   exact ⟨r,V.other (Ne.symm d) hu⟩
 ·by_cases d:c.base+i=j
  ·exact (u i d.symm m).2.2.2 b hb
  ·rw[D i d] at hb;exact h.hH i m b hb
end
end Go.Sep
end
section
namespace Go.Sep
open Go Go.Conc
open Go.ConcN (sumTo upd upd_ne upd_same sumTo_congr sumTo_upd)
open Go.ConcM (MuAt muA msA muBlock OsLater)
open Go.ConcR (WgAt wgBlock stA smA)
def j0 (x:Option Goroutine):Nat:=match x with
 |some x=>if x.status= .running then 1 else 0
 |none=>0
def runs (gs:Array Goroutine):Nat:=sumTo gs.size fun j=>j0 gs[j]?
theorem zT {gs:Array Goroutine}{j:Nat}{x y:Goroutine}(c:gs[j]?=some x)(f:x.status= .running)(g:y.status≠ .running):runs (gs.setIfInBounds j y)<runs gs:=by
 have d:j<gs.size:=(Array.getElem?_eq_some_iff.1 c).1
 have h:=sumTo_upd (fun a=>j0 gs[a]?) (0:Nat) id d
 simp only[id] at h
 have e:runs (gs.setIfInBounds j y)=sumTo gs.size (upd (fun a=>j0 gs[a]?) j 0):=by
  unfold runs
  rw[Array.size_setIfInBounds]
  refine sumTo_congr fun a i=>?_
  by_cases b:a=j
  ·subst b
   rw[upd_same,Array.getElem?_setIfInBounds_self_of_lt d]
   simp[j0,g]
  ·rw[upd_ne _ _ b,Array.getElem?_setIfInBounds_ne (Ne.symm b)]
 have h1:j0 gs[j]?=1:=by rw[c];simp[j0,f]
 rw[e]
 unfold runs
 simp only[h1] at h
 have:sumTo gs.size (fun a=>upd (fun a=>j0 gs[a]?) j 0 a)=sumTo gs.size (upd (fun a=>j0 gs[a]?) j 0):=rfl
 omega
theorem gJ.up {c:Cy}{i:Nat}{r:Rk}{g:Goroutine}{F:af}{ph:Ph}(h:gJ c i r g F ph)(hg:ph.gp≠ .gone):g.status= .running/\g.offers=none:=by
 cases r with
 |mk ι f=>
  rcases h with h|h|h
  ·exact absurd h.1 hg
  ·exact ⟨h.1,h.2.1⟩
  ·exact ⟨h.1,h.2.1⟩
theorem gJ.left {c:Cy}{i:Nat}{r:Rk}{g:Goroutine}{F:af}{ph:Ph}(h:gJ c i r g F ph)(hg:ph.gp= .gone):∃q,r=Rk.nat q/\QuitsD c.P q ph.deaf g:=by
 cases r with
 |mk ι f=>
  rcases h with h|h|h
  ·exact h.2
  ·rw[hg] at h;cases h.2.2.1
  ·exact absurd hg h.2.2.1
theorem gJ.vh {c:Cy}{i:Nat}{r:Rk}{g:Goroutine}{F:af}{ph:Ph}(h:gJ c i r g F ph)(s:Sh):mO c i r g F ph s/\g.status≠ .blocked/\g.status≠ .waiting:=by
 by_cases hg:ph.gp= .gone
 ·obtain ⟨q,b,a⟩:=h.left hg
  refine ⟨.inl ⟨hg,q,b,a⟩,?_,?_⟩<;>rcases a.status with e|e<;>rw[e]<;>simp
 ·obtain ⟨h1,h2⟩:=h.up hg
  refine ⟨.inr ⟨hg,?_,h2,.inl h1⟩,by rw[h1];simp,by rw[h1];simp⟩
  have:({g with status:=.running}:Goroutine)=g:=by cases g;simp_all
  rw[this];exact h
section
variable {c : Cy} {B0 : Nat} {aZ : Loc → Prop} {p0 : P0} {d0 k : Nat} {g : Goroutine} {Fr : Nat → af} {gs : Array Goroutine} {w : World} {t u : Trace} {ρ : Nat → Rk} {φ : Nat → Ph} {s : Sh}
theorem dO.still {B:Nat}(h:dO c aZ k Fr B t)(w:∀op∈u,op.act.touch?=none)(f:∀op∈u,op.act.low B)(x:∀op∈u,op.act≠ .mark (.release (stA c.Wg))){gg:Nat}(hu:∀op∈u,op.g=gg):dO c aZ k Fr B (t++u):=by
 have m:∀op∈u,∀b,op.act.touch?=some b->False:=fun op d b hb=>by rw[w op d] at hb;cases hb
 have old:∀{i:Nat} {a:Touch},touchAt (t++u) i=some a->touchAt t i=some a/\i<t.size:=by
  intro i a p
  obtain ⟨z,n,s⟩:=touch_of p
  rcases getElem?_append_cases n with ⟨e,y⟩|⟨_,A⟩
  ·exact ⟨by rw[touchAt_of y];exact s,e⟩
  ·exact (m z A a s).elim
 refine ⟨by have:=h.len;simp;omega,zR h.quiet fun op d b hb _=>(m op d b hb).elim,fun said=>noRace_append (g:=gg) (h.nr said) hu fun i a _ op d b hb _=>(m op d b hb).elim,fun q r l f=>(h.own q r l f).app fun op d b hb _=>(m op d b hb).elim,fun q r l f=>(h.ro q r l f).app fun op d b hb _ _=>(m op d b hb).elim,
  fun i e l f=>(h.qX i e l f).app fun op d b hb _=>(m op d b hb).elim,fun i e l f=>(h.qY i e l f).app fun op d b hb _=>(m op d b hb).elim,fun op d=>(Array.mem_append.1 d).elim (h.low op) (f op),q2 h.norel x,fun i a p hm=>?_,fun i g hg C v=>?_⟩
 ·obtain ⟨D,e⟩:=old p
  rcases h.known i a D hm with z|z|⟨j,o,z⟩
  ·exact .inl (z.app _)
  ·exact .inr (.inl z)
  ·exact .inr (.inr ⟨j,o,by rw[g?_old e];exact z⟩)
 ·have E:=v
  obtain ⟨z,n,_⟩:=v
  obtain ⟨_,e⟩:=old (show touchAt _ i=some z from n)
  rcases h.over i g (by rw[<-g?_old (u:=u) e];exact hg) C ((counts_old e).1 E) with ⟨j,o,y'⟩|y'
  ·have F:j<t.size:=by
    unfold Trace.g? at o
    obtain ⟨z,n,_⟩:=Option.map_eq_some_iff.1 o
    exact lt_size_of_getElem? n
   exact .inl ⟨j,by rw[g?_old F];exact o,hb_app _ y'⟩
  ·exact .inr y'
theorem dO.mute {B:Nat}(h:dO c aZ k Fr B t){j:Nat}{fn:FuncId}{pos:String}{es:Array Event}(hm:∀e∈es,e.mute=true):dO c aZ k Fr B (t++MemOp.ofEvents j fn pos es):=by
 refine h.still (gg:=j) (fun op a=>?_) (fun op a=>?_) (fun op a=>?_) (fun op a=>?_)<;>obtain ⟨e,he,rfl⟩:=Go.Conc.mem_ofEvents a
 ·exact touch_mute (hm e he)
 ·exact low_mute (hm e he) B
 ·have:=hm e he
  obtain ⟨loc,wr,sy⟩:=e
  cases loc with
  |mark m=>cases m<;>simp_all [Event.mute,MemAct.ofEvent]
  |_=>simp_all [Event.mute]
 ·rfl
theorem Inv.deaf {n:Nat}{bs:Nat->Bool}(h:Inv n bs k φ p0 s){i:Nat}(c:i<n)(hg:(φ i).gp≠ .new)(d:Nat):Inv n bs k (upd φ i {φ i with deaf:=d}) p0 s:=by
 obtain ⟨C,S,W,L,m,hm⟩:=h.m
 refine ⟨⟨C,S,W,L,m,lA hm c _ (.inl rfl)⟩,qW h.w c _ (.inl rfl),h.i.len,h.i.kn,fun j a=>?_,fun j a=>?_,fun j a b=>?_,fun j a h1 h2=>?_⟩<;>by_cases e:j=i
 ·subst e;rw[upd_same];exact h.i.all j a
 ·rw[upd_ne _ _ e];exact h.i.all j a
 ·subst e;rw[upd_same];exact h.i.born j a
 ·rw[upd_ne _ _ e];exact h.i.born j a
 ·subst e;rw[upd_same] at b;exact absurd b hg
 ·rw[upd_ne _ _ e] at b ⊢;exact h.i.new j a b
 ·subst e;rw[upd_same] at h1 h2 ⊢;exact h.i.done j a h1 h2
 ·rw[upd_ne _ _ e] at h1 h2 ⊢;exact h.i.done j a h1 h2
theorem cj.keep {w w':World}(h:cj c w s)(he:∀b,c.shared b->w'.heap[b]?=w.heap[b]?):cj c w' s:=by
 obtain ⟨h1,h2,h3⟩:=h
 refine ⟨?_,?_,?_⟩
 ·unfold MuAt at*;rw[he _ (.inl rfl)];exact h1
 ·unfold WgAt at*;rw[he _ (.inr (.inl rfl))];exact h2
 ·rw[he _ (.inr (.inr rfl))];exact h3
theorem c5.walk (h:c5 c k Fr w){p:Nat}(s:p<=k){F':af}{w':World}(hu:dm (Fr p) F' w w')(t:Has F' w'):c5 c k (upd Fr p F') w':=by
 have keep:∀b,b<w.heap.size->b∉keys (Fr p).own->w'.heap[b]?=w.heap[b]?:=hu.frame
 have j:∀q,q≠p->(upd Fr p F') q=Fr q:=fun q d=>upd_ne _ _ d
 have self:(upd Fr p F') p=F':=upd_same _ _ _
 refine ⟨fun q d=>?_,fun q r d f i b hb l=>?_,fun q r d f i a g hb=>?_,fun q d b hb hs=>?_,fun q d a g hs=>?_,fun b hb=>Nat.lt_of_lt_of_le (h.fD b hb) hu.size⟩
 ·by_cases e:q=p
  ·subst e;rw[self];exact t
  ·rw[j q e]
   have m:=h.has q d
   exact ⟨fun a v f=>by
    have:=m.ro a v f
    unfold World.cell? at this ⊢
    rw[keep _ (m.fW (a:=a) (by rw[f];rfl)) (fun hm=>h.ro q p d s e a (by rw[f];rfl) hm)]
    exact this,fun b o hb=>by rw[keep b (m.lt (ep hb)) (fun hm=>h.own q p d s e b (ep hb) hm)];exact m.own b o hb,m.nodup,m.apart⟩
 ·by_cases eq:q=p
  ·subst eq
   rw[self] at hb
   rw[j r (Ne.symm i)] at l
   rcases hu.own b hb with x|x
   ·exact h.own q r d f i b x l
   ·have:=(h.has r f).lt l;omega
  ·rw[j q eq] at hb
   by_cases n:r=p
   ·subst n
    rw[self] at l
    rcases hu.own b l with x|x
    ·exact h.own q r d f i b hb x
    ·have:=(h.has q d).lt hb;omega
   ·rw[j r n] at l
    exact h.own q r d f i b hb l
 ·by_cases eq:q=p
  ·subst eq
   rw[self] at g
   rw[j r (Ne.symm i)] at hb
   rcases hu.ro a g with x|x|x
   ·exact h.ro q r d f i a x hb
   ·exact h.own q r d f i _ x hb
   ·have:=(h.has r f).lt hb;omega
  ·rw[j q eq] at g
   by_cases n:r=p
   ·subst n
    rw[self] at hb
    rcases hu.own _ hb with x|x
    ·exact h.ro q r d f i a g x
    ·have:=(h.has q d).fW g;omega
   ·rw[j r n] at hb
    exact h.ro q r d f i a g hb
 ·by_cases e:q=p
  ·subst e
   rw[self] at hb
   rcases hu.own b hb with x|x
   ·exact h.fQ q d b x hs
   ·have:=h.fD b hs;omega
  ·rw[j q e] at hb
   exact h.fQ q d b hb hs
 ·by_cases e:q=p
  ·subst e
   rw[self] at g
   rcases hu.ro a g with x|x|x
   ·exact h.g9 q d a x hs
   ·exact h.fQ q d _ x hs
   ·have:=h.fD _ hs;omega
  ·rw[j q e] at g
   exact h.g9 q d a g hs
theorem c5.act (h:c5 c k Fr w){p:Nat}(u:p<=k){F':af}{w':World}(he:gh c w w')(hle:Le F' (Fr p)):c5 c k (upd Fr p F') w':=by
 have n:∀q,q<=k->Has (Fr q) w':=fun q d=>by
  have j:=h.has q d
  exact ⟨fun a v g=>by
   have:=j.ro a v g
   unfold World.cell? at this ⊢
   rw[he.block _ (h.g9 q d a (by rw[g];rfl))]
   exact this,fun b o hb=>by rw[he.block b (h.fQ q d b (ep hb))];exact j.own b o hb,j.nodup,j.apart⟩
 have m:∀q,q≠p->(upd Fr p F') q=Fr q:=fun q d=>upd_ne _ _ d
 have self:(upd Fr p F') p=F':=upd_same _ _ _
 have i:∀q b,b∈keys ((upd Fr p F') q).own->b∈keys (Fr q).own:=fun q b hb=>by
  by_cases e:q=p
  ·subst e;rw[self] at hb;exact hle.own b hb
  ·rw[m q e] at hb;exact hb
 have s:∀q a,(((upd Fr p F') q).ro a).isSome=true->((Fr q).ro a).isSome=true\/a.block∈keys (Fr q).own:=fun q a f=>by
  by_cases e:q=p
  ·subst e;rw[self] at f;exact hle.ro a f
  ·rw[m q e] at f;exact .inl f
 refine ⟨fun q d=>?_,fun q r d g l b hb t=>h.own q r d g l b (i q b hb) (i r b t),fun q r d g l a f hb=>(s q a f).elim (fun x=>h.ro q r d g l a x (i r _ hb)) (fun x=>h.own q r d g l _ x (i r _ hb)),
  fun q d b hb hs=>h.fQ q d b (i q b hb) hs,fun q d a f hs=>(s q a f).elim (fun x=>h.g9 q d a x hs) (fun x=>h.fQ q d _ x hs),fun b hb=>by rw[he.size];exact h.fD b hb⟩
 by_cases e:q=p
 ·subst e;rw[self];exact hle.has _ (n q d)
 ·rw[m q e];exact n q d
theorem c5.at (h:c5 c k Fr w)(d:Nat):c5 c k Fr (w.at d):=⟨fun p a=>(h.has p a).at d,h.own,h.ro,h.fQ,h.g9,h.fD⟩
theorem c6.at (h:c6 c B0 aZ p0 d0 k g Fr gs w t ρ φ s)(d:Nat):c6 c B0 aZ p0 d0 k g Fr gs (w.at d) t ρ φ s:=
 ⟨h.size,h.base,h.run,h.off,h.g0,h.old,h.wk,h.deaf,h.above,h.deaf0,h.parts.at d,h.sh,h.inv,h.fR,h.rel,h.apart,h.low,h.hH,h.hO,h.ne⟩
theorem j3 {F:af}{w w':World}(g:Has F w)(h:w.heap.size<=w'.heap.size){e:Event}(he:gO F.ro (fV F w.heap.size w'.heap.size) e)(p:Nat):
  (∀x,(MemAct.ofEvent e).touch?=some x->qZ c F w.heap.size p x)/\(MemAct.ofEvent e).low w'.heap.size/\MemAct.ofEvent e≠ .mark (.release (stA c.Wg))/\e.loc≠ .mark .disable/\e.loc≠ .mark .enable:=by
 have hm:∀b,fV F w.heap.size w'.heap.size b->b<w'.heap.size:=fun b hb=>hb.elim (fun x=>Nat.lt_of_lt_of_le (g.lt x) h) (fun x=>x.2)
 rcases he with ⟨a,wr,rfl,d⟩|⟨r,wr,rfl,d⟩|⟨m,rfl,i⟩
 ·refine ⟨fun x f=>?_,?_,by cases wr<;>simp[MemAct.ofEvent],by simp,by simp⟩
  ·have e1:x=⟨.cell a,wr,.plain⟩:=by cases wr<;>simp[MemAct.ofEvent,MemAct.touch?] at f<;>rw[<-f]
   subst e1
   rcases d with (d|d)|⟨hw,d⟩
   ·exact .inl d
   ·exact .inr (.inl d.1)
   ·exact .inr (.inr (.inl ⟨⟨a,rfl,d⟩,hw⟩))
  ·have:a.block<w'.heap.size:=d.elim (hm _) fun x=>Nat.lt_of_lt_of_le (g.fW x.2) h
   cases wr<;>exact this
 ·refine ⟨fun x f=>?_,?_,by cases wr<;>simp[MemAct.ofEvent],by simp,by simp⟩
  ·have e1:x=⟨.obj r,wr,.plain⟩:=by cases wr<;>simp[MemAct.ofEvent,MemAct.touch?] at f<;>rw[<-f]
   subst e1
   rcases d with d|d
   ·exact .inl d
   ·exact .inr (.inl d.1)
  ·have:=hm _ d
   cases wr<;>exact this
 ·cases m<;>simp[mY] at i<;>exact ⟨fun x d=>by simp[MemAct.ofEvent,MemAct.touch?] at d,trivial,by simp[MemAct.ofEvent],by simp,by simp⟩
theorem E3 {i:Nat}{ph aF:Ph}{es:Array Event}(h:EvA c i ph aF es)(F:af)(B:Nat)(f:∀b,c.shared b->b<B):∀e∈es,
  (∀x,(MemAct.ofEvent e).touch?=some x->qZ c F B (i+1) x)/\(MemAct.ofEvent e).low B/\MemAct.ofEvent e≠ .mark (.release (stA c.Wg)):=by
 intro e he
 cases h with
 |book h hd ht hg=>
  rcases h e he with rfl|rfl|⟨a,x,rfl,k⟩
  ·exact ⟨fun x d=>by simp[cu,MemAct.ofEvent,MemAct.touch?] at d,trivial,by simp[cu,MemAct.ofEvent]⟩
  ·exact ⟨fun x d=>by simp[cu,MemAct.ofEvent,MemAct.touch?] at d,trivial,by simp[cu,MemAct.ofEvent]⟩
  ·refine ⟨fun y g=>?_,?_,by cases x<;>simp[MemAct.ofEvent]⟩
   ·have:y=⟨.cell a,x,.atomic⟩:=by cases x<;>simp[MemAct.ofEvent,MemAct.touch?] at g<;>rw[<-g]
    subst this
    exact .inr (.inr (.inr (.inl ⟨⟨a,rfl,k.elim .inr fun z=>.inl z.1⟩,by simp,by simp⟩)))
   ·have:a.block<B:=f _ (k.elim (fun z=>.inr (.inl z)) fun z=>.inl z.1)
    cases x<;>exact this
 |word m j hm hd hg=>
  rw[j] at he
  simp only[List.mem_toArray,List.mem_singleton] at he
  subst he
  rcases hm with rfl|rfl
  ·exact ⟨fun x d=>by simp[cu,MemAct.ofEvent,MemAct.touch?] at d,f _ (.inl rfl),by simp[cu,MemAct.ofEvent]⟩
  ·exact ⟨fun x d=>by simp[cu,MemAct.ofEvent,MemAct.touch?] at d,f _ (.inl rfl),by simp[cu,MemAct.ofEvent]⟩
 |store j hd hg=>
  rw[j] at he
  simp only[List.mem_toArray,List.mem_singleton] at he
  subst he
  refine ⟨fun y g=>?_,f _ (.inr (.inr rfl)),by simp[MemAct.ofEvent]⟩
  have:y=⟨.cell ⟨c.Is,i,none⟩,true,.plain⟩:=by simp[MemAct.ofEvent,MemAct.touch?] at g;rw[<-g]
  subst this
  exact .inr (.inr (.inr (.inr (.inl ⟨i,rfl,rfl⟩))))
 |rel j hd hg=>
  rw[j] at he
  simp only[List.mem_toArray,List.mem_singleton] at he
  subst he
  exact ⟨fun x d=>by simp[cu,MemAct.ofEvent,MemAct.touch?] at d,f _ (.inr (.inl rfl)),by simp[cu,MemAct.ofEvent]⟩
theorem E4 {i:Nat}{ph aF:Ph}{es:Array Event}(h:EvA c i ph aF es):deafBehind ph.deaf es=aF.deaf:=by
 cases h with
 |book h hd ht hg=>exact hd
 |word m a hm hd hg=>rw[a,hd];rcases hm with rfl|rfl<;>simp[cu,deafBehind]
 |store a hd hg=>rw[a,hd];simp[deafBehind]
 |rel a hd hg=>rw[a,hd.2,hd.1];simp[cu,deafBehind]
theorem E5 (d:Nat)(es:Array Event)(n:Nat)(h:n<=es.size){fn:FuncId}{pos:String}{j:Nat}(t:Trace)(hd:Deaf t j=d):(t++MemOp.ofEvents j fn pos es).deaf j (t.size+n)=deafBehind d (es.extract 0 n):=by
 have e1:es=es.extract 0 n++es.extract n es.size:=by simp[Array.extract_append_extract,h]
 have e2:MemOp.ofEvents j fn pos es=MemOp.ofEvents j fn pos (es.extract 0 n)++MemOp.ofEvents j fn pos (es.extract n es.size):=by
  rw[Go.Conc.ofEvents_eq,Go.Conc.ofEvents_eq,Go.Conc.ofEvents_eq,<-Array.map_append,<-e1]
 rw[e2,<-Array.append_assoc]
 have hs:(t++MemOp.ofEvents j fn pos (es.extract 0 n)).size=t.size+n:=by rw[Go.Conc.ofEvents_eq];simp;omega
 rw[<-hs,deaf_old (Nat.le_refl _)]
 have:=Deaf_own t j fn pos (es.extract 0 n)
 unfold Deaf at this
 rw[this]
 exact congrArg (fun d=>deafBehind d _) hd
theorem E6 {i j:Nat}{ph aF:Ph}{es:Array Event}{fn:FuncId}{pos:String}(hlen:c.T0<=t.size)(h:EvA c i ph aF es)(hd:Deaf t j=ph.deaf)(k:ph.gp≠ .cnt->∃r,ff c t j r)(l:aF.gp≠ .cnt):∃r,ff c (t++MemOp.ofEvents j fn pos es) j r:=by
 cases h with
 |book h d ht hg=>
  have o:ph.gp≠ .cnt:=fun e=>l (hg.2 e)
  obtain ⟨r,k⟩:=k o
  refine ⟨r,k.app fun idx x p s n=>?_⟩
  obtain ⟨z,f,b⟩:=touch_of n
  have u:(MemOp.ofEvents j fn pos es)[idx - t.size]?=some z:=by rw[Array.getElem?_append_right p] at f;exact f
  rw[Go.Conc.ofEvents_eq,Array.getElem?_map] at u
  obtain ⟨e,he,rfl⟩:=Option.map_eq_some_iff.1 u
  have v:idx - t.size<es.size:=(Array.getElem?_eq_some_iff.1 he).1
  rcases ht _ e he with q|q
  ·simp only at b;rw[q] at b;cases b
  rcases h e (Array.mem_of_getElem? he) with rfl|rfl|⟨a,y,rfl,w⟩
  ·simp[cu,MemAct.ofEvent,MemAct.touch?] at b
  ·simp[cu,MemAct.ofEvent,MemAct.touch?] at b
  ·have:x=⟨.cell a,y,.atomic⟩:=by cases y<;>simp[MemAct.ofEvent,MemAct.touch?] at b<;>rw[<-b]
   subst this
   refine ⟨rfl,?_,a,rfl,w.resolve_right fun z=>o z.2⟩
   rintro ⟨g,hg,A⟩
   have B:g=j:=by rw[s] at hg;exact (Option.some.inj hg).symm
   subst B
   have e1:idx=t.size+(idx - t.size):=by omega
   rw[e1,E5 ph.deaf es (idx - t.size) (Nat.le_of_lt v) t hd] at A
   omega
 |word m he hm d hg=>exact absurd hg.1 l
 |store he d hg=>exact absurd hg.1 l
 |rel he d hg=>
  refine ⟨t.size,?_⟩
  have C:MemOp.ofEvents j fn pos es=#[{g:=j,fn:=fn,pos:=pos,act:=.mark (.releaseMerge (stA c.Wg))}]:=by rw[Go.Conc.ofEvents_eq,he];simp[cu,MemAct.ofEvent]
  rw[C]
  have D:(t++#[({g:=j,fn:=fn,pos:=pos,act:=.mark (.releaseMerge (stA c.Wg))}:MemOp)])[t.size]?=some {g:=j,fn:=fn,pos:=pos,act:=.mark (.releaseMerge (stA c.Wg))}:=by
   rw[Array.getElem?_append_right (Nat.le_refl _)];simp
  refine ⟨hlen,act?_of D,by simp[Trace.g?],⟨j,by simp[Trace.g?],by rw[deaf_old (Nat.le_refl _)];exact hd.trans d.1⟩,fun idx x p s n=>?_⟩
  obtain ⟨z,f,_⟩:=touch_of n
  have:=lt_size_of_getElem? f
  simp at this
  omega
end
section
variable {c : Cy} {B0 : Nat} {aZ : Loc → Prop} {p0 : P0} {d0 k : Nat} {g : Goroutine} {Fr : Nat → af} {gs : Array Goroutine} {w : World} {t u : Trace} {ρ : Nat → Rk} {φ : Nat → Ph} {s : Sh}
theorem cT.at_ (F:af)(w:World)(d:Nat):cT c B0 F F w (w.at d):=⟨.refl _,rfl,rfl,Nat.le_refl _,fun _ _ _ _=>rfl,fun _ h=>.inl h,fun _ h=>.inl h⟩
structure E7 (c:Cy)(B0:Nat)(aZ:Loc->Prop)(p0:P0)(d0 k:Nat)(g:Goroutine)(Fr:Nat->af)(gs:Array Goroutine)(w:World)(t:Trace)(ρ:Nat->Rk)(m:Machine)(ops:Array MemOp)(sl:Option (Nat×Nat)):Prop where
 ex:∃(bH:Array Goroutine) (w':World) (ρ':Nat->Rk) (φ':Nat->Ph) (cF:Nat->af) (s':Sh),m=crowd bH w' sl/\c6 c B0 aZ p0 d0 k g cF bH w' (t++ops) ρ' φ' s'/\
  bH.size=gs.size/\cF 0=Fr 0/\cT c B0 (Fr 0) (Fr 0) w w'/\wN gs.size (ρ',runs bH) (ρ,runs gs)
def j4 (ρ:Nat->Rk)(j:Nat)(r:Rk)(a:Nat):Rk:=if a=j then r else ρ a
theorem mP (ρ:Nat->Rk)(j:Nat)(r:Rk):j4 ρ j r j=r:=if_pos rfl
theorem lB (ρ:Nat->Rk)(r:Rk){a j:Nat}(h:a≠j):j4 ρ j r a=ρ a:=if_neg h
theorem q3 {n j:Nat}{ρ:Nat->Rk}{r:Rk}(a:j<n)(h:(ρ j).kids r):oW n (j4 ρ j r) ρ:=⟨j,a,by rw[mP];exact h,fun _ b=>lB _ _ b⟩
theorem c6.other (h:c6 c B0 aZ p0 d0 k g Fr gs w t ρ φ s){j:Nat}{x:Goroutine}(L:0<j)(B:gs[j]?=some x)(G:x.status= .running)(sl:Option (Nat×Nat)):
  ∃m ops,runT c.P (crowd gs w sl) j=(.next m,ops)/\E7 c B0 aZ p0 d0 k g Fr gs w t ρ m ops sl:=by
 have R:j<gs.size:=(Array.getElem?_eq_some_iff.1 B).1
 have N:(j==0)=false:=by simp;omega
 rcases Nat.lt_or_ge j c.base with ao|ao
 ·
  obtain ⟨q,K,O⟩:=h.old j x L ao B
  cases q with
  |zero=>rw[O.1] at G;cases G
  |succ q=>
   rcases O with ⟨V,_⟩|⟨_,W,es,hm,H,X⟩
   ·rw[V] at G;cases G
   have F:=runT_crowd_go (P:=c.P) (gs:=gs) (w:=w) (sl:=sl) (i:=j) B (by rw[N];exact H w)
   refine ⟨_,_,F,⟨_,w,j4 ρ j (Rk.nat q),φ,Fr,s,rfl,?_,by simp,rfl,.refl _ _ _ _,.inl (q3 R (by rw[K];exact Rk.wL q))⟩⟩
   refine h.iK L B (.inr ⟨Int.le_refl _,Int.le_refl _⟩) (fun Y E=>lB _ _ E) (fun _ _=>rfl) (fun _ _=>rfl) rfl (fun _=>⟨q,mP _ _ _,by rw[Deaf_own];exact X⟩) (fun i e _=>by omega) h.parts h.sh h.inv (h.fR.mute hm) (Nat.le_refl _)
 ·
  have bz:=h.size
  obtain ⟨i,rfl⟩:∃i,j=c.base+i:=⟨j - c.base,by omega⟩
  have C:i<k:=by omega
  have ar:i<c.n:=Nat.lt_of_lt_of_le C h.inv.i.kn
  obtain ⟨u,a0,hW⟩:=h.wk i C
  obtain rfl:u=x:=by rw[B] at a0;exact (Option.some.inj a0).symm
  have E:∀d,c.base+d≠c.base+i->d≠i:=fun d D e=>D (by rw[e])
  rcases hW with ⟨hg,q,K,O⟩|⟨hg,Z,a2,_⟩
  ·cases q with
   |zero=>rw[O.1] at G;cases G
   |succ q=>
    rcases O with ⟨V,_⟩|⟨_,W,es,hm,H,X⟩
    ·rw[V] at G;cases G
    have F:=runT_crowd_go (P:=c.P) (gs:=gs) (w:=w) (sl:=sl) (i:=c.base+i) B (by rw[N];exact H w)
    refine ⟨_,_,F,⟨_,w,j4 ρ (c.base+i) (Rk.nat q),upd φ i {φ i with deaf:=deafBehind (φ i).deaf es},Fr,s,rfl,?_,by simp,rfl,.refl _ _ _ _,.inl (q3 R (by rw[K];exact Rk.wL q))⟩⟩
    have hd:=h.deaf i C
    refine h.iK L B (.inr ⟨Int.le_refl _,Int.le_refl _⟩) (fun Y E=>lB _ _ E) (fun d D=>upd_ne _ _ (E d D)) (fun _ _=>rfl) rfl (fun D=>by omega) (fun d e S=>?_) h.parts h.sh (h.inv.deaf ar (by rw[hg];simp) _) (h.fR.mute hm) (Nat.le_refl _)
    obtain rfl:d=i:=by omega
    rw[mP,upd_same]
    refine ⟨.inl ⟨hg,q,rfl,X⟩,by rw[Deaf_own,hd],fun M=>?_,h.hH d C⟩
    obtain ⟨r,F⟩:=h.rel d C (by rw[hg];simp)
    refine ⟨r,F.app fun idx y bS b0 a8=>?_⟩
    obtain ⟨z,Q,a3⟩:=touch_of a8
    rcases getElem?_append_cases Q with ⟨S,_⟩|⟨_,a9⟩
    ·omega
    ·obtain ⟨e,he,rfl⟩:=Go.Conc.mem_ofEvents a9
     rw[touch_mute (hm e he)] at a3;cases a3
  ·have ex:({u with status:=.running}:Goroutine)=u:=by cases u;simp_all
   rw[ex] at Z
   cases T:ρ (c.base+i) with
   |mk ι f=>
    rw[T] at Z
    rcases Z with ⟨ba,_⟩|⟨_,_,bb,bc⟩|⟨_,_,_,a4⟩
    ·exact absurd ba hg
    ·
     obtain ⟨y,W,w',es,F',H,hu,bd,J,ab⟩:=bc w (h.parts.has (i+1) (by omega))
     have F:=runT_crowd_go (P:=c.P) (gs:=gs) (w:=w) (sl:=sl) (i:=c.base+i) B (by rw[N];exact H)
     have U:=h.parts.has (i+1) (by omega)
     obtain ⟨ad,a5,a6⟩:=ab.vh s
     have a7:∀b,b<w.heap.size->b∉keys (Fr (i+1)).own->w'.heap[b]?=w.heap[b]?:=hu.frame
     refine ⟨_,_,F,⟨_,w',j4 ρ (c.base+i) (f y),φ,upd Fr (i+1) F',s,rfl,?_,by simp,upd_ne _ _ (by omega),?_,.inl (q3 R (by rw[T];exact ⟨y,rfl⟩))⟩⟩
     ·have bj:Deaf (t++MemOp.ofEvents (c.base+i) u.frame.fn u.frame.place es) (c.base+i)=(φ i).deaf:=by
       rw[Deaf_own,deafBehind_still (fun e he=>(j3 (c:=c) U hu.size (J e he) 0).2.2.2)]
       exact h.deaf i C
      refine h.iK L B (.inr ⟨Int.le_refl _,Int.le_refl _⟩) (fun Y E=>lB _ _ E) (fun _ _=>rfl) (fun d D=>upd_ne _ _ (by have:=E d D;omega)) (upd_ne _ _ (by omega)) (fun D=>by omega) (fun d e S=>?_) (h.parts.walk (by omega) hu bd)
       (h.sh.keep fun b hb=>a7 b (h.parts.fD b hb) (fun hm=>h.parts.fQ (i+1) (by omega) b hm hb)) h.inv ?_ hu.size
      ·obtain rfl:d=i:=by omega
       rw[mP,upd_same]
       refine ⟨ad,bj,fun M=>absurd bb M,fun b hb=>?_⟩
       rcases hu.own b hb with z|z
       ·exact h.hH d C b z
       ·exact Nat.le_trans h.hO z
      ·refine dO.app h.base ⟨h.ne.2.1,h.ne.2.2⟩ h.parts h.fR (p:=i+1) (by omega) hu.size (fun op v=>?_) (fun op v z Q=>?_) (fun op v=>?_) (fun op v=>?_) (fun q K=>upd_ne _ _ K) (fun l A=>?_) (fun l A=>?_)
       ·obtain ⟨e,_,rfl⟩:=Go.Conc.mem_ofEvents v;rfl
       ·obtain ⟨e,he,rfl⟩:=Go.Conc.mem_ofEvents v;exact (j3 (c:=c) U hu.size (J e he) (i+1)).1 z Q
       ·obtain ⟨e,he,rfl⟩:=Go.Conc.mem_ofEvents v;exact (j3 (c:=c) U hu.size (J e he) (i+1)).2.1
       ·obtain ⟨e,he,rfl⟩:=Go.Conc.mem_ofEvents v;exact (j3 (c:=c) U hu.size (J e he) (i+1)).2.2.1
       ·rw[upd_same] at A
        cases l with
        |cell a=>exact hu.own _ A
        |obj r=>exact hu.own _ A
        |_=>exact A.elim
       ·rw[upd_same] at A
        obtain ⟨a,rfl,ae⟩:=A
        rcases hu.ro a ae with z|z|z
        ·exact .inl ⟨a,rfl,z⟩
        ·exact .inr (.inl z)
        ·exact .inr (.inr z)
     ·exact ⟨by rw[hu.os];exact .refl _,hu.tape,hu.output,hu.size,fun b hb _ _=>a7 b (Nat.lt_of_lt_of_le hb h.hO) (fun hm=>by have:=h.hH i C b hm;omega),fun _ h=>.inl h,fun _ h=>.inl h⟩
    ·
     rcases a4 w s k φ p0 (h.parts.has (i+1) (by omega)) h.sh ar rfl h.inv with ⟨bk,bl,H⟩|⟨y,W,w',es,s',aF,F',H,bm,I,hinv,J,bo,hle,ab⟩
     ·
      have F:=runT_crowd_go (P:=c.P) (gs:=gs) (w:=w) (sl:=sl) (i:=c.base+i) B (by rw[N];exact H)
      have br:gs.map (woken c.P u {u with status:=.blocked} w)=gs:=by
       have:woken c.P u {u with status:=.blocked} w=id:=by funext o;unfold Go.Conc.woken;simp
       rw[this,Array.map_id]
      refine ⟨_,_,F,⟨_,w,ρ,φ,Fr,s,rfl,?_,by simp,rfl,.refl _ _ _ _,.inr ⟨rfl,?_⟩⟩⟩
      ·have he:t++MemOp.ofEvents (c.base+i) u.frame.fn u.frame.place #[]=t:=by simp[MemOp.ofEvents]
       refine h.iK L B (.inr ⟨Int.le_refl _,Int.le_refl _⟩) (fun _ _=>rfl) (fun _ _=>rfl) (fun _ _=>rfl) rfl (fun D=>by omega) (fun d e S=>?_) h.parts h.sh h.inv (by rw[he];exact h.fR) (Nat.le_refl _)
       obtain rfl:d=i:=by omega
       rw[he]
       refine ⟨.inr ⟨hg,?_,a2,.inr ⟨rfl,bk,bl⟩⟩,h.deaf d C,fun M=>h.rel d C M,h.hH d C⟩
       have e2:({({u with status:=.blocked}:Goroutine) with status:=.running}:Goroutine)=u:=by cases u;simp_all
       rw[e2,T]
       exact .inr (.inr ⟨G,a2,hg,a4⟩)
      ·rw[br];exact zT B G (by simp)
     ·have F:=runT_crowd_go (P:=c.P) (gs:=gs) (w:=w) (sl:=sl) (i:=c.base+i) B (by rw[N];exact H)
      obtain ⟨ad,a5,a6⟩:=ab.vh s'
      have hd:=h.deaf i C
      have al:=E3 J (Fr (i+1)) w.heap.size h.parts.fD
      refine ⟨_,_,F,⟨_,w',j4 ρ (c.base+i) (f y),upd φ i aF,upd Fr (i+1) F',s',rfl,?_,by simp,upd_ne _ _ (by omega),?_,.inl (q3 R (by rw[T];exact ⟨y,rfl⟩))⟩⟩
      ·refine h.iK L B (bo.imp (fun z=>⟨z,a5,a6⟩) id) (fun Y E=>lB _ _ E) (fun d D=>upd_ne _ _ (E d D)) (fun d D=>upd_ne _ _ (by have:=E d D;omega)) (upd_ne _ _ (by omega)) (fun D=>by omega) (fun d e S=>?_) (h.parts.act (by omega) I hle) bm hinv ?_ (by rw[I.size];exact Nat.le_refl _)
       ·obtain rfl:d=i:=by omega
        rw[mP,upd_same,upd_same]
        exact ⟨ad,by rw[Deaf_own,hd];exact E4 J,fun M=>E6 h.fR.len J hd (fun bs=>h.rel d C bs) M,fun b hb=>h.hH d C b (hle.own b hb)⟩
       ·refine dO.app h.base ⟨h.ne.2.1,h.ne.2.2⟩ h.parts h.fR (p:=i+1) (by omega) (by rw[I.size];exact Nat.le_refl _) (fun op v=>?_) (fun op v z Q=>?_) (fun op v=>?_) (fun op v=>?_) (fun q K=>upd_ne _ _ K) (fun l A=>?_) (fun l A=>?_)
        ·obtain ⟨e,_,rfl⟩:=Go.Conc.mem_ofEvents v;rfl
        ·obtain ⟨e,he,rfl⟩:=Go.Conc.mem_ofEvents v;exact (al e he).1 z Q
        ·obtain ⟨e,he,rfl⟩:=Go.Conc.mem_ofEvents v;rw[I.size];exact (al e he).2.1
        ·obtain ⟨e,he,rfl⟩:=Go.Conc.mem_ofEvents v;exact (al e he).2.2
        ·rw[upd_same] at A
         refine .inl ?_
         cases l with
         |cell a=>exact hle.own _ A
         |obj r=>exact hle.own _ A
         |_=>exact A.elim
        ·rw[upd_same] at A
         obtain ⟨a,rfl,ae⟩:=A
         rcases hle.ro a ae with z|z
         ·exact .inl ⟨a,rfl,z⟩
         ·exact .inr (.inl z)
      ·exact ⟨I.os,I.tape,I.output,by rw[I.size];exact Nat.le_refl _,fun b _ _ hs=>I.block b hs,fun _ h=>.inl h,fun _ h=>.inl h⟩
theorem c6.awake (h:c6 c B0 aZ p0 d0 k g Fr gs w t ρ φ s):∀x∈gs,awake x:=by
 intro x b
 obtain ⟨j,l,rfl⟩:=Array.mem_iff_getElem.1 b
 have b:=Array.getElem?_eq_getElem l
 rcases Nat.eq_zero_or_pos j with rfl|m
 ·obtain ⟨z,a,_,d⟩:=h.g0
  obtain rfl:z=gs[0]:=by rw[b] at a;exact (Option.some.inj a).symm
  exact awake_of (d.imp id fun y=>.inl y.1)
 ·rcases Nat.lt_or_ge j c.base with i|i
  ·obtain ⟨q,_,f⟩:=h.old j _ m i b
   exact awake_of (f.status.elim .inl fun y=>.inr (.inr y))
  ·have n:=h.size
   obtain ⟨z,a,hW⟩:=h.wk (j - c.base) (by omega)
   have e:c.base+(j - c.base)=j:=by omega
   rw[e] at a
   obtain rfl:z=gs[j]:=by rw[b] at a;exact (Option.some.inj a).symm
   rcases hW with ⟨_,q,_,f⟩|⟨_,_,_,d⟩
   ·exact awake_of (f.status.elim .inl fun y=>.inr (.inr y))
   ·exact awake_of (d.imp id fun y=>.inl y.1)
theorem c6.pick (h:c6 c B0 aZ p0 d0 k g Fr gs w t ρ φ s)(S:p0= .reg->k=c.n)(sl:Option (Nat×Nat))(T:p0= .reg->∀w s,cj c w s->s.ws=0->stepG c.P true g w= .go {g with status:=.blocked} w #[]):
  ∃(N:Nat) (bH:Array Goroutine) (w':World) (a B:Option (Nat×Nat)) (e:Trace) (ρ':Nat->Rk) (φ':Nat->Ph) (cF:Nat->af) (s':Sh),
   runNT c.P N (crowd gs w sl) t=(.next (crowd bH w' a),e)/\(∃d,stepT c.P (crowd bH w' a)=runT c.P (crowd bH (w'.at d) B) 0)/\c6 c B0 aZ p0 d0 k g cF bH w' e ρ' φ' s'/\bH[0]?=some g/\cF 0=Fr 0/\
   cT c B0 (Fr 0) (Fr 0) w w'/\(p0= .reg->s'.ws≠0):=by
 have key:∀(y:(Nat->Rk)×Nat),∀gs w t ρ φ s l sl,y=(ρ,runs gs)->l 0=Fr 0->c6 c B0 aZ p0 d0 k g l gs w t ρ φ s->∀n,gs.size=n->n=c.base+k->
   ∃(N:Nat) (bH:Array Goroutine) (w':World) (a B:Option (Nat×Nat)) (e:Trace) (ρ':Nat->Rk) (φ':Nat->Ph) (cF:Nat->af) (s':Sh),
   runNT c.P N (crowd gs w sl) t=(.next (crowd bH w' a),e)/\(∃d,stepT c.P (crowd bH w' a)=runT c.P (crowd bH (w'.at d) B) 0)/\c6 c B0 aZ p0 d0 k g cF bH w' e ρ' φ' s'/\bH[0]?=some g/\cF 0=Fr 0/\
   cT c B0 (Fr 0) (Fr 0) w w'/\(p0= .reg->s'.ws≠0):=by
  intro y
  induction (wO (c.base+k)).apply y with
  |intro y _ ih=>
   intro gs w t ρ φ s l sl p r h n C D
   subst p
   have U:∃(j:Nat) (x:Goroutine),gs[j]?=some x/\x.status= .running:=by
    obtain ⟨z,u,_,f⟩:=h.g0
    rcases f with q|⟨_,v,V⟩
    ·exact ⟨0,z,u,q⟩
    ·have W:=S v
     have hinv:=h.inv
     rw[v,W] at hinv
     obtain ⟨i,M,hg,X⟩:=live hinv V
     obtain ⟨x,b,hW⟩:=h.wk i (by omega)
     rcases hW with ⟨Y,_⟩|⟨_,_,_,f⟩
     ·exact absurd Y hg
     ·rcases f with q|⟨_,h1,h2⟩
      ·exact ⟨_,x,b,q⟩
      ·exact absurd h2 (X h1)
   obtain ⟨j,x,d,a,b,q,f⟩:=crowd_pick (P:=c.P) (w:=w) (sl:=sl) h.awake U
   have hd:=h.at d
   rcases Nat.eq_zero_or_pos j with rfl|Z
   ·obtain ⟨z,u,he,ba⟩:=h.g0
    obtain rfl:z=x:=by rw[b] at u;exact (Option.some.inj u).symm
    have O:z=g:=by rw[<-he];cases z;simp_all
    by_cases A:p0= .reg/\s.ws=0
    ·
     have ab:=T A.1 (w.at d) s h.sh A.2
     have ad:=runT_crowd_go (P:=c.P) (gs:=gs) (w:=w.at d) (sl:=a) (i:=0) b (by rw[O];exact ab)
     have ae:gs.map (woken c.P z {g with status:=.blocked} (w.at d))=gs:=by
      have:woken c.P z {g with status:=.blocked} (w.at d)=id:=by funext o;unfold Go.Conc.woken;simp
      rw[this,Array.map_id]
     have al:0<gs.size:=(Array.getElem?_eq_some_iff.1 b).1
     have ao:t++MemOp.ofEvents 0 z.frame.fn z.frame.place #[]=t:=by simp[MemOp.ofEvents]
     have ar:c6 c B0 aZ p0 d0 k g l (gs.setIfInBounds 0 {g with status:=.blocked}) (w.at d) t ρ φ s:=by
      refine ⟨by simpa using hd.size,hd.base,hd.run,hd.off,⟨{g with status:=.blocked},Array.getElem?_setIfInBounds_self_of_lt al,by have:=h.run;cases g;simp_all,.inr ⟨rfl,A⟩⟩,fun j y h0 hb p=>?_,fun i M=>?_,hd.deaf,fun j a0=>hd.above j (by simpa using a0),hd.deaf0,hd.parts,hd.sh,hd.inv,hd.fR,hd.rel,hd.apart,hd.low,hd.hH,hd.hO,hd.ne⟩
      ·rw[Array.getElem?_setIfInBounds_ne (by omega)] at p
       exact hd.old j y h0 hb p
      ·obtain ⟨y,p,hW⟩:=hd.wk i M
       exact ⟨y,by rw[Array.getElem?_setIfInBounds_ne (by have:=h.base;omega)];exact p,hW⟩
     obtain ⟨N,bH,w',E,F,e,ρ',φ',cF,s',k1,G,H,I,J,K,L⟩:=ih (ρ,runs (gs.setIfInBounds 0 {g with status:=.blocked})) (.inr ⟨rfl,zT b q (by simp)⟩) _ _ _ _ _ _ l a rfl r ar n (by simpa using C) D
     refine ⟨N+1,bH,w',E,F,e,ρ',φ',cF,s',?_,G,H,I,J,(cT.at_ _ _ _).trans K,L⟩
     simp only[runNT,f,ad]
     rw[ae,ao]
     exact k1
    ·refine ⟨0,gs,w,sl,a,t,ρ,φ,l,s,rfl,⟨d,f⟩,h,by rw[b,O],r,.refl _ _ _ _,fun v hs=>A ⟨v,hs⟩⟩
   ·obtain ⟨m,ops,a2,⟨bH,w',ρ',φ',cF,s',rfl,a3,a4,a5,Q,R⟩⟩:=hd.other Z b q a
    rw[C,D] at R
    obtain ⟨N,a6,w2,E,F,t2,a7,a8,a9,s2,k1,G,H,I,J,K,L⟩:=ih (ρ',runs bH) R _ _ _ _ _ _ cF a rfl (a5.trans r) a3 n (a4.trans C) D
    refine ⟨N+1,a6,w2,E,F,t2,a7,a8,a9,s2,?_,G,H,I,J,?_,L⟩
    ·simp only[runNT,f,a2]
     exact k1
    ·rw[r] at Q
     exact ((cT.at_ _ _ _).trans Q).trans K
 exact key (ρ,runs gs) gs w t ρ φ s Fr sl rfl rfl h gs.size rfl h.size
theorem c6.oV (h:c6 c B0 aZ p0 d0 k g Fr gs w t ρ φ s)(D:p0= .reg->k=c.n)(sl:Option (Nat×Nat)):
  ∃(N:Nat) (bH:Array Goroutine) (w':World) (a q:Option (Nat×Nat)) (e:Trace) (ρ':Nat->Rk) (φ':Nat->Ph) (cF:Nat->af) (s':Sh),
   runNT c.P N (crowd gs w sl) t=(.next (crowd bH w' a),e)/\(∃d,stepT c.P (crowd bH w' a)=runT c.P (crowd bH (w'.at d) q) 0)/\c6 c B0 aZ p0 d0 k g cF bH w' e ρ' φ' s'/\bH[0]?=some g/\cF 0=Fr 0/\
   cT c B0 (Fr 0) (Fr 0) w w':=by
 have key:∀(y:(Nat->Rk)×Nat),∀gs w t ρ φ s o sl,y=(ρ,runs gs)->o 0=Fr 0->c6 c B0 aZ p0 d0 k g o gs w t ρ φ s->∀n,gs.size=n->n=c.base+k->
   ∃(N:Nat) (bH:Array Goroutine) (w':World) (a q:Option (Nat×Nat)) (e:Trace) (ρ':Nat->Rk) (φ':Nat->Ph) (cF:Nat->af) (s':Sh),
   runNT c.P N (crowd gs w sl) t=(.next (crowd bH w' a),e)/\(∃d,stepT c.P (crowd bH w' a)=runT c.P (crowd bH (w'.at d) q) 0)/\c6 c B0 aZ p0 d0 k g cF bH w' e ρ' φ' s'/\bH[0]?=some g/\cF 0=Fr 0/\
   cT c B0 (Fr 0) (Fr 0) w w':=by
  intro y
  induction (wO (c.base+k)).apply y with
  |intro y _ ih=>
   intro gs w t ρ φ s o sl E r h n u v
   subst E
   have F:∃(j:Nat) (x:Goroutine),gs[j]?=some x/\x.status= .running:=by
    obtain ⟨z,p,_,b⟩:=h.g0
    rcases b with f|⟨_,A,G⟩
    ·exact ⟨0,z,p,f⟩
    ·have H:=D A
     have hinv:=h.inv
     rw[A,H] at hinv
     obtain ⟨i,al,hg,I⟩:=live hinv G
     obtain ⟨x,l,hW⟩:=h.wk i (by omega)
     rcases hW with ⟨J,_⟩|⟨_,_,_,b⟩
     ·exact absurd J hg
     ·rcases b with f|⟨_,h1,h2⟩
      ·exact ⟨_,x,l,f⟩
      ·exact absurd h2 (I h1)
   obtain ⟨j,x,d,a,l,f,b⟩:=crowd_pick (P:=c.P) (w:=w) (sl:=sl) h.awake F
   have hd:=h.at d
   rcases Nat.eq_zero_or_pos j with rfl|K
   ·obtain ⟨z,p,he,ao⟩:=h.g0
    obtain rfl:z=x:=by rw[l] at p;exact (Option.some.inj p).symm
    have L:z=g:=by rw[<-he];cases z;simp_all
    exact ⟨0,gs,w,sl,a,t,ρ,φ,o,s,rfl,⟨d,b⟩,h,by rw[l,L],r,.refl _ _ _ _⟩
   ·obtain ⟨m,ops,M,⟨bH,w',ρ',φ',cF,s',rfl,O,Q,R,B,C⟩⟩:=hd.other K l f a
    rw[u,v] at C
    obtain ⟨N,S,w2,T,U,t2,V,W,X,s2,k1,Y,Z,ab,ad,ae⟩:=ih (ρ',runs bH) C _ _ _ _ _ _ cF a rfl (R.trans r) O n (Q.trans u) v
    refine ⟨N+1,S,w2,T,U,t2,V,W,X,s2,?_,Y,Z,ab,ad,?_⟩
    ·simp only[runNT,b,M]
     exact k1
    ·rw[r] at B
     exact ((cT.at_ _ _ _).trans B).trans ae
 exact key (ρ,runs gs) gs w t ρ φ s Fr sl rfl rfl h gs.size rfl h.size
end
def dP (c:Cy)(B0:Nat)(Φ:Goroutine->af->Prop)(k:Nat)(p0:P0)(d0:Nat)(g:Goroutine)(F:af):Prop:=
 g.status= .running/\g.offers=none/\∀(aZ:Loc->Prop) (gs:Array Goroutine) (w:World) (sl:Option (Nat×Nat)) (t:Trace) (Fr:Nat->af) (ρ:Nat->Rk) (φ:Nat->Ph) (s:Sh),Fr 0=F->c6 c B0 aZ p0 d0 k g Fr gs w t ρ φ s->
  (∀a,aZ (.cell a)->¬c.shared a.block)->(∀r,aZ (.obj r)->¬c.shared r)->
  ∃(N:Nat) (bH:Array Goroutine) (w':World) (e:Option (Nat×Nat)) (b:Trace) (f:Nat->Nat) (g':Goroutine) (F':af) (d:Loc->Prop),
   runNT c.P N (crowd gs w sl) t=(.next (crowd bH w' e),b)/\gk c.P d g' F' bH w' b f/\cT c B0 F F' w w'/\(∀l,d l->aZ l\/∃a,l= .cell a/\a.block=c.Wg)/\Φ g' F'
structure Ev0 (c:Cy)(d0 eF:Nat)(es:Array Event):Prop where
 all:∀e∈es,e=cu .disable\/e=cu .enable\/∃a,a.block=c.Wg/\((∃x,e=⟨.cell a,x,true⟩)\/e=cu (.read a)\/e=cu (.write a))
 deaf:deafBehind d0 es=eF
theorem zU {c:Cy}{d0 eF:Nat}{es:Array Event}(h:Ev0 c d0 eF es)(F:af)(B:Nat)(f:c.Wg<B):∀e∈es,
  (∀x,(MemAct.ofEvent e).touch?=some x->qZ c F B 0 x)/\(MemAct.ofEvent e).low B/\MemAct.ofEvent e≠ .mark (.release (stA c.Wg)):=by
 intro e he
 rcases h.all e he with rfl|rfl|⟨a,d,⟨x,rfl⟩|rfl|rfl⟩
 ·exact ⟨fun x g=>by simp[cu,MemAct.ofEvent,MemAct.touch?] at g,trivial,by simp[cu,MemAct.ofEvent]⟩
 ·exact ⟨fun x g=>by simp[cu,MemAct.ofEvent,MemAct.touch?] at g,trivial,by simp[cu,MemAct.ofEvent]⟩
 ·have hb:a.block<B:=d▸f
  refine ⟨fun y b=>?_,by cases x<;>exact hb,by cases x<;>simp[MemAct.ofEvent]⟩
  have:y=⟨.cell a,x,.atomic⟩:=by cases x<;>simp[MemAct.ofEvent,MemAct.touch?] at b<;>rw[<-b]
  subst this
  exact .inr (.inr (.inr (.inl ⟨⟨a,rfl,.inr d⟩,by simp,by simp⟩)))
 ·have hb:a.block<B:=d▸f
  refine ⟨fun y b=>?_,hb,by simp[cu,MemAct.ofEvent]⟩
  have:y=⟨.cell a,false,.said⟩:=by simp[cu,MemAct.ofEvent,MemAct.touch?] at b;rw[<-b]
  subst this
  exact .inr (.inr (.inr (.inl ⟨⟨a,rfl,.inr d⟩,by simp,fun _=>rfl⟩)))
 ·have hb:a.block<B:=d▸f
  refine ⟨fun y b=>?_,hb,by simp[cu,MemAct.ofEvent]⟩
  have:y=⟨.cell a,true,.said⟩:=by simp[cu,MemAct.ofEvent,MemAct.touch?] at b;rw[<-b]
  subst this
  exact .inr (.inr (.inr (.inl ⟨⟨a,rfl,.inr d⟩,by simp,fun _=>rfl⟩)))
section
variable {c : Cy} {B0 : Nat} {aZ : Loc → Prop} {p0 : P0} {d0 k : Nat} {g : Goroutine} {Fr : Nat → af} {gs : Array Goroutine} {w : World} {t u : Trace} {ρ : Nat → Rk} {φ : Nat → Ph} {s : Sh} {Φ : Goroutine → af → Prop}
theorem c6.zero (h:c6 c B0 aZ p0 d0 k g Fr gs w t ρ φ s){g':Goroutine}{w':World}{es:Array Event}{fn:FuncId}{pos:String}{s':Sh}{fE:P0}{eF:Nat}{F':af}(v:gs[0]?=some g)(j:g'.status= .running)(x:g'.offers=none)
  (A:mayWake c.P g=true\/(s'.ms<=s.ms/\s'.ws<=s.ws)) (hd:deafBehind d0 es=eF) (B:c5 c k (upd Fr 0 F') w') (C:cj c w' s') (hinv:Inv c.n c.bs k φ fE s') (D:dO c aZ k (upd Fr 0 F') w'.heap.size (t++MemOp.ofEvents 0 fn pos es))
  (E:w.heap.size<=w'.heap.size) (F:∀l,aZ l->¬F'.fF l):
  c6 c B0 aZ fE eF k g' (upd Fr 0 F') ((gs.map (woken c.P g g' w')).setIfInBounds 0 g') w' (t++MemOp.ofEvents 0 fn pos es) ρ φ s':=by
 have G:0<gs.size:=(Array.getElem?_eq_some_iff.1 v).1
 have hu:∀op∈MemOp.ofEvents 0 fn pos es,op.g=0:=fun op H=>by obtain ⟨e,_,rfl⟩:=Go.Conc.mem_ofEvents H;rfl
 have other:∀a,a≠0->∀y,((gs.map (woken c.P g g' w')).setIfInBounds 0 g')[a]?=some y->∃z,gs[a]?=some z/\y=woken c.P g g' w' z:=fun a o y m=>by
  rw[Array.getElem?_setIfInBounds_ne (Ne.symm o),Array.getElem?_map] at m
  obtain ⟨z,f,rfl⟩:=Option.map_eq_some_iff.1 m
  exact ⟨z,f,rfl⟩
 have p:∀a,a≠0->Deaf (t++MemOp.ofEvents 0 fn pos es) a=Deaf t a:=fun a o=>Deaf_other t (Ne.symm o) _ hu
 have I:(mayWake c.P g=true/\g'.status≠ .blocked/\g'.status≠ .waiting)\/s'.ms<=s.ms:=A.imp (fun z=>⟨z,by rw[j];simp,by rw[j];simp⟩) And.left
 refine ⟨by simpa using h.size,h.base,j,x,⟨g',Array.getElem?_setIfInBounds_self_of_lt (by simpa using G),by cases g';simp_all,.inl j⟩,fun a y h0 hb m=>?_,fun i d=>?_,fun i d=>?_,fun a J=>?_,?_,B,C,hinv,D,fun i d hg=>?_,fun l K=>by rw[upd_same];exact F l K,h.low,fun i d b hb=>?_,Nat.le_trans h.hO E,h.ne⟩
 ·obtain ⟨z,f,rfl⟩:=other a (by omega) y m
  obtain ⟨q,L,u⟩:=h.old a z h0 hb f
  exact ⟨q,L,by rw[woken_quitsD u,p a (by omega)];exact u⟩
 ·have hb:=h.base
  obtain ⟨z,f,hW⟩:=h.wk i d
  refine ⟨woken c.P g g' w' z,by rw[Array.getElem?_setIfInBounds_ne (by omega),Array.getElem?_map,f];rfl,?_⟩
  rw[upd_ne _ _ (by omega)]
  exact hW.woken hinv.zS I
 ·have hb:=h.base
  rw[p _ (by omega)];exact h.deaf i d
 ·have:gs.size<=a:=by simpa using J
  rw[p a (by omega)]
  exact h.above a this
 ·rw[Deaf_own,h.deaf0];exact hd
 ·obtain ⟨r,M⟩:=h.rel i d hg
  have hb:=h.base
  exact ⟨r,M.other (by omega) hu⟩
 ·rw[upd_ne _ _ (by omega)] at hb;exact h.hH i d b hb
theorem c6.le (h:c6 c B0 aZ p0 d0 k g Fr gs w t ρ φ s){F:af}(hle:Le F (Fr 0)):c6 c B0 aZ p0 d0 k g (upd Fr 0 F) gs w t ρ φ s:=by
 have ht:dO c aZ k (upd Fr 0 F) w.heap.size t:=by
  have:=dO.app (u:=#[]) h.base ⟨h.ne.2.1,h.ne.2.2⟩ h.parts h.fR (p:=0) (Nat.zero_le _) (cF:=upd Fr 0 F) (Nat.le_refl _) (by simp) (by simp) (by simp) (by simp) (fun q j=>upd_ne _ _ j) (fun l d=>?_) (fun l d=>?_)
  ·simpa using this
  ·rw[upd_same] at d
   refine .inl ?_
   cases l with
   |cell a=>exact hle.own _ d
   |obj r=>exact hle.own _ d
   |_=>exact d.elim
  ·rw[upd_same] at d
   obtain ⟨a,rfl,m⟩:=d
   rcases hle.ro a m with z|z
   ·exact .inl ⟨a,rfl,z⟩
   ·exact .inr (.inl z)
 refine ⟨h.size,h.base,h.run,h.off,h.g0,h.old,fun i e=>?_,h.deaf,h.above,h.deaf0,h.parts.act (Nat.zero_le _) (.refl _ _) hle,h.sh,h.inv,ht,h.rel,fun l d f=>?_,h.low,fun i e b hb=>?_,h.hO,h.ne⟩
 ·rw[upd_ne _ _ (by omega)];exact h.wk i e
 ·rw[upd_same] at f;exact h.apart l d (hle.fF f)
 ·rw[upd_ne _ _ (by omega)] at hb;exact h.hH i e b hb
theorem cT.m4 {F F':af}{w w':World}(h:dm F F' w w')(d:B0<=w.heap.size):cT c B0 F F' w w':=
 ⟨by rw[h.os];exact .refl _,h.tape,h.output,h.size,fun b hb e _=>h.frame b (Nat.lt_of_lt_of_le hb d) e,fun a f=>(h.ro a f).imp id fun x=>x.imp id fun y=>.inl (Nat.le_trans d y),fun b hb=>(h.own b hb).imp id fun y=>.inl (Nat.le_trans d y)⟩
theorem cT.zV {F:af}{w w':World}(h:gh c w w'):cT c B0 F F w w':=
 ⟨h.os,h.tape,h.output,by rw[h.size];exact Nat.le_refl _,fun b _ _ hs=>h.block b hs,fun _ h=>.inl h,fun _ h=>.inl h⟩
theorem dP.mono {F F':af}(hle:Le F F')(h:dP c B0 Φ k p0 d0 g F):dP c B0 Φ k p0 d0 g F':=by
 refine ⟨h.1,h.2.1,fun aZ gs w sl t Fr ρ φ s a b d e=>?_⟩
 obtain ⟨N,bH,w',f,i,j,g',l,m,h1,h2,h3,n,o⟩:=h.2.2 aZ gs w sl t (upd Fr 0 F) ρ φ s (upd_same _ _ _) (b.le (by rw[a];exact hle)) d e
 exact ⟨N,bH,w',f,i,j,g',l,m,h1,h2,h3.le hle,n,o⟩
theorem dP.closed (c:Cy)(B0:Nat)(Φ:Goroutine->af->Prop)(k:Nat)(p0:P0)(d0:Nat)(B:p0≠ .reg):Closed c.P true (dP c B0 Φ k p0 d0) where
 mono hle h:=h.mono hle
 step {fr cs F} h:=by
  refine ⟨rfl,rfl,fun aZ gs w sl t Fr ρ φ s y J K L=>?_⟩
  obtain ⟨N,C,w1,a3,A,t1,a4,a5,D,s1,M,⟨d,O⟩,f,E,H,I,_⟩:=J.pick (fun e=>absurd e B) sl (fun e=>absurd e B)
  have o:Has F (w1.at d):=by have:=f.parts.has 0 (Nat.zero_le _);rw[H,y] at this;exact this.at d
  obtain ⟨g',w',es,F',hgo,hu,Q,u,hJ⟩:=h (w1.at d) o
  have v:=f.at d
  have R:=runT_crowd_go (P:=c.P) (gs:=C) (w:=w1.at d) (sl:=A) (i:=0) E (show stepG c.P (0==0) (G fr cs) (w1.at d)=_ from hgo)
  have n:D 0=F:=H.trans y
  have S:∀b,b<w1.heap.size->b∉keys (D 0).own->w'.heap[b]?=w1.heap[b]?:=by rw[n];exact hu.frame
  have T:=v.zero (g':=g') (w':=w') (es:=es) (fn:=fr.fn) (pos:=fr.place) (s':=s1) (fE:=p0) (eF:=d0) (F':=F') E hJ.1 hJ.2.1 (.inr ⟨Int.le_refl _,Int.le_refl _⟩)
   (deafBehind_still (fun e he=>(j3 (c:=c) o hu.size (u e he) 0).2.2.2) _) (v.parts.walk (Nat.zero_le _) (by rw[n];exact hu) Q)
   (v.sh.keep fun b hb=>S b (f.parts.fD b hb) (fun hm=>f.parts.fQ 0 (Nat.zero_le _) b hm hb)) v.inv
   (dO.app f.base ⟨f.ne.2.1,f.ne.2.2⟩ f.parts f.fR (p:=0) (Nat.zero_le _) hu.size (fun op j=>by obtain ⟨e,_,rfl⟩:=Go.Conc.mem_ofEvents j;rfl)
    (fun op j z U=>by obtain ⟨e,he,rfl⟩:=Go.Conc.mem_ofEvents j;rw[n];exact (j3 (c:=c) o hu.size (u e he) 0).1 z U)
    (fun op j=>by obtain ⟨e,he,rfl⟩:=Go.Conc.mem_ofEvents j;exact (j3 (c:=c) o hu.size (u e he) 0).2.1)
    (fun op j=>by obtain ⟨e,he,rfl⟩:=Go.Conc.mem_ofEvents j;exact (j3 (c:=c) o hu.size (u e he) 0).2.2.1) (fun q V=>upd_ne _ _ V)
    (fun l g=>by
     rw[upd_same] at g
     rw[n]
     cases l with
     |cell a=>exact hu.own _ g
     |obj r=>exact hu.own _ g
     |_=>exact g.elim)
    (fun l g=>by
     rw[upd_same] at g
     rw[n]
     obtain ⟨a,rfl,W⟩:=g
     rcases hu.ro a W with z|z|z
     ·exact .inl ⟨a,rfl,z⟩
     ·exact .inr (.inl z)
     ·exact .inr (.inr z)))
   hu.size (fun l g m=>by
    have h1:=f.apart l g
    have h2:=Loc.low_mono f.hO (f.low l g)
    rw[n] at h1
    cases l with
    |cell a=>
     rcases m with m|m
     ·rcases hu.own _ m with x|x
      ·exact h1 (.inl x)
      ·exact absurd h2 (Nat.not_lt.2 x)
     ·rcases hu.ro _ m with x|x|x
      ·exact h1 (.inr x)
      ·exact h1 (.inl x)
      ·exact absurd h2 (Nat.not_lt.2 x)
    |obj r=>
     rcases hu.own _ m with x|x
     ·exact h1 x
     ·exact absurd h2 (Nat.not_lt.2 x)
    |_=>exact m)
  obtain ⟨X,Y,w2,Z,t2,ab,ad,ae,al,k1,ao,ar,a0,a2⟩:=hJ.2.2 aZ _ w' A _ _ _ _ _ (upd_same _ _ _) T K L
  refine ⟨N+1+X,Y,w2,Z,t2,ab,ad,ae,al,?_,ao,?_,a0,a2⟩
  ·have:runNT c.P (N+1) (crowd gs w sl) t=(.next (crowd ((C.map (woken c.P (G fr cs) g' w')).setIfInBounds 0 g') w' A),t1++MemOp.ofEvents 0 fr.fn fr.place es):=by
    rw[runNT_add,M]
    simp only[runNT,O,R]
    rfl
   rw[ij this]
   exact k1
  ·rw[y] at I
   exact (I.trans (cT.at_ _ _ _)).trans ((cT.m4 (w:=w1.at d) hu f.hO).trans ar)
end
section
variable {c : Cy} {B0 : Nat} {aZ : Loc → Prop} {p0 : P0} {d0 k : Nat} {g : Goroutine} {F : af} {Fr : Nat → af} {gs : Array Goroutine} {w : World} {t u : Trace} {ρ : Nat → Rk} {φ : Nat → Ph} {s : Sh} {Φ : Goroutine → af → Prop}
theorem dP.act (G:g.status= .running)(H:g.offers=none)(x:p0= .reg->k=c.n/\∀w s,cj c w s->s.ws=0->stepG c.P true g w= .go {g with status:=.blocked} w #[])
  (h:∀(w:World) (s:Sh) (φ:Nat->Ph),Has F w->cj c w s->Inv c.n c.bs k φ p0 s->(p0= .reg->s.ws≠0)->∃(g':Goroutine) (w':World) (es:Array Event) (s':Sh) (fE:P0) (eF:Nat),
   stepG c.P true g w= .go g' w' es/\cj c w' s'/\gh c w w'/\Inv c.n c.bs k φ fE s'/\Ev0 c d0 eF es/\(mayWake c.P g=true\/(s'.ms<=s.ms/\s'.ws<=s.ws))/\dP c B0 Φ k fE eF g' F):dP c B0 Φ k p0 d0 g F:=by
 refine ⟨G,H,fun aZ gs w sl t Fr ρ φ s y I J K=>?_⟩
 obtain ⟨N,A,w1,a5,m,t1,a6,L,o,s1,M,⟨d,O⟩,a,B,Q,C,R⟩:=I.pick (fun e=>(x e).1) sl (fun e=>(x e).2)
 have D:o 0=F:=Q.trans y
 have S:Has F (w1.at d):=by have:=a.parts.has 0 (Nat.zero_le _);rw[D] at this;exact this.at d
 have j:=a.at d
 obtain ⟨g',w',es,s',fE,eF,hgo,T,r,hinv,E,U,hJ⟩:=h (w1.at d) s1 L S j.sh j.inv R
 have V:=runT_crowd_go (P:=c.P) (gs:=A) (w:=w1.at d) (sl:=m) (i:=0) B (show stepG c.P (0==0) g (w1.at d)=_ from hgo)
 have u:=zU E (o 0) w1.heap.size (a.parts.fD _ (.inr (.inl rfl)))
 have v:w'.heap.size=w1.heap.size:=r.size
 have W:=j.zero (g':=g') (w':=w') (es:=es) (fn:=g.frame.fn) (pos:=g.frame.place) (s':=s') (fE:=fE) (eF:=eF) (F':=o 0) B hJ.1 hJ.2.1 U E.deaf (j.parts.act (Nat.zero_le _) r (.refl _)) T hinv
  (dO.app a.base ⟨a.ne.2.1,a.ne.2.2⟩ a.parts a.fR (p:=0) (Nat.zero_le _) (by rw[v];exact Nat.le_refl _) (fun op b=>by obtain ⟨e,_,rfl⟩:=Go.Conc.mem_ofEvents b;rfl)
   (fun op b z X=>by obtain ⟨e,he,rfl⟩:=Go.Conc.mem_ofEvents b;exact (u e he).1 z X)
   (fun op b=>by obtain ⟨e,he,rfl⟩:=Go.Conc.mem_ofEvents b;rw[v];exact (u e he).2.1)
   (fun op b=>by obtain ⟨e,he,rfl⟩:=Go.Conc.mem_ofEvents b;exact (u e he).2.2) (fun q Y=>upd_ne _ _ Y)
   (fun l f=>by rw[upd_same] at f;exact .inl f) (fun l f=>by rw[upd_same] at f;exact .inl f))
  (by rw[v];exact Nat.le_refl _) (fun l f=>a.apart l f)
 obtain ⟨Z,ab,w2,ad,t2,ae,al,ao,ar,k1,a0,a2,a3,a4⟩:=hJ.2.2 aZ _ w' m _ _ _ _ _ (by rw[upd_same];exact D) W J K
 refine ⟨N+1+Z,ab,w2,ad,t2,ae,al,ao,ar,?_,a0,?_,a3,a4⟩
 ·have:runNT c.P (N+1) (crowd gs w sl) t=(.next (crowd ((A.map (woken c.P g g' w')).setIfInBounds 0 g') w' m),t1++MemOp.ofEvents 0 g.frame.fn g.frame.place es):=by
   rw[runNT_add,M]
   simp only[runNT,O,V]
  rw[ij this]
  exact k1
 ·rw[y] at C
  exact (C.trans (cT.at_ _ _ _)).trans ((cT.zV r).trans a2)
theorem dP.vi (E:g.status= .running)(G:g.offers=none)(H:p0= .reg->k=c.n)
  (h:∀(w:World) (s:Sh) (φ:Nat->Ph),Has F w->cj c w s->Inv c.n c.bs k φ p0 s->∃(g':Goroutine) (w':World) (es:Array Event) (s':Sh) (fE:P0) (eF:Nat),
   stepG c.P true g w= .go g' w' es/\cj c w' s'/\gh c w w'/\Inv c.n c.bs k φ fE s'/\Ev0 c d0 eF es/\(mayWake c.P g=true\/(s'.ms<=s.ms/\s'.ws<=s.ws))/\dP c B0 Φ k fE eF g' F):dP c B0 Φ k p0 d0 g F:=by
 refine ⟨E,G,fun aZ gs w sl t Fr ρ φ s x I J K=>?_⟩
 obtain ⟨N,y,w1,a4,m,t1,a5,L,o,s1,M,⟨d,O⟩,a,A,Q,B⟩:=I.oV H sl
 have C:o 0=F:=Q.trans x
 have R:Has F (w1.at d):=by have:=a.parts.has 0 (Nat.zero_le _);rw[C] at this;exact this.at d
 have j:=a.at d
 obtain ⟨g',w',es,s',fE,eF,hgo,S,r,hinv,D,T,hJ⟩:=h (w1.at d) s1 L R j.sh j.inv
 have U:=runT_crowd_go (P:=c.P) (gs:=y) (w:=w1.at d) (sl:=m) (i:=0) A (show stepG c.P (0==0) g (w1.at d)=_ from hgo)
 have u:=zU D (o 0) w1.heap.size (a.parts.fD _ (.inr (.inl rfl)))
 have v:w'.heap.size=w1.heap.size:=r.size
 have V:=j.zero (g':=g') (w':=w') (es:=es) (fn:=g.frame.fn) (pos:=g.frame.place) (s':=s') (fE:=fE) (eF:=eF) (F':=o 0) A hJ.1 hJ.2.1 T D.deaf (j.parts.act (Nat.zero_le _) r (.refl _)) S hinv
  (dO.app a.base ⟨a.ne.2.1,a.ne.2.2⟩ a.parts a.fR (p:=0) (Nat.zero_le _) (by rw[v];exact Nat.le_refl _) (fun op b=>by obtain ⟨e,_,rfl⟩:=Go.Conc.mem_ofEvents b;rfl)
   (fun op b z W=>by obtain ⟨e,he,rfl⟩:=Go.Conc.mem_ofEvents b;exact (u e he).1 z W)
   (fun op b=>by obtain ⟨e,he,rfl⟩:=Go.Conc.mem_ofEvents b;rw[v];exact (u e he).2.1)
   (fun op b=>by obtain ⟨e,he,rfl⟩:=Go.Conc.mem_ofEvents b;exact (u e he).2.2) (fun q X=>upd_ne _ _ X)
   (fun l f=>by rw[upd_same] at f;exact .inl f) (fun l f=>by rw[upd_same] at f;exact .inl f))
  (by rw[v];exact Nat.le_refl _) (fun l f=>a.apart l f)
 obtain ⟨Y,Z,w2,ab,t2,ad,ae,al,ao,k1,ar,a0,a2,a3⟩:=hJ.2.2 aZ _ w' m _ _ _ _ _ (by rw[upd_same];exact C) V J K
 refine ⟨N+1+Y,Z,w2,ab,t2,ad,ae,al,ao,?_,ar,?_,a2,a3⟩
 ·have:runNT c.P (N+1) (crowd gs w sl) t=(.next (crowd ((y.map (woken c.P g g' w')).setIfInBounds 0 g') w' m),t1++MemOp.ofEvents 0 g.frame.fn g.frame.place es):=by
   rw[runNT_add,M]
   simp only[runNT,O,U]
  rw[ij this]
  exact k1
 ·rw[x] at B
  exact (B.trans (cT.at_ _ _ _)).trans ((cT.zV r).trans a0)
theorem dP.spawn (E:g.status= .running)(a9:g.offers=none)(T:k<c.n)
  (h:∀w,Has F w->∃g' child,stepG c.P true g w= .spawn g' child w #[]/\Wk c k {mp:=.idle,gp:=.cnt,stored:=false,deaf:=0} child ⟨F.ro,[]⟩/\child.status= .running/\child.offers=none/\dP c B0 Φ (k+1) (.opn 0) 0 g' F):
  dP c B0 Φ k (.opn 1) 0 g F:=by
 refine ⟨E,a9,fun aZ gs w sl t Fr ρ φ s a2 ba bb bc=>?_⟩
 obtain ⟨N,I,w1,du,al,t1,bd,X,Y,s1,bj,⟨d,bk⟩,f,a3,bl,a4,_⟩:=ba.pick (fun e=>by cases e) sl (fun e=>by cases e)
 have ao:Y 0=F:=bl.trans a2
 have a5:Has F (w1.at d):=by have:=f.parts.has 0 (Nat.zero_le _);rw[ao] at this;exact this.at d
 have U:=f.at d
 obtain ⟨g',child,hgo,⟨Q,r,hle,hW⟩,dv,dC,hJ⟩:=h (w1.at d) a5
 have bm:=runT_crowd_spawn (P:=c.P) (gs:=I) (w:=w1.at d) (sl:=al) (i:=0) a3 (show stepG c.P (0==0) g (w1.at d)=_ from hgo)
 have a6:=f.size
 have bo:0<I.size:=(Array.getElem?_eq_some_iff.1 a3).1
 let K:Ph:={mp:=.idle,gp:=.cnt,stored:=false,deaf:=0}
 have M:keys Q.own=[]:=by
  cases br:keys Q.own with
  |nil=>rfl
  |cons b l=>exact absurd (hle.own b (by rw[br];simp)) (by simp[keys])
 have Z:∀a,(Q.ro a).isSome=true->((Y 0).ro a).isSome=true:=fun a p=>by
  rw[ao]
  rcases hle.ro a p with x|x
  ·exact x
  ·simp[keys] at x
 have bz:Has Q (w1.at d):=hle.has _ ⟨a5.ro,fun b o hb=>(by cases hb),List.nodup_nil,fun a v E hm=>(by cases hm)⟩
 have J:=U.inv.i
 have a7:(X k).gp= .new:=by
  have:=(J.born k T)
  rcases Classical.em ((X k).gp= .new) with x|x
  ·exact x
  ·exact absurd (this.2 x) (Nat.lt_irrefl _)
 obtain ⟨bS,b0,dE⟩:=J.new k T a7
 let R:Nat->af:=upd Y (k+1) Q
 have e1:∀q,q<=k->R q=Y q:=fun q A=>upd_ne _ _ (by omega)
 have e2:R (k+1)=Q:=upd_same _ _ _
 have b1:c5 c (k+1) R (w1.at d):=by
  have H:=U.parts
  have cs:∀q,q<=k+1->q<=k\/q=k+1:=fun q A=>by omega
  refine ⟨fun q A=>?_,fun q r A E ar b hb B=>?_,fun q r A E ar a p hb=>?_,fun q A b hb=>?_,fun q A a p=>?_,H.fD⟩
  ·rcases cs q A with x|rfl
   ·rw[e1 q x];exact H.has q x
   ·rw[e2];exact bz
  ·rcases cs q A with x|rfl
   ·rcases cs r E with y|rfl
    ·rw[e1 q x] at hb;rw[e1 r y] at B;exact H.own q r x y ar b hb B
    ·rw[e2,M] at B;cases B
   ·rw[e2,M] at hb;cases hb
  ·rcases cs r E with y|rfl
   ·rw[e1 r y] at hb
    rcases cs q A with x|rfl
    ·rw[e1 q x] at p;exact H.ro q r x y ar a p hb
    ·rw[e2] at p
     rcases Nat.eq_zero_or_pos r with rfl|dT
     ·obtain ⟨v,b2⟩:=Option.isSome_iff_exists.1 (Z a p)
      exact (H.has 0 (Nat.zero_le _)).apart a v b2 hb
     ·exact H.ro 0 r (Nat.zero_le _) y (by omega) a (Z a p) hb
   ·rw[e2,M] at hb;cases hb
  ·rcases cs q A with x|rfl
   ·rw[e1 q x] at hb;exact H.fQ q x b hb
   ·rw[e2,M] at hb;cases hb
  ·rcases cs q A with x|rfl
   ·rw[e1 q x] at p;exact H.g9 q x a p
   ·rw[e2] at p;exact H.g9 0 (Nat.zero_le _) a (Z a p)
 have hinv:Inv c.n c.bs (k+1) (upd X k K) (.opn 0) s1:=by
  obtain ⟨C,S,W,L,m,hm⟩:=U.inv.m
  refine ⟨⟨C,S,W,L,m,lA hm T K (.inl b0.symm)⟩,EK U.inv.w T K a7 rfl,J.len,T,fun j G=>?_,fun j G=>?_,fun j G ab=>?_,fun j G h1 h2=>?_⟩<;>by_cases e:j=k
  ·subst e;rw[upd_same,J.all j G,bS]
  ·rw[upd_ne _ _ e];exact J.all j G
  ·subst e;rw[upd_same];exact ⟨fun _=>by simp[K],fun _=>by omega⟩
  ·rw[upd_ne _ _ e,<-J.born j G];omega
  ·subst e;rw[upd_same] at ab;simp[K] at ab
  ·rw[upd_ne _ _ e] at ab ⊢;exact J.new j G ab
  ·subst e;rw[upd_same] at h1;simp[K] at h1
  ·rw[upd_ne _ _ e] at h1 h2 ⊢;exact J.done j G h1 h2
 let u:Array MemOp:=#[{g:=0,fn:=g.frame.fn,pos:=g.frame.place,act:=.go I.size},{g:=I.size,fn:=child.frame.fn,pos:=g.frame.place,act:=.start}]
 have b3:((MemOp.ofEvents 0 g.frame.fn g.frame.place #[]).push {g:=0,fn:=g.frame.fn,pos:=g.frame.place,act:=.go I.size}|>.push {g:=I.size,fn:=child.frame.fn,pos:=g.frame.place,act:=.start})=u:=by simp[MemOp.ofEvents,u]
 have b4:dO c aZ (k+1) R w1.heap.size (t1++u):=f.fR.fork f.base f.parts ⟨rfl,by rw[a6]⟩ ⟨by rw[a6],rfl⟩ f.deaf0 (f.above _ (by omega)) e1 (fun l D=>by
  rw[e2] at D
  cases l with
  |cell a=>simp only[ey,M] at D;cases D
  |obj r=>simp only[ey,M] at D;cases D
  |_=>exact D) (fun l D=>by
  rw[e2] at D
  obtain ⟨a,rfl,p⟩:=D
  exact ⟨a,rfl,Z a p⟩)
 have V:∀j,Deaf (t1++u) j=Deaf t1 j:=fun j=>by
  have:=Deaf_append t1 j u.toList
  simp only[Array.toArray_toList] at this
  rw[this]
  rfl
 have b5:∀j r,ff c t1 j r->ff c (t1++u) j r:=fun j r E=>E.app fun idx x ad hg ca=>by
  obtain ⟨z,cb,cd⟩:=touch_of ca
  rcases getElem?_append_cases cb with ⟨ea,_⟩|⟨_,a8⟩
  ·omega
  ·simp only[u,List.mem_toArray,List.mem_cons,List.not_mem_nil,or_false] at a8
   rcases a8 with rfl|rfl<;>cases cd
 have cf:c6 c B0 aZ (.opn 0) 0 (k+1) g' R ((I.setIfInBounds 0 g').push child) (w1.at d) (t1++u) (j4 bd (c.base+k) r) (upd X k K) s1:=by
  have hb:=f.base
  refine ⟨by simp;omega,hb,hJ.1,hJ.2.1,⟨g',by rw[Array.getElem?_push,if_neg (by simp;omega)];exact Array.getElem?_setIfInBounds_self_of_lt bo,by have:=hJ.1;cases g';simp_all,.inl hJ.1⟩,fun j y h0 B ae=>?_,fun i ad=>?_,fun i ad=>?_,fun j G=>?_,?_,b1,U.sh,hinv,b4,fun i ad hg=>?_,fun l D=>by rw[e1 0 (Nat.zero_le _)];exact f.apart l D,f.low,fun i ad b B=>?_,f.hO,f.ne⟩
  ·rw[Array.getElem?_push,if_neg (by simp;omega),Array.getElem?_setIfInBounds_ne (by omega)] at ae
   obtain ⟨q,A,cl⟩:=f.old j y h0 B ae
   exact ⟨q,by rw[lB _ _ (by omega)];exact A,by rw[V];exact cl⟩
  ·rcases Nat.lt_or_ge i k with O|a0
   ·obtain ⟨y,ae,cy⟩:=f.wk i O
    refine ⟨y,by rw[Array.getElem?_push,if_neg (by simp;omega),Array.getElem?_setIfInBounds_ne (by omega)];exact ae,?_⟩
    rw[lB _ _ (by omega),upd_ne _ _ (by omega),e1 (i+1) (by omega)]
    exact cy
   ·obtain rfl:i=k:=by omega
    refine ⟨child,by rw[Array.getElem?_push,if_pos (by simp;omega)],?_⟩
    rw[mP,upd_same,e2]
    exact (hW.vh s1).1
  ·rcases Nat.lt_or_ge i k with O|a0
   ·rw[V,upd_ne _ _ (by omega)];exact f.deaf i O
   ·obtain rfl:i=k:=by omega
    rw[V,upd_same];exact f.above _ (by omega)
  ·rw[V];exact f.above j (by simp at G;omega)
  ·rw[V];exact f.deaf0
  ·rcases Nat.lt_or_ge i k with O|a0
   ·rw[upd_ne _ _ (by omega)] at hg
    obtain ⟨r,E⟩:=f.rel i O hg
    exact ⟨r,b5 _ _ E⟩
   ·obtain rfl:i=k:=by omega
    rw[upd_same] at hg
    exact absurd rfl hg
  ·rcases Nat.lt_or_ge i k with O|a0
   ·rw[e1 (i+1) (by omega)] at B;exact f.hH i O b B
   ·obtain rfl:i=k:=by omega
    rw[e2,M] at B;cases B
 obtain ⟨cS,c0,w2,da,t2,db,dd,df,dk,k1,dp,dq,ds,dt⟩:=hJ.2.2 aZ _ (w1.at d) al _ R _ _ _ (by rw[e1 0 (Nat.zero_le _)];exact ao) cf bb bc
 refine ⟨N+1+cS,c0,w2,da,t2,db,dd,df,dk,?_,dp,?_,ds,dt⟩
 ·have:runNT c.P (N+1) (crowd gs w sl) t=(.next (crowd ((I.setIfInBounds 0 g').push child) (w1.at d) al),t1++u):=by
   rw[runNT_add,bj]
   simp only[runNT,bk,bm,b3]
  rw[ij this]
  exact k1
 ·rw[a2] at a4
  exact (a4.trans (cT.at_ _ _ _)).trans dq
def Cy.fin (c:Cy):Obj:=.cells ((List.range c.n).map fun i=>Value.bool (c.bs i)).toArray c.tI
theorem dP.join (H:g.status= .running)(U:g.offers=none)
  (h:∀w,Has F w->∃g',stepG c.P true g w= .go g' w #[cu (.acquire (stA c.Wg))]/\g'.status= .running/\Φ g' ⟨F.ro,(c.Is,c.fin)::F.own⟩):dP c B0 Φ c.n .eo 0 g F:=by
 refine ⟨H,U,fun aZ gs w sl t Fr ρ φ s L V W X=>?_⟩
 obtain ⟨N,u,w1,bj,M,t1,bk,Y,Z,s1,ab,⟨d,ad⟩,f,O,ae,Q,_⟩:=V.pick (fun e=>by cases e) sl (fun e=>by cases e)
 have B:Z 0=F:=ae.trans L
 have al:Has F w1:=by have:=f.parts.has 0 (Nat.zero_le _);rw[B] at this;exact this
 have D:Has F (w1.at d):=al.at d
 obtain ⟨g',hgo,bl,ao⟩:=h (w1.at d) D
 have ar:=runT_crowd_go (P:=c.P) (gs:=u) (w:=w1.at d) (sl:=M) (i:=0) O (show stepG c.P (0==0) g (w1.at d)=_ from hgo)
 have a0:0<u.size:=(Array.getElem?_eq_some_iff.1 O).1
 obtain ⟨_,a2,a3,a4⟩:=zJ f.inv.w
 have I:∀i,i<c.n->(Y i).gp= .gone:=fun i k=>(ER a2 a3 a4 k).resolve_right fun e=>((f.inv.i.born i k).1 k) e
 have a5:∀i,i<c.n->∃r,ff c t1 (c.base+i) r:=fun i k=>f.rel i k (by rw[I i k];simp)
 have a6:=f.fR.eR a5 (y:={g:=0,fn:=g.frame.fn,pos:=g.frame.place,act:=.mark (.acquire (stA c.Wg))}) ⟨rfl,rfl⟩ f.deaf0 (f.parts.fD _ (.inr (.inl rfl)))
 have a7:MemOp.ofEvents 0 g.frame.fn g.frame.place #[cu (.acquire (stA c.Wg))]=#[{g:=0,fn:=g.frame.fn,pos:=g.frame.place,act:=.mark (.acquire (stA c.Wg))}]:=by rw[Go.Conc.ofEvents_eq];simp[cu,MemAct.ofEvent]
 have a8:s1.is=(List.range c.n).map c.bs:=by
  refine List.ext_getElem? fun i=>?_
  by_cases k:i<c.n
  ·rw[f.inv.i.all i k,(f.inv.i.done i k (by rw[I i k];simp) (by rw[I i k];simp)).1]
   simp[k]
  ·have h1:s1.is.length=c.n:=f.inv.i.len
   rw[List.getElem?_eq_none (by omega),List.getElem?_eq_none (by simp;omega)]
 have a9:w1.heap[c.Is]?=some c.fin:=by
  have:=f.sh.2.2
  rw[a8,List.map_map] at this
  exact this
 have R:∀j,∃q,∀x,0<j->u[j]?=some x->QuitsD c.P q (Deaf t1 j) x:=fun j=>by
  by_cases J:∃x,0<j/\u[j]?=some x
  ·obtain ⟨x,h0,E⟩:=J
   rcases Nat.lt_or_ge j c.base with S|S
   ·obtain ⟨q,_,C⟩:=f.old j x h0 S E
    exact ⟨q,fun y _ A=>by rw[E] at A;cases A;exact C⟩
   ·have m:j<u.size:=(Array.getElem?_eq_some_iff.1 E).1
    have bm:=f.size
    obtain ⟨i,rfl⟩:∃i,j=c.base+i:=⟨j - c.base,by omega⟩
    obtain ⟨y,A,hW⟩:=f.wk i (by omega)
    rcases hW with ⟨_,q,_,C⟩|⟨ba,_⟩
    ·exact ⟨q,fun z _ K=>by rw[A] at K;cases K;rw[f.deaf i (by omega)];exact C⟩
    ·exact absurd (I i (by omega)) ba
  ·exact ⟨0,fun x h0 E=>absurd ⟨x,h0,E⟩ J⟩
 let q:Nat->Nat:=fun j=>Classical.choose (R j)
 have bb:∀j x,0<j->u[j]?=some x->QuitsD c.P (q j) (Deaf t1 j) x:=fun j=>Classical.choose_spec (R j)
 have T:∀j,j≠0->Deaf (t1++#[({g:=0,fn:=g.frame.fn,pos:=g.frame.place,act:=.mark (.acquire (stA c.Wg))}:MemOp)]) j=Deaf t1 j:=fun j bc=>Deaf_other t1 (g':=0) (Ne.symm bc) _ (by simp)
 refine ⟨N+1,(u.map (woken c.P g g' (w1.at d))).setIfInBounds 0 g',w1.at d,M,t1++#[{g:=0,fn:=g.frame.fn,pos:=g.frame.place,act:=.mark (.acquire (stA c.Wg))}],q,g',⟨F.ro,(c.Is,c.fin)::F.own⟩,_,?_,⟨?_,⟨fun j y h0 A=>?_,fun j J=>?_⟩,a6,?_,fun l m p=>?_,fun l m=>?_⟩,?_,fun l m=>m,ao⟩
 ·rw[runNT_add,ab]
  simp only[runNT,ad,ar,a7]
 ·exact Array.getElem?_setIfInBounds_self_of_lt (by simpa using a0)
 ·rw[Array.getElem?_setIfInBounds_ne (by omega),Array.getElem?_map] at A
  obtain ⟨z,K,rfl⟩:=Option.map_eq_some_iff.1 A
  have C:=bb j z h0 K
  rw[woken_quitsD C,T j (by omega)];exact C
 ·have:u.size<=j:=by simpa using J
  rw[T j (by omega)]
  exact f.above j this
 ·have bd:c.Is∉keys F.own:=fun hm=>f.parts.fQ 0 (Nat.zero_le _) _ (by rw[B];exact hm) (.inr (.inr rfl))
  refine ⟨D.ro,fun b o hb=>?_,?_,fun a v H hm=>?_⟩
  ·rcases List.mem_cons.1 hb with x|x
   ·cases x;exact a9
   ·exact D.own b o x
  ·exact List.nodup_cons.2 ⟨bd,D.nodup⟩
  ·rcases List.mem_cons.1 hm with x|x
   ·exact f.parts.g9 0 (Nat.zero_le _) a (by rw[B,H];rfl) (.inr (.inr x))
   ·exact D.apart a v H x
 ·rcases m with m|⟨a,rfl,G⟩
  ·have h1:=f.apart l m
   rw[B] at h1
   cases l with
   |cell a=>
    rcases p with p|p
    ·rcases List.mem_cons.1 p with x|x
     ·exact W a m (.inr (.inr x))
     ·exact h1 (.inl x)
    ·exact h1 (.inr p)
   |obj r=>
    rcases List.mem_cons.1 p with x|x
    ·exact X r m (.inr (.inr x))
    ·exact h1 x
   |_=>exact p
  ·rcases p with p|p
   ·rcases List.mem_cons.1 p with x|x
    ·exact f.ne.2.2 (G▸x)
    ·exact f.parts.fQ 0 (Nat.zero_le _) a.block (by rw[B];exact x) (.inr (.inl G))
   ·exact f.parts.g9 0 (Nat.zero_le _) a (by rw[B];exact p) (.inr (.inl G))
 ·rcases m with m|⟨a,rfl,G⟩
  ·exact Loc.low_mono f.hO (f.low l m)
  ·show a.block<_;rw[G];exact f.parts.fD _ (.inr (.inl rfl))
 ·rw[L] at Q
  refine (Q.trans (cT.at_ _ _ _)).trans ⟨.refl _,rfl,rfl,Nat.le_refl _,fun _ _ _ _=>rfl,fun _ h=>.inl h,fun b hb=>?_⟩
  rcases List.mem_cons.1 hb with x|x
  ·exact .inr (.inr (.inr (.inr x)))
  ·exact .inl x
end
def gK (P:Program)(Φ:Goroutine->af->Prop)(g:Goroutine)(F:af):Prop:=
 g.status= .running/\g.offers=none/\∀(aZ:Loc->Prop) (gs:Array Goroutine) (w:World) (sl:Option (Nat×Nat)) (t:Trace) (q:Nat->Nat),gk P aZ g F gs w t q->
  ∃(N:Nat) (bH:Array Goroutine) (w':World) (c:Option (Nat×Nat)) (a:Trace) (d:Nat->Nat) (g':Goroutine) (F':af) (b:Loc->Prop),
   runNT P N (crowd gs w sl) t=(.next (crowd bH w' c),a)/\gk P b g' F' bH w' a d/\eA F F' w w'/\(∀l,b l->aZ l\/¬l.low w.heap.size\/ey F l)/\Φ g' F'
theorem gK.done {P:Program}{Φ:Goroutine->af->Prop}{g:Goroutine}{F:af}(a:g.status= .running)(b:g.offers=none)(h:Φ g F):gK P Φ g F:=
 ⟨a,b,fun aZ gs w sl t q c=>⟨0,gs,w,sl,t,q,g,F,aZ,rfl,c,.refl _ _,fun _ h=>.inl h,h⟩⟩
theorem Le.E8 {F F':af}(h:Le F F'){l:Loc}(b:ey F l):ey F' l:=by
 cases l with
 |cell a=>exact h.own _ b
 |obj r=>exact h.own _ b
 |_=>exact b
theorem zW (P:Program)(Φ:Goroutine->af->Prop):Closed P true (gK P Φ) where
 mono hle h:=by
  refine ⟨h.1,h.2.1,fun aZ gs w sl t q b=>?_⟩
  obtain ⟨N,bH,w',B,C,D,g',F',E,k,H,hu,I,J⟩:=h.2.2 aZ gs w sl t q ⟨b.g0,b.lv,b.eR,hle.has w b.has,fun l hs K=>b.apart l hs (hle.fF K),b.low⟩
  exact ⟨N,bH,w',B,C,D,g',F',E,k,H,hu.le hle,fun l m=>(I l m).imp id fun x=>x.imp id hle.E8,J⟩
 step {fr cs F} h:=by
  refine ⟨rfl,rfl,fun aZ gs w sl t q b=>?_⟩
  obtain ⟨N,n,d,o,a3,p,t1,L,k,a4,h0,u,M,O⟩:=oV (P:=P) (a:=G fr cs) rfl _ gs w sl t q (Nat.le_refl _) b.g0 b.lv b.eR
  obtain ⟨g',w',es,F',hgo,hu,Q,R,hJ⟩:=h (w.at o) (b.has.at o)
  have c:dm F F' w w':=⟨hu.os,hu.tape,hu.output,hu.size,hu.frame,hu.ro,hu.own⟩
  have S:=runT_crowd_go (P:=P) (sl:=p) (i:=0) h0 (show stepG P (0==0) (G fr cs) (w.at o)=_ from hgo)
  have T:0<n.size:=(Array.getElem?_eq_some_iff.1 h0).1
  have v:=gk.next (P:=P) b.apart b.low c
  obtain ⟨U,V,w2,W,t2,X,Y,Z,ab,ad,ae,al,ao,ar⟩:=hJ.2.2 aZ ((n.map (woken P (G fr cs) g' w')).setIfInBounds 0 g') w' p (t1++MemOp.ofEvents 0 (G fr cs).frame.fn (G fr cs).frame.place es) L
   {g0:=by simp[T]
    lv:=⟨fun j x g z=>by
     have a0:0≠j:=by omega
     rw[Array.getElem?_setIfInBounds_ne a0,Array.getElem?_map] at z
     obtain ⟨y,a2,rfl⟩:=Option.map_eq_some_iff.1 z
     have A:=u.old j y g a2
     rw[woken_quitsD A,Deaf_other t1 (by omega) _ (fun op s=>by obtain ⟨e,_,rfl⟩:=Go.Conc.mem_ofEvents s;rfl)]
     exact A,fun j g=>by
     rw[Deaf_other t1 (g':=0) (by simp at g;omega) _ (fun op s=>by obtain ⟨e,_,rfl⟩:=Go.Conc.mem_ofEvents s;rfl)]
     exact u.above j (by simpa using g)⟩
    eR:=(M.mono c.size).own fun e he=>wJ b.has c.size b.apart b.low (R e he)
    has:=Q
    apart:=v.1
    low:=v.2}
  refine ⟨N+1+U,V,w2,W,t2,X,Y,Z,ab,?_,ae,(eA.m4 c).trans al,fun l m=>?_,ar⟩
  ·have:runNT P (N+1) (crowd gs w sl) t=(.next (crowd ((n.map (woken P (G fr cs) g' w')).setIfInBounds 0 g') w' p),t1++MemOp.ofEvents 0 (G fr cs).frame.fn (G fr cs).frame.place es):=by
    rw[runNT_add,k]
    simp only[runNT,O,S]
   rw[ij this]
   exact ad
  ·rcases ao l m with x|x|x
   ·exact .inl x
   ·exact .inr (.inl fun f=>x (Loc.low_mono c.size f))
   ·cases l with
    |cell a=>
     rcases c.own _ x with y|y
     ·exact .inr (.inr y)
     ·exact .inr (.inl fun f=>absurd f (Nat.not_lt.2 y))
    |obj r=>
     rcases c.own _ x with y|y
     ·exact .inr (.inr y)
     ·exact .inr (.inl fun f=>absurd f (Nat.not_lt.2 y))
    |_=>exact x.elim
theorem eV.E9 {P:Program}{f:FuncId}{args:Array Value}{ro:Addr->Option Value}{R:Value->af->Prop}(h:∀Φ,cC P (gK P Φ) f args ⟨ro,[]⟩ R):eV P f args ⟨ro,[]⟩ R:=by
 intro Φ c cs b aZ gs w sl t q d
 obtain ⟨N,bH,w',e,g,i,g',F',j,k,m,hu,n,v,rfl,a⟩:=(h (fun g' F'=>∃v,g'=G (c.finish v) cs/\R v F') c cs (fun v F' a=>gK.done rfl rfl ⟨v,rfl,a⟩)).2.2 aZ gs w sl t q d
 obtain ⟨o,p,w2,r,t2,s,u,z,A,B,C,D,E,F⟩:=b v F' a j bH w' e g i m
 refine ⟨N+o,p,w2,r,t2,s,u,z,A,by rw[ij k];exact B,C,hu.trans D,fun l H=>?_,F⟩
 rcases E l H with x|x
 ·rcases n l x with y|y|y
  ·exact .inl y
  ·exact .inr y
  ·cases l<;>first|(simp only[ey,keys,List.map_nil] at y;cases y)|exact y.elim
 ·exact .inr fun I=>x (Loc.low_mono hu.size I)
theorem gK.found {P:Program}{Φ:Goroutine->af->Prop}{g:Goroutine}{F D:af}{Mu Wg Is:Nat}{tM tW tI:TypeId}{n:Nat}(bs:Nat->Bool)(J:g.status= .running)(R:g.offers=none)
  (hle:Le ⟨D.ro,(Mu,muBlock tM 0 0)::(Wg,wgBlock tW 0 0)::(Is,.cells (List.replicate n (Value.bool false)).toArray tI)::D.own⟩ F)
  (h:∀base B0 T0,0<base->(Mu≠Wg/\Mu≠Is/\Wg≠Is)->dP ⟨P,Mu,Wg,Is,tM,tW,tI,n,bs,base,T0⟩ B0 (gK P Φ) 0 (.opn 0) 0 g D):gK P Φ g F:=by
 refine ⟨J,R,fun aZ gs w sl t q k=>?_⟩
 have B:=hle.has w k.has
 have S:0<gs.size:=(Array.getElem?_eq_some_iff.1 k.g0).1
 let c:Cy:=⟨P,Mu,Wg,Is,tM,tW,tI,n,bs,gs.size,t.size⟩
 have T:=B.nodup
 simp only[keys,List.map_cons,List.nodup_cons,List.mem_cons,not_or] at T
 obtain ⟨⟨n1,n2,n3⟩,⟨U,V⟩,W,X⟩:=T
 have A:∀b,c.shared b->b∈keys F.own:=fun b hb=>by
  rcases hb with rfl|rfl|rfl<;>exact hle.own _ (by simp[keys,c])
 have E:∀b,b∈keys D.own->b∈keys F.own:=fun b hb=>hle.own b (by simp only[keys,List.map_cons,List.mem_cons];exact .inr (.inr (.inr hb)))
 have O:∀a,(D.ro a).isSome=true->(F.ro a).isSome=true\/a.block∈keys F.own:=fun a d=>hle.ro a d
 have Y:Has D w:=⟨B.ro,fun b o hb=>B.own b o (List.mem_cons_of_mem _ (List.mem_cons_of_mem _ (List.mem_cons_of_mem _ hb))),X,fun a v J hm=>B.apart a v J (by simp only[keys,List.map_cons,List.mem_cons];exact .inr (.inr (.inr hm)))⟩
 have L:∀l,F.fF l->∀i a,touchAt t i=some a->a.loc=l->l.isMemory=true->Go.Conc.Knows t 0 i:=fun l u i a d e hm=>by
  rcases k.eR.known i a d (by rw[e];exact hm) with x|⟨x,_⟩
  ·exact x
  ·exact absurd u (k.apart l (e▸x))
 let φ:Nat->Ph:=fun _=>{mp:=.idle,gp:=.new,stored:=false,deaf:=0}
 let s:Sh:=⟨0,0,0,0,List.replicate n false⟩
 have Z:c6 c w.heap.size aZ (.opn 0) 0 0 g (fun _=>D) gs w t (fun j=>Rk.nat (q j)) φ s:=by
  refine ⟨rfl,S,J,R,⟨g,k.g0,by cases g;simp_all,.inl J⟩,fun j x h0 _ ab=>⟨q j,rfl,k.lv.old j x h0 ab⟩,fun i m=>by omega,fun i m=>by omega,k.lv.above,k.eR.hears,⟨fun p H=>Y,fun p q H ad ae=>by omega,fun p q H ad ae=>by omega,fun p H b hb hs=>?_,fun p H a d hs=>?_,fun b hb=>k.has.lt (A b hb)⟩,
   ⟨?_,?_,?_⟩,⟨⟨0,0,0,0,0,⟨⟨rfl,by omega,by omega,by omega⟩,rfl,?_,fun _=>?_,fun e=>by omega,fun i m o G al=>by simp[φ,Mp.seen] at al⟩⟩,⟨?_⟩,⟨by simp[s,c],Nat.zero_le _,fun i m=>?_,fun i m=>?_,fun i m _=>⟨rfl,rfl,rfl⟩,fun i m _ M=>by simp[φ] at M⟩⟩,
   ⟨Nat.le_refl _,fun i a d hs=>.inr fun p H=>?_,k.eR.clean,fun p H l u=>?_,fun p H l u=>?_,fun i m=>by omega,fun i m l u=>?_,k.eR.seen,fun i m e=>?_,fun i a d hm=>?_,fun i g hg ao ar=>.inl (k.eR.over i g hg ao ar)⟩,
   fun i m=>by omega,fun l u I=>?_,k.low,fun i m=>by omega,Nat.le_refl _,⟨n1,n2,U⟩⟩
  ·rcases hs with e|e|e
   ·exact n3 (by rw[<-show b=Mu from e];exact hb)
   ·exact V (by rw[<-show b=Wg from e];exact hb)
   ·exact W (by rw[<-show b=Is from e];exact hb)
  ·obtain ⟨v,a0⟩:=Option.isSome_iff_exists.1 d
   refine B.apart a v a0 ?_
   rcases hs with e|e|e
   ·rw[show a.block=Mu from e];simp[keys]
   ·rw[show a.block=Wg from e];simp[keys]
   ·rw[show a.block=Is from e];simp[keys]
  ·exact B.own Mu (muBlock tM 0 0) (.head _)
  ·exact B.own Wg (wgBlock tW 0 0) (.tail _ (.head _))
  ·have:=B.own Is (.cells (List.replicate n (Value.bool false)).toArray tI) (.tail _ (.tail _ (.head _)))
   rw[show (s.is.map Value.bool)=List.replicate n (Value.bool false) from by simp[s]]
   exact this
  ·exact (ve fun i m=>rfl).symm
  ·have z:∀f:Mp->Nat,f .idle=0->sm n φ f=0:=fun f I=>ve fun i m=>I
   have a1:=z Mp.nI rfl;have a2:=z Mp.nY rfl;have a3:=z Mp.nA rfl;have a4:=z Mp.nK rfl;have a5:=z Mp.nT rfl;have b3:=z Mp.nQ rfl
   refine ⟨a1,a2,?_,?_,fun e=>absurd e (Nat.lt_irrefl _)⟩
   ·show 0=sm n φ Mp.nA+0+sm n φ Mp.nK+sm n φ Mp.nT;omega
   ·show 0+0+sm n φ Mp.nT=sm n φ Mp.nQ;omega
  ·have z:∀f:Gp->Nat,f .new=0->sg n φ f=0:=fun f I=>qV fun i m=>I
   refine ⟨by omega,?_,rfl,z _ rfl,z _ rfl⟩
   show (0:Int)=((sg n φ Gp.nV+0:Nat):Int)*cE
   rw[z _ rfl];rfl
  ·simp[s,φ,show i<n from m]
  ·exact ⟨fun e=>by omega,fun e=>by simp[φ] at e⟩
  ·obtain rfl:p=0:=by omega
   obtain ⟨b,e,hb⟩:=hs
   exact L a.loc (by rw[e];exact .inl (A _ (hb.elim .inl fun x=>.inr (.inl x)))) i a d rfl (by rw[e];rfl)
  ·obtain rfl:p=0:=by omega
   intro i a d e
   refine L l ?_ i a d e ?_
   ·cases l with
    |cell a=>exact .inl (E _ u)
    |obj r=>exact E _ u
    |_=>exact u.elim
   ·cases l<;>first|rfl|exact u.elim
  ·obtain rfl:p=0:=by omega
   obtain ⟨b,rfl,hb⟩:=u
   exact fun i a d e _=>L (.cell b) ((O b hb).elim (fun x=>Or.inr x) (fun x=>Or.inl x)) i a d e rfl
  ·intro j a d e
   rw[show l=_ from u] at e
   exact L (.cell ⟨Is,i,none⟩) (Or.inl (A Is (.inr (.inr rfl)))) j a d e rfl
  ·exact absurd (lt_of_act? e) (Nat.not_lt.2 m)
  ·rcases k.eR.known i a d hm with x|x
   ·exact .inl x
   ·exact .inr (.inl x)
  ·refine k.apart l u ?_
   cases l with
   |cell a=>exact I.elim (fun x=>.inl (E _ x)) fun x=>(O a x).elim .inr .inl
   |obj r=>exact E _ I
   |_=>exact I
 obtain ⟨N,bH,w',a6,a7,a8,g',F',a9,k1,ba,C,bb,bc⟩:=(h gs.size w.heap.size t.size S ⟨n1,n2,U⟩).2.2 aZ gs w sl t _ _ _ _ rfl Z (fun a hs hb=>k.apart _ hs (.inl (A _ hb))) (fun r hs hb=>k.apart _ hs (A _ hb))
 obtain ⟨bd,bj,w2,bk,t2,bl,bm,bo,br,bz,bS,b0,b1,b2⟩:=bc.2.2 a9 bH w' a6 a7 a8 ba
 have Q:eA F F' w w':=⟨C.os,C.tape,C.output,C.size,fun b hb M=>C.frame b hb (fun x=>M (E b x)) (fun x=>M (A b x)),fun a d=>by
  rcases C.ro a d with x|x|x|x
  ·exact (O a x).imp id .inl
  ·exact .inr (.inl (E _ x))
  ·exact .inr (.inr x)
  ·exact .inr (.inl (A _ x)),fun b hb=>by
  rcases C.own b hb with x|x|x
  ·exact .inl (E b x)
  ·exact .inr x
  ·exact .inl (A b x)⟩
 refine ⟨N+bd,bj,w2,bk,t2,bl,bm,bo,br,by rw[ij k1];exact bz,bS,Q.trans b0,fun l u=>?_,b2⟩
 rcases b1 l u with x|x|x
 ·rcases bb l x with y|⟨a,rfl,d⟩
  ·exact .inl y
  ·exact .inr (.inr (show a.block∈keys F.own from A _ (.inr (.inl d))))
 ·exact .inr (.inl fun K=>x (Loc.low_mono C.size K))
 ·cases l with
  |cell a=>
   rcases Q.own _ x with y|y
   ·exact .inr (.inr y)
   ·exact .inr (.inl fun K=>absurd K (Nat.not_lt.2 y))
  |obj r=>
   rcases Q.own _ x with y|y
   ·exact .inr (.inr y)
   ·exact .inr (.inl fun K=>absurd K (Nat.not_lt.2 y))
  |_=>exact x.elim
end Go.Sep
end

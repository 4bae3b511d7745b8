/- A part of the proof: QX7. -/
import Derived.Test.YtdgblangfefjmaaGreatDoorQX6
import Derived.Conc.CrowdTrace
set_option linter.all false
section
namespace Go.Sep
open Go Go.Conc
open Go.ConcN (PermW fork_knows)
open Go.ConcM (MuAt muA msA muBlock)
open Go.ConcR (WgAt wgBlock stA smA)
structure Cy where
 P:Program
 Mu:Nat
 Wg:Nat
 Is:Nat
 tM:TypeId
 tW:TypeId
 tI:TypeId
 n:Nat
 bs:Nat->Bool
 base:Nat
 T0:Nat
def Cy.shared (c:Cy)(b:Nat):Prop:=b=c.Mu\/b=c.Wg\/b=c.Is
def Cy.sy (c:Cy)(l:Loc):Prop:=∃a,l= .cell a/\(a.block=c.Mu\/a.block=c.Wg)
def Cy.gid (c:Cy):Nat->Nat
 |0=>0
 |i+1=>c.base+i
theorem Cy.Hy (c:Cy)(hb:0<c.base){p q:Nat}(h:p≠q):c.gid p≠c.gid q:=by
 cases p<;>cases q<;>simp[Cy.gid] at*<;>omega
def fq (F:af):Loc->Prop
 | .cell a=>a.block∈keys F.own
 | .obj r=>r∈keys F.own
 |_=>False
def iK (F:af)(l:Loc):Prop:=∃a,l= .cell a/\(F.ro a).isSome=true
def kB (B:Nat):Loc->Prop
 | .cell a=>B<=a.block
 | .obj r=>B<=r
 |_=>False
def n6 (c:Cy)(i:Nat)(l:Loc):Prop:=l= .cell ⟨c.Is,i,none⟩
structure dX (c:Cy)(k:Nat)(Fr:Nat->af)(w:World):Prop where
 has:∀p,p<=k->Has (Fr p) w
 own:∀p q,p<=k->q<=k->p≠q->∀b∈keys (Fr p).own,b∉keys (Fr q).own
 ro:∀p q,p<=k->q<=k->p≠q->∀a,((Fr p).ro a).isSome=true->a.block∉keys (Fr q).own
 gQ:∀p,p<=k->∀b∈keys (Fr p).own,¬c.shared b
 jh:∀p,p<=k->∀a,((Fr p).ro a).isSome=true->¬c.shared a.block
 gA:∀b,c.shared b->b<w.heap.size
structure gj (c:Cy)(t:Trace)(g r:Nat):Prop where
 late:c.T0<=r
 act:t.act? r=some (.mark (.releaseMerge (stA c.Wg)))
 A5:t.g? r=some g
 heard:t.heard r
 after:∀i x,r<i->t.g? i=some g->touchAt t i=some x->x.kind= .atomic/\¬t.heard i/\∃a,x.loc= .cell a/\a.block=c.Wg
structure eJ (c:Cy)(bI:Loc->Prop)(k:Nat)(Fr:Nat->af)(B:Nat)(t:Trace):Prop where
 len:c.T0<=t.size
 quiet:∀i a,touchAt t i=some a->c.sy a.loc->(a.kind≠ .plain/\(a.kind= .said->t.g? i=some 0))\/∀p,p<=k->Go.Conc.Knows t (c.gid p) i
 nr:∀said,¬Race said t
 own:∀p,p<=k->∀l,fq (Fr p) l->Perm t (c.gid p) l
 ro:∀p,p<=k->∀l,iK (Fr p) l->PermW t (c.gid p) l
 sG:∀i,i<k->∀l,n6 c i l->Perm t (c.base+i) l
 sH:∀i,k<=i->∀l,n6 c i l->Perm t 0 l
 low:∀op∈t,op.act.low B
 norel:∀i,c.T0<=i->t.act? i≠some (.mark (.release (stA c.Wg)))
 known:∀i a,touchAt t i=some a->a.loc.isMemory=true->Go.Conc.Knows t 0 i\/(bI a.loc/\a.kind= .atomic)\/∃j,j<k/\t.g? i=some (c.base+j)
 over:∀i g,t.g? i=some g->g≠0->t.counts i->(∃j,t.g? j=some 0/\HappensBefore t i j)\/∃j,j<k/\g=c.base+j
def sJ (c:Cy)(F:af)(B p:Nat)(x:Touch):Prop:=
 fq F x.loc\/kB B x.loc\/(iK F x.loc/\x.write=false)\/(c.sy x.loc/\x.kind≠ .plain/\(x.kind= .said->p=0))\/(∃i,p=i+1/\n6 c i x.loc)\/x.loc.isMemory=false
theorem A6 {B:Nat}{l:Loc}(h:l.low B)(b:kB B l):False:=by
 cases l with
 |cell a=>exact absurd h (Nat.not_lt.2 b)
 |obj r=>exact absurd h (Nat.not_lt.2 b)
 |_=>exact b
theorem A7 {B:Nat}{t:Trace}(h:∀op∈t,op.act.low B){i:Nat}{a:Touch}(c:touchAt t i=some a):a.loc.low B:=by
 obtain ⟨x,d,b⟩:=touch_of c;have hm:=h x (Array.mem_of_getElem? d);obtain ⟨g,fn,pos,act⟩:=x;cases act with
 |access e=>simp only[MemAct.touch?,Option.some.injEq] at b;subst b;exact hm
 |mark m=>cases m<;>simp only[MemAct.touch?,Option.some.injEq] at b<;>first|(subst b;exact hm)|cases b
 |_=>cases b
theorem Hz {F:af}{w:World}(h:Has F w){l:Loc}(b:fq F l):¬kB w.heap.size l:=by
 cases l with
 |cell a=>exact fun x=>absurd (h.lt b) (Nat.not_lt.2 x)
 |obj r=>exact fun x=>absurd (h.lt b) (Nat.not_lt.2 x)
 |_=>exact b.elim
theorem HA {F:af}{w:World}(h:Has F w){l:Loc}(b:iK F l):¬kB w.heap.size l:=by
 obtain ⟨a,rfl,c⟩:=b;exact fun x=>absurd (h.gU c) (Nat.not_lt.2 x)
section
variable {c:Cy}{bI:Loc->Prop}{k:Nat}{Fr:Nat->af}{w:World}{t u:Trace}
theorem dX.sep (h:dX c k Fr w){p q:Nat}(d:p<=k)(e:q<=k)(f:p≠q){l:Loc}(b:fq (Fr p) l)(g:fq (Fr q) l):False:=by
 cases l with
 |cell a=>exact h.own p q d e f _ b g
 |obj r=>exact h.own p q d e f _ b g
 |_=>exact b
theorem dX.A8 (h:dX c k Fr w){p q:Nat}(b:p<=k)(d:q<=k)(e:p≠q){l:Loc}(f:iK (Fr p) l)(g:fq (Fr q) l):False:=by
 obtain ⟨a,rfl,i⟩:=f;exact h.ro p q b d e a i g
theorem dX.A9 (h:dX c k Fr w){p:Nat}(d:p<=k){l:Loc}(e:fq (Fr p) l)(b:c.sy l):False:=by
 obtain ⟨a,rfl,b⟩:=b;exact h.gQ p d _ e (b.elim .inl fun x=>.inr (.inl x))
theorem dX.Ba (h:dX c k Fr w){p:Nat}(f:p<=k){l:Loc}(b:iK (Fr p) l)(d:c.sy l):False:=by
 obtain ⟨a,rfl,b⟩:=b;obtain ⟨g,e,d⟩:=d;cases e;exact h.jh p f _ b (d.elim .inl fun x=>.inr (.inl x))
theorem dX.xj (h:dX c k Fr w){p i:Nat}(a:p<=k){l:Loc}(b:fq (Fr p) l)(d:n6 c i l):False:=by
 subst d;exact h.gQ p a _ b (.inr (.inr rfl))
theorem dX.xk (h:dX c k Fr w){p i:Nat}(d:p<=k){l:Loc}(b:iK (Fr p) l)(f:n6 c i l):False:=by
 subst f;obtain ⟨a,e,b⟩:=b;cases e;exact h.jh p d _ b (.inr (.inr rfl))
theorem dX.HB (h:dX c k Fr w){l:Loc}(d:kB w.heap.size l)(b:c.sy l):False:=by
 obtain ⟨a,rfl,b⟩:=b;exact absurd (h.gA _ (b.elim .inl fun x=>.inr (.inl x))) (Nat.not_lt.2 d)
theorem dX.Bb (h:dX c k Fr w){i:Nat}{l:Loc}(a:kB w.heap.size l)(b:n6 c i l):False:=by
 subst b;exact absurd (h.gA _ (.inr (.inr rfl))) (Nat.not_lt.2 a)
theorem sK {a:Addr}{T:Nat}(h:∀i,T<=i->t.act? i≠some (.mark (.release a)))(hu:∀op∈u,op.act≠ .mark (.release a)):∀i,T<=i->(t++u).act? i≠some (.mark (.release a)):=by
 intro i c d;obtain ⟨op,e,b⟩:=Option.map_eq_some_iff.1 d;rcases getElem?_append_cases e with ⟨_,f⟩|⟨_,g⟩
 .exact h i c (by rw[act?_of f,b])
 .exact hu op g b
theorem Bc (h:∀i a,touchAt t i=some a->c.sy a.loc->(a.kind≠ .plain/\(a.kind= .said->t.g? i=some 0))\/∀p,p<=k->Go.Conc.Knows t (c.gid p) i)
  (hu:∀op∈u,∀x,op.act.touch?=some x->c.sy x.loc->x.kind≠ .plain/\(x.kind= .said->op.g=0)):
  ∀i a,touchAt (t++u) i=some a->c.sy a.loc->(a.kind≠ .plain/\(a.kind= .said->(t++u).g? i=some 0))\/∀p,p<=k->Go.Conc.Knows (t++u) (c.gid p) i:=by
 intro i a f hs
 obtain ⟨x,b,d⟩:=touch_of f
 rcases getElem?_append_cases b with ⟨j,l⟩|⟨_,m⟩
 .rcases h i a (by rw[touchAt_of l];exact d) hs with ⟨y,z⟩|y
  .exact .inl ⟨y,fun e=>by rw[g?_old j];exact z e⟩
  .exact .inr fun p n=>(y p n).app u
 .obtain ⟨y,z⟩:=hu x m a d hs
  exact .inl ⟨y,fun e=>by simp[Trace.g?,b,z e]⟩
theorem eJ.app (hb:0<c.base)(E:c.Mu≠c.Is/\c.Wg≠c.Is)(n:dX c k Fr w)(h:eJ c bI k Fr w.heap.size t){p:Nat}(s:p<=k){dj:Nat->af}{L:Nat}(T:w.heap.size<=L)
  (hu:∀op∈u,op.g=c.gid p) (G:∀op∈u,∀x,op.act.touch?=some x->sJ c (Fr p) w.heap.size p x)
  (U:∀op∈u,op.act.low L) (V:∀op∈u,op.act≠ .mark (.release (stA c.Wg)))
  (P:∀q,q≠p->dj q=Fr q) (W:∀l,fq (dj p) l->fq (Fr p) l\/kB w.heap.size l) (X:∀l,iK (dj p) l->iK (Fr p) l\/fq (Fr p) l\/kB w.heap.size l):
  eJ c bI k dj L (t++u):=by
 have a5:∀op∈u,∀x,op.act.touch?=some x->x.loc.isMemory=false->∀l:Loc,l.isMemory=true->x.loc≠l:=fun op _ x _ Q l d e=>by rw[e,d] at Q;cases Q
 have Y:∀{F:af} {l:Loc},fq F l->l.isMemory=true:=fun {F l} d=>by cases l<;>first|rfl|exact d.elim
 have Z:∀{F:af} {l:Loc},iK F l->l.isMemory=true:=fun {F l} d=>by obtain ⟨a,rfl,_⟩:=d;rfl
 have a6:∀q,q≠p->c.gid q≠c.gid p:=fun q m=>c.Hy hb m
 have ab:∀q,q<=k->q≠p->∀l,fq (Fr q) l->∀op∈u,∀b,op.act.touch?=some b->b.loc≠l:=by
  intro q m v l d op f b r e
  rcases G op f b r with x|x|⟨x,_⟩|⟨x,_⟩|⟨i,_,x⟩|x<;>rw[e] at x
  .exact n.sep m s v d x
  .exact Hz (n.has q m) d x
  .exact n.A8 s m (Ne.symm v) x d
  .exact n.A9 m d x
  .exact n.xj m d x
  .rw[Y d] at x;cases x
 have ad:∀q,q<=k->q≠p->∀l,iK (Fr q) l->∀op∈u,∀b,op.act.touch?=some b->b.loc=l->b.write=true->False:=by
  intro q m v l d op f b r e hw
  rcases G op f b r with x|x|⟨x,ae⟩|⟨x,_⟩|⟨i,_,x⟩|x
  .rw[e] at x;exact n.A8 m s v d x
  .rw[e] at x;exact HA (n.has q m) d x
  .rw[ae] at hw;cases hw
  .rw[e] at x;exact n.Ba m d x
  .rw[e] at x;exact n.xk m d x
  .rw[e,Z d] at x;cases x
 have fresh:∀l,kB w.heap.size l->Perm (t++u) (c.gid p) l:=by
  intro l d i a C e
  obtain ⟨x,D,M⟩:=touch_of C
  rcases getElem?_append_cases D with ⟨B,N⟩|⟨_,J⟩
  .have:=A7 h.low (show touchAt t i=some a by rw[touchAt_of N];exact M)
   rw[e] at this
   exact (A6 this d).elim
  .have:=knows_own D
   rwa [hu x J] at this
 refine ⟨by have:=h.len;simp;omega,Bc h.quiet fun op f x D hs=>?_,fun said=>?_,fun q m l d=>?_,fun q m l d=>?_,fun i B l d=>?_,fun i B l d=>?_,fun op f=>?_,sK h.norel V,fun i a C hm=>?_,fun i g hg H A=>?_⟩
 .rcases G op f x D with y|y|⟨y,_⟩|⟨_,y,z⟩|⟨i,_,y⟩|y
  .exact (n.A9 s y hs).elim
  .exact (n.HB y hs).elim
  .exact (n.Ba s y hs).elim
  .exact ⟨y,fun e=>by rw[hu op f,z e];rfl⟩
  .obtain ⟨a,e,hs⟩:=hs
   rw[show x.loc=_ from y] at e
   cases e
   rcases hs with hs|hs
   .exact absurd hs.symm E.1
   .exact absurd hs.symm E.2
  .obtain ⟨a,e,_⟩:=hs;rw[e] at y;cases y
 .refine noRace_append (h.nr said) hu fun i a C op f b r A=>?_
  rcases G op f b r with y|y|⟨y,z⟩|⟨y,y',z⟩|⟨j,rfl,y⟩|y
  .exact h.own p s _ y i a C A.1
  .have:=A7 h.low C
   rw[A.1] at this
   exact (A6 this y).elim
  .exact h.ro p s _ y i a C A.1 (A.2.2.1.resolve_right (by rw[z];simp))
  .rcases h.quiet i a C (by rw[A.1];exact y) with ⟨al,ao⟩|q
   .obtain ⟨_,_,_,ar⟩:=A
    rcases ar with e|e|⟨_,e,K⟩
    .exact absurd e al
    .exact absurd e y'
    .have H:=ao e
     unfold Trace.g? at H
     obtain ⟨o,a0,a2⟩:=Option.map_eq_some_iff.1 H
     have:=knows_own a0
     rw[a2] at this
     rw[z K];exact this
   .exact q p s
  .exact h.sG j aa _ y i a C A.1
  .rw[<-A.1,A.2.1] at y;cases y
 .by_cases v:q=p
  .subst v
   rcases W l d with y|y
   .exact (h.own q m l y).app fun op f _ _ _=>hu op f
   .exact fresh l y
  .rw[P q v] at d
   exact (h.own q m l d).app fun op f b r e=>absurd e (ab q m v l d op f b r)
 .by_cases v:q=p
  .subst v
   rcases X l d with y|y|y
   .exact (h.ro q m l y).app fun op f _ _ _ _=>hu op f
   .exact .of ((h.own q m l y).app fun op f _ _ _=>hu op f)
   .exact .of (fresh l y)
  .rw[P q v] at d
   exact (h.ro q m l d).app fun op f b r e hw=>(ad q m v l d op f b r e hw).elim
 .refine (h.sG i B l d).app fun op f b r e=>?_
  rcases G op f b r with y|y|⟨y,_⟩|⟨y,_⟩|⟨j,K,y⟩|y<;>rw[e] at y
  .exact (n.xj s y d).elim
  .exact (n.Bb y d).elim
  .exact (n.xk s y d).elim
  .obtain ⟨a,e,hs⟩:=y
   rw[show l=_ from d] at e
   cases e
   rcases hs with hs|hs
   .exact absurd hs.symm E.1
   .exact absurd hs.symm E.2
  .have:i=j:=by rw[show l=_ from d] at y;cases y;rfl
   rw[hu op f,K,this];rfl
  .rw[show l=_ from d] at y;cases y
 .refine (h.sH i B l d).app fun op f b r e=>?_
  rcases G op f b r with y|y|⟨y,_⟩|⟨y,_⟩|⟨j,K,y⟩|y<;>rw[e] at y
  .exact (n.xj s y d).elim
  .exact (n.Bb y d).elim
  .exact (n.xk s y d).elim
  .obtain ⟨a,e,hs⟩:=y
   rw[show l=_ from d] at e
   cases e
   rcases hs with hs|hs
   .exact absurd hs.symm E.1
   .exact absurd hs.symm E.2
  .have:i=j:=by rw[show l=_ from d] at y;cases y;rfl
   omega
  .rw[show l=_ from d] at y;cases y
 .exact (Array.mem_append.1 f).elim (fun x=>MemAct.low_mono T (h.low op x)) (U op)
 .obtain ⟨x,D,M⟩:=touch_of C
  rcases getElem?_append_cases D with ⟨B,N⟩|⟨_,J⟩
  .rcases h.known i a (by rw[touchAt_of N];exact M) hm with y|y|⟨j,I,y⟩
   .exact .inl (y.app u)
   .exact .inr (.inl y)
   .exact .inr (.inr ⟨j,I,by rw[g?_old B];exact y⟩)
  .cases p with
   |zero=>have:=knows_own D;rw[hu x J] at this;exact .inl this
   |succ j=>exact .inr (.inr ⟨j,aa,by simp[Trace.g?,D,hu x J,Cy.gid]⟩)
 .by_cases B:i<t.size
  .rcases h.over i g (by rw[<-g?_old (u:=u) B];exact hg) H ((counts_old B).1 A) with ⟨j,I,y⟩|y
   .have a3:j<t.size:=by
     unfold Trace.g? at I
     obtain ⟨z,O,_⟩:=Option.map_eq_some_iff.1 I
     exact lt_size_of_getElem? O
    exact .inl ⟨j,by rw[g?_old a3];exact I,hb_app u y⟩
   .exact .inr y
  .unfold Trace.g? at hg
   obtain ⟨z,O,R⟩:=Option.map_eq_some_iff.1 hg
   rcases getElem?_append_cases O with ⟨a4,_⟩|⟨_,S⟩
   .exact absurd a4 B
   .cases p with
    |zero=>exact absurd (R▸(hu z S)) H
    |succ j=>exact .inr ⟨j,aa,by rw[<-R,hu z S];rfl⟩
theorem gj.app {g r:Nat}(h:gj c t g r)(hu:∀i x,t.size<=i->(t++u).g? i=some g->touchAt (t++u) i=some x->x.kind= .atomic/\¬(t++u).heard i/\∃a,x.loc= .cell a/\a.block=c.Wg):gj c (t++u) g r:=by
 have b:r<t.size:=lt_of_act? h.act;refine ⟨h.late,by rw[act?_old b];exact h.act,by rw[g?_old b];exact h.A5,(heard_old b).2 h.heard,fun i x f hg e=>?_⟩;rcases Nat.lt_or_ge i t.size with d|j
 .rw[heard_old d];exact h.after i x f (by rw[<-g?_old (u:=u) d];exact hg) (by rw[<-touchAt_old (u:=u) d];exact e)
 .exact hu i x j hg e
theorem gj.other {g r g':Nat}(h:gj c t g r)(a:g'≠g)(hu:∀op∈u,op.g=g'):gj c (t++u) g r:=by
 refine h.app fun i x f hg j=>?_;unfold Trace.g? at hg;obtain ⟨z,b,d⟩:=Option.map_eq_some_iff.1 hg;rcases getElem?_append_cases b with ⟨k,_⟩|⟨_,e⟩
 .omega
 .exact absurd (hu z e▸d) a
theorem eJ.fork (hb:0<c.base)(J:dX c k Fr w)(h:eJ c bI k Fr w.heap.size t){x y:MemOp}(r:x.g=0/\x.act= .go (c.base+k))(s:y.g=c.base+k/\y.act= .start)(D:Deaf t 0=0)(E:Deaf t (c.base+k)=0)
  {dj:Nat->af} (G:∀q,q<=k->dj q=Fr q) (K:∀l,¬fq (dj (k+1)) l) (L:∀l,iK (dj (k+1)) l->iK (Fr 0) l):eJ c bI (k+1) dj w.heap.size (t++#[x,y]):=by
 have v:∀op∈#[x,y],∀b,op.act.touch?=some b->False:=by
  intro op d b hb
  simp only[List.mem_toArray,List.mem_cons,List.not_mem_nil,or_false] at d
  rcases d with rfl|rfl
  .rw[r.2] at hb;cases hb
  .rw[s.2] at hb;cases hb
 have old:∀{i:Nat} {a:Touch},touchAt (t++#[x,y]) i=some a->touchAt t i=some a/\i<t.size:=by
  intro i a n
  obtain ⟨z,A,H⟩:=touch_of n
  rcases getElem?_append_cases A with ⟨m,M⟩|⟨_,N⟩
  .exact ⟨by rw[touchAt_of M];exact H,m⟩
  .exact (v z N a H).elim
 refine ⟨by have:=h.len;simp;omega,fun i a n hs=>?_,fun said=>?_,fun q O l f=>?_,fun q O l f=>?_,fun i m l f=>?_,fun i m l f=>?_,fun op d=>?_,sK h.norel fun op d=>?_,fun i a n hm=>?_,fun i g hg P I=>?_⟩
 .obtain ⟨F,m⟩:=old n
  rcases h.quiet i a F hs with ⟨Q,R⟩|q
  .exact .inl ⟨Q,fun e=>by rw[g?_old m];exact R e⟩
  .refine .inr fun p J=>?_
   rcases Nat.lt_or_ge k p with C|o
   .obtain rfl:p=k+1:=aa
    exact fork_knows r s D E (q 0 (Nat.zero_le _))
   .exact (q p o).app _
 .have e:t++#[x,y]=(t++#[x])++#[y]:=by apply Array.ext';simp
  rw[e]
  refine noRace_append (g:=c.base+k) (noRace_append (g:=0) (h.nr said) (fun op d=>by simp at d;rw[d];exact r.1) (fun i a _ op d b hb _=>(v op (by simp at d ⊢;exact .inl d) b hb).elim))
   (fun op d=>by simp at d;rw[d];exact s.1) (fun i a _ op d b hb _=>(v op (by simp at d ⊢;exact .inr d) b hb).elim)
 .rcases Nat.lt_or_ge k q with C|o
  .obtain rfl:q=k+1:=aa
   exact (K l f).elim
  .rw[G q o] at f
   exact (h.own q o l f).app fun op d b hb _=>(v op d b hb).elim
 .rcases Nat.lt_or_ge k q with C|o
  .obtain rfl:q=k+1:=aa
   exact fun i a n e hw=>fork_knows r s D E (h.ro 0 (Nat.zero_le _) l (L l f) i a (old n).1 e hw)
  .rw[G q o] at f
   exact (h.ro q o l f).app fun op d b hb _ _=>(v op d b hb).elim
 .rcases Nat.lt_or_ge i k with C|o
  .exact (h.sG i C l f).app fun op d b hb _=>(v op d b hb).elim
  .obtain rfl:i=k:=aa
   exact fun j a n e=>fork_knows r s D E (h.sH i (Nat.le_refl _) l f j a (old n).1 e)
 .exact (h.sH i aa l f).app fun op d b hb _=>(v op d b hb).elim
 .rcases Array.mem_append.1 d with z|z
  .exact h.low op z
  .simp only[List.mem_toArray,List.mem_cons,List.not_mem_nil,or_false] at z
   rcases z with rfl|rfl
   .rw[r.2];trivial
   .rw[s.2];trivial
 .simp only[List.mem_toArray,List.mem_cons,List.not_mem_nil,or_false] at d
  rcases d with rfl|rfl
  .rw[r.2];simp
  .rw[s.2];simp
 .obtain ⟨F,m⟩:=old n
  rcases h.known i a F hm with z|z|⟨j,B,z⟩
  .exact .inl (z.app _)
  .exact .inr (.inl z)
  .exact .inr (.inr ⟨j,aa,by rw[g?_old m];exact z⟩)
 .have S:=I
  obtain ⟨z,A,_⟩:=I
  obtain ⟨_,m⟩:=old (show touchAt _ i=some z from A)
  rcases h.over i g (by rw[<-g?_old (u:=#[x,y]) m];exact hg) P ((counts_old m).1 S) with ⟨j,B,y'⟩|⟨j,B,y'⟩
  .have T:j<t.size:=by
    unfold Trace.g? at B
    obtain ⟨z,A,_⟩:=Option.map_eq_some_iff.1 B
    exact lt_size_of_getElem? A
   exact .inl ⟨j,by rw[g?_old T];exact B,hb_app _ y'⟩
  .exact .inr ⟨j,aa,y'⟩
theorem eJ.fR (h:eJ c bI k Fr w.heap.size t)(d:∀i,i<k->∃r,gj c t (c.base+i) r){y:MemOp}(f:y.g=0/\y.act= .mark (.acquire (stA c.Wg)))(C:Deaf t 0=0)(J:c.Wg<w.heap.size):
  Past (fun l=>bI l\/∃a,l= .cell a/\a.block=c.Wg) w.heap.size (t++#[y]):=by
 have hyp:(t++#[y])[t.size]?=some y:=by rw[Array.getElem?_append_right (Nat.le_refl _)];simp
 have D:∀op∈#[y],∀b,op.act.touch?=some b->False:=by
  intro op e b hb
  simp only[List.mem_toArray,List.mem_cons,List.not_mem_nil,or_false] at e
  rw[e,f.2] at hb;cases hb
 have old:∀{i:Nat} {a:Touch},touchAt (t++#[y]) i=some a->touchAt t i=some a/\i<t.size:=by
  intro i a v
  obtain ⟨z,p,E⟩:=touch_of v
  rcases getElem?_append_cases p with ⟨m,x⟩|⟨_,K⟩
  .exact ⟨by rw[touchAt_of x];exact E,m⟩
  .exact (D z K a E).elim
 have heard:(t++#[y]).heard t.size:=⟨0,by simp[Trace.g?,f.1],by rw[deaf_old (Nat.le_refl _)];exact C⟩
 have norel:=sK (u:=#[y]) h.norel fun op e=>by
  simp only[List.mem_toArray,List.mem_cons,List.not_mem_nil,or_false] at e
  rw[e,f.2];simp
 have xe:∀g r,gj c t g r->HappensBefore (t++#[y]) r t.size:=fun g r d=>
  .single (.inr ⟨.marked (a:=stA c.Wg) (lt_of_act? d.act) (.inr (by rw[act?_old (lt_of_act? d.act)];exact d.act)) (by rw[act?_of hyp,f.2]) (fun k L _=>norel k (Nat.le_of_lt (Nat.lt_of_le_of_lt d.late L))),(heard_old (lt_of_act? d.act)).2 d.heard,heard⟩)
 have upto:∀g r i,gj c t g r->t.g? i=some g->i<=r->HappensBefore (t++#[y]) i t.size:=fun g r i d hg hle=>by
  have F:=lt_of_act? d.act
  rcases Nat.lt_or_ge i r with o|s
  .exact .trans (.single (.inl ⟨o,g,by rw[g?_old (Nat.lt_trans o F)];exact hg,by rw[g?_old F];exact d.A5⟩)) (xe g r d)
  .obtain rfl:i=r:=aa
   exact xe g i d
 refine ⟨fun said=>noRace_append (g:=0) (h.nr said) (fun op e=>by simp at e;rw[e];exact f.1) (fun i a _ op e b hb _=>(D op e b hb).elim),fun i a v hm=>?_,fun i g hg M G=>?_,?_,fun op e=>?_⟩
 .obtain ⟨H,m⟩:=old v
  rcases h.known i a H hm with z|z|⟨j,n,z⟩
  .exact .inl (z.app _)
  .exact .inr ⟨.inl z.1,z.2⟩
  .obtain ⟨r,d⟩:=d j n
   rcases Nat.lt_or_ge r i with o|s
   .obtain ⟨A,_,B⟩:=d.after i a o z H
    exact .inr ⟨.inr B,A⟩
   .exact .inl ⟨t.size,y,hyp,f.1,.inr (upto _ r i d z s)⟩
 .have N:=G
  obtain ⟨z,p,Q,O⟩:=G
  obtain ⟨x,m⟩:=old (show touchAt _ i=some z from p)
  rcases h.over i g (by rw[<-g?_old (u:=#[y]) m];exact hg) M ((counts_old m).1 N) with ⟨j,n,y'⟩|⟨j,n,y'⟩
  .have P:j<t.size:=by
    unfold Trace.g? at n
    obtain ⟨z,p,_⟩:=Option.map_eq_some_iff.1 n
    exact lt_size_of_getElem? p
   exact ⟨j,by rw[g?_old P];exact n,hb_app _ y'⟩
  .obtain ⟨r,d⟩:=d j n
   have I:t.g? i=some (c.base+j):=by rw[<-g?_old (u:=#[y]) m,hg,y']
   rcases Nat.lt_or_ge r i with o|s
   .obtain ⟨A,B,_⟩:=d.after i z o I x
    rcases O with q|q
    .exact absurd A q
    .exact absurd ((heard_old m).1 q) B
   .exact ⟨t.size,by simp[Trace.g?,f.1],upto _ r i d I s⟩
 .rw[Deaf_push]
  simp only[deafStep,f.2]
  exact C
 .rcases Array.mem_append.1 e with z|z
  .exact h.low op z
  .simp only[List.mem_toArray,List.mem_cons,List.not_mem_nil,or_false] at z
   rw[z,f.2];exact J
end
end Go.Sep
end
section
namespace Go.Sep
open Go Go.Conc
open Go.ConcN (sumTo upd upd_ne upd_same sumTo_congr)
open Go.ConcM (MuAt muA msA muBlock OsLater)
open Go.ConcR (WgAt wgBlock stA smA)
def cQ (m:Mark):Event:=⟨.mark m,false,true⟩
def cH (c:Cy)(w:World)(s:Sh):Prop:=MuAt c.tM c.Mu w s.mu s.ms/\WgAt c.tW c.Wg w s.wg s.ws/\w.heap[c.Is]?=some (.cells (s.is.map Value.bool).toArray c.tI)
structure ia (c:Cy)(w w':World):Prop where
 tape:w'.tape=w.tape
 output:w'.output=w.output
 size:w'.heap.size=w.heap.size
 os:OsLater w.os w'.os
 block:∀k,¬c.shared k->w'.heap[k]?=w.heap[k]?
theorem ia.refl (c:Cy)(w:World):ia c w w:=⟨rfl,rfl,rfl,.refl _,fun _ _=>rfl⟩
inductive EvA (c:Cy)(i:Nat)(ph aV:Ph)(es:Array Event):Prop
 |book (h:∀e∈es,e=cQ .disable\/e=cQ .enable\/∃a x,e=⟨.cell a,x,true⟩/\(a.block=c.Wg\/(a.block=c.Mu/\ph.gp= .cnt))) (hd:deafBehind ph.deaf es=aV.deaf)
   (ht:∀j e,es[j]?=some e->(MemAct.ofEvent e).touch?=none\/0<deafBehind ph.deaf (es.extract 0 j)) (hg:aV.gp= .cnt↔ph.gp= .cnt)
 |word (m:Mark) (he:es=#[cQ m]) (hm:m= .acquire (muA c.Mu)\/m= .releaseMerge (muA c.Mu)) (hd:aV.deaf=ph.deaf) (hg:aV.gp= .cnt/\ph.gp= .cnt)
 |store (he:es=#[⟨.cell ⟨c.Is,i,none⟩,true,false⟩]) (hd:aV.deaf=ph.deaf) (hg:aV.gp= .cnt/\ph.gp= .cnt)
 |rel (he:es=#[cQ (.releaseMerge (stA c.Wg))]) (hd:ph.deaf=0/\aV.deaf=0) (hg:ph.gp= .cnt)
def iL (c:Cy)(i:Nat):Rk->Goroutine->af->Ph->Prop
 | .mk ι f,g,F,ph=>
  (ph.gp= .gone/\∃q,Rk.mk ι f=Rk.nat q/\QuitsD c.P q ph.deaf g)\/
  (g.status= .running/\g.offers=none/\ph.gp= .cnt/\∀w,Has F w->∃(x:ι) (g':Goroutine) (w':World) (es:Array Event) (F':af),
   stepG c.P false g w= .go g' w' es/\ey F F' w w'/\Has F' w'/\(∀e∈es,iR F.ro (gT F w.heap.size w'.heap.size) e)/\iL c i (f x) g' F' ph)\/
  (g.status= .running/\g.offers=none/\ph.gp≠ .gone/\∀(w:World) (s:Sh) (k:Nat) (φ:Nat->Ph) (p0:P0),Has F w->cH c w s->i<c.n->φ i=ph->Inv c.n c.bs k φ p0 s->
   (ph.mp.iI=true/\s.ms=0/\stepG c.P false g w= .go {g with status:=.blocked} w #[])\/
   (∃(x:ι) (g':Goroutine) (w':World) (es:Array Event) (s':Sh) (aV:Ph) (F':af),stepG c.P false g w= .go g' w' es/\cH c w' s'/\ia c w w'/\Inv c.n c.bs k (upd φ i aV) p0 s'/\EvA c i ph aV es/\
    (mayWake c.P g=true\/(s'.ms<=s.ms/\s'.ws<=s.ws))/\Le F' F/\iL c i (f x) g' F' aV))
def Wk (c:Cy)(i:Nat)(ph:Ph)(g:Goroutine)(F:af):Prop:=∃F0 r,Le F0 F/\iL c i r g F0 ph
theorem Wk.mono {c:Cy}{i:Nat}{ph:Ph}{g:Goroutine}{F F':af}(hle:Le F F')(h:Wk c i ph g F):Wk c i ph g F':=
 let ⟨F0,r,a,b⟩:=h;⟨F0,r,a.trans hle,b⟩
theorem Wk.closed (c:Cy)(i:Nat)(ph:Ph)(hg:ph.gp= .cnt):Closed c.P false (fun g F=>Wk c i ph g F) where
 mono hle h:=h.mono hle
 step {fr cs F} h:=by
  classical
  let Q:World->Rk->Prop:=fun w r=>∃(g':Goroutine) (w':World) (es:Array Event) (F':af),
   stepG c.P false (G fr cs) w= .go g' w' es/\ey F F' w w'/\Has F' w'/\(∀e∈es,iR F.ro (gT F w.heap.size w'.heap.size) e)/\iL c i r g' F' ph
  refine ⟨F,.mk World fun w=>if f:∃r,Q w r then Classical.choose f else Rk.nat 0,.refl F,?_⟩
  refine .inr (.inl ⟨rfl,rfl,hg,fun w hw=>?_⟩)
  obtain ⟨g',w',es,F',k,d,l,m,F0,r,j,n⟩:=h w hw
  have f:∃r,Q w r:=⟨r,g',w',es,F0,k,⟨d.os,d.tape,d.output,d.size,d.frame,fun a o=>(j.ro a o).elim (d.ro a) fun x=>.inr (d.own _ x),fun b hb=>d.own b (j.own b hb)⟩,j.has _ l,m,n⟩
  obtain ⟨g',w',es,F',k1,p,q,s,t⟩:=Classical.choose_spec f
  exact ⟨w,g',w',es,F',k1,p,q,s,by simp only[dif_pos f];exact t⟩
theorem Wk.act {c:Cy}{i:Nat}{ph:Ph}{g:Goroutine}{F:af}(hs:g.status= .running)(o:g.offers=none)(hg:ph.gp≠ .gone)
  (h:∀(w:World) (s:Sh) (k:Nat) (φ:Nat->Ph) (p0:P0),Has F w->cH c w s->i<c.n->φ i=ph->Inv c.n c.bs k φ p0 s->
   (ph.mp.iI=true/\s.ms=0/\stepG c.P false g w= .go {g with status:=.blocked} w #[])\/
   (∃(g':Goroutine) (w':World) (es:Array Event) (s':Sh) (aV:Ph),stepG c.P false g w= .go g' w' es/\cH c w' s'/\ia c w w'/\Inv c.n c.bs k (upd φ i aV) p0 s'/\EvA c i ph aV es/\
    (mayWake c.P g=true\/(s'.ms<=s.ms/\s'.ws<=s.ws))/\Wk c i aV g' F)):Wk c i ph g F:=by
 classical
 let Q:World×Sh×Nat×(Nat->Ph)×P0->Rk->Prop:=fun y r=>∃(g':Goroutine) (w':World) (es:Array Event) (s':Sh) (aV:Ph) (F':af),stepG c.P false g y.1= .go g' w' es/\cH c w' s'/\ia c y.1 w'/\Inv c.n c.bs y.2.2.1 (upd y.2.2.2.1 i aV) y.2.2.2.2 s'/\EvA c i ph aV es/\
    (mayWake c.P g=true\/(s'.ms<=y.2.1.ms/\s'.ws<=y.2.1.ws))/\Le F' F/\iL c i r g' F' aV
 refine ⟨F,.mk (World×Sh×Nat×(Nat->Ph)×P0) fun y=>if a:∃r,Q y r then Classical.choose a else Rk.nat 0,.refl F,?_⟩
 refine .inr (.inr ⟨hs,o,hg,fun w s k φ p0 p q t u v=>?_⟩)
 rcases h w s k φ p0 p q t u v with x|⟨g',w',es,s',aV,k1,b,d,e,f,j,F',r,l,m⟩
 .exact .inl x
 .have a:∃r,Q (w,s,k,φ,p0) r:=⟨r,g',w',es,s',aV,F',k1,b,d,e,f,j,l,m⟩
  obtain ⟨g',w',es,s',aV,F',k1,b,d,e,f,j,l,m⟩:=Classical.choose_spec a
  exact .inr ⟨(w,s,k,φ,p0),g',w',es,s',aV,F',k1,b,d,e,f,j,l,by simp only[dif_pos a];exact m⟩
theorem Wk.gone {c:Cy}{i:Nat}{ph:Ph}{g:Goroutine}{F:af}{q:Nat}(hg:ph.gp= .gone)(h:QuitsD c.P q ph.deaf g):Wk c i ph g F:=by
 refine ⟨F,Rk.nat q,.refl F,?_⟩;cases q with
 |zero=>exact .inl ⟨hg,0,rfl,h⟩
 |succ q=>exact .inl ⟨hg,q+1,rfl,h⟩
structure dU (c:Cy)(B0:Nat)(F F':af)(w w':World):Prop where
 os:OsLater w.os w'.os
 tape:w'.tape=w.tape
 output:w'.output=w.output
 size:w.heap.size<=w'.heap.size
 frame:∀b,b<B0->b∉keys F.own->¬c.shared b->w'.heap[b]?=w.heap[b]?
 ro:∀a,(F'.ro a).isSome=true->(F.ro a).isSome=true\/a.block∈keys F.own\/B0<=a.block\/c.shared a.block
 own:∀b,b∈keys F'.own->b∈keys F.own\/B0<=b\/c.shared b
theorem dU.refl (c:Cy)(B0:Nat)(F:af)(w:World):dU c B0 F F w w:=⟨.refl _,rfl,rfl,Nat.le_refl _,fun _ _ _ _=>rfl,fun _ h=>.inl h,fun _ h=>.inl h⟩
theorem dU.trans {c:Cy}{B0:Nat}{F G H:af}{u v w:World}(h:dU c B0 F G u v)(k:dU c B0 G H v w):dU c B0 F H u w where
 os:=h.os.trans k.os
 tape:=k.tape.trans h.tape
 output:=k.output.trans h.output
 size:=Nat.le_trans h.size k.size
 frame b hb d hs:=by
  rw[k.frame b hb (fun e=>(h.own b e).elim d fun x=>x.elim (fun y=>absurd hb aa) hs) hs]
  exact h.frame b hb d hs
 ro a x:=by
  rcases k.ro a x with y|y|y
  .exact h.ro a y
  .exact .inr (h.own _ y)
  .exact .inr (.inr y)
 own b hb:=by
  rcases k.own b hb with x|x
  .exact h.own b x
  .exact .inr x
theorem dU.le {c:Cy}{B0:Nat}{F G H:af}{w w':World}(h:Le F G)(u:dU c B0 F H w w'):dU c B0 G H w w' where
 os:=u.os
 tape:=u.tape
 output:=u.output
 size:=u.size
 frame b hb d hs:=u.frame b hb (fun x=>d (h.own b x)) hs
 ro a x:=by
  rcases u.ro a x with y|y|y
  .exact (h.ro a y).imp id .inl
  .exact .inr (.inl (h.own _ y))
  .exact .inr (.inr y)
 own b hb:=(u.own b hb).imp (h.own b) id
def n7 (c:Cy)(i:Nat)(r:Rk)(x:Goroutine)(F:af)(ph:Ph)(s:Sh):Prop:=
 (ph.gp= .gone/\∃q,r=Rk.nat q/\QuitsD c.P q ph.deaf x)\/
 (ph.gp≠ .gone/\iL c i r {x with status:=.running} F ph/\x.offers=none/\(x.status= .running\/(x.status= .blocked/\ph.mp.iI=true/\s.ms=0)))
structure dY (c:Cy)(B0:Nat)(bI:Loc->Prop)(p0:P0)(d0 k:Nat)(g:Goroutine)(Fr:Nat->af)(gs:Array Goroutine)(w:World)(t:Trace)(ρ:Nat->Rk)(φ:Nat->Ph)(s:Sh):Prop where
 size:gs.size=c.base+k
 base:0<c.base
 run:g.status= .running
 off:g.offers=none
 g0:∃x,gs[0]?=some x/\{x with status:=.running}=g/\(x.status= .running\/(x.status= .blocked/\p0= .reg/\s.ws=0))
 old:∀j x,0<j->j<c.base->gs[j]?=some x->∃q,ρ j=Rk.nat q/\QuitsD c.P q (Deaf t j) x
 wk:∀i,i<k->∃x,gs[c.base+i]?=some x/\n7 c i (ρ (c.base+i)) x (Fr (i+1)) (φ i) s
 deaf:∀i,i<k->Deaf t (c.base+i)=(φ i).deaf
 above:∀j,gs.size<=j->Deaf t j=0
 deaf0:Deaf t 0=d0
 parts:dX c k Fr w
 sh:cH c w s
 inv:Inv c.n c.bs k φ p0 s
 gR:eJ c bI k Fr w.heap.size t
 rel:∀i,i<k->(φ i).gp≠ .cnt->∃r,gj c t (c.base+i) r
 apart:∀l,bI l->¬(Fr 0).gF l
 low:∀l,bI l->l.low B0
 ji:∀i,i<k->∀b∈keys (Fr (i+1)).own,B0<=b
 jj:B0<=w.heap.size
 ne:c.Mu≠c.Wg/\c.Mu≠c.Is/\c.Wg≠c.Is
section
variable {c:Cy}{B0:Nat}{bI:Loc->Prop}{p0:P0}{d0 k:Nat}{g:Goroutine}{Fr:Nat->af}{gs:Array Goroutine}{w:World}{t:Trace}{ρ:Nat->Rk}{φ:Nat->Ph}{s:Sh}
theorem Inv.Bd (h:Inv c.n c.bs k φ p0 s):0<=s.ms:=by
 obtain ⟨C,S,W,L,m,hm⟩:=h.m;have:=hm.cnt;omega
theorem Inv.HC (h:Inv c.n c.bs k φ p0 s):0<=s.ws:=by
 have:=h.w.inv;cases p0<;>simp only at this<;>omega
theorem n7.woken {i:Nat}{r:Rk}{x:Goroutine}{F:af}{ph:Ph}{s s':Sh}(h:n7 c i r x F ph s){y y':Goroutine}{w':World}(t:0<=s'.ms)
  (hw:(mayWake c.P y=true/\y'.status≠ .blocked/\y'.status≠ .waiting)\/s'.ms<=s.ms):n7 c i r (woken c.P y y' w' x) F ph s':=by
 rcases h with ⟨hg,q,m,j⟩|⟨hg,f,e,n⟩
 .exact .inl ⟨hg,q,m,by rw[woken_quitsD j];exact j⟩
 .rcases n with k|⟨l,o,u⟩
  .rw[woken_run k];exact .inr ⟨hg,f,e,.inl k⟩
  .have p:x.again w'={x with status:=.running}:=by
    unfold Goroutine.again
    simp only[l,e]
   by_cases g:(mayWake c.P y&&y'.status != .blocked&&y'.status != .waiting)=true
   .have:Go.Conc.woken c.P y y' w' x={x with status:=.running}:=by unfold Go.Conc.woken;rw[if_pos g,p]
    rw[this]
    exact .inr ⟨hg,f,e,.inl rfl⟩
   .have:Go.Conc.woken c.P y y' w' x=x:=by unfold Go.Conc.woken;rw[if_neg g]
    rw[this]
    refine .inr ⟨hg,f,e,.inr ⟨l,o,?_⟩⟩
    rcases hw with ⟨a,b,d⟩|hw
    .simp[a,b,d] at g
    .omega
theorem HD {x:Goroutine}{s s':Sh}(h:x.offers=none)(i:x.status= .running\/(x.status= .blocked/\p0= .reg/\s.ws=0)){y y':Goroutine}{w':World}(l:0<=s'.ws)
  (hw:(mayWake c.P y=true/\y'.status≠ .blocked/\y'.status≠ .waiting)\/s'.ws<=s.ws):
  {woken c.P y y' w' x with status:=.running}=({x with status:=.running}:Goroutine)/\((woken c.P y y' w' x).status= .running\/((woken c.P y y' w' x).status= .blocked/\p0= .reg/\s'.ws=0)):=by
 rcases i with f|⟨g,j,m⟩
 .rw[woken_run f];exact ⟨rfl,.inl f⟩
 .have k:x.again w'={x with status:=.running}:=by
   unfold Goroutine.again
   simp only[g,h]
  by_cases e:(mayWake c.P y&&y'.status != .blocked&&y'.status != .waiting)=true
  .have:Go.Conc.woken c.P y y' w' x={x with status:=.running}:=by unfold Go.Conc.woken;rw[if_pos e,k]
   rw[this]
   exact ⟨rfl,.inl rfl⟩
  .have:Go.Conc.woken c.P y y' w' x=x:=by unfold Go.Conc.woken;rw[if_neg e]
   rw[this]
   refine ⟨rfl,.inr ⟨g,j,?_⟩⟩
   rcases hw with ⟨a,b,d⟩|hw
   .simp[a,b,d] at e
   .omega
theorem dY.jN (h:dY c B0 bI p0 d0 k g Fr gs w t ρ φ s){j:Nat}{x f:Goroutine}{w':World}{es:Array Event}{fn:FuncId}{pos:String}{ρ':Nat->Rk}{φ':Nat->Ph}{dj:Nat->af}{s':Sh}(Z:0<j)(F:gs[j]?=some x)
  (B:(mayWake c.P x=true/\f.status≠ .blocked/\f.status≠ .waiting)\/(s'.ms<=s.ms/\s'.ws<=s.ws))
  (C:∀a,a≠j->ρ' a=ρ a) (A:∀i,c.base+i≠j->φ' i=φ i) (D:∀i,c.base+i≠j->dj (i+1)=Fr (i+1)) (G:dj 0=Fr 0)
  (hold:j<c.base->∃q,ρ' j=Rk.nat q/\QuitsD c.P q (Deaf (t++MemOp.ofEvents j fn pos es) j) f)
  (u:∀i,j=c.base+i->i<k->n7 c i (ρ' j) f (dj (i+1)) (φ' i) s'/\Deaf (t++MemOp.ofEvents j fn pos es) j=(φ' i).deaf/\((φ' i).gp≠ .cnt->∃r,gj c (t++MemOp.ofEvents j fn pos es) j r)/\∀b∈keys (dj (i+1)).own,B0<=b)
  (H:dX c k dj w') (I:cH c w' s') (hinv:Inv c.n c.bs k φ' p0 s') (J:eJ c bI k dj w'.heap.size (t++MemOp.ofEvents j fn pos es)) (K:w.heap.size<=w'.heap.size):
  dY c B0 bI p0 d0 k g dj ((gs.map (woken c.P x f w')).setIfInBounds j f) w' (t++MemOp.ofEvents j fn pos es) ρ' φ' s':=by
 have L:j<gs.size:=(Array.getElem?_eq_some_iff.1 F).1
 have hu:∀op∈MemOp.ofEvents j fn pos es,op.g=j:=fun op M=>by obtain ⟨e,_,rfl⟩:=Go.Conc.mem_ofEvents M;rfl
 have other:∀a,a≠j->∀y,((gs.map (woken c.P x f w')).setIfInBounds j f)[a]?=some y->∃z,gs[a]?=some z/\y=woken c.P x f w' z:=fun a d y p=>by
  rw[Array.getElem?_setIfInBounds_ne (Ne.symm d),Array.getElem?_map] at p
  obtain ⟨z,o,rfl⟩:=Option.map_eq_some_iff.1 p
  exact ⟨z,o,rfl⟩
 have at_:∀a z,a≠j->gs[a]?=some z->((gs.map (woken c.P x f w')).setIfInBounds j f)[a]?=some (woken c.P x f w' z):=fun a z d o=>by
  rw[Array.getElem?_setIfInBounds_ne (Ne.symm d),Array.getElem?_map,o];rfl
 have self:((gs.map (woken c.P x f w')).setIfInBounds j f)[j]?=some f:=Array.getElem?_setIfInBounds_self_of_lt (by simpa using L)
 have v:∀a,a≠j->Deaf (t++MemOp.ofEvents j fn pos es) a=Deaf t a:=fun a d=>Deaf_other t (Ne.symm d) _ hu
 have N:(mayWake c.P x=true/\f.status≠ .blocked/\f.status≠ .waiting)\/s'.ms<=s.ms:=B.imp id And.left
 have O:(mayWake c.P x=true/\f.status≠ .blocked/\f.status≠ .waiting)\/s'.ws<=s.ws:=B.imp id And.right
 refine ⟨by simpa using h.size,h.base,h.run,h.off,?_,fun a y Q hb p=>?_,fun i m=>?_,fun i m=>?_,fun a R=>?_,?_,H,I,hinv,J,fun i m hg=>?_,fun l S=>by rw[G];exact h.apart l S,h.low,fun i m b hb=>?_,Nat.le_trans h.jj K,h.ne⟩
 .obtain ⟨z,o,e,T⟩:=h.g0
  have U:z.offers=none:=by have:=h.off;rw[<-e] at this;exact this
  obtain ⟨V,W⟩:=HD (c:=c) (p0:=p0) (s':=s') (y:=x) (y':=f) (w':=w') U T hinv.HC O
  exact ⟨_,at_ 0 z aa o,V.trans e,W⟩
 .by_cases d:a=j
  .subst d
   rw[self] at p
   cases p
   exact hold hb
  .obtain ⟨z,o,rfl⟩:=other a d y p
   obtain ⟨q,X,E⟩:=h.old a z Q hb o
   exact ⟨q,by rw[C a d];exact X,by rw[woken_quitsD E,v a d];exact E⟩
 .by_cases d:c.base+i=j
  .subst d
   exact ⟨f,self,(u i rfl m).1⟩
  .obtain ⟨z,o,hW⟩:=h.wk i m
   refine ⟨_,at_ _ z d o,?_⟩
   rw[C _ d,A i d,D i d]
   exact hW.woken hinv.Bd N
 .by_cases d:c.base+i=j
  .subst d;exact (u i rfl m).2.1
  .rw[v _ d,A i d];exact h.deaf i m
 .have:gs.size<=a:=by simpa using R
  rw[v a aa]
  exact h.above a this
 .rw[v 0 aa];exact h.deaf0
 .by_cases d:c.base+i=j
  .subst d;exact (u i rfl m).2.2.1 hg
  .rw[A i d] at hg
   obtain ⟨r,Y⟩:=h.rel i m hg
   exact ⟨r,Y.other (Ne.symm d) hu⟩
 .by_cases d:c.base+i=j
  .exact (u i d.symm m).2.2.2 b hb
  .rw[D i d] at hb;exact h.ji i m b hb
end
end Go.Sep
end
section
namespace Go.Sep
open Go Go.Conc
open Go.ConcN (sumTo upd upd_ne upd_same sumTo_congr sumTo_upd)
open Go.ConcM (MuAt muA msA muBlock OsLater)
open Go.ConcR (WgAt wgBlock stA smA)
def lu (x:Option Goroutine):Nat:=match x with
 |some x=>if x.status= .running then 1 else 0
 |none=>0
def runs (gs:Array Goroutine):Nat:=sumTo gs.size fun j=>lu gs[j]?
theorem Be {gs:Array Goroutine}{j:Nat}{x y:Goroutine}(c:gs[j]?=some x)(f:x.status= .running)(g:y.status≠ .running):runs (gs.setIfInBounds j y)<runs gs:=by
 have d:j<gs.size:=(Array.getElem?_eq_some_iff.1 c).1;have h:=sumTo_upd (fun a=>lu gs[a]?) (0:Nat) id d;simp only[id] at h;have e:runs (gs.setIfInBounds j y)=sumTo gs.size (upd (fun a=>lu gs[a]?) j 0):=by
  unfold runs;rw[Array.size_setIfInBounds];refine sumTo_congr fun a k=>?_;by_cases b:a=j
  .subst b;rw[upd_same,Array.getElem?_setIfInBounds_self_of_lt d];simp[lu,g]
  .rw[upd_ne _ _ b,Array.getElem?_setIfInBounds_ne (Ne.symm b)]
 have i:lu gs[j]?=1:=by rw[c];simp[lu,f]
 rw[e];unfold runs;simp only[i] at h;have:sumTo gs.size (fun a=>upd (fun a=>lu gs[a]?) j 0 a)=sumTo gs.size (upd (fun a=>lu gs[a]?) j 0):=rfl;omega
theorem iL.up {c:Cy}{i:Nat}{r:Rk}{g:Goroutine}{F:af}{ph:Ph}(h:iL c i r g F ph)(hg:ph.gp≠ .gone):g.status= .running/\g.offers=none:=by
 cases r with
 |mk ι f=>
  rcases h with h|h|h
  .exact absurd h.1 hg
  .exact ⟨h.1,h.2.1⟩
  .exact ⟨h.1,h.2.1⟩
theorem iL.left {c:Cy}{i:Nat}{r:Rk}{g:Goroutine}{F:af}{ph:Ph}(h:iL c i r g F ph)(hg:ph.gp= .gone):∃q,r=Rk.nat q/\QuitsD c.P q ph.deaf g:=by
 cases r with
 |mk ι f=>
  rcases h with h|h|h
  .exact h.2
  .rw[hg] at h;cases h.2.2.1
  .exact absurd hg h.2.2.1
theorem iL.xl {c:Cy}{i:Nat}{r:Rk}{g:Goroutine}{F:af}{ph:Ph}(h:iL c i r g F ph)(s:Sh):n7 c i r g F ph s/\g.status≠ .blocked/\g.status≠ .waiting:=by
 by_cases hg:ph.gp= .gone
 .obtain ⟨q,d,b⟩:=h.left hg;refine ⟨.inl ⟨hg,q,d,b⟩,?_,?_⟩<;>rcases b.status with e|e<;>rw[e]<;>simp
 .obtain ⟨a,f⟩:=h.up hg;refine ⟨.inr ⟨hg,?_,f,.inl a⟩,by rw[a];simp,by rw[a];simp⟩;have:({g with status:=.running}:Goroutine)=g:=by cases g;simp_all
  rw[this];exact h
section
variable {c:Cy}{B0:Nat}{bI:Loc->Prop}{p0:P0}{d0 k:Nat}{g:Goroutine}{Fr:Nat->af}{gs:Array Goroutine}{w:World}{t u:Trace}{ρ:Nat->Rk}{φ:Nat->Ph}{s:Sh}
theorem eJ.still {B:Nat}(h:eJ c bI k Fr B t)(w:∀op∈u,op.act.touch?=none)(f:∀op∈u,op.act.low B)(x:∀op∈u,op.act≠ .mark (.release (stA c.Wg))){gg:Nat}(hu:∀op∈u,op.g=gg):eJ c bI k Fr B (t++u):=by
 have m:∀op∈u,∀b,op.act.touch?=some b->False:=fun op d b hb=>by rw[w op d] at hb;cases hb
 have old:∀{i:Nat} {a:Touch},touchAt (t++u) i=some a->touchAt t i=some a/\i<t.size:=by
  intro i a p;obtain ⟨z,n,s⟩:=touch_of p;rcases getElem?_append_cases n with ⟨e,y⟩|⟨_,A⟩
  .exact ⟨by rw[touchAt_of y];exact s,e⟩
  .exact (m z A a s).elim
 refine ⟨by have:=h.len;simp;omega,Bc h.quiet fun op d b hb _=>(m op d b hb).elim,fun said=>noRace_append (g:=gg) (h.nr said) hu fun i a _ op d b hb _=>(m op d b hb).elim,fun q r l f=>(h.own q r l f).app fun op d b hb _=>(m op d b hb).elim,fun q r l f=>(h.ro q r l f).app fun op d b hb _ _=>(m op d b hb).elim,
  fun i e l f=>(h.sG i e l f).app fun op d b hb _=>(m op d b hb).elim,fun i e l f=>(h.sH i e l f).app fun op d b hb _=>(m op d b hb).elim,fun op d=>(Array.mem_append.1 d).elim (h.low op) (f op),sK h.norel x,fun i a p hm=>?_,fun i g hg C v=>?_⟩
 .obtain ⟨D,e⟩:=old p;rcases h.known i a D hm with z|z|⟨j,o,z⟩
  .exact .inl (z.app _)
  .exact .inr (.inl z)
  .exact .inr (.inr ⟨j,o,by rw[g?_old e];exact z⟩)
 .have E:=v;obtain ⟨z,n,_⟩:=v;obtain ⟨_,e⟩:=old (show touchAt _ i=some z from n);rcases h.over i g (by rw[<-g?_old (u:=u) e];exact hg) C ((counts_old e).1 E) with ⟨j,o,y'⟩|y'
  .have F:j<t.size:=by
    unfold Trace.g? at o;obtain ⟨z,n,_⟩:=Option.map_eq_some_iff.1 o;exact lt_size_of_getElem? n
   exact .inl ⟨j,by rw[g?_old F];exact o,hb_app _ y'⟩
  .exact .inr y'
theorem eJ.mute {B:Nat}(h:eJ c bI k Fr B t){j:Nat}{fn:FuncId}{pos:String}{es:Array Event}(hm:∀e∈es,e.mute=true):eJ c bI k Fr B (t++MemOp.ofEvents j fn pos es):=by
 refine h.still (gg:=j) (fun op a=>?_) (fun op a=>?_) (fun op a=>?_) (fun op a=>?_)<;>obtain ⟨e,he,rfl⟩:=Go.Conc.mem_ofEvents a
 .exact touch_mute (hm e he)
 .exact low_mute (hm e he) B
 .have:=hm e he;obtain ⟨loc,wr,sy⟩:=e;cases loc with
  |mark m=>cases m<;>simp_all [Event.mute,MemAct.ofEvent]
  |_=>simp_all [Event.mute]
 .rfl
theorem Inv.deaf {n:Nat}{bs:Nat->Bool}(h:Inv n bs k φ p0 s){i:Nat}(g:i<n)(hg:(φ i).gp≠ .new)(d:Nat):Inv n bs k (upd φ i {φ i with deaf:=d}) p0 s:=by
 obtain ⟨C,S,W,L,m,hm⟩:=h.m;refine ⟨⟨C,S,W,L,m,mG hm g _ (.inl rfl)⟩,sF h.w g _ (.inl rfl),h.i.len,h.i.kn,fun j a=>?_,fun j a=>?_,fun j a b=>?_,fun j a c f=>?_⟩<;>by_cases e:j=i
 .subst e;rw[upd_same];exact h.i.all j a
 .rw[upd_ne _ _ e];exact h.i.all j a
 .subst e;rw[upd_same];exact h.i.born j a
 .rw[upd_ne _ _ e];exact h.i.born j a
 .subst e;rw[upd_same] at b;exact absurd b hg
 .rw[upd_ne _ _ e] at b ⊢;exact h.i.new j a b
 .subst e;rw[upd_same] at c f ⊢;exact h.i.done j a c f
 .rw[upd_ne _ _ e] at c f ⊢;exact h.i.done j a c f
theorem cH.keep {w w':World}(h:cH c w s)(he:∀b,c.shared b->w'.heap[b]?=w.heap[b]?):cH c w' s:=by
 obtain ⟨a,d,e⟩:=h;refine ⟨?_,?_,?_⟩
 .unfold MuAt at*;rw[he _ (.inl rfl)];exact a
 .unfold WgAt at*;rw[he _ (.inr (.inl rfl))];exact d
 .rw[he _ (.inr (.inr rfl))];exact e
theorem dX.walk (h:dX c k Fr w){p:Nat}(s:p<=k){F':af}{w':World}(hu:ey (Fr p) F' w w')(t:Has F' w'):dX c k (upd Fr p F') w':=by
 have keep:∀b,b<w.heap.size->b∉keys (Fr p).own->w'.heap[b]?=w.heap[b]?:=hu.frame;have j:∀q,q≠p->(upd Fr p F') q=Fr q:=fun q d=>upd_ne _ _ d;have self:(upd Fr p F') p=F':=upd_same _ _ _;refine ⟨fun q d=>?_,fun q r d f i b hb l=>?_,fun q r d f i a g hb=>?_,fun q d b hb hs=>?_,fun q d a g hs=>?_,fun b hb=>Nat.lt_of_lt_of_le (h.gA b hb) hu.size⟩
 .by_cases e:q=p
  .subst e;rw[self];exact t
  .rw[j q e];have m:=h.has q d
   exact ⟨fun a v f=>by
    have:=m.ro a v f;unfold World.cell? at this ⊢;rw[keep _ (m.gU (a:=a) (by rw[f];rfl)) (fun hm=>h.ro q p d s e a (by rw[f];rfl) hm)]
    exact this,fun b o hb=>by rw[keep b (m.lt (fe hb)) (fun hm=>h.own q p d s e b (fe hb) hm)];exact m.own b o hb,m.nodup,m.apart⟩
 .by_cases eq:q=p
  .subst eq;rw[self] at hb;rw[j r (Ne.symm i)] at l;rcases hu.own b hb with x|x
   .exact h.own q r d f i b x l
   .have:=(h.has r f).lt l;omega
  .rw[j q eq] at hb;by_cases n:r=p
   .subst n;rw[self] at l;rcases hu.own b l with x|x
    .exact h.own q r d f i b hb x
    .have:=(h.has q d).lt hb;omega
   .rw[j r n] at l;exact h.own q r d f i b hb l
 .by_cases eq:q=p
  .subst eq;rw[self] at g;rw[j r (Ne.symm i)] at hb;rcases hu.ro a g with x|x|x
   .exact h.ro q r d f i a x hb
   .exact h.own q r d f i _ x hb
   .have:=(h.has r f).lt hb;omega
  .rw[j q eq] at g;by_cases n:r=p
   .subst n;rw[self] at hb;rcases hu.own _ hb with x|x
    .exact h.ro q r d f i a g x
    .have:=(h.has q d).gU g;omega
   .rw[j r n] at hb;exact h.ro q r d f i a g hb
 .by_cases e:q=p
  .subst e;rw[self] at hb;rcases hu.own b hb with x|x
   .exact h.gQ q d b x hs
   .have:=h.gA b hs;omega
  .rw[j q e] at hb;exact h.gQ q d b hb hs
 .by_cases e:q=p
  .subst e;rw[self] at g;rcases hu.ro a g with x|x|x
   .exact h.jh q d a x hs
   .exact h.gQ q d _ x hs
   .have:=h.gA _ hs;omega
  .rw[j q e] at g;exact h.jh q d a g hs
theorem dX.act (h:dX c k Fr w){p:Nat}(u:p<=k){F':af}{w':World}(he:ia c w w')(hle:Le F' (Fr p)):dX c k (upd Fr p F') w':=by
 have n:∀q,q<=k->Has (Fr q) w':=fun q d=>by
  have j:=h.has q d
  exact ⟨fun a v g=>by
   have:=j.ro a v g;unfold World.cell? at this ⊢;rw[he.block _ (h.jh q d a (by rw[g];rfl))]
   exact this,fun b o hb=>by rw[he.block b (h.gQ q d b (fe hb))];exact j.own b o hb,j.nodup,j.apart⟩
 have m:∀q,q≠p->(upd Fr p F') q=Fr q:=fun q d=>upd_ne _ _ d;have self:(upd Fr p F') p=F':=upd_same _ _ _;have i:∀q b,b∈keys ((upd Fr p F') q).own->b∈keys (Fr q).own:=fun q b hb=>by
  by_cases e:q=p
  .subst e;rw[self] at hb;exact hle.own b hb
  .rw[m q e] at hb;exact hb
 have s:∀q a,(((upd Fr p F') q).ro a).isSome=true->((Fr q).ro a).isSome=true\/a.block∈keys (Fr q).own:=fun q a f=>by
  by_cases e:q=p
  .subst e;rw[self] at f;exact hle.ro a f
  .rw[m q e] at f;exact .inl f
 refine ⟨fun q d=>?_,fun q r d g l b hb t=>h.own q r d g l b (i q b hb) (i r b t),fun q r d g l a f hb=>(s q a f).elim (fun x=>h.ro q r d g l a x (i r _ hb)) (fun x=>h.own q r d g l _ x (i r _ hb)),
  fun q d b hb hs=>h.gQ q d b (i q b hb) hs,fun q d a f hs=>(s q a f).elim (fun x=>h.jh q d a x hs) (fun x=>h.gQ q d _ x hs),fun b hb=>by rw[he.size];exact h.gA b hb⟩
 by_cases e:q=p
 .subst e;rw[self];exact hle.has _ (n q d)
 .rw[m q e];exact n q d
theorem dX.at (h:dX c k Fr w)(d:Nat):dX c k Fr (w.at d):=⟨fun p a=>(h.has p a).at d,h.own,h.ro,h.gQ,h.jh,h.gA⟩
theorem dY.at (h:dY c B0 bI p0 d0 k g Fr gs w t ρ φ s)(d:Nat):dY c B0 bI p0 d0 k g Fr gs (w.at d) t ρ φ s:=
 ⟨h.size,h.base,h.run,h.off,h.g0,h.old,h.wk,h.deaf,h.above,h.deaf0,h.parts.at d,h.sh,h.inv,h.gR,h.rel,h.apart,h.low,h.ji,h.jj,h.ne⟩
theorem lz {F:af}{w w':World}(g:Has F w)(h:w.heap.size<=w'.heap.size){e:Event}(he:iR F.ro (gT F w.heap.size w'.heap.size) e)(p:Nat):
  (∀x,(MemAct.ofEvent e).touch?=some x->sJ c F w.heap.size p x)/\(MemAct.ofEvent e).low w'.heap.size/\MemAct.ofEvent e≠ .mark (.release (stA c.Wg))/\e.loc≠ .mark .disable/\e.loc≠ .mark .enable:=by
 have hm:∀b,gT F w.heap.size w'.heap.size b->b<w'.heap.size:=fun b hb=>hb.elim (fun x=>Nat.lt_of_lt_of_le (g.lt x) h) (fun x=>x.2)
 rcases he with ⟨a,wr,rfl,d⟩|⟨r,wr,rfl,d⟩|⟨m,rfl,i⟩
 .refine ⟨fun x f=>?_,?_,by cases wr<;>simp[MemAct.ofEvent],av,av⟩
  .have e1:x=⟨.cell a,wr,.plain⟩:=by cases wr<;>simp[MemAct.ofEvent,MemAct.touch?] at f<;>rw[<-f]
   subst e1
   rcases d with (d|d)|⟨hw,d⟩
   .exact .inl d
   .exact .inr (.inl d.1)
   .exact .inr (.inr (.inl ⟨⟨a,rfl,d⟩,hw⟩))
  .have:a.block<w'.heap.size:=d.elim (hm _) fun x=>Nat.lt_of_lt_of_le (g.gU x.2) h
   cases wr<;>exact this
 .refine ⟨fun x f=>?_,?_,by cases wr<;>simp[MemAct.ofEvent],av,av⟩
  .have e1:x=⟨.obj r,wr,.plain⟩:=by cases wr<;>simp[MemAct.ofEvent,MemAct.touch?] at f<;>rw[<-f]
   subst e1
   rcases d with d|d
   .exact .inl d
   .exact .inr (.inl d.1)
  .have:=hm _ d
   cases wr<;>exact this
 .cases m<;>simp[om] at i<;>exact ⟨fun x d=>by simp[MemAct.ofEvent,MemAct.touch?] at d,trivial,by simp[MemAct.ofEvent],av,av⟩
theorem HE {i:Nat}{ph aV:Ph}{es:Array Event}(h:EvA c i ph aV es)(F:af)(B:Nat)(f:∀b,c.shared b->b<B):∀e∈es,
  (∀x,(MemAct.ofEvent e).touch?=some x->sJ c F B (i+1) x)/\(MemAct.ofEvent e).low B/\MemAct.ofEvent e≠ .mark (.release (stA c.Wg)):=by
 intro e he
 cases h with
 |book h hd ht hg=>
  rcases h e he with rfl|rfl|⟨a,x,rfl,k⟩
  .exact ⟨fun x d=>by simp[cQ,MemAct.ofEvent,MemAct.touch?] at d,trivial,by simp[cQ,MemAct.ofEvent]⟩
  .exact ⟨fun x d=>by simp[cQ,MemAct.ofEvent,MemAct.touch?] at d,trivial,by simp[cQ,MemAct.ofEvent]⟩
  .refine ⟨fun y g=>?_,?_,by cases x<;>simp[MemAct.ofEvent]⟩
   .have:y=⟨.cell a,x,.atomic⟩:=by cases x<;>simp[MemAct.ofEvent,MemAct.touch?] at g<;>rw[<-g]
    subst this
    exact .inr (.inr (.inr (.inl ⟨⟨a,rfl,k.elim .inr fun z=>.inl z.1⟩,av,av⟩)))
   .have:a.block<B:=f _ (k.elim (fun z=>.inr (.inl z)) fun z=>.inl z.1)
    cases x<;>exact this
 |word m j hm hd hg=>
  rw[j] at he
  simp only[List.mem_toArray,List.mem_singleton] at he
  subst he
  rcases hm with rfl|rfl
  .exact ⟨fun x d=>by simp[cQ,MemAct.ofEvent,MemAct.touch?] at d,f _ (.inl rfl),by simp[cQ,MemAct.ofEvent]⟩
  .exact ⟨fun x d=>by simp[cQ,MemAct.ofEvent,MemAct.touch?] at d,f _ (.inl rfl),by simp[cQ,MemAct.ofEvent]⟩
 |store j hd hg=>
  rw[j] at he
  simp only[List.mem_toArray,List.mem_singleton] at he
  subst he
  refine ⟨fun y g=>?_,f _ (.inr (.inr rfl)),by simp[MemAct.ofEvent]⟩
  have:y=⟨.cell ⟨c.Is,i,none⟩,true,.plain⟩:=by simp[MemAct.ofEvent,MemAct.touch?] at g;rw[<-g]
  subst this
  exact .inr (.inr (.inr (.inr (.inl ⟨i,rfl,rfl⟩))))
 |rel j hd hg=>
  rw[j] at he
  simp only[List.mem_toArray,List.mem_singleton] at he
  subst he
  exact ⟨fun x d=>by simp[cQ,MemAct.ofEvent,MemAct.touch?] at d,f _ (.inr (.inl rfl)),by simp[cQ,MemAct.ofEvent]⟩
theorem HF {i:Nat}{ph aV:Ph}{es:Array Event}(h:EvA c i ph aV es):deafBehind ph.deaf es=aV.deaf:=by
 cases h with
 |book h hd ht hg=>exact hd
 |word m a hm hd hg=>rw[a,hd];rcases hm with rfl|rfl<;>simp[cQ,deafBehind]
 |store a hd hg=>rw[a,hd];simp[deafBehind]
 |rel a hd hg=>rw[a,hd.2,hd.1];simp[cQ,deafBehind]
theorem HG (d:Nat)(es:Array Event)(n:Nat)(h:n<=es.size){fn:FuncId}{pos:String}{j:Nat}(t:Trace)(hd:Deaf t j=d):(t++MemOp.ofEvents j fn pos es).deaf j (t.size+n)=deafBehind d (es.extract 0 n):=by
 have e1:es=es.extract 0 n++es.extract n es.size:=by simp[Array.extract_append_extract,h]
 have e2:MemOp.ofEvents j fn pos es=MemOp.ofEvents j fn pos (es.extract 0 n)++MemOp.ofEvents j fn pos (es.extract n es.size):=by
  rw[Go.Conc.ofEvents_eq,Go.Conc.ofEvents_eq,Go.Conc.ofEvents_eq,<-Array.map_append,<-e1]
 rw[e2,<-Array.append_assoc];have hs:(t++MemOp.ofEvents j fn pos (es.extract 0 n)).size=t.size+n:=by rw[Go.Conc.ofEvents_eq];simp;omega
 rw[<-hs,deaf_old (Nat.le_refl _)];have:=Deaf_own t j fn pos (es.extract 0 n);unfold Deaf at this;rw[this];exact congrArg (fun d=>deafBehind d _) hd
theorem HH {i j:Nat}{ph aV:Ph}{es:Array Event}{fn:FuncId}{pos:String}(hlen:c.T0<=t.size)(h:EvA c i ph aV es)(hd:Deaf t j=ph.deaf)(k:ph.gp≠ .cnt->∃r,gj c t j r)(l:aV.gp≠ .cnt):∃r,gj c (t++MemOp.ofEvents j fn pos es) j r:=by
 cases h with
 |book h d ht hg=>
  have o:ph.gp≠ .cnt:=fun e=>l (hg.2 e);obtain ⟨r,k⟩:=k o;refine ⟨r,k.app fun idx x p s n=>?_⟩;obtain ⟨z,f,b⟩:=touch_of n;have u:(MemOp.ofEvents j fn pos es)[idx - t.size]?=some z:=by rw[Array.getElem?_append_right p] at f;exact f
  rw[Go.Conc.ofEvents_eq,Array.getElem?_map] at u;obtain ⟨e,he,rfl⟩:=Option.map_eq_some_iff.1 u;have v:idx - t.size<es.size:=(Array.getElem?_eq_some_iff.1 he).1;rcases ht _ e he with q|q
  .simp only at b;rw[q] at b;cases b
  rcases h e (Array.mem_of_getElem? he) with rfl|rfl|⟨a,y,rfl,w⟩
  .simp[cQ,MemAct.ofEvent,MemAct.touch?] at b
  .simp[cQ,MemAct.ofEvent,MemAct.touch?] at b
  .have:x=⟨.cell a,y,.atomic⟩:=by cases y<;>simp[MemAct.ofEvent,MemAct.touch?] at b<;>rw[<-b]
   subst this;refine ⟨rfl,?_,a,rfl,w.resolve_right fun z=>o z.2⟩;rintro ⟨g,hg,A⟩;have B:g=j:=by rw[s] at hg;exact (Option.some.inj hg).symm
   subst B;have e1:idx=t.size+(idx - t.size):=aa;rw[e1,HG ph.deaf es (idx - t.size) (Nat.le_of_lt v) t hd] at A;omega
 |word m he hm d hg=>exact absurd hg.1 l
 |store he d hg=>exact absurd hg.1 l
 |rel he d hg=>
  refine ⟨t.size,?_⟩;have C:MemOp.ofEvents j fn pos es=#[{g:=j,fn:=fn,pos:=pos,act:=.mark (.releaseMerge (stA c.Wg))}]:=by rw[Go.Conc.ofEvents_eq,he];simp[cQ,MemAct.ofEvent]
  rw[C];have D:(t++#[({g:=j,fn:=fn,pos:=pos,act:=.mark (.releaseMerge (stA c.Wg))}:MemOp)])[t.size]?=some {g:=j,fn:=fn,pos:=pos,act:=.mark (.releaseMerge (stA c.Wg))}:=by
   rw[Array.getElem?_append_right (Nat.le_refl _)];simp
  refine ⟨hlen,act?_of D,by simp[Trace.g?],⟨j,by simp[Trace.g?],by rw[deaf_old (Nat.le_refl _)];exact hd.trans d.1⟩,fun idx x p s n=>?_⟩;obtain ⟨z,f,_⟩:=touch_of n;have:=lt_size_of_getElem? f;simp at this;omega
end
section
variable {c:Cy}{B0:Nat}{bI:Loc->Prop}{p0:P0}{d0 k:Nat}{g:Goroutine}{Fr:Nat->af}{gs:Array Goroutine}{w:World}{t u:Trace}{ρ:Nat->Rk}{φ:Nat->Ph}{s:Sh}
theorem dU.at_ (F:af)(w:World)(d:Nat):dU c B0 F F w (w.at d):=⟨.refl _,rfl,rfl,Nat.le_refl _,fun _ _ _ _=>rfl,fun _ h=>.inl h,fun _ h=>.inl h⟩
structure HI (c:Cy)(B0:Nat)(bI:Loc->Prop)(p0:P0)(d0 k:Nat)(g:Goroutine)(Fr:Nat->af)(gs:Array Goroutine)(w:World)(t:Trace)(ρ:Nat->Rk)(m:Machine)(ops:Array MemOp)(sl:Option (Nat×Nat)):Prop where
 ex:∃(cg:Array Goroutine) (w':World) (ρ':Nat->Rk) (φ':Nat->Ph) (dj:Nat->af) (s':Sh),m=crowd cg w' sl/\dY c B0 bI p0 d0 k g dj cg w' (t++ops) ρ' φ' s'/\
  cg.size=gs.size/\dj 0=Fr 0/\dU c B0 (Fr 0) (Fr 0) w w'/\yD gs.size (ρ',runs cg) (ρ,runs gs)
def lA (ρ:Nat->Rk)(j:Nat)(r:Rk)(a:Nat):Rk:=if a=j then r else ρ a
theorem n8 (ρ:Nat->Rk)(j:Nat)(r:Rk):lA ρ j r j=r:=if_pos rfl
theorem mH (ρ:Nat->Rk)(r:Rk){a j:Nat}(h:a≠j):lA ρ j r a=ρ a:=if_neg h
theorem sL {n j:Nat}{ρ:Nat->Rk}{r:Rk}(a:j<n)(h:(ρ j).kids r):qi n (lA ρ j r) ρ:=⟨j,a,by rw[n8];exact h,fun _ b=>mH _ _ b⟩
theorem dY.other (h:dY c B0 bI p0 d0 k g Fr gs w t ρ φ s){j:Nat}{x:Goroutine}(L:0<j)(B:gs[j]?=some x)(G:x.status= .running)(sl:Option (Nat×Nat)):
  ∃m ops,runT c.P (crowd gs w sl) j=(.next m,ops)/\HI c B0 bI p0 d0 k g Fr gs w t ρ m ops sl:=by
 have R:j<gs.size:=(Array.getElem?_eq_some_iff.1 B).1
 have N:(j==0)=false:=by simp;omega
 rcases Nat.lt_or_ge j c.base with al|al
 ·
  obtain ⟨q,K,O⟩:=h.old j x L al B
  cases q with
  |zero=>rw[O.1] at G;cases G
  |succ q=>
   rcases O with ⟨V,_⟩|⟨_,W,es,hm,H,X⟩
   .rw[V] at G;cases G
   have F:=runT_crowd_go (P:=c.P) (gs:=gs) (w:=w) (sl:=sl) (i:=j) B (by rw[N];exact H w)
   refine ⟨_,_,F,⟨_,w,lA ρ j (Rk.nat q),φ,Fr,s,rfl,?_,av,rfl,.refl _ _ _ _,.inl (sL R (by rw[K];exact Rk.yB q))⟩⟩
   refine h.jN L B (.inr ⟨Int.le_refl _,Int.le_refl _⟩) (fun Y E=>mH _ _ E) (fun _ _=>rfl) (fun _ _=>rfl) rfl (fun _=>⟨q,n8 _ _ _,by rw[Deaf_own];exact X⟩) (fun i e _=>aa) h.parts h.sh h.inv (h.gR.mute hm) (Nat.le_refl _)
 ·
  have bs:=h.size
  obtain ⟨i,rfl⟩:∃i,j=c.base+i:=⟨j - c.base,aa⟩
  have C:i<k:=aa
  have ao:i<c.n:=Nat.lt_of_lt_of_le C h.inv.i.kn
  obtain ⟨u,ar,hW⟩:=h.wk i C
  obtain rfl:u=x:=by rw[B] at ar;exact (Option.some.inj ar).symm
  have E:∀d,c.base+d≠c.base+i->d≠i:=fun d D e=>D (by rw[e])
  rcases hW with ⟨hg,q,K,O⟩|⟨hg,hK,a0,_⟩
  .cases q with
   |zero=>rw[O.1] at G;cases G
   |succ q=>
    rcases O with ⟨V,_⟩|⟨_,W,es,hm,H,X⟩
    .rw[V] at G;cases G
    have F:=runT_crowd_go (P:=c.P) (gs:=gs) (w:=w) (sl:=sl) (i:=c.base+i) B (by rw[N];exact H w)
    refine ⟨_,_,F,⟨_,w,lA ρ (c.base+i) (Rk.nat q),upd φ i {φ i with deaf:=deafBehind (φ i).deaf es},Fr,s,rfl,?_,av,rfl,.refl _ _ _ _,.inl (sL R (by rw[K];exact Rk.yB q))⟩⟩
    have hd:=h.deaf i C
    refine h.jN L B (.inr ⟨Int.le_refl _,Int.le_refl _⟩) (fun Y E=>mH _ _ E) (fun d D=>upd_ne _ _ (E d D)) (fun _ _=>rfl) rfl (fun D=>aa) (fun d e S=>?_) h.parts h.sh (h.inv.deaf ao (by rw[hg];simp) _) (h.gR.mute hm) (Nat.le_refl _)
    obtain rfl:d=i:=aa
    rw[n8,upd_same]
    refine ⟨.inl ⟨hg,q,rfl,X⟩,by rw[Deaf_own,hd],fun M=>?_,h.ji d C⟩
    obtain ⟨r,F⟩:=h.rel d C (by rw[hg];simp)
    refine ⟨r,F.app fun idx y bz bS a7=>?_⟩
    obtain ⟨z,Q,a2⟩:=touch_of a7
    rcases getElem?_append_cases Q with ⟨S,_⟩|⟨_,a8⟩
    .omega
    .obtain ⟨e,he,rfl⟩:=Go.Conc.mem_ofEvents a8
     rw[touch_mute (hm e he)] at a2;cases a2
  .have ex:({u with status:=.running}:Goroutine)=u:=by cases u;simp_all
   rw[ex] at hK
   cases T:ρ (c.base+i) with
   |mk ι f=>
    rw[T] at hK
    rcases hK with ⟨a9,_⟩|⟨_,_,ba,bb⟩|⟨_,_,_,a3⟩
    .exact absurd a9 hg
    ·
     obtain ⟨y,W,w',es,F',H,hu,bc,J,Z⟩:=bb w (h.parts.has (i+1) aa)
     have F:=runT_crowd_go (P:=c.P) (gs:=gs) (w:=w) (sl:=sl) (i:=c.base+i) B (by rw[N];exact H)
     have U:=h.parts.has (i+1) aa
     obtain ⟨ab,a4,a5⟩:=Z.xl s
     have a6:∀b,b<w.heap.size->b∉keys (Fr (i+1)).own->w'.heap[b]?=w.heap[b]?:=hu.frame
     refine ⟨_,_,F,⟨_,w',lA ρ (c.base+i) (f y),φ,upd Fr (i+1) F',s,rfl,?_,av,upd_ne _ _ aa,?_,.inl (sL R (by rw[T];exact ⟨y,rfl⟩))⟩⟩
     .have bd:Deaf (t++MemOp.ofEvents (c.base+i) u.frame.fn u.frame.place es) (c.base+i)=(φ i).deaf:=by
       rw[Deaf_own,deafBehind_still (fun e he=>(lz (c:=c) U hu.size (J e he) 0).2.2.2)]
       exact h.deaf i C
      refine h.jN L B (.inr ⟨Int.le_refl _,Int.le_refl _⟩) (fun Y E=>mH _ _ E) (fun _ _=>rfl) (fun d D=>upd_ne _ _ (by have:=E d D;omega)) (upd_ne _ _ aa) (fun D=>aa) (fun d e S=>?_) (h.parts.walk aa hu bc)
       (h.sh.keep fun b hb=>a6 b (h.parts.gA b hb) (fun hm=>h.parts.gQ (i+1) aa b hm hb)) h.inv ?_ hu.size
      .obtain rfl:d=i:=aa
       rw[n8,upd_same]
       refine ⟨ab,bd,fun M=>absurd ba M,fun b hb=>?_⟩
       rcases hu.own b hb with z|z
       .exact h.ji d C b z
       .exact Nat.le_trans h.jj z
      .refine eJ.app h.base ⟨h.ne.2.1,h.ne.2.2⟩ h.parts h.gR (p:=i+1) aa hu.size (fun op v=>?_) (fun op v z Q=>?_) (fun op v=>?_) (fun op v=>?_) (fun q K=>upd_ne _ _ K) (fun l A=>?_) (fun l A=>?_)
       .obtain ⟨e,_,rfl⟩:=Go.Conc.mem_ofEvents v;rfl
       .obtain ⟨e,he,rfl⟩:=Go.Conc.mem_ofEvents v;exact (lz (c:=c) U hu.size (J e he) (i+1)).1 z Q
       .obtain ⟨e,he,rfl⟩:=Go.Conc.mem_ofEvents v;exact (lz (c:=c) U hu.size (J e he) (i+1)).2.1
       .obtain ⟨e,he,rfl⟩:=Go.Conc.mem_ofEvents v;exact (lz (c:=c) U hu.size (J e he) (i+1)).2.2.1
       .rw[upd_same] at A
        cases l with
        |cell a=>exact hu.own _ A
        |obj r=>exact hu.own _ A
        |_=>exact A.elim
       .rw[upd_same] at A
        obtain ⟨a,rfl,ad⟩:=A
        rcases hu.ro a ad with z|z|z
        .exact .inl ⟨a,rfl,z⟩
        .exact .inr (.inl z)
        .exact .inr (.inr z)
     .exact ⟨by rw[hu.os];exact .refl _,hu.tape,hu.output,hu.size,fun b hb _ _=>a6 b (Nat.lt_of_lt_of_le hb h.jj) (fun hm=>by have:=h.ji i C b hm;omega),fun _ h=>.inl h,fun _ h=>.inl h⟩
    ·
     rcases a3 w s k φ p0 (h.parts.has (i+1) aa) h.sh ao rfl h.inv with ⟨bj,bk,H⟩|⟨y,W,w',es,s',aV,F',H,bl,I,hinv,J,bm,hle,Z⟩
     ·
      have F:=runT_crowd_go (P:=c.P) (gs:=gs) (w:=w) (sl:=sl) (i:=c.base+i) B (by rw[N];exact H)
      have bo:gs.map (woken c.P u {u with status:=.blocked} w)=gs:=by
       have:woken c.P u {u with status:=.blocked} w=id:=by funext o;unfold Go.Conc.woken;simp
       rw[this,Array.map_id]
      refine ⟨_,_,F,⟨_,w,ρ,φ,Fr,s,rfl,?_,av,rfl,.refl _ _ _ _,.inr ⟨rfl,?_⟩⟩⟩
      .have he:t++MemOp.ofEvents (c.base+i) u.frame.fn u.frame.place #[]=t:=by simp[MemOp.ofEvents]
       refine h.jN L B (.inr ⟨Int.le_refl _,Int.le_refl _⟩) (fun _ _=>rfl) (fun _ _=>rfl) (fun _ _=>rfl) rfl (fun D=>aa) (fun d e S=>?_) h.parts h.sh h.inv (by rw[he];exact h.gR) (Nat.le_refl _)
       obtain rfl:d=i:=aa
       rw[he]
       refine ⟨.inr ⟨hg,?_,a0,.inr ⟨rfl,bj,bk⟩⟩,h.deaf d C,fun M=>h.rel d C M,h.ji d C⟩
       have e2:({({u with status:=.blocked}:Goroutine) with status:=.running}:Goroutine)=u:=by cases u;simp_all
       rw[e2,T]
       exact .inr (.inr ⟨G,a0,hg,a3⟩)
      .rw[bo];exact Be B G av
     .have F:=runT_crowd_go (P:=c.P) (gs:=gs) (w:=w) (sl:=sl) (i:=c.base+i) B (by rw[N];exact H)
      obtain ⟨ab,a4,a5⟩:=Z.xl s'
      have hd:=h.deaf i C
      have ae:=HE J (Fr (i+1)) w.heap.size h.parts.gA
      refine ⟨_,_,F,⟨_,w',lA ρ (c.base+i) (f y),upd φ i aV,upd Fr (i+1) F',s',rfl,?_,av,upd_ne _ _ aa,?_,.inl (sL R (by rw[T];exact ⟨y,rfl⟩))⟩⟩
      .refine h.jN L B (bm.imp (fun z=>⟨z,a4,a5⟩) id) (fun Y E=>mH _ _ E) (fun d D=>upd_ne _ _ (E d D)) (fun d D=>upd_ne _ _ (by have:=E d D;omega)) (upd_ne _ _ aa) (fun D=>aa) (fun d e S=>?_) (h.parts.act aa I hle) bl hinv ?_ (by rw[I.size];exact Nat.le_refl _)
       .obtain rfl:d=i:=aa
        rw[n8,upd_same,upd_same]
        exact ⟨ab,by rw[Deaf_own,hd];exact HF J,fun M=>HH h.gR.len J hd (fun br=>h.rel d C br) M,fun b hb=>h.ji d C b (hle.own b hb)⟩
       .refine eJ.app h.base ⟨h.ne.2.1,h.ne.2.2⟩ h.parts h.gR (p:=i+1) aa (by rw[I.size];exact Nat.le_refl _) (fun op v=>?_) (fun op v z Q=>?_) (fun op v=>?_) (fun op v=>?_) (fun q K=>upd_ne _ _ K) (fun l A=>?_) (fun l A=>?_)
        .obtain ⟨e,_,rfl⟩:=Go.Conc.mem_ofEvents v;rfl
        .obtain ⟨e,he,rfl⟩:=Go.Conc.mem_ofEvents v;exact (ae e he).1 z Q
        .obtain ⟨e,he,rfl⟩:=Go.Conc.mem_ofEvents v;rw[I.size];exact (ae e he).2.1
        .obtain ⟨e,he,rfl⟩:=Go.Conc.mem_ofEvents v;exact (ae e he).2.2
        .rw[upd_same] at A
         refine .inl ?_
         cases l with
         |cell a=>exact hle.own _ A
         |obj r=>exact hle.own _ A
         |_=>exact A.elim
        .rw[upd_same] at A
         obtain ⟨a,rfl,ad⟩:=A
         rcases hle.ro a ad with z|z
         .exact .inl ⟨a,rfl,z⟩
         .exact .inr (.inl z)
      .exact ⟨I.os,I.tape,I.output,by rw[I.size];exact Nat.le_refl _,fun b _ _ hs=>I.block b hs,fun _ h=>.inl h,fun _ h=>.inl h⟩
theorem dY.awake (h:dY c B0 bI p0 d0 k g Fr gs w t ρ φ s):∀x∈gs,awake x:=by
 intro x b;obtain ⟨j,l,rfl⟩:=Array.mem_iff_getElem.1 b;have b:=Array.getElem?_eq_getElem l;rcases Nat.eq_zero_or_pos j with rfl|m
 .obtain ⟨z,a,_,d⟩:=h.g0;obtain rfl:z=gs[0]:=by rw[b] at a;exact (Option.some.inj a).symm
  exact awake_of (d.imp id fun y=>.inl y.1)
 .rcases Nat.lt_or_ge j c.base with i|i
  .obtain ⟨q,_,f⟩:=h.old j _ m i b;exact awake_of (f.status.elim .inl fun y=>.inr (.inr y))
  .have n:=h.size;obtain ⟨z,a,hW⟩:=h.wk (j - c.base) aa;have e:c.base+(j - c.base)=j:=aa;rw[e] at a;obtain rfl:z=gs[j]:=by rw[b] at a;exact (Option.some.inj a).symm
   rcases hW with ⟨_,q,_,f⟩|⟨_,_,_,d⟩
   .exact awake_of (f.status.elim .inl fun y=>.inr (.inr y))
   .exact awake_of (d.imp id fun y=>.inl y.1)
theorem dY.pick (h:dY c B0 bI p0 d0 k g Fr gs w t ρ φ s)(S:p0= .reg->k=c.n)(sl:Option (Nat×Nat))(T:p0= .reg->∀w s,cH c w s->s.ws=0->stepG c.P true g w= .go {g with status:=.blocked} w #[]):
  ∃(N:Nat) (cg:Array Goroutine) (w':World) (a B:Option (Nat×Nat)) (e:Trace) (ρ':Nat->Rk) (φ':Nat->Ph) (dj:Nat->af) (s':Sh),
   runNT c.P N (crowd gs w sl) t=(.next (crowd cg w' a),e)/\(∃d,stepT c.P (crowd cg w' a)=runT c.P (crowd cg (w'.at d) B) 0)/\dY c B0 bI p0 d0 k g dj cg w' e ρ' φ' s'/\cg[0]?=some g/\dj 0=Fr 0/\
   dU c B0 (Fr 0) (Fr 0) w w'/\(p0= .reg->s'.ws≠0):=by
 have key:∀(y:(Nat->Rk)×Nat),∀gs w t ρ φ s l sl,y=(ρ,runs gs)->l 0=Fr 0->dY c B0 bI p0 d0 k g l gs w t ρ φ s->∀n,gs.size=n->n=c.base+k->
   ∃(N:Nat) (cg:Array Goroutine) (w':World) (a B:Option (Nat×Nat)) (e:Trace) (ρ':Nat->Rk) (φ':Nat->Ph) (dj:Nat->af) (s':Sh),
   runNT c.P N (crowd gs w sl) t=(.next (crowd cg w' a),e)/\(∃d,stepT c.P (crowd cg w' a)=runT c.P (crowd cg (w'.at d) B) 0)/\dY c B0 bI p0 d0 k g dj cg w' e ρ' φ' s'/\cg[0]?=some g/\dj 0=Fr 0/\
   dU c B0 (Fr 0) (Fr 0) w w'/\(p0= .reg->s'.ws≠0):=by
  intro y
  induction (yE (c.base+k)).apply y with
  |intro y _ ih=>
   intro gs w t ρ φ s l sl p r h n C D
   subst p
   have U:∃(j:Nat) (x:Goroutine),gs[j]?=some x/\x.status= .running:=by
    obtain ⟨z,u,_,f⟩:=h.g0
    rcases f with q|⟨_,v,V⟩
    .exact ⟨0,z,u,q⟩
    .have W:=S v
     have hinv:=h.inv
     rw[v,W] at hinv
     obtain ⟨i,M,hg,X⟩:=live hinv V
     obtain ⟨x,b,hW⟩:=h.wk i aa
     rcases hW with ⟨Y,_⟩|⟨_,_,_,f⟩
     .exact absurd Y hg
     .rcases f with q|⟨_,Z,ab⟩
      .exact ⟨_,x,b,q⟩
      .exact absurd ab (X Z)
   obtain ⟨j,x,d,a,b,q,f⟩:=crowd_pick (P:=c.P) (w:=w) (sl:=sl) h.awake U
   have hd:=h.at d
   rcases Nat.eq_zero_or_pos j with rfl|ad
   .obtain ⟨z,u,he,bd⟩:=h.g0
    obtain rfl:z=x:=by rw[b] at u;exact (Option.some.inj u).symm
    have O:z=g:=by rw[<-he];cases z;simp_all
    by_cases A:p0= .reg/\s.ws=0
    ·
     have ae:=T A.1 (w.at d) s h.sh A.2
     have al:=runT_crowd_go (P:=c.P) (gs:=gs) (w:=w.at d) (sl:=a) (i:=0) b (by rw[O];exact ae)
     have ao:gs.map (woken c.P z {g with status:=.blocked} (w.at d))=gs:=by
      have:woken c.P z {g with status:=.blocked} (w.at d)=id:=by funext o;unfold Go.Conc.woken;simp
      rw[this,Array.map_id]
     have ar:0<gs.size:=(Array.getElem?_eq_some_iff.1 b).1
     have a0:t++MemOp.ofEvents 0 z.frame.fn z.frame.place #[]=t:=by simp[MemOp.ofEvents]
     have a2:dY c B0 bI p0 d0 k g l (gs.setIfInBounds 0 {g with status:=.blocked}) (w.at d) t ρ φ s:=by
      refine ⟨by simpa using hd.size,hd.base,hd.run,hd.off,⟨{g with status:=.blocked},Array.getElem?_setIfInBounds_self_of_lt ar,by have:=h.run;cases g;simp_all,.inr ⟨rfl,A⟩⟩,fun j y a3 hb p=>?_,fun i M=>?_,hd.deaf,fun j a4=>hd.above j (by simpa using a4),hd.deaf0,hd.parts,hd.sh,hd.inv,hd.gR,hd.rel,hd.apart,hd.low,hd.ji,hd.jj,hd.ne⟩
      .rw[Array.getElem?_setIfInBounds_ne aa] at p
       exact hd.old j y a3 hb p
      .obtain ⟨y,p,hW⟩:=hd.wk i M
       exact ⟨y,by rw[Array.getElem?_setIfInBounds_ne (by have:=h.base;omega)];exact p,hW⟩
     obtain ⟨N,cg,w',E,F,e,ρ',φ',dj,s',k1,G,H,I,J,K,L⟩:=ih (ρ,runs (gs.setIfInBounds 0 {g with status:=.blocked})) (.inr ⟨rfl,Be b q av⟩) _ _ _ _ _ _ l a rfl r a2 n (by simpa using C) D
     refine ⟨N+1,cg,w',E,F,e,ρ',φ',dj,s',?_,G,H,I,J,(dU.at_ _ _ _).trans K,L⟩
     simp only[runNT,f,al]
     rw[ao,a0]
     exact k1
    .refine ⟨0,gs,w,sl,a,t,ρ,φ,l,s,rfl,⟨d,f⟩,h,by rw[b,O],r,.refl _ _ _ _,fun v hs=>A ⟨v,hs⟩⟩
   .obtain ⟨m,ops,a5,⟨cg,w',ρ',φ',dj,s',rfl,a6,a7,a8,Q,R⟩⟩:=hd.other ad b q a
    rw[C,D] at R
    obtain ⟨N,a9,w2,E,F,t2,ba,bb,bc,s2,k1,G,H,I,J,K,L⟩:=ih (ρ',runs cg) R _ _ _ _ _ _ dj a rfl (a8.trans r) a6 n (a7.trans C) D
    refine ⟨N+1,a9,w2,E,F,t2,ba,bb,bc,s2,?_,G,H,I,J,?_,L⟩
    .simp only[runNT,f,a5]
     exact k1
    .rw[r] at Q
     exact ((dU.at_ _ _ _).trans Q).trans K
 exact key (ρ,runs gs) gs w t ρ φ s Fr sl rfl rfl h gs.size rfl h.size
theorem dY.qh (h:dY c B0 bI p0 d0 k g Fr gs w t ρ φ s)(D:p0= .reg->k=c.n)(sl:Option (Nat×Nat)):
  ∃(N:Nat) (cg:Array Goroutine) (w':World) (a q:Option (Nat×Nat)) (e:Trace) (ρ':Nat->Rk) (φ':Nat->Ph) (dj:Nat->af) (s':Sh),
   runNT c.P N (crowd gs w sl) t=(.next (crowd cg w' a),e)/\(∃d,stepT c.P (crowd cg w' a)=runT c.P (crowd cg (w'.at d) q) 0)/\dY c B0 bI p0 d0 k g dj cg w' e ρ' φ' s'/\cg[0]?=some g/\dj 0=Fr 0/\
   dU c B0 (Fr 0) (Fr 0) w w':=by
 have key:∀(y:(Nat->Rk)×Nat),∀gs w t ρ φ s o sl,y=(ρ,runs gs)->o 0=Fr 0->dY c B0 bI p0 d0 k g o gs w t ρ φ s->∀n,gs.size=n->n=c.base+k->
   ∃(N:Nat) (cg:Array Goroutine) (w':World) (a q:Option (Nat×Nat)) (e:Trace) (ρ':Nat->Rk) (φ':Nat->Ph) (dj:Nat->af) (s':Sh),
   runNT c.P N (crowd gs w sl) t=(.next (crowd cg w' a),e)/\(∃d,stepT c.P (crowd cg w' a)=runT c.P (crowd cg (w'.at d) q) 0)/\dY c B0 bI p0 d0 k g dj cg w' e ρ' φ' s'/\cg[0]?=some g/\dj 0=Fr 0/\
   dU c B0 (Fr 0) (Fr 0) w w':=by
  intro y
  induction (yE (c.base+k)).apply y with
  |intro y _ ih=>
   intro gs w t ρ φ s o sl E r h n u v
   subst E
   have F:∃(j:Nat) (x:Goroutine),gs[j]?=some x/\x.status= .running:=by
    obtain ⟨z,p,_,b⟩:=h.g0
    rcases b with f|⟨_,A,G⟩
    .exact ⟨0,z,p,f⟩
    .have H:=D A
     have hinv:=h.inv
     rw[A,H] at hinv
     obtain ⟨i,ar,hg,I⟩:=live hinv G
     obtain ⟨x,l,hW⟩:=h.wk i aa
     rcases hW with ⟨J,_⟩|⟨_,_,_,b⟩
     .exact absurd J hg
     .rcases b with f|⟨_,K,L⟩
      .exact ⟨_,x,l,f⟩
      .exact absurd L (I K)
   obtain ⟨j,x,d,a,l,f,b⟩:=crowd_pick (P:=c.P) (w:=w) (sl:=sl) h.awake F
   have hd:=h.at d
   rcases Nat.eq_zero_or_pos j with rfl|M
   .obtain ⟨z,p,he,a0⟩:=h.g0
    obtain rfl:z=x:=by rw[l] at p;exact (Option.some.inj p).symm
    have O:z=g:=by rw[<-he];cases z;simp_all
    exact ⟨0,gs,w,sl,a,t,ρ,φ,o,s,rfl,⟨d,b⟩,h,by rw[l,O],r,.refl _ _ _ _⟩
   .obtain ⟨m,ops,Q,⟨cg,w',ρ',φ',dj,s',rfl,R,S,T,B,C⟩⟩:=hd.other M l f a
    rw[u,v] at C
    obtain ⟨N,U,w2,V,W,t2,X,Y,Z,s2,k1,ab,ad,ae,al,ao⟩:=ih (ρ',runs cg) C _ _ _ _ _ _ dj a rfl (T.trans r) R n (S.trans u) v
    refine ⟨N+1,U,w2,V,W,t2,X,Y,Z,s2,?_,ab,ad,ae,al,?_⟩
    .simp only[runNT,b,Q]
     exact k1
    .rw[r] at B
     exact ((dU.at_ _ _ _).trans B).trans ao
 exact key (ρ,runs gs) gs w t ρ φ s Fr sl rfl rfl h gs.size rfl h.size
end
def eK (c:Cy)(B0:Nat)(Φ:Goroutine->af->Prop)(k:Nat)(p0:P0)(d0:Nat)(g:Goroutine)(F:af):Prop:=
 g.status= .running/\g.offers=none/\∀(bI:Loc->Prop) (gs:Array Goroutine) (w:World) (sl:Option (Nat×Nat)) (t:Trace) (Fr:Nat->af) (ρ:Nat->Rk) (φ:Nat->Ph) (s:Sh),Fr 0=F->dY c B0 bI p0 d0 k g Fr gs w t ρ φ s->
  (∀a,bI (.cell a)->¬c.shared a.block)->(∀r,bI (.obj r)->¬c.shared r)->
  ∃(N:Nat) (cg:Array Goroutine) (w':World) (e:Option (Nat×Nat)) (b:Trace) (f:Nat->Nat) (g':Goroutine) (F':af) (d:Loc->Prop),
   runNT c.P N (crowd gs w sl) t=(.next (crowd cg w' e),b)/\jr c.P d g' F' cg w' b f/\dU c B0 F F' w w'/\(∀l,d l->bI l\/∃a,l= .cell a/\a.block=c.Wg)/\Φ g' F'
structure Ev0 (c:Cy)(d0 fA:Nat)(es:Array Event):Prop where
 all:∀e∈es,e=cQ .disable\/e=cQ .enable\/∃a,a.block=c.Wg/\((∃x,e=⟨.cell a,x,true⟩)\/e=cQ (.read a)\/e=cQ (.write a))
 deaf:deafBehind d0 es=fA
theorem Bf {c:Cy}{d0 fA:Nat}{es:Array Event}(h:Ev0 c d0 fA es)(F:af)(B:Nat)(f:c.Wg<B):∀e∈es,
  (∀x,(MemAct.ofEvent e).touch?=some x->sJ c F B 0 x)/\(MemAct.ofEvent e).low B/\MemAct.ofEvent e≠ .mark (.release (stA c.Wg)):=by
 intro e he
 rcases h.all e he with rfl|rfl|⟨a,d,⟨x,rfl⟩|rfl|rfl⟩
 .exact ⟨fun x g=>by simp[cQ,MemAct.ofEvent,MemAct.touch?] at g,trivial,by simp[cQ,MemAct.ofEvent]⟩
 .exact ⟨fun x g=>by simp[cQ,MemAct.ofEvent,MemAct.touch?] at g,trivial,by simp[cQ,MemAct.ofEvent]⟩
 .have hb:a.block<B:=d▸f
  refine ⟨fun y b=>?_,by cases x<;>exact hb,by cases x<;>simp[MemAct.ofEvent]⟩
  have:y=⟨.cell a,x,.atomic⟩:=by cases x<;>simp[MemAct.ofEvent,MemAct.touch?] at b<;>rw[<-b]
  subst this
  exact .inr (.inr (.inr (.inl ⟨⟨a,rfl,.inr d⟩,av,av⟩)))
 .have hb:a.block<B:=d▸f
  refine ⟨fun y b=>?_,hb,by simp[cQ,MemAct.ofEvent]⟩
  have:y=⟨.cell a,false,.said⟩:=by simp[cQ,MemAct.ofEvent,MemAct.touch?] at b;rw[<-b]
  subst this
  exact .inr (.inr (.inr (.inl ⟨⟨a,rfl,.inr d⟩,av,fun _=>rfl⟩)))
 .have hb:a.block<B:=d▸f
  refine ⟨fun y b=>?_,hb,by simp[cQ,MemAct.ofEvent]⟩
  have:y=⟨.cell a,true,.said⟩:=by simp[cQ,MemAct.ofEvent,MemAct.touch?] at b;rw[<-b]
  subst this
  exact .inr (.inr (.inr (.inl ⟨⟨a,rfl,.inr d⟩,av,fun _=>rfl⟩)))
section
variable {c:Cy}{B0:Nat}{bI:Loc->Prop}{p0:P0}{d0 k:Nat}{g:Goroutine}{Fr:Nat->af}{gs:Array Goroutine}{w:World}{t u:Trace}{ρ:Nat->Rk}{φ:Nat->Ph}{s:Sh}{Φ:Goroutine->af->Prop}
theorem dY.zero (h:dY c B0 bI p0 d0 k g Fr gs w t ρ φ s){g':Goroutine}{w':World}{es:Array Event}{fn:FuncId}{pos:String}{s':Sh}{gD:P0}{fA:Nat}{F':af}(v:gs[0]?=some g)(j:g'.status= .running)(x:g'.offers=none)
  (A:mayWake c.P g=true\/(s'.ms<=s.ms/\s'.ws<=s.ws)) (hd:deafBehind d0 es=fA) (B:dX c k (upd Fr 0 F') w') (C:cH c w' s') (hinv:Inv c.n c.bs k φ gD s') (D:eJ c bI k (upd Fr 0 F') w'.heap.size (t++MemOp.ofEvents 0 fn pos es))
  (E:w.heap.size<=w'.heap.size) (F:∀l,bI l->¬F'.gF l):
  dY c B0 bI gD fA k g' (upd Fr 0 F') ((gs.map (woken c.P g g' w')).setIfInBounds 0 g') w' (t++MemOp.ofEvents 0 fn pos es) ρ φ s':=by
 have G:0<gs.size:=(Array.getElem?_eq_some_iff.1 v).1
 have hu:∀op∈MemOp.ofEvents 0 fn pos es,op.g=0:=fun op H=>by obtain ⟨e,_,rfl⟩:=Go.Conc.mem_ofEvents H;rfl
 have other:∀a,a≠0->∀y,((gs.map (woken c.P g g' w')).setIfInBounds 0 g')[a]?=some y->∃z,gs[a]?=some z/\y=woken c.P g g' w' z:=fun a o y m=>by
  rw[Array.getElem?_setIfInBounds_ne (Ne.symm o),Array.getElem?_map] at m
  obtain ⟨z,f,rfl⟩:=Option.map_eq_some_iff.1 m
  exact ⟨z,f,rfl⟩
 have p:∀a,a≠0->Deaf (t++MemOp.ofEvents 0 fn pos es) a=Deaf t a:=fun a o=>Deaf_other t (Ne.symm o) _ hu
 have I:(mayWake c.P g=true/\g'.status≠ .blocked/\g'.status≠ .waiting)\/s'.ms<=s.ms:=A.imp (fun z=>⟨z,by rw[j];simp,by rw[j];simp⟩) And.left
 refine ⟨by simpa using h.size,h.base,j,x,⟨g',Array.getElem?_setIfInBounds_self_of_lt (by simpa using G),by cases g';simp_all,.inl j⟩,fun a y J hb m=>?_,fun i d=>?_,fun i d=>?_,fun a K=>?_,?_,B,C,hinv,D,fun i d hg=>?_,fun l L=>by rw[upd_same];exact F l L,h.low,fun i d b hb=>?_,Nat.le_trans h.jj E,h.ne⟩
 .obtain ⟨z,f,rfl⟩:=other a aa y m
  obtain ⟨q,M,u⟩:=h.old a z J hb f
  exact ⟨q,M,by rw[woken_quitsD u,p a aa];exact u⟩
 .have hb:=h.base
  obtain ⟨z,f,hW⟩:=h.wk i d
  refine ⟨woken c.P g g' w' z,by rw[Array.getElem?_setIfInBounds_ne aa,Array.getElem?_map,f];rfl,?_⟩
  rw[upd_ne _ _ aa]
  exact hW.woken hinv.Bd I
 .have hb:=h.base
  rw[p _ aa];exact h.deaf i d
 .have:gs.size<=a:=by simpa using K
  rw[p a aa]
  exact h.above a this
 .rw[Deaf_own,h.deaf0];exact hd
 .obtain ⟨r,N⟩:=h.rel i d hg
  have hb:=h.base
  exact ⟨r,N.other aa hu⟩
 .rw[upd_ne _ _ aa] at hb;exact h.ji i d b hb
theorem dY.le (h:dY c B0 bI p0 d0 k g Fr gs w t ρ φ s){F:af}(hle:Le F (Fr 0)):dY c B0 bI p0 d0 k g (upd Fr 0 F) gs w t ρ φ s:=by
 have ht:eJ c bI k (upd Fr 0 F) w.heap.size t:=by
  have:=eJ.app (u:=#[]) h.base ⟨h.ne.2.1,h.ne.2.2⟩ h.parts h.gR (p:=0) (Nat.zero_le _) (dj:=upd Fr 0 F) (Nat.le_refl _) av av av av (fun q j=>upd_ne _ _ j) (fun l d=>?_) (fun l d=>?_)
  .simpa using this
  .rw[upd_same] at d;refine .inl ?_;cases l with
   |cell a=>exact hle.own _ d
   |obj r=>exact hle.own _ d
   |_=>exact d.elim
  .rw[upd_same] at d;obtain ⟨a,rfl,m⟩:=d;rcases hle.ro a m with z|z
   .exact .inl ⟨a,rfl,z⟩
   .exact .inr (.inl z)
 refine ⟨h.size,h.base,h.run,h.off,h.g0,h.old,fun i e=>?_,h.deaf,h.above,h.deaf0,h.parts.act (Nat.zero_le _) (.refl _ _) hle,h.sh,h.inv,ht,h.rel,fun l d f=>?_,h.low,fun i e b hb=>?_,h.jj,h.ne⟩
 .rw[upd_ne _ _ aa];exact h.wk i e
 .rw[upd_same] at f;exact h.apart l d (hle.gF f)
 .rw[upd_ne _ _ aa] at hb;exact h.ji i e b hb
theorem dU.ou {F F':af}{w w':World}(h:ey F F' w w')(d:B0<=w.heap.size):dU c B0 F F' w w':=
 ⟨by rw[h.os];exact .refl _,h.tape,h.output,h.size,fun b hb e _=>h.frame b (Nat.lt_of_lt_of_le hb d) e,fun a f=>(h.ro a f).imp id fun x=>x.imp id fun y=>.inl (Nat.le_trans d y),fun b hb=>(h.own b hb).imp id fun y=>.inl (Nat.le_trans d y)⟩
theorem dU.Bg {F:af}{w w':World}(h:ia c w w'):dU c B0 F F w w':=
 ⟨h.os,h.tape,h.output,by rw[h.size];exact Nat.le_refl _,fun b _ _ hs=>h.block b hs,fun _ h=>.inl h,fun _ h=>.inl h⟩
theorem eK.mono {F F':af}(hle:Le F F')(h:eK c B0 Φ k p0 d0 g F):eK c B0 Φ k p0 d0 g F':=by
 refine ⟨h.1,h.2.1,fun bI gs w sl t Fr ρ φ s a b d e=>?_⟩;obtain ⟨N,cg,w',f,i,j,g',l,m,n,o,p,q,r⟩:=h.2.2 bI gs w sl t (upd Fr 0 F) ρ φ s (upd_same _ _ _) (b.le (by rw[a];exact hle)) d e;exact ⟨N,cg,w',f,i,j,g',l,m,n,o,p.le hle,q,r⟩
theorem eK.closed (c:Cy)(B0:Nat)(Φ:Goroutine->af->Prop)(k:Nat)(p0:P0)(d0:Nat)(D:p0≠ .reg):Closed c.P true (eK c B0 Φ k p0 d0) where
 mono hle h:=h.mono hle
 step {fr cs F} h:=by
  refine ⟨rfl,rfl,fun bI gs w sl t Fr ρ φ s A L M O=>?_⟩
  obtain ⟨N,E,w1,a5,B,t1,a6,a7,H,s1,Q,⟨d,R⟩,f,I,J,K,_⟩:=L.pick (fun e=>absurd e D) sl (fun e=>absurd e D)
  have o:Has F (w1.at d):=by have:=f.parts.has 0 (Nat.zero_le _);rw[J,A] at this;exact this.at d
  obtain ⟨g',w',es,F',hgo,hu,S,v,hJ⟩:=h (w1.at d) o
  have y:=f.at d
  have T:=runT_crowd_go (P:=c.P) (gs:=E) (w:=w1.at d) (sl:=B) (i:=0) I (show stepG c.P (0==0) (G fr cs) (w1.at d)=_ from hgo)
  have n:H 0=F:=J.trans A
  have U:∀b,b<w1.heap.size->b∉keys (H 0).own->w'.heap[b]?=w1.heap[b]?:=by rw[n];exact hu.frame
  have V:=y.zero (g':=g') (w':=w') (es:=es) (fn:=fr.fn) (pos:=fr.place) (s':=s1) (gD:=p0) (fA:=d0) (F':=F') I hJ.1 hJ.2.1 (.inr ⟨Int.le_refl _,Int.le_refl _⟩)
   (deafBehind_still (fun e he=>(lz (c:=c) o hu.size (v e he) 0).2.2.2) _) (y.parts.walk (Nat.zero_le _) (by rw[n];exact hu) S)
   (y.sh.keep fun b hb=>U b (f.parts.gA b hb) (fun hm=>f.parts.gQ 0 (Nat.zero_le _) b hm hb)) y.inv
   (eJ.app f.base ⟨f.ne.2.1,f.ne.2.2⟩ f.parts f.gR (p:=0) (Nat.zero_le _) hu.size (fun op j=>by obtain ⟨e,_,rfl⟩:=Go.Conc.mem_ofEvents j;rfl)
    (fun op j z W=>by obtain ⟨e,he,rfl⟩:=Go.Conc.mem_ofEvents j;rw[n];exact (lz (c:=c) o hu.size (v e he) 0).1 z W)
    (fun op j=>by obtain ⟨e,he,rfl⟩:=Go.Conc.mem_ofEvents j;exact (lz (c:=c) o hu.size (v e he) 0).2.1)
    (fun op j=>by obtain ⟨e,he,rfl⟩:=Go.Conc.mem_ofEvents j;exact (lz (c:=c) o hu.size (v e he) 0).2.2.1) (fun q X=>upd_ne _ _ X)
    (fun l g=>by
     rw[upd_same] at g
     rw[n]
     cases l with
     |cell a=>exact hu.own _ g
     |obj r=>exact hu.own _ g
     |_=>exact g.elim)
    (fun l g=>by
     rw[upd_same] at g
     rw[n]
     obtain ⟨a,rfl,Y⟩:=g
     rcases hu.ro a Y with z|z|z
     .exact .inl ⟨a,rfl,z⟩
     .exact .inr (.inl z)
     .exact .inr (.inr z)))
   hu.size (fun l g m=>by
    have u:=f.apart l g
    have C:=Loc.low_mono f.jj (f.low l g)
    rw[n] at u
    cases l with
    |cell a=>
     rcases m with m|m
     .rcases hu.own _ m with x|x
      .exact u (.inl x)
      .exact absurd C (Nat.not_lt.2 x)
     .rcases hu.ro _ m with x|x|x
      .exact u (.inr x)
      .exact u (.inl x)
      .exact absurd C (Nat.not_lt.2 x)
    |obj r=>
     rcases hu.own _ m with x|x
     .exact u x
     .exact absurd C (Nat.not_lt.2 x)
    |_=>exact m)
  obtain ⟨Z,ab,w2,ad,t2,ae,al,ao,ar,k1,a0,a2,a3,a4⟩:=hJ.2.2 bI _ w' B _ _ _ _ _ (upd_same _ _ _) V M O
  refine ⟨N+1+Z,ab,w2,ad,t2,ae,al,ao,ar,?_,a0,?_,a3,a4⟩
  .have:runNT c.P (N+1) (crowd gs w sl) t=(.next (crowd ((E.map (woken c.P (G fr cs) g' w')).setIfInBounds 0 g') w' B),t1++MemOp.ofEvents 0 fr.fn fr.place es):=by
    rw[runNT_add,Q]
    simp only[runNT,R,T]
    rfl
   rw[js this]
   exact k1
  .rw[A] at K
   exact (K.trans (dU.at_ _ _ _)).trans ((dU.ou (w:=w1.at d) hu f.jj).trans a2)
end
section
variable {c:Cy}{B0:Nat}{bI:Loc->Prop}{p0:P0}{d0 k:Nat}{g:Goroutine}{F:af}{Fr:Nat->af}{gs:Array Goroutine}{w:World}{t u:Trace}{ρ:Nat->Rk}{φ:Nat->Ph}{s:Sh}{Φ:Goroutine->af->Prop}
theorem eK.act (G:g.status= .running)(H:g.offers=none)(x:p0= .reg->k=c.n/\∀w s,cH c w s->s.ws=0->stepG c.P true g w= .go {g with status:=.blocked} w #[])
  (h:∀(w:World) (s:Sh) (φ:Nat->Ph),Has F w->cH c w s->Inv c.n c.bs k φ p0 s->(p0= .reg->s.ws≠0)->∃(g':Goroutine) (w':World) (es:Array Event) (s':Sh) (gD:P0) (fA:Nat),
   stepG c.P true g w= .go g' w' es/\cH c w' s'/\ia c w w'/\Inv c.n c.bs k φ gD s'/\Ev0 c d0 fA es/\(mayWake c.P g=true\/(s'.ms<=s.ms/\s'.ws<=s.ws))/\eK c B0 Φ k gD fA g' F):eK c B0 Φ k p0 d0 g F:=by
 refine ⟨G,H,fun bI gs w sl t Fr ρ φ s y I J K=>?_⟩
 obtain ⟨N,A,w1,a5,m,t1,a6,L,o,s1,M,⟨d,O⟩,a,B,Q,C,R⟩:=I.pick (fun e=>(x e).1) sl (fun e=>(x e).2)
 have D:o 0=F:=Q.trans y
 have S:Has F (w1.at d):=by have:=a.parts.has 0 (Nat.zero_le _);rw[D] at this;exact this.at d
 have j:=a.at d
 obtain ⟨g',w',es,s',gD,fA,hgo,T,r,hinv,E,U,hJ⟩:=h (w1.at d) s1 L S j.sh j.inv R
 have V:=runT_crowd_go (P:=c.P) (gs:=A) (w:=w1.at d) (sl:=m) (i:=0) B (show stepG c.P (0==0) g (w1.at d)=_ from hgo)
 have u:=Bf E (o 0) w1.heap.size (a.parts.gA _ (.inr (.inl rfl)))
 have v:w'.heap.size=w1.heap.size:=r.size
 have W:=j.zero (g':=g') (w':=w') (es:=es) (fn:=g.frame.fn) (pos:=g.frame.place) (s':=s') (gD:=gD) (fA:=fA) (F':=o 0) B hJ.1 hJ.2.1 U E.deaf (j.parts.act (Nat.zero_le _) r (.refl _)) T hinv
  (eJ.app a.base ⟨a.ne.2.1,a.ne.2.2⟩ a.parts a.gR (p:=0) (Nat.zero_le _) (by rw[v];exact Nat.le_refl _) (fun op b=>by obtain ⟨e,_,rfl⟩:=Go.Conc.mem_ofEvents b;rfl)
   (fun op b z X=>by obtain ⟨e,he,rfl⟩:=Go.Conc.mem_ofEvents b;exact (u e he).1 z X)
   (fun op b=>by obtain ⟨e,he,rfl⟩:=Go.Conc.mem_ofEvents b;rw[v];exact (u e he).2.1)
   (fun op b=>by obtain ⟨e,he,rfl⟩:=Go.Conc.mem_ofEvents b;exact (u e he).2.2) (fun q Y=>upd_ne _ _ Y)
   (fun l f=>by rw[upd_same] at f;exact .inl f) (fun l f=>by rw[upd_same] at f;exact .inl f))
  (by rw[v];exact Nat.le_refl _) (fun l f=>a.apart l f)
 obtain ⟨Z,ab,w2,ad,t2,ae,al,ao,ar,k1,a0,a2,a3,a4⟩:=hJ.2.2 bI _ w' m _ _ _ _ _ (by rw[upd_same];exact D) W J K
 refine ⟨N+1+Z,ab,w2,ad,t2,ae,al,ao,ar,?_,a0,?_,a3,a4⟩
 .have:runNT c.P (N+1) (crowd gs w sl) t=(.next (crowd ((A.map (woken c.P g g' w')).setIfInBounds 0 g') w' m),t1++MemOp.ofEvents 0 g.frame.fn g.frame.place es):=by
   rw[runNT_add,M]
   simp only[runNT,O,V]
  rw[js this]
  exact k1
 .rw[y] at C
  exact (C.trans (dU.at_ _ _ _)).trans ((dU.Bg r).trans a2)
theorem eK.xm (E:g.status= .running)(G:g.offers=none)(H:p0= .reg->k=c.n)
  (h:∀(w:World) (s:Sh) (φ:Nat->Ph),Has F w->cH c w s->Inv c.n c.bs k φ p0 s->∃(g':Goroutine) (w':World) (es:Array Event) (s':Sh) (gD:P0) (fA:Nat),
   stepG c.P true g w= .go g' w' es/\cH c w' s'/\ia c w w'/\Inv c.n c.bs k φ gD s'/\Ev0 c d0 fA es/\(mayWake c.P g=true\/(s'.ms<=s.ms/\s'.ws<=s.ws))/\eK c B0 Φ k gD fA g' F):eK c B0 Φ k p0 d0 g F:=by
 refine ⟨E,G,fun bI gs w sl t Fr ρ φ s x I J K=>?_⟩
 obtain ⟨N,y,w1,a4,m,t1,a5,L,o,s1,M,⟨d,O⟩,a,A,Q,B⟩:=I.qh H sl
 have C:o 0=F:=Q.trans x
 have R:Has F (w1.at d):=by have:=a.parts.has 0 (Nat.zero_le _);rw[C] at this;exact this.at d
 have j:=a.at d
 obtain ⟨g',w',es,s',gD,fA,hgo,S,r,hinv,D,T,hJ⟩:=h (w1.at d) s1 L R j.sh j.inv
 have U:=runT_crowd_go (P:=c.P) (gs:=y) (w:=w1.at d) (sl:=m) (i:=0) A (show stepG c.P (0==0) g (w1.at d)=_ from hgo)
 have u:=Bf D (o 0) w1.heap.size (a.parts.gA _ (.inr (.inl rfl)))
 have v:w'.heap.size=w1.heap.size:=r.size
 have V:=j.zero (g':=g') (w':=w') (es:=es) (fn:=g.frame.fn) (pos:=g.frame.place) (s':=s') (gD:=gD) (fA:=fA) (F':=o 0) A hJ.1 hJ.2.1 T D.deaf (j.parts.act (Nat.zero_le _) r (.refl _)) S hinv
  (eJ.app a.base ⟨a.ne.2.1,a.ne.2.2⟩ a.parts a.gR (p:=0) (Nat.zero_le _) (by rw[v];exact Nat.le_refl _) (fun op b=>by obtain ⟨e,_,rfl⟩:=Go.Conc.mem_ofEvents b;rfl)
   (fun op b z W=>by obtain ⟨e,he,rfl⟩:=Go.Conc.mem_ofEvents b;exact (u e he).1 z W)
   (fun op b=>by obtain ⟨e,he,rfl⟩:=Go.Conc.mem_ofEvents b;rw[v];exact (u e he).2.1)
   (fun op b=>by obtain ⟨e,he,rfl⟩:=Go.Conc.mem_ofEvents b;exact (u e he).2.2) (fun q X=>upd_ne _ _ X)
   (fun l f=>by rw[upd_same] at f;exact .inl f) (fun l f=>by rw[upd_same] at f;exact .inl f))
  (by rw[v];exact Nat.le_refl _) (fun l f=>a.apart l f)
 obtain ⟨Y,Z,w2,ab,t2,ad,ae,al,ao,k1,ar,a0,a2,a3⟩:=hJ.2.2 bI _ w' m _ _ _ _ _ (by rw[upd_same];exact C) V J K
 refine ⟨N+1+Y,Z,w2,ab,t2,ad,ae,al,ao,?_,ar,?_,a2,a3⟩
 .have:runNT c.P (N+1) (crowd gs w sl) t=(.next (crowd ((y.map (woken c.P g g' w')).setIfInBounds 0 g') w' m),t1++MemOp.ofEvents 0 g.frame.fn g.frame.place es):=by
   rw[runNT_add,M]
   simp only[runNT,O,U]
  rw[js this]
  exact k1
 .rw[x] at B
  exact (B.trans (dU.at_ _ _ _)).trans ((dU.Bg r).trans a0)
theorem eK.spawn (E:g.status= .running)(bb:g.offers=none)(T:k<c.n)
  (h:∀w,Has F w->∃g' child,stepG c.P true g w= .spawn g' child w #[]/\Wk c k {mp:=.idle,gp:=.cnt,stored:=false,deaf:=0} child ⟨F.ro,[]⟩/\child.status= .running/\child.offers=none/\eK c B0 Φ (k+1) (.opn 0) 0 g' F):
  eK c B0 Φ k (.opn 1) 0 g F:=by
 refine ⟨E,bb,fun bI gs w sl t Fr ρ φ s a3 bc bd bj=>?_⟩
 obtain ⟨N,I,w1,dE,ao,t1,bk,X,Y,s1,bl,⟨d,bm⟩,f,a4,bo,a5,_⟩:=bc.pick (fun e=>by cases e) sl (fun e=>by cases e)
 have ar:Y 0=F:=bo.trans a3
 have a6:Has F (w1.at d):=by have:=f.parts.has 0 (Nat.zero_le _);rw[ar] at this;exact this.at d
 have U:=f.at d
 obtain ⟨g',child,hgo,⟨Q,r,hle,hW⟩,dT,ea,hJ⟩:=h (w1.at d) a6
 have br:=runT_crowd_spawn (P:=c.P) (gs:=I) (w:=w1.at d) (sl:=ao) (i:=0) a4 (show stepG c.P (0==0) g (w1.at d)=_ from hgo)
 have a7:=f.size
 have bz:0<I.size:=(Array.getElem?_eq_some_iff.1 a4).1
 let K:Ph:={mp:=.idle,gp:=.cnt,stored:=false,deaf:=0}
 have M:keys Q.own=[]:=by
  cases bS:keys Q.own with
  |nil=>rfl
  |cons b l=>exact absurd (hle.own b (by rw[bS];simp)) (by simp[keys])
 have Z:∀a,(Q.ro a).isSome=true->((Y 0).ro a).isSome=true:=fun a p=>by
  rw[ar]
  rcases hle.ro a p with x|x
  .exact x
  .simp[keys] at x
 have b0:Has Q (w1.at d):=hle.has _ ⟨a6.ro,fun b o hb=>(by cases hb),List.nodup_nil,fun a v E hm=>(by cases hm)⟩
 have J:=U.inv.i
 have a8:(X k).gp= .new:=by
  have:=(J.born k T)
  rcases Classical.em ((X k).gp= .new) with x|x
  .exact x
  .exact absurd (this.2 x) (Nat.lt_irrefl _)
 obtain ⟨b1,b2,eb⟩:=J.new k T a8
 let R:Nat->af:=upd Y (k+1) Q
 have e1:∀q,q<=k->R q=Y q:=fun q A=>upd_ne _ _ aa
 have e2:R (k+1)=Q:=upd_same _ _ _
 have b3:dX c (k+1) R (w1.at d):=by
  have H:=U.parts
  have cs:∀q,q<=k+1->q<=k\/q=k+1:=fun q A=>aa
  refine ⟨fun q A=>?_,fun q r A E a0 b hb B=>?_,fun q r A E a0 a p hb=>?_,fun q A b hb=>?_,fun q A a p=>?_,H.gA⟩
  .rcases cs q A with x|rfl
   .rw[e1 q x];exact H.has q x
   .rw[e2];exact b0
  .rcases cs q A with x|rfl
   .rcases cs r E with y|rfl
    .rw[e1 q x] at hb;rw[e1 r y] at B;exact H.own q r x y a0 b hb B
    .rw[e2,M] at B;cases B
   .rw[e2,M] at hb;cases hb
  .rcases cs r E with y|rfl
   .rw[e1 r y] at hb
    rcases cs q A with x|rfl
    .rw[e1 q x] at p;exact H.ro q r x y a0 a p hb
    .rw[e2] at p
     rcases Nat.eq_zero_or_pos r with rfl|ec
     .obtain ⟨v,b4⟩:=Option.isSome_iff_exists.1 (Z a p)
      exact (H.has 0 (Nat.zero_le _)).apart a v b4 hb
     .exact H.ro 0 r (Nat.zero_le _) y aa a (Z a p) hb
   .rw[e2,M] at hb;cases hb
  .rcases cs q A with x|rfl
   .rw[e1 q x] at hb;exact H.gQ q x b hb
   .rw[e2,M] at hb;cases hb
  .rcases cs q A with x|rfl
   .rw[e1 q x] at p;exact H.jh q x a p
   .rw[e2] at p;exact H.jh 0 (Nat.zero_le _) a (Z a p)
 have hinv:Inv c.n c.bs (k+1) (upd X k K) (.opn 0) s1:=by
  obtain ⟨C,S,W,L,m,hm⟩:=U.inv.m
  refine ⟨⟨C,S,W,L,m,mG hm T K (.inl b2.symm)⟩,Hj U.inv.w T K a8 rfl,J.len,T,fun j G=>?_,fun j G=>?_,fun j G ab=>?_,fun j G ad a9=>?_⟩<;>by_cases e:j=k
  .subst e;rw[upd_same,J.all j G,b1]
  .rw[upd_ne _ _ e];exact J.all j G
  .subst e;rw[upd_same];exact ⟨fun _=>by simp[K],fun _=>aa⟩
  .rw[upd_ne _ _ e,<-J.born j G];omega
  .subst e;rw[upd_same] at ab;simp[K] at ab
  .rw[upd_ne _ _ e] at ab ⊢;exact J.new j G ab
  .subst e;rw[upd_same] at ad;simp[K] at ad
  .rw[upd_ne _ _ e] at ad a9 ⊢;exact J.done j G ad a9
 let u:Array MemOp:=#[{g:=0,fn:=g.frame.fn,pos:=g.frame.place,act:=.go I.size},{g:=I.size,fn:=child.frame.fn,pos:=g.frame.place,act:=.start}]
 have b5:((MemOp.ofEvents 0 g.frame.fn g.frame.place #[]).push {g:=0,fn:=g.frame.fn,pos:=g.frame.place,act:=.go I.size}|>.push {g:=I.size,fn:=child.frame.fn,pos:=g.frame.place,act:=.start})=u:=by simp[MemOp.ofEvents,u]
 have ca:eJ c bI (k+1) R w1.heap.size (t1++u):=f.gR.fork f.base f.parts ⟨rfl,by rw[a7]⟩ ⟨by rw[a7],rfl⟩ f.deaf0 (f.above _ aa) e1 (fun l D=>by
  rw[e2] at D
  cases l with
  |cell a=>simp only[fq,M] at D;cases D
  |obj r=>simp only[fq,M] at D;cases D
  |_=>exact D) (fun l D=>by
  rw[e2] at D
  obtain ⟨a,rfl,p⟩:=D
  exact ⟨a,rfl,Z a p⟩)
 have V:∀j,Deaf (t1++u) j=Deaf t1 j:=fun j=>by
  have:=Deaf_append t1 j u.toList
  simp only[Array.toArray_toList] at this
  rw[this]
  rfl
 have cb:∀j r,gj c t1 j r->gj c (t1++u) j r:=fun j r E=>E.app fun idx x ae hg cd=>by
  obtain ⟨z,cf,cl⟩:=touch_of cd
  rcases getElem?_append_cases cf with ⟨ed,_⟩|⟨_,ba⟩
  .omega
  .simp only[u,List.mem_toArray,List.mem_cons,List.not_mem_nil,or_false] at ba
   rcases ba with rfl|rfl<;>cases cl
 have cy:dY c B0 bI (.opn 0) 0 (k+1) g' R ((I.setIfInBounds 0 g').push child) (w1.at d) (t1++u) (lA bk (c.base+k) r) (upd X k K) s1:=by
  have hb:=f.base
  refine ⟨by simp;omega,hb,hJ.1,hJ.2.1,⟨g',by rw[Array.getElem?_push,if_neg (by simp;omega)];exact Array.getElem?_setIfInBounds_self_of_lt bz,by have:=hJ.1;cases g';simp_all,.inl hJ.1⟩,fun j y cS B al=>?_,fun i ae=>?_,fun i ae=>?_,fun j G=>?_,?_,b3,U.sh,hinv,ca,fun i ae hg=>?_,fun l D=>by rw[e1 0 (Nat.zero_le _)];exact f.apart l D,f.low,fun i ae b B=>?_,f.jj,f.ne⟩
  .rw[Array.getElem?_push,if_neg (by simp;omega),Array.getElem?_setIfInBounds_ne aa] at al
   obtain ⟨q,A,c0⟩:=f.old j y cS B al
   exact ⟨q,by rw[mH _ _ aa];exact A,by rw[V];exact c0⟩
  .rcases Nat.lt_or_ge i k with O|a2
   .obtain ⟨y,al,da⟩:=f.wk i O
    refine ⟨y,by rw[Array.getElem?_push,if_neg (by simp;omega),Array.getElem?_setIfInBounds_ne aa];exact al,?_⟩
    rw[mH _ _ aa,upd_ne _ _ aa,e1 (i+1) aa]
    exact da
   .obtain rfl:i=k:=aa
    refine ⟨child,by rw[Array.getElem?_push,if_pos (by simp;omega)],?_⟩
    rw[n8,upd_same,e2]
    exact (hW.xl s1).1
  .rcases Nat.lt_or_ge i k with O|a2
   .rw[V,upd_ne _ _ aa];exact f.deaf i O
   .obtain rfl:i=k:=aa
    rw[V,upd_same];exact f.above _ aa
  .rw[V];exact f.above j (by simp at G;omega)
  .rw[V];exact f.deaf0
  .rcases Nat.lt_or_ge i k with O|a2
   .rw[upd_ne _ _ aa] at hg
    obtain ⟨r,E⟩:=f.rel i O hg
    exact ⟨r,cb _ _ E⟩
   .obtain rfl:i=k:=aa
    rw[upd_same] at hg
    exact absurd rfl hg
  .rcases Nat.lt_or_ge i k with O|a2
   .rw[e1 (i+1) aa] at B;exact f.ji i O b B
   .obtain rfl:i=k:=aa
    rw[e2,M] at B;cases B
 obtain ⟨db,dd,w2,df,t2,dk,dp,dq,ds,k1,dt,du,dv,dC⟩:=hJ.2.2 bI _ (w1.at d) ao _ R _ _ _ (by rw[e1 0 (Nat.zero_le _)];exact ar) cy bd bj
 refine ⟨N+1+db,dd,w2,df,t2,dk,dp,dq,ds,?_,dt,?_,dv,dC⟩
 .have:runNT c.P (N+1) (crowd gs w sl) t=(.next (crowd ((I.setIfInBounds 0 g').push child) (w1.at d) ao),t1++u):=by
   rw[runNT_add,bl]
   simp only[runNT,bm,br,b5]
  rw[js this]
  exact k1
 .rw[a3] at a5
  exact (a5.trans (dU.at_ _ _ _)).trans du
def Cy.fin (c:Cy):Obj:=.cells ((List.range c.n).map fun i=>Value.bool (c.bs i)).toArray c.tI
theorem eK.join (J:g.status= .running)(W:g.offers=none)
  (h:∀w,Has F w->∃g',stepG c.P true g w= .go g' w #[cQ (.acquire (stA c.Wg))]/\g'.status= .running/\Φ g' ⟨F.ro,(c.Is,c.fin)::F.own⟩):eK c B0 Φ c.n .e9 0 g F:=by
 refine ⟨J,W,fun bI gs w sl t Fr ρ φ s O X Y Z=>?_⟩
 obtain ⟨N,u,w1,bl,Q,t1,bm,ab,ad,s1,ae,⟨d,al⟩,f,R,ao,S,_⟩:=X.pick (fun e=>by cases e) sl (fun e=>by cases e)
 have B:ad 0=F:=ao.trans O
 have ar:Has F w1:=by have:=f.parts.has 0 (Nat.zero_le _);rw[B] at this;exact this
 have D:Has F (w1.at d):=ar.at d
 obtain ⟨g',hgo,bo,a0⟩:=h (w1.at d) D
 have a2:=runT_crowd_go (P:=c.P) (gs:=u) (w:=w1.at d) (sl:=Q) (i:=0) R (show stepG c.P (0==0) g (w1.at d)=_ from hgo)
 have a3:0<u.size:=(Array.getElem?_eq_some_iff.1 R).1
 obtain ⟨_,a4,a5,a6⟩:=A4 f.inv.w
 have K:∀i,i<c.n->(ab i).gp= .gone:=fun i k=>(Hs a4 a5 a6 k).resolve_right fun e=>((f.inv.i.born i k).1 k) e
 have a7:∀i,i<c.n->∃r,gj c t1 (c.base+i) r:=fun i k=>f.rel i k (by rw[K i k];simp)
 have a8:=f.gR.fR a7 (y:={g:=0,fn:=g.frame.fn,pos:=g.frame.place,act:=.mark (.acquire (stA c.Wg))}) ⟨rfl,rfl⟩ f.deaf0 (f.parts.gA _ (.inr (.inl rfl)))
 have a9:MemOp.ofEvents 0 g.frame.fn g.frame.place #[cQ (.acquire (stA c.Wg))]=#[{g:=0,fn:=g.frame.fn,pos:=g.frame.place,act:=.mark (.acquire (stA c.Wg))}]:=by rw[Go.Conc.ofEvents_eq];simp[cQ,MemAct.ofEvent]
 have ba:s1.is=(List.range c.n).map c.bs:=by
  refine List.ext_getElem? fun i=>?_
  by_cases k:i<c.n
  .rw[f.inv.i.all i k,(f.inv.i.done i k (by rw[K i k];simp) (by rw[K i k];simp)).1]
   simp[k]
  .have E:s1.is.length=c.n:=f.inv.i.len
   rw[List.getElem?_eq_none aa,List.getElem?_eq_none (by simp;omega)]
 have bb:w1.heap[c.Is]?=some c.fin:=by
  have:=f.sh.2.2
  rw[ba,List.map_map] at this
  exact this
 have T:∀j,∃q,∀x,0<j->u[j]?=some x->QuitsD c.P q (Deaf t1 j) x:=fun j=>by
  by_cases L:∃x,0<j/\u[j]?=some x
  .obtain ⟨x,G,H⟩:=L
   rcases Nat.lt_or_ge j c.base with U|U
   .obtain ⟨q,_,C⟩:=f.old j x G U H
    exact ⟨q,fun y _ A=>by rw[H] at A;cases A;exact C⟩
   .have m:j<u.size:=(Array.getElem?_eq_some_iff.1 H).1
    have br:=f.size
    obtain ⟨i,rfl⟩:∃i,j=c.base+i:=⟨j - c.base,aa⟩
    obtain ⟨y,A,hW⟩:=f.wk i aa
    rcases hW with ⟨_,q,_,C⟩|⟨bc,_⟩
    .exact ⟨q,fun z _ M=>by rw[A] at M;cases M;rw[f.deaf i aa];exact C⟩
    .exact absurd (K i aa) bc
  .exact ⟨0,fun x G H=>absurd ⟨x,G,H⟩ L⟩
 let q:Nat->Nat:=fun j=>Classical.choose (T j)
 have bd:∀j x,0<j->u[j]?=some x->QuitsD c.P (q j) (Deaf t1 j) x:=fun j=>Classical.choose_spec (T j)
 have V:∀j,j≠0->Deaf (t1++#[({g:=0,fn:=g.frame.fn,pos:=g.frame.place,act:=.mark (.acquire (stA c.Wg))}:MemOp)]) j=Deaf t1 j:=fun j bj=>Deaf_other t1 (g':=0) (Ne.symm bj) _ av
 refine ⟨N+1,(u.map (woken c.P g g' (w1.at d))).setIfInBounds 0 g',w1.at d,Q,t1++#[{g:=0,fn:=g.frame.fn,pos:=g.frame.place,act:=.mark (.acquire (stA c.Wg))}],q,g',⟨F.ro,(c.Is,c.fin)::F.own⟩,_,?_,⟨?_,⟨fun j y G A=>?_,fun j L=>?_⟩,a8,?_,fun l m p=>?_,fun l m=>?_⟩,?_,fun l m=>m,a0⟩
 .rw[runNT_add,ae]
  simp only[runNT,al,a2,a9]
 .exact Array.getElem?_setIfInBounds_self_of_lt (by simpa using a3)
 .rw[Array.getElem?_setIfInBounds_ne aa,Array.getElem?_map] at A
  obtain ⟨z,M,rfl⟩:=Option.map_eq_some_iff.1 A
  have C:=bd j z G M
  rw[woken_quitsD C,V j aa];exact C
 .have:u.size<=j:=by simpa using L
  rw[V j aa]
  exact f.above j this
 .have bk:c.Is∉keys F.own:=fun hm=>f.parts.gQ 0 (Nat.zero_le _) _ (by rw[B];exact hm) (.inr (.inr rfl))
  refine ⟨D.ro,fun b o hb=>?_,?_,fun a v J hm=>?_⟩
  .rcases List.mem_cons.1 hb with x|x
   .cases x;exact bb
   .exact D.own b o x
  .exact List.nodup_cons.2 ⟨bk,D.nodup⟩
  .rcases List.mem_cons.1 hm with x|x
   .exact f.parts.jh 0 (Nat.zero_le _) a (by rw[B,J];rfl) (.inr (.inr x))
   .exact D.apart a v J x
 .rcases m with m|⟨a,rfl,I⟩
  .have E:=f.apart l m
   rw[B] at E
   cases l with
   |cell a=>
    rcases p with p|p
    .rcases List.mem_cons.1 p with x|x
     .exact Y a m (.inr (.inr x))
     .exact E (.inl x)
    .exact E (.inr p)
   |obj r=>
    rcases List.mem_cons.1 p with x|x
    .exact Z r m (.inr (.inr x))
    .exact E x
   |_=>exact p
  .rcases p with p|p
   .rcases List.mem_cons.1 p with x|x
    .exact f.ne.2.2 (I▸x)
    .exact f.parts.gQ 0 (Nat.zero_le _) a.block (by rw[B];exact x) (.inr (.inl I))
   .exact f.parts.jh 0 (Nat.zero_le _) a (by rw[B];exact p) (.inr (.inl I))
 .rcases m with m|⟨a,rfl,I⟩
  .exact Loc.low_mono f.jj (f.low l m)
  .show a.block<_;rw[I];exact f.parts.gA _ (.inr (.inl rfl))
 .rw[O] at S
  refine (S.trans (dU.at_ _ _ _)).trans ⟨.refl _,rfl,rfl,Nat.le_refl _,fun _ _ _ _=>rfl,fun _ h=>.inl h,fun b hb=>?_⟩
  rcases List.mem_cons.1 hb with x|x
  .exact .inr (.inr (.inr (.inr x)))
  .exact .inl x
end
def iM (P:Program)(Φ:Goroutine->af->Prop)(g:Goroutine)(F:af):Prop:=
 g.status= .running/\g.offers=none/\∀(bI:Loc->Prop) (gs:Array Goroutine) (w:World) (sl:Option (Nat×Nat)) (t:Trace) (q:Nat->Nat),jr P bI g F gs w t q->
  ∃(N:Nat) (cg:Array Goroutine) (w':World) (c:Option (Nat×Nat)) (a:Trace) (d:Nat->Nat) (g':Goroutine) (F':af) (b:Loc->Prop),
   runNT P N (crowd gs w sl) t=(.next (crowd cg w' c),a)/\jr P b g' F' cg w' a d/\fB F F' w w'/\(∀l,b l->bI l\/¬l.low w.heap.size\/fq F l)/\Φ g' F'
theorem iM.done {P:Program}{Φ:Goroutine->af->Prop}{g:Goroutine}{F:af}(a:g.status= .running)(b:g.offers=none)(h:Φ g F):iM P Φ g F:=
 ⟨a,b,fun bI gs w sl t q c=>⟨0,gs,w,sl,t,q,g,F,bI,rfl,c,.refl _ _,fun _ h=>.inl h,h⟩⟩
theorem Le.HJ {F F':af}(h:Le F F'){l:Loc}(b:fq F l):fq F' l:=by
 cases l with
 |cell a=>exact h.own _ b
 |obj r=>exact h.own _ b
 |_=>exact b
theorem Bh (P:Program)(Φ:Goroutine->af->Prop):Closed P true (iM P Φ) where
 mono hle h:=by
  refine ⟨h.1,h.2.1,fun bI gs w sl t q b=>?_⟩
  obtain ⟨N,cg,w',C,D,E,g',F',H,k,I,hu,J,K⟩:=h.2.2 bI gs w sl t q ⟨b.g0,b.lv,b.fR,hle.has w b.has,fun l hs L=>b.apart l hs (hle.gF L),b.low⟩
  exact ⟨N,cg,w',C,D,E,g',F',H,k,I,hu.le hle,fun l m=>(J l m).imp id fun x=>x.imp id hle.HJ,K⟩
 step {fr cs F} h:=by
  refine ⟨rfl,rfl,fun bI gs w sl t q b=>?_⟩
  obtain ⟨N,n,d,o,a4,p,t1,M,k,a5,u,v,O,Q⟩:=qh (P:=P) (a:=G fr cs) rfl _ gs w sl t q (Nat.le_refl _) b.g0 b.lv b.fR
  obtain ⟨g',w',es,F',hgo,hu,R,S,hJ⟩:=h (w.at o) (b.has.at o)
  have c:ey F F' w w':=⟨hu.os,hu.tape,hu.output,hu.size,hu.frame,hu.ro,hu.own⟩
  have T:=runT_crowd_go (P:=P) (sl:=p) (i:=0) u (show stepG P (0==0) (G fr cs) (w.at o)=_ from hgo)
  have U:0<n.size:=(Array.getElem?_eq_some_iff.1 u).1
  have z:=jr.next (P:=P) b.apart b.low c
  obtain ⟨V,W,w2,X,t2,Y,Z,ab,ad,ae,al,ao,ar,a0⟩:=hJ.2.2 bI ((n.map (woken P (G fr cs) g' w')).setIfInBounds 0 g') w' p (t1++MemOp.ofEvents 0 (G fr cs).frame.fn (G fr cs).frame.place es) M
   {g0:=by simp[U]
    lv:=⟨fun j x g A=>by
     have a2:0≠j:=aa
     rw[Array.getElem?_setIfInBounds_ne a2,Array.getElem?_map] at A
     obtain ⟨y,a3,rfl⟩:=Option.map_eq_some_iff.1 A
     have B:=v.old j y g a3
     rw[woken_quitsD B,Deaf_other t1 aa _ (fun op s=>by obtain ⟨e,_,rfl⟩:=Go.Conc.mem_ofEvents s;rfl)]
     exact B,fun j g=>by
     rw[Deaf_other t1 (g':=0) (by simp at g;omega) _ (fun op s=>by obtain ⟨e,_,rfl⟩:=Go.Conc.mem_ofEvents s;rfl)]
     exact v.above j (by simpa using g)⟩
    fR:=(O.mono c.size).own fun e he=>yz b.has c.size b.apart b.low (S e he)
    has:=R
    apart:=z.1
    low:=z.2}
  refine ⟨N+1+V,W,w2,X,t2,Y,Z,ab,ad,?_,al,(fB.ou c).trans ao,fun l m=>?_,a0⟩
  .have:runNT P (N+1) (crowd gs w sl) t=(.next (crowd ((n.map (woken P (G fr cs) g' w')).setIfInBounds 0 g') w' p),t1++MemOp.ofEvents 0 (G fr cs).frame.fn (G fr cs).frame.place es):=by
    rw[runNT_add,k]
    simp only[runNT,Q,T]
   rw[js this]
   exact ae
  .rcases ar l m with x|x|x
   .exact .inl x
   .exact .inr (.inl fun f=>x (Loc.low_mono c.size f))
   .cases l with
    |cell a=>
     rcases c.own _ x with y|y
     .exact .inr (.inr y)
     .exact .inr (.inl fun f=>absurd f (Nat.not_lt.2 y))
    |obj r=>
     rcases c.own _ x with y|y
     .exact .inr (.inr y)
     .exact .inr (.inl fun f=>absurd f (Nat.not_lt.2 y))
    |_=>exact x.elim
theorem fT.HK {P:Program}{f:FuncId}{args:Array Value}{ro:Addr->Option Value}{R:Value->af->Prop}(h:∀Φ,c8 P (iM P Φ) f args ⟨ro,[]⟩ R):fT P f args ⟨ro,[]⟩ R:=by
 intro Φ c cs hK bI gs w sl t q b;obtain ⟨N,cg,w',d,e,g,g',F',i,j,k,hu,m,v,rfl,a⟩:=(h (fun g' F'=>∃v,g'=G (c.finish v) cs/\R v F') c cs (fun v F' a=>iM.done rfl rfl ⟨v,rfl,a⟩)).2.2 bI gs w sl t q b;obtain ⟨n,o,w2,p,t2,r,s,u,z,A,B,C,D,E⟩:=hK v F' a i cg w' d e g k;refine ⟨N+n,o,w2,p,t2,r,s,u,z,by rw[js j];exact A,B,hu.trans C,fun l F=>?_,E⟩;rcases D l F with x|x
 .rcases m l x with y|y|y
  .exact .inl y
  .exact .inr y
  .cases l<;>first|(simp only[fq,keys,List.map_nil] at y;cases y)|exact y.elim
 .exact .inr fun H=>x (Loc.low_mono hu.size H)
theorem iM.found {P:Program}{Φ:Goroutine->af->Prop}{g:Goroutine}{F D:af}{Mu Wg Is:Nat}{tM tW tI:TypeId}{n:Nat}(bs:Nat->Bool)(J:g.status= .running)(R:g.offers=none)
  (hle:Le ⟨D.ro,(Mu,muBlock tM 0 0)::(Wg,wgBlock tW 0 0)::(Is,.cells (List.replicate n (Value.bool false)).toArray tI)::D.own⟩ F)
  (h:∀base B0 T0,0<base->(Mu≠Wg/\Mu≠Is/\Wg≠Is)->eK ⟨P,Mu,Wg,Is,tM,tW,tI,n,bs,base,T0⟩ B0 (iM P Φ) 0 (.opn 0) 0 g D):iM P Φ g F:=by
 refine ⟨J,R,fun bI gs w sl t q k=>?_⟩
 have B:=hle.has w k.has
 have S:0<gs.size:=(Array.getElem?_eq_some_iff.1 k.g0).1
 let c:Cy:=⟨P,Mu,Wg,Is,tM,tW,tI,n,bs,gs.size,t.size⟩
 have T:=B.nodup
 simp only[keys,List.map_cons,List.nodup_cons,List.mem_cons,not_or] at T
 obtain ⟨⟨n1,n2,n3⟩,⟨U,V⟩,W,X⟩:=T
 have A:∀b,c.shared b->b∈keys F.own:=fun b hb=>by
  rcases hb with rfl|rfl|rfl<;>exact hle.own _ (by simp[keys,c])
 have E:∀b,b∈keys D.own->b∈keys F.own:=fun b hb=>hle.own b (by simp only[keys,List.map_cons,List.mem_cons];exact .inr (.inr (.inr hb)))
 have O:∀a,(D.ro a).isSome=true->(F.ro a).isSome=true\/a.block∈keys F.own:=fun a d=>hle.ro a d
 have Y:Has D w:=⟨B.ro,fun b o hb=>B.own b o (List.mem_cons_of_mem _ (List.mem_cons_of_mem _ (List.mem_cons_of_mem _ hb))),X,fun a v J hm=>B.apart a v J (by simp only[keys,List.map_cons,List.mem_cons];exact .inr (.inr (.inr hm)))⟩
 have L:∀l,F.gF l->∀i a,touchAt t i=some a->a.loc=l->l.isMemory=true->Go.Conc.Knows t 0 i:=fun l u i a d e hm=>by
  rcases k.fR.known i a d (by rw[e];exact hm) with x|⟨x,_⟩
  .exact x
  .exact absurd u (k.apart l (e▸x))
 let φ:Nat->Ph:=fun _=>{mp:=.idle,gp:=.new,stored:=false,deaf:=0}
 let s:Sh:=⟨0,0,0,0,List.replicate n false⟩
 have Z:dY c w.heap.size bI (.opn 0) 0 0 g (fun _=>D) gs w t (fun j=>Rk.nat (q j)) φ s:=by
  refine ⟨rfl,S,J,R,⟨g,k.g0,by cases g;simp_all,.inl J⟩,fun j x ab _ ad=>⟨q j,rfl,k.lv.old j x ab ad⟩,fun i m=>aa,fun i m=>aa,k.lv.above,k.fR.hears,⟨fun p H=>Y,fun p q H ae al=>aa,fun p q H ae al=>aa,fun p H b hb hs=>?_,fun p H a d hs=>?_,fun b hb=>k.has.lt (A b hb)⟩,
   ⟨?_,?_,?_⟩,⟨⟨0,0,0,0,0,⟨⟨rfl,aa,aa,aa⟩,rfl,?_,fun _=>?_,fun e=>aa,fun i m o G ao=>by simp[φ,Mp.seen] at ao⟩⟩,⟨?_⟩,⟨by simp[s,c],Nat.zero_le _,fun i m=>?_,fun i m=>?_,fun i m _=>⟨rfl,rfl,rfl⟩,fun i m _ M=>by simp[φ] at M⟩⟩,
   ⟨Nat.le_refl _,fun i a d hs=>.inr fun p H=>?_,k.fR.clean,fun p H l u=>?_,fun p H l u=>?_,fun i m=>aa,fun i m l u=>?_,k.fR.seen,fun i m e=>?_,fun i a d hm=>?_,fun i g hg ar a0=>.inl (k.fR.over i g hg ar a0)⟩,
   fun i m=>aa,fun l u I=>?_,k.low,fun i m=>aa,Nat.le_refl _,⟨n1,n2,U⟩⟩
  .rcases hs with e|e|e
   .exact n3 (by rw[<-show b=Mu from e];exact hb)
   .exact V (by rw[<-show b=Wg from e];exact hb)
   .exact W (by rw[<-show b=Is from e];exact hb)
  .obtain ⟨v,a6⟩:=Option.isSome_iff_exists.1 d
   refine B.apart a v a6 ?_
   rcases hs with e|e|e
   .rw[show a.block=Mu from e];simp[keys]
   .rw[show a.block=Wg from e];simp[keys]
   .rw[show a.block=Is from e];simp[keys]
  .exact B.own Mu (muBlock tM 0 0) (.head _)
  .exact B.own Wg (wgBlock tW 0 0) (.tail _ (.head _))
  .have:=B.own Is (.cells (List.replicate n (Value.bool false)).toArray tI) (.tail _ (.tail _ (.head _)))
   rw[show (s.is.map Value.bool)=List.replicate n (Value.bool false) from by simp[s]]
   exact this
  .exact (xh fun i m=>rfl).symm
  .have z:∀f:Mp->Nat,f .idle=0->sm n φ f=0:=fun f I=>xh fun i m=>I
   have a1:=z Mp.nI rfl;have a2:=z Mp.nY rfl;have a3:=z Mp.nA rfl;have a4:=z Mp.nK rfl;have a5:=z Mp.nT rfl;have b4:=z Mp.nQ rfl
   refine ⟨a1,a2,?_,?_,fun e=>absurd e (Nat.lt_irrefl _)⟩
   .show 0=sm n φ Mp.nA+0+sm n φ Mp.nK+sm n φ Mp.nT;omega
   .show 0+0+sm n φ Mp.nT=sm n φ Mp.nQ;omega
  .have z:∀f:Gp->Nat,f .new=0->sg n φ f=0:=fun f I=>sE fun i m=>I
   refine ⟨aa,?_,rfl,z _ rfl,z _ rfl⟩
   show (0:Int)=((sg n φ Gp.nV+0:Nat):Int)*di
   rw[z _ rfl];rfl
  .simp[s,φ,show i<n from m]
  .exact ⟨fun e=>aa,fun e=>by simp[φ] at e⟩
  .obtain rfl:p=0:=aa
   obtain ⟨b,e,hb⟩:=hs
   exact L a.loc (by rw[e];exact .inl (A _ (hb.elim .inl fun x=>.inr (.inl x)))) i a d rfl (by rw[e];rfl)
  .obtain rfl:p=0:=aa
   intro i a d e
   refine L l ?_ i a d e ?_
   .cases l with
    |cell a=>exact .inl (E _ u)
    |obj r=>exact E _ u
    |_=>exact u.elim
   .cases l<;>first|rfl|exact u.elim
  .obtain rfl:p=0:=aa
   obtain ⟨b,rfl,hb⟩:=u
   exact fun i a d e _=>L (.cell b) ((O b hb).elim (fun x=>Or.inr x) (fun x=>Or.inl x)) i a d e rfl
  .intro j a d e
   rw[show l=_ from u] at e
   exact L (.cell ⟨Is,i,none⟩) (Or.inl (A Is (.inr (.inr rfl)))) j a d e rfl
  .exact absurd (lt_of_act? e) (Nat.not_lt.2 m)
  .rcases k.fR.known i a d hm with x|x
   .exact .inl x
   .exact .inr (.inl x)
  .refine k.apart l u ?_
   cases l with
   |cell a=>exact I.elim (fun x=>.inl (E _ x)) fun x=>(O a x).elim .inr .inl
   |obj r=>exact E _ I
   |_=>exact I
 obtain ⟨N,cg,w',a7,a8,a9,g',F',ba,k1,bb,C,bc,bd⟩:=(h gs.size w.heap.size t.size S ⟨n1,n2,U⟩).2.2 bI gs w sl t _ _ _ _ rfl Z (fun a hs hb=>k.apart _ hs (.inl (A _ hb))) (fun r hs hb=>k.apart _ hs (A _ hb))
 obtain ⟨bj,bk,w2,bl,t2,bm,bo,br,bz,bS,b0,b1,b2,b3⟩:=bd.2.2 ba cg w' a7 a8 a9 bb
 have Q:fB F F' w w':=⟨C.os,C.tape,C.output,C.size,fun b hb M=>C.frame b hb (fun x=>M (E b x)) (fun x=>M (A b x)),fun a d=>by
  rcases C.ro a d with x|x|x|x
  .exact (O a x).imp id .inl
  .exact .inr (.inl (E _ x))
  .exact .inr (.inr x)
  .exact .inr (.inl (A _ x)),fun b hb=>by
  rcases C.own b hb with x|x|x
  .exact .inl (E b x)
  .exact .inr x
  .exact .inl (A b x)⟩
 refine ⟨N+bj,bk,w2,bl,t2,bm,bo,br,bz,by rw[js k1];exact bS,b0,Q.trans b1,fun l u=>?_,b3⟩
 rcases b2 l u with x|x|x
 .rcases bc l x with y|⟨a,rfl,d⟩
  .exact .inl y
  .exact .inr (.inr (show a.block∈keys F.own from A _ (.inr (.inl d))))
 .exact .inr (.inl fun K=>x (Loc.low_mono C.size K))
 .cases l with
  |cell a=>
   rcases Q.own _ x with y|y
   .exact .inr (.inr y)
   .exact .inr (.inl fun K=>absurd K (Nat.not_lt.2 y))
  |obj r=>
   rcases Q.own _ x with y|y
   .exact .inr (.inr y)
   .exact .inr (.inl fun K=>absurd K (Nat.not_lt.2 y))
  |_=>exact x.elim
end Go.Sep
end

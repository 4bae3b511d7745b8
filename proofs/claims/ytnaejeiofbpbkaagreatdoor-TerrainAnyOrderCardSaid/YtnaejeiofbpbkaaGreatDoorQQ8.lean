/- A part of the proof: QQ8. -/
import Derived.Test.YtnaejeiofbpbkaaGreatDoorQQ7
import Derived.Conc.CrowdTrace
set_option linter.all false
section
namespace Go.Sep
open Go Go.Conc
open Go.ConcN (PermW fork_knows)
open Go.ConcM (MuAt muA msA muBlock)
open Go.ConcR (WgAt wgBlock stA smA)
structure Cy where
 P:Program
 Mu:Nat
 Wg:Nat
 Is:Nat
 tM:TypeId
 tW:TypeId
 tI:TypeId
 n:Nat
 bs:Nat->Bool
 base:Nat
 T0:Nat
def Cy.shared (c:Cy)(b:Nat):Prop:=b=c.Mu\/b=c.Wg\/b=c.Is
def Cy.sy (c:Cy)(l:Loc):Prop:=∃a,l= .cell a/\(a.block=c.Mu\/a.block=c.Wg)
def Cy.gid (c:Cy):Nat->Nat
 |0=>0
 |i+1=>c.base+i
theorem Cy.K9 (c:Cy)(hb:0<c.base){p q:Nat}(h:p≠q):c.gid p≠c.gid q:=by
 cases p<;>cases q<;>simp[Cy.gid] at*<;>omega
def fh (F:aa):Loc->Prop
 | .cell a=>a.block∈keys F.own
 | .obj r=>r∈keys F.own
 |_=>False
def ji (F:aa)(l:Loc):Prop:=∃a,l= .cell a/\(F.ro a).isSome=true
def lI (B:Nat):Loc->Prop
 | .cell a=>B<=a.block
 | .obj r=>B<=r
 |_=>False
def pY (c:Cy)(i:Nat)(l:Loc):Prop:=l= .cell ⟨c.Is,i,none⟩
structure dN (c:Cy)(k:Nat)(Fr:Nat->aa)(w:World):Prop where
 has:∀p,p<=k->Has (Fr p) w
 own:∀p q,p<=k->q<=k->p≠q->∀b∈keys (Fr p).own,b∉keys (Fr q).own
 ro:∀p q,p<=k->q<=k->p≠q->∀a,((Fr p).ro a).isSome=true->a.block∉keys (Fr q).own
 hH:∀p,p<=k->∀b∈keys (Fr p).own,¬c.shared b
 jT:∀p,p<=k->∀a,((Fr p).ro a).isSome=true->¬c.shared a.block
 gS:∀b,c.shared b->b<w.heap.size
structure gA (c:Cy)(t:Trace)(g r:Nat):Prop where
 late:c.T0<=r
 act:t.act? r=some (.mark (.releaseMerge (stA c.Wg)))
 D9:t.g? r=some g
 heard:t.heard r
 after:∀i x,r<i->t.g? i=some g->touchAt t i=some x->x.kind= .atomic/\¬t.heard i/\∃a,x.loc= .cell a/\a.block=c.Wg
structure eF (c:Cy)(bD:Loc->Prop)(k:Nat)(Fr:Nat->aa)(B:Nat)(t:Trace):Prop where
 len:c.T0<=t.size
 quiet:∀i a,touchAt t i=some a->c.sy a.loc->(a.kind≠ .plain/\(a.kind= .said->t.g? i=some 0))\/∀p,p<=k->Go.Conc.Knows t (c.gid p) i
 nr:∀said,¬Race said t
 own:∀p,p<=k->∀l,fh (Fr p) l->Perm t (c.gid p) l
 ro:∀p,p<=k->∀l,ji (Fr p) l->PermW t (c.gid p) l
 vq:∀i,i<k->∀l,pY c i l->Perm t (c.base+i) l
 vr:∀i,k<=i->∀l,pY c i l->Perm t 0 l
 low:∀op∈t,op.act.low B
 norel:∀i,c.T0<=i->t.act? i≠some (.mark (.release (stA c.Wg)))
 known:∀i a,touchAt t i=some a->a.loc.isMemory=true->Go.Conc.Knows t 0 i\/(bD a.loc/\a.kind= .atomic)\/∃j,j<k/\t.g? i=some (c.base+j)
 over:∀i g,t.g? i=some g->g≠0->t.counts i->(∃j,t.g? j=some 0/\HappensBefore t i j)\/∃j,j<k/\g=c.base+j
def vt (c:Cy)(F:aa)(B p:Nat)(x:Touch):Prop:=
 fh F x.loc\/lI B x.loc\/(ji F x.loc/\x.write=false)\/(c.sy x.loc/\x.kind≠ .plain/\(x.kind= .said->p=0))\/(∃i,p=i+1/\pY c i x.loc)\/x.loc.isMemory=false
theorem Ea {B:Nat}{l:Loc}(h:l.low B)(b:lI B l):False:=by
 cases l with
 |cell a=>exact absurd h (Nat.not_lt.2 b)
 |obj r=>exact absurd h (Nat.not_lt.2 b)
 |_=>exact b
theorem Eb {B:Nat}{t:Trace}(h:∀op∈t,op.act.low B){i:Nat}{a:Touch}(c:touchAt t i=some a):a.loc.low B:=by
 obtain ⟨x,d,b⟩:=touch_of c;have hm:=h x (Array.mem_of_getElem? d);obtain ⟨g,fn,pos,act⟩:=x;cases act with
 |access e=>simp only[MemAct.touch?,Option.some.injEq] at b;subst b;exact hm
 |mark m=>cases m<;>simp only[MemAct.touch?,Option.some.injEq] at b<;>first|(subst b;exact hm)|cases b
 |_=>cases b
theorem La {F:aa}{w:World}(h:Has F w){l:Loc}(b:fh F l):¬lI w.heap.size l:=by
 cases l with
 |cell a=>exact fun x=>absurd (h.lt b) (Nat.not_lt.2 x)
 |obj r=>exact fun x=>absurd (h.lt b) (Nat.not_lt.2 x)
 |_=>exact b.elim
theorem Lb {F:aa}{w:World}(h:Has F w){l:Loc}(b:ji F l):¬lI w.heap.size l:=by
 obtain ⟨a,rfl,c⟩:=b;exact fun x=>absurd (h.ig c) (Nat.not_lt.2 x)
section
variable {c:Cy}{bD:Loc->Prop}{k:Nat}{Fr:Nat->aa}{w:World}{t u:Trace}
theorem dN.sep (h:dN c k Fr w){p q:Nat}(b:p<=k)(d:q<=k)(aG:p≠q){l:Loc}(h1:fh (Fr p) l)(h2:fh (Fr q) l):False:=by
 cases l with
 |cell a=>exact h.own p q b d aG _ h1 h2
 |obj r=>exact h.own p q b d aG _ h1 h2
 |_=>exact h1
theorem dN.Ec (h:dN c k Fr w){p q:Nat}(b:p<=k)(d:q<=k)(aG:p≠q){l:Loc}(h1:ji (Fr p) l)(h2:fh (Fr q) l):False:=by
 obtain ⟨a,rfl,e⟩:=h1;exact h.ro p q b d aG a e h2
theorem dN.Ed (h:dN c k Fr w){p:Nat}(b:p<=k){l:Loc}(h1:fh (Fr p) l)(h2:c.sy l):False:=by
 obtain ⟨a,rfl,h2⟩:=h2;exact h.hH p b _ h1 (h2.elim .inl fun x=>.inr (.inl x))
theorem dN.Ee (h:dN c k Fr w){p:Nat}(b:p<=k){l:Loc}(h1:ji (Fr p) l)(h2:c.sy l):False:=by
 obtain ⟨a,rfl,h1⟩:=h1;obtain ⟨d,e,h2⟩:=h2;cases e;exact h.jT p b _ h1 (h2.elim .inl fun x=>.inr (.inl x))
theorem dN.zv (h:dN c k Fr w){p i:Nat}(a:p<=k){l:Loc}(h1:fh (Fr p) l)(h2:pY c i l):False:=by
 subst h2;exact h.hH p a _ h1 (.inr (.inr rfl))
theorem dN.zw (h:dN c k Fr w){p i:Nat}(b:p<=k){l:Loc}(h1:ji (Fr p) l)(h2:pY c i l):False:=by
 subst h2;obtain ⟨a,e,h1⟩:=h1;cases e;exact h.jT p b _ h1 (.inr (.inr rfl))
theorem dN.Lc (h:dN c k Fr w){l:Loc}(h1:lI w.heap.size l)(h2:c.sy l):False:=by
 obtain ⟨a,rfl,h2⟩:=h2;exact absurd (h.gS _ (h2.elim .inl fun x=>.inr (.inl x))) (Nat.not_lt.2 h1)
theorem dN.Ef (h:dN c k Fr w){i:Nat}{l:Loc}(h1:lI w.heap.size l)(h2:pY c i l):False:=by
 subst h2;exact absurd (h.gS _ (.inr (.inr rfl))) (Nat.not_lt.2 h1)
theorem vu {a:Addr}{T:Nat}(h:∀i,T<=i->t.act? i≠some (.mark (.release a)))(hu:∀op∈u,op.act≠ .mark (.release a)):∀i,T<=i->(t++u).act? i≠some (.mark (.release a)):=by
 intro i c hi;obtain ⟨op,d,b⟩:=Option.map_eq_some_iff.1 hi;rcases getElem?_append_cases d with ⟨_,e⟩|⟨_,f⟩
 .exact h i c (by rw[act?_of e,b])
 .exact hu op f b
theorem Eg (h:∀i a,touchAt t i=some a->c.sy a.loc->(a.kind≠ .plain/\(a.kind= .said->t.g? i=some 0))\/∀p,p<=k->Go.Conc.Knows t (c.gid p) i)
  (hu:∀op∈u,∀x,op.act.touch?=some x->c.sy x.loc->x.kind≠ .plain/\(x.kind= .said->op.g=0)):
  ∀i a,touchAt (t++u) i=some a->c.sy a.loc->(a.kind≠ .plain/\(a.kind= .said->(t++u).g? i=some 0))\/∀p,p<=k->Go.Conc.Knows (t++u) (c.gid p) i:=by
 intro i a f hs
 obtain ⟨x,b,d⟩:=touch_of f
 rcases getElem?_append_cases b with ⟨hi,j⟩|⟨_,l⟩
 .rcases h i a (by rw[touchAt_of j];exact d) hs with ⟨y,z⟩|y
  .exact .inl ⟨y,fun e=>by rw[g?_old hi];exact z e⟩
  .exact .inr fun p m=>(y p m).app u
 .obtain ⟨y,z⟩:=hu x l a d hs
  exact .inl ⟨y,fun e=>by simp[Trace.g?,b,z e]⟩
theorem eF.app (hb:0<c.base)(aG:c.Mu≠c.Is/\c.Wg≠c.Is)(n:dN c k Fr w)(h:eF c bD k Fr w.heap.size t){p:Nat}(s:p<=k){c8:Nat->aa}{J:Nat}(Q:w.heap.size<=J)
  (hu:∀op∈u,op.g=c.gid p) (D:∀op∈u,∀x,op.act.touch?=some x->vt c (Fr p) w.heap.size p x)
  (R:∀op∈u,op.act.low J) (S:∀op∈u,op.act≠ .mark (.release (stA c.Wg)))
  (N:∀q,q≠p->c8 q=Fr q) (T:∀l,fh (c8 p) l->fh (Fr p) l\/lI w.heap.size l) (U:∀l,ji (c8 p) l->ji (Fr p) l\/fh (Fr p) l\/lI w.heap.size l):
  eF c bD k c8 J (t++u):=by
 have a2:∀op∈u,∀x,op.act.touch?=some x->x.loc.isMemory=false->∀l:Loc,l.isMemory=true->x.loc≠l:=fun op _ x _ h0 l d e=>by rw[e,d] at h0;cases h0
 have V:∀{F:aa} {l:Loc},fh F l->l.isMemory=true:=fun {F l} d=>by cases l<;>first|rfl|exact d.elim
 have W:∀{F:aa} {l:Loc},ji F l->l.isMemory=true:=fun {F l} d=>by obtain ⟨a,rfl,_⟩:=d;rfl
 have a3:∀q,q≠p->c.gid q≠c.gid p:=fun q m=>c.K9 hb m
 have X:∀q,q<=k->q≠p->∀l,fh (Fr q) l->∀op∈u,∀b,op.act.touch?=some b->b.loc≠l:=by
  intro q m v l d op f b r e
  rcases D op f b r with x|x|⟨x,_⟩|⟨x,_⟩|⟨i,_,x⟩|x<;>rw[e] at x
  .exact n.sep m s v d x
  .exact La (n.has q m) d x
  .exact n.Ec s m (Ne.symm v) x d
  .exact n.Ed m d x
  .exact n.zv m d x
  .rw[V d] at x;cases x
 have Y:∀q,q<=k->q≠p->∀l,ji (Fr q) l->∀op∈u,∀b,op.act.touch?=some b->b.loc=l->b.write=true->False:=by
  intro q m v l d op f b r e hw
  rcases D op f b r with x|x|⟨x,Z⟩|⟨x,_⟩|⟨i,_,x⟩|x
  .rw[e] at x;exact n.Ec m s v d x
  .rw[e] at x;exact Lb (n.has q m) d x
  .rw[Z] at hw;cases hw
  .rw[e] at x;exact n.Ee m d x
  .rw[e] at x;exact n.zw m d x
  .rw[e,W d] at x;cases x
 have fresh:∀l,lI w.heap.size l->Perm (t++u) (c.gid p) l:=by
  intro l d i a B e
  obtain ⟨x,C,K⟩:=touch_of B
  rcases getElem?_append_cases C with ⟨hi,L⟩|⟨_,H⟩
  .have:=Eb h.low (show touchAt t i=some a by rw[touchAt_of L];exact K)
   rw[e] at this
   exact (Ea this d).elim
  .have:=knows_own C
   rwa [hu x H] at this
 refine ⟨by have:=h.len;simp;omega,Eg h.quiet fun op f x C hs=>?_,fun said=>?_,fun q m l d=>?_,fun q m l d=>?_,fun i hi l d=>?_,fun i hi l d=>?_,fun op f=>?_,vu h.norel S,fun i a B hm=>?_,fun i g hg E A=>?_⟩
 .rcases D op f x C with y|y|⟨y,_⟩|⟨_,y,z⟩|⟨i,_,y⟩|y
  .exact (n.Ed s y hs).elim
  .exact (n.Lc y hs).elim
  .exact (n.Ee s y hs).elim
  .exact ⟨y,fun e=>by rw[hu op f,z e];rfl⟩
  .obtain ⟨a,e,hs⟩:=hs
   rw[show x.loc=_ from y] at e
   cases e
   rcases hs with hs|hs
   .exact absurd hs.symm aG.1
   .exact absurd hs.symm aG.2
  .obtain ⟨a,e,_⟩:=hs;rw[e] at y;cases y
 .refine noRace_append (h.nr said) hu fun i a B op f b r A=>?_
  rcases D op f b r with y|y|⟨y,z⟩|⟨y,y',z⟩|⟨j,rfl,y⟩|y
  .exact h.own p s _ y i a B A.1
  .have:=Eb h.low B
   rw[A.1] at this
   exact (Ea this y).elim
  .exact h.ro p s _ y i a B A.1 (A.2.2.1.resolve_right (by rw[z];simp))
  .rcases h.quiet i a B (by rw[A.1];exact y) with ⟨ab,ad⟩|q
   .obtain ⟨_,_,_,ae⟩:=A
    rcases ae with e|e|⟨_,e,I⟩
    .exact absurd e ab
    .exact absurd e y'
    .have E:=ad e
     unfold Trace.g? at E
     obtain ⟨o,al,ao⟩:=Option.map_eq_some_iff.1 E
     have:=knows_own al
     rw[ao] at this
     rw[z I];exact this
   .exact q p s
  .exact h.vq j (by omega) _ y i a B A.1
  .rw[<-A.1,A.2.1] at y;cases y
 .by_cases v:q=p
  .subst v
   rcases T l d with y|y
   .exact (h.own q m l y).app fun op f _ _ _=>hu op f
   .exact fresh l y
  .rw[N q v] at d
   exact (h.own q m l d).app fun op f b r e=>absurd e (X q m v l d op f b r)
 .by_cases v:q=p
  .subst v
   rcases U l d with y|y|y
   .exact (h.ro q m l y).app fun op f _ _ _ _=>hu op f
   .exact .of ((h.own q m l y).app fun op f _ _ _=>hu op f)
   .exact .of (fresh l y)
  .rw[N q v] at d
   exact (h.ro q m l d).app fun op f b r e hw=>(Y q m v l d op f b r e hw).elim
 .refine (h.vq i hi l d).app fun op f b r e=>?_
  rcases D op f b r with y|y|⟨y,_⟩|⟨y,_⟩|⟨j,I,y⟩|y<;>rw[e] at y
  .exact (n.zv s y d).elim
  .exact (n.Ef y d).elim
  .exact (n.zw s y d).elim
  .obtain ⟨a,e,hs⟩:=y
   rw[show l=_ from d] at e
   cases e
   rcases hs with hs|hs
   .exact absurd hs.symm aG.1
   .exact absurd hs.symm aG.2
  .have:i=j:=by rw[show l=_ from d] at y;cases y;rfl
   rw[hu op f,I,this];rfl
  .rw[show l=_ from d] at y;cases y
 .refine (h.vr i hi l d).app fun op f b r e=>?_
  rcases D op f b r with y|y|⟨y,_⟩|⟨y,_⟩|⟨j,I,y⟩|y<;>rw[e] at y
  .exact (n.zv s y d).elim
  .exact (n.Ef y d).elim
  .exact (n.zw s y d).elim
  .obtain ⟨a,e,hs⟩:=y
   rw[show l=_ from d] at e
   cases e
   rcases hs with hs|hs
   .exact absurd hs.symm aG.1
   .exact absurd hs.symm aG.2
  .have:i=j:=by rw[show l=_ from d] at y;cases y;rfl
   omega
  .rw[show l=_ from d] at y;cases y
 .exact (Array.mem_append.1 f).elim (fun x=>MemAct.low_mono Q (h.low op x)) (R op)
 .obtain ⟨x,C,K⟩:=touch_of B
  rcases getElem?_append_cases C with ⟨hi,L⟩|⟨_,H⟩
  .rcases h.known i a (by rw[touchAt_of L];exact K) hm with y|y|⟨j,G,y⟩
   .exact .inl (y.app u)
   .exact .inr (.inl y)
   .exact .inr (.inr ⟨j,G,by rw[g?_old hi];exact y⟩)
  .cases p with
   |zero=>have:=knows_own C;rw[hu x H] at this;exact .inl this
   |succ j=>exact .inr (.inr ⟨j,by omega,by simp[Trace.g?,C,hu x H,Cy.gid]⟩)
 .by_cases hi:i<t.size
  .rcases h.over i g (by rw[<-g?_old (u:=u) hi];exact hg) E ((counts_old hi).1 A) with ⟨j,G,y⟩|y
   .have ar:j<t.size:=by
     unfold Trace.g? at G
     obtain ⟨z,M,_⟩:=Option.map_eq_some_iff.1 G
     exact lt_size_of_getElem? M
    exact .inl ⟨j,by rw[g?_old ar];exact G,hb_app u y⟩
   .exact .inr y
  .unfold Trace.g? at hg
   obtain ⟨z,M,O⟩:=Option.map_eq_some_iff.1 hg
   rcases getElem?_append_cases M with ⟨a0,_⟩|⟨_,P⟩
   .exact absurd a0 hi
   .cases p with
    |zero=>exact absurd (O▸(hu z P)) E
    |succ j=>exact .inr ⟨j,by omega,by rw[<-O,hu z P];rfl⟩
theorem gA.app {g r:Nat}(h:gA c t g r)(hu:∀i x,t.size<=i->(t++u).g? i=some g->touchAt (t++u) i=some x->x.kind= .atomic/\¬(t++u).heard i/\∃a,x.loc= .cell a/\a.block=c.Wg):gA c (t++u) g r:=by
 have b:r<t.size:=lt_of_act? h.act;refine ⟨h.late,by rw[act?_old b];exact h.act,by rw[g?_old b];exact h.D9,(heard_old b).2 h.heard,fun i x hi hg e=>?_⟩;rcases Nat.lt_or_ge i t.size with d|f
 .rw[heard_old d];exact h.after i x hi (by rw[<-g?_old (u:=u) d];exact hg) (by rw[<-touchAt_old (u:=u) d];exact e)
 .exact hu i x f hg e
theorem gA.other {g r g':Nat}(h:gA c t g r)(aG:g'≠g)(hu:∀op∈u,op.g=g'):gA c (t++u) g r:=by
 refine h.app fun i x hi hg e=>?_;unfold Trace.g? at hg;obtain ⟨z,a,b⟩:=Option.map_eq_some_iff.1 hg;rcases getElem?_append_cases a with ⟨f,_⟩|⟨_,d⟩
 .omega
 .exact absurd (hu z d▸b) aG
theorem eF.fork (hb:0<c.base)(H:dN c k Fr w)(h:eF c bD k Fr w.heap.size t){x y:MemOp}(o:x.g=0/\x.act= .go (c.base+k))(r:y.g=c.base+k/\y.act= .start)(h0:Deaf t 0=0)(C:Deaf t (c.base+k)=0)
  {c8:Nat->aa} (E:∀q,q<=k->c8 q=Fr q) (I:∀l,¬fh (c8 (k+1)) l) (J:∀l,ji (c8 (k+1)) l->ji (Fr 0) l):eF c bD (k+1) c8 w.heap.size (t++#[x,y]):=by
 have s:∀op∈#[x,y],∀b,op.act.touch?=some b->False:=by
  intro op d b hb
  simp only[List.mem_toArray,List.mem_cons,List.not_mem_nil,or_false] at d
  rcases d with rfl|rfl
  .rw[o.2] at hb;cases hb
  .rw[r.2] at hb;cases hb
 have old:∀{i:Nat} {a:Touch},touchAt (t++#[x,y]) i=some a->touchAt t i=some a/\i<t.size:=by
  intro i a m
  obtain ⟨z,v,F⟩:=touch_of m
  rcases getElem?_append_cases v with ⟨hi,K⟩|⟨_,L⟩
  .exact ⟨by rw[touchAt_of K];exact F,hi⟩
  .exact (s z L a F).elim
 refine ⟨by have:=h.len;simp;omega,fun i a m hs=>?_,fun said=>?_,fun q M l f=>?_,fun q M l f=>?_,fun i hi l f=>?_,fun i hi l f=>?_,fun op d=>?_,vu h.norel fun op d=>?_,fun i a m hm=>?_,fun i g hg N G=>?_⟩
 .obtain ⟨D,hi⟩:=old m
  rcases h.quiet i a D hs with ⟨O,P⟩|q
  .exact .inl ⟨O,fun e=>by rw[g?_old hi];exact P e⟩
  .refine .inr fun p H=>?_
   rcases Nat.lt_or_ge k p with B|n
   .obtain rfl:p=k+1:=by omega
    exact fork_knows o r h0 C (q 0 (Nat.zero_le _))
   .exact (q p n).app _
 .have e:t++#[x,y]=(t++#[x])++#[y]:=by apply Array.ext';simp
  rw[e]
  refine noRace_append (g:=c.base+k) (noRace_append (g:=0) (h.nr said) (fun op d=>by simp at d;rw[d];exact o.1) (fun i a _ op d b hb _=>(s op (by simp at d ⊢;exact .inl d) b hb).elim))
   (fun op d=>by simp at d;rw[d];exact r.1) (fun i a _ op d b hb _=>(s op (by simp at d ⊢;exact .inr d) b hb).elim)
 .rcases Nat.lt_or_ge k q with B|n
  .obtain rfl:q=k+1:=by omega
   exact (I l f).elim
  .rw[E q n] at f
   exact (h.own q n l f).app fun op d b hb _=>(s op d b hb).elim
 .rcases Nat.lt_or_ge k q with B|n
  .obtain rfl:q=k+1:=by omega
   exact fun i a m e hw=>fork_knows o r h0 C (h.ro 0 (Nat.zero_le _) l (J l f) i a (old m).1 e hw)
  .rw[E q n] at f
   exact (h.ro q n l f).app fun op d b hb _ _=>(s op d b hb).elim
 .rcases Nat.lt_or_ge i k with B|n
  .exact (h.vq i B l f).app fun op d b hb _=>(s op d b hb).elim
  .obtain rfl:i=k:=by omega
   exact fun j a m e=>fork_knows o r h0 C (h.vr i (Nat.le_refl _) l f j a (old m).1 e)
 .exact (h.vr i (by omega) l f).app fun op d b hb _=>(s op d b hb).elim
 .rcases Array.mem_append.1 d with z|z
  .exact h.low op z
  .simp only[List.mem_toArray,List.mem_cons,List.not_mem_nil,or_false] at z
   rcases z with rfl|rfl
   .rw[o.2];trivial
   .rw[r.2];trivial
 .simp only[List.mem_toArray,List.mem_cons,List.not_mem_nil,or_false] at d
  rcases d with rfl|rfl
  .rw[o.2];simp
  .rw[r.2];simp
 .obtain ⟨D,hi⟩:=old m
  rcases h.known i a D hm with z|z|⟨j,A,z⟩
  .exact .inl (z.app _)
  .exact .inr (.inl z)
  .exact .inr (.inr ⟨j,by omega,by rw[g?_old hi];exact z⟩)
 .have Q:=G
  obtain ⟨z,v,_⟩:=G
  obtain ⟨_,hi⟩:=old (show touchAt _ i=some z from v)
  rcases h.over i g (by rw[<-g?_old (u:=#[x,y]) hi];exact hg) N ((counts_old hi).1 Q) with ⟨j,A,y'⟩|⟨j,A,y'⟩
  .have R:j<t.size:=by
    unfold Trace.g? at A
    obtain ⟨z,v,_⟩:=Option.map_eq_some_iff.1 A
    exact lt_size_of_getElem? v
   exact .inl ⟨j,by rw[g?_old R];exact A,hb_app _ y'⟩
  .exact .inr ⟨j,by omega,y'⟩
theorem eF.fV (h:eF c bD k Fr w.heap.size t)(d:∀i,i<k->∃r,gA c t (c.base+i) r){y:MemOp}(f:y.g=0/\y.act= .mark (.acquire (stA c.Wg)))(h0:Deaf t 0=0)(F:c.Wg<w.heap.size):
  Past (fun l=>bD l\/∃a,l= .cell a/\a.block=c.Wg) w.heap.size (t++#[y]):=by
 have hyp:(t++#[y])[t.size]?=some y:=by rw[Array.getElem?_append_right (Nat.le_refl _)];simp
 have x:∀op∈#[y],∀b,op.act.touch?=some b->False:=by
  intro op e b hb
  simp only[List.mem_toArray,List.mem_cons,List.not_mem_nil,or_false] at e
  rw[e,f.2] at hb;cases hb
 have old:∀{i:Nat} {a:Touch},touchAt (t++#[y]) i=some a->touchAt t i=some a/\i<t.size:=by
  intro i a s
  obtain ⟨z,o,A⟩:=touch_of s
  rcases getElem?_append_cases o with ⟨hi,v⟩|⟨_,G⟩
  .exact ⟨by rw[touchAt_of v];exact A,hi⟩
  .exact (x z G a A).elim
 have heard:(t++#[y]).heard t.size:=⟨0,by simp[Trace.g?,f.1],by rw[deaf_old (Nat.le_refl _)];exact h0⟩
 have norel:=vu (u:=#[y]) h.norel fun op e=>by
  simp only[List.mem_toArray,List.mem_cons,List.not_mem_nil,or_false] at e
  rw[e,f.2];simp
 have zk:∀g r,gA c t g r->HappensBefore (t++#[y]) r t.size:=fun g r d=>
  .single (.inr ⟨.marked (a:=stA c.Wg) (lt_of_act? d.act) (.inr (by rw[act?_old (lt_of_act? d.act)];exact d.act)) (by rw[act?_of hyp,f.2]) (fun k H _=>norel k (Nat.le_of_lt (Nat.lt_of_le_of_lt d.late H))),(heard_old (lt_of_act? d.act)).2 d.heard,heard⟩)
 have upto:∀g r i,gA c t g r->t.g? i=some g->i<=r->HappensBefore (t++#[y]) i t.size:=fun g r i d hg hle=>by
  have B:=lt_of_act? d.act
  rcases Nat.lt_or_ge i r with n|p
  .exact .trans (.single (.inl ⟨n,g,by rw[g?_old (Nat.lt_trans n B)];exact hg,by rw[g?_old B];exact d.D9⟩)) (zk g r d)
  .obtain rfl:i=r:=by omega
   exact zk g i d
 refine ⟨fun said=>noRace_append (g:=0) (h.nr said) (fun op e=>by simp at e;rw[e];exact f.1) (fun i a _ op e b hb _=>(x op e b hb).elim),fun i a s hm=>?_,fun i g hg I C=>?_,?_,fun op e=>?_⟩
 .obtain ⟨D,hi⟩:=old s
  rcases h.known i a D hm with z|z|⟨j,m,z⟩
  .exact .inl (z.app _)
  .exact .inr ⟨.inl z.1,z.2⟩
  .obtain ⟨r,d⟩:=d j m
   rcases Nat.lt_or_ge r i with n|p
   .obtain ⟨h1,_,h2⟩:=d.after i a n z D
    exact .inr ⟨.inr h2,h1⟩
   .exact .inl ⟨t.size,y,hyp,f.1,.inr (upto _ r i d z p)⟩
 .have J:=C
  obtain ⟨z,o,M,K⟩:=C
  obtain ⟨v,hi⟩:=old (show touchAt _ i=some z from o)
  rcases h.over i g (by rw[<-g?_old (u:=#[y]) hi];exact hg) I ((counts_old hi).1 J) with ⟨j,m,y'⟩|⟨j,m,y'⟩
  .have L:j<t.size:=by
    unfold Trace.g? at m
    obtain ⟨z,o,_⟩:=Option.map_eq_some_iff.1 m
    exact lt_size_of_getElem? o
   exact ⟨j,by rw[g?_old L];exact m,hb_app _ y'⟩
  .obtain ⟨r,d⟩:=d j m
   have E:t.g? i=some (c.base+j):=by rw[<-g?_old (u:=#[y]) hi,hg,y']
   rcases Nat.lt_or_ge r i with n|p
   .obtain ⟨h1,h2,_⟩:=d.after i z n E v
    rcases K with q|q
    .exact absurd h1 q
    .exact absurd ((heard_old hi).1 q) h2
   .exact ⟨t.size,by simp[Trace.g?,f.1],upto _ r i d E p⟩
 .rw[Deaf_push]
  simp only[deafStep,f.2]
  exact h0
 .rcases Array.mem_append.1 e with z|z
  .exact h.low op z
  .simp only[List.mem_toArray,List.mem_cons,List.not_mem_nil,or_false] at z
   rw[z,f.2];exact F
end
end Go.Sep
end
section
namespace Go.Sep
open Go Go.Conc
open Go.ConcN (sumTo upd upd_ne upd_same sumTo_congr)
open Go.ConcM (MuAt muA msA muBlock OsLater)
open Go.ConcR (WgAt wgBlock stA smA)
def cK (m:Mark):Event:=⟨.mark m,false,true⟩
def cA (c:Cy)(w:World)(s:Sh):Prop:=MuAt c.tM c.Mu w s.mu s.ms/\WgAt c.tW c.Wg w s.wg s.ws/\w.heap[c.Is]?=some (.cells (s.is.map Value.bool).toArray c.tI)
structure iN (c:Cy)(w w':World):Prop where
 tape:w'.tape=w.tape
 output:w'.output=w.output
 size:w'.heap.size=w.heap.size
 os:OsLater w.os w'.os
 block:∀k,¬c.shared k->w'.heap[k]?=w.heap[k]?
theorem iN.refl (c:Cy)(w:World):iN c w w:=⟨rfl,rfl,rfl,.refl _,fun _ _=>rfl⟩
inductive EvA (c:Cy)(i:Nat)(ph aK:Ph)(es:Array Event):Prop
 |book (h:∀e∈es,e=cK .disable\/e=cK .enable\/∃a x,e=⟨.cell a,x,true⟩/\(a.block=c.Wg\/(a.block=c.Mu/\ph.gp= .cnt))) (hd:deafBehind ph.deaf es=aK.deaf)
   (ht:∀j e,es[j]?=some e->(MemAct.ofEvent e).touch?=none\/0<deafBehind ph.deaf (es.extract 0 j)) (hg:aK.gp= .cnt↔ph.gp= .cnt)
 |word (m:Mark) (he:es=#[cK m]) (hm:m= .acquire (muA c.Mu)\/m= .releaseMerge (muA c.Mu)) (hd:aK.deaf=ph.deaf) (hg:aK.gp= .cnt/\ph.gp= .cnt)
 |store (he:es=#[⟨.cell ⟨c.Is,i,none⟩,true,false⟩]) (hd:aK.deaf=ph.deaf) (hg:aK.gp= .cnt/\ph.gp= .cnt)
 |rel (he:es=#[cK (.releaseMerge (stA c.Wg))]) (hd:ph.deaf=0/\aK.deaf=0) (hg:ph.gp= .cnt)
def jj (c:Cy)(i:Nat):Rk->Goroutine->aa->Ph->Prop
 | .mk ι f,g,F,ph=>
  (ph.gp= .gone/\∃q,Rk.mk ι f=Rk.nat q/\QuitsD c.P q ph.deaf g)\/
  (g.status= .running/\g.offers=none/\ph.gp= .cnt/\∀w,Has F w->∃(x:ι) (g':Goroutine) (w':World) (es:Array Event) (F':aa),
   stepG c.P false g w= .go g' w' es/\ef F F' w w'/\Has F' w'/\(∀e∈es,jv F.ro (ie F w.heap.size w'.heap.size) e)/\jj c i (f x) g' F' ph)\/
  (g.status= .running/\g.offers=none/\ph.gp≠ .gone/\∀(w:World) (s:Sh) (k:Nat) (φ:Nat->Ph) (p0:P0),Has F w->cA c w s->i<c.n->φ i=ph->Inv c.n c.bs k φ p0 s->
   (ph.mp.jg=true/\s.ms=0/\stepG c.P false g w= .go {g with status:=.blocked} w #[])\/
   (∃(x:ι) (g':Goroutine) (w':World) (es:Array Event) (s':Sh) (aK:Ph) (F':aa),stepG c.P false g w= .go g' w' es/\cA c w' s'/\iN c w w'/\Inv c.n c.bs k (upd φ i aK) p0 s'/\EvA c i ph aK es/\
    (mayWake c.P g=true\/(s'.ms<=s.ms/\s'.ws<=s.ws))/\Le F' F/\jj c i (f x) g' F' aK))
def Wk (c:Cy)(i:Nat)(ph:Ph)(g:Goroutine)(F:aa):Prop:=∃F0 r,Le F0 F/\jj c i r g F0 ph
theorem Wk.mono {c:Cy}{i:Nat}{ph:Ph}{g:Goroutine}{F F':aa}(hle:Le F F')(h:Wk c i ph g F):Wk c i ph g F':=
 let ⟨F0,r,h1,h2⟩:=h;⟨F0,r,h1.trans hle,h2⟩
theorem Wk.closed (c:Cy)(i:Nat)(ph:Ph)(hg:ph.gp= .cnt):Closed c.P false (fun g F=>Wk c i ph g F) where
 mono hle h:=h.mono hle
 step {fr cs F} h:=by
  classical
  let Q:World->Rk->Prop:=fun w r=>∃(g':Goroutine) (w':World) (es:Array Event) (F':aa),
   stepG c.P false (G fr cs) w= .go g' w' es/\ef F F' w w'/\Has F' w'/\(∀e∈es,jv F.ro (ie F w.heap.size w'.heap.size) e)/\jj c i r g' F' ph
  refine ⟨F,.mk World fun w=>if d:∃r,Q w r then Classical.choose d else Rk.nat 0,.refl F,?_⟩
  refine .inr (.inl ⟨rfl,rfl,hg,fun w hw=>?_⟩)
  obtain ⟨g',w',es,F',h1,h2,h3,j,F0,r,f,k⟩:=h w hw
  have d:∃r,Q w r:=⟨r,g',w',es,F0,h1,⟨h2.os,h2.tape,h2.output,h2.size,h2.frame,fun a l=>(f.ro a l).elim (h2.ro a) fun x=>.inr (h2.own _ x),fun b hb=>h2.own b (f.own b hb)⟩,f.has _ h3,j,k⟩
  obtain ⟨g',w',es,F',k1,m,n,o,p⟩:=Classical.choose_spec d
  exact ⟨w,g',w',es,F',k1,m,n,o,by simp only[dif_pos d];exact p⟩
theorem Wk.act {c:Cy}{i:Nat}{ph:Ph}{g:Goroutine}{F:aa}(hs:g.status= .running)(o:g.offers=none)(hg:ph.gp≠ .gone)
  (h:∀(w:World) (s:Sh) (k:Nat) (φ:Nat->Ph) (p0:P0),Has F w->cA c w s->i<c.n->φ i=ph->Inv c.n c.bs k φ p0 s->
   (ph.mp.jg=true/\s.ms=0/\stepG c.P false g w= .go {g with status:=.blocked} w #[])\/
   (∃(g':Goroutine) (w':World) (es:Array Event) (s':Sh) (aK:Ph),stepG c.P false g w= .go g' w' es/\cA c w' s'/\iN c w w'/\Inv c.n c.bs k (upd φ i aK) p0 s'/\EvA c i ph aK es/\
    (mayWake c.P g=true\/(s'.ms<=s.ms/\s'.ws<=s.ws))/\Wk c i aK g' F)):Wk c i ph g F:=by
 classical
 let Q:World×Sh×Nat×(Nat->Ph)×P0->Rk->Prop:=fun y r=>∃(g':Goroutine) (w':World) (es:Array Event) (s':Sh) (aK:Ph) (F':aa),stepG c.P false g y.1= .go g' w' es/\cA c w' s'/\iN c y.1 w'/\Inv c.n c.bs y.2.2.1 (upd y.2.2.2.1 i aK) y.2.2.2.2 s'/\EvA c i ph aK es/\
    (mayWake c.P g=true\/(s'.ms<=y.2.1.ms/\s'.ws<=y.2.1.ws))/\Le F' F/\jj c i r g' F' aK
 refine ⟨F,.mk (World×Sh×Nat×(Nat->Ph)×P0) fun y=>if a:∃r,Q y r then Classical.choose a else Rk.nat 0,.refl F,?_⟩
 refine .inr (.inr ⟨hs,o,hg,fun w s k φ p0 h1 h2 h3 p q=>?_⟩)
 rcases h w s k φ p0 h1 h2 h3 p q with x|⟨g',w',es,s',aK,k1,b,d,e,f,j,F',r,l,m⟩
 .exact .inl x
 .have a:∃r,Q (w,s,k,φ,p0) r:=⟨r,g',w',es,s',aK,F',k1,b,d,e,f,j,l,m⟩
  obtain ⟨g',w',es,s',aK,F',k1,b,d,e,f,j,l,m⟩:=Classical.choose_spec a
  exact .inr ⟨(w,s,k,φ,p0),g',w',es,s',aK,F',k1,b,d,e,f,j,l,by simp only[dif_pos a];exact m⟩
theorem Wk.gone {c:Cy}{i:Nat}{ph:Ph}{g:Goroutine}{F:aa}{q:Nat}(hg:ph.gp= .gone)(h:QuitsD c.P q ph.deaf g):Wk c i ph g F:=by
 refine ⟨F,Rk.nat q,.refl F,?_⟩;cases q with
 |zero=>exact .inl ⟨hg,0,rfl,h⟩
 |succ q=>exact .inl ⟨hg,q+1,rfl,h⟩
structure dF (c:Cy)(B0:Nat)(F F':aa)(w w':World):Prop where
 os:OsLater w.os w'.os
 tape:w'.tape=w.tape
 output:w'.output=w.output
 size:w.heap.size<=w'.heap.size
 frame:∀b,b<B0->b∉keys F.own->¬c.shared b->w'.heap[b]?=w.heap[b]?
 ro:∀a,(F'.ro a).isSome=true->(F.ro a).isSome=true\/a.block∈keys F.own\/B0<=a.block\/c.shared a.block
 own:∀b,b∈keys F'.own->b∈keys F.own\/B0<=b\/c.shared b
theorem dF.refl (c:Cy)(B0:Nat)(F:aa)(w:World):dF c B0 F F w w:=⟨.refl _,rfl,rfl,Nat.le_refl _,fun _ _ _ _=>rfl,fun _ h=>.inl h,fun _ h=>.inl h⟩
theorem dF.trans {c:Cy}{B0:Nat}{F G H:aa}{u v w:World}(h:dF c B0 F G u v)(k:dF c B0 G H v w):dF c B0 F H u w where
 os:=h.os.trans k.os
 tape:=k.tape.trans h.tape
 output:=k.output.trans h.output
 size:=Nat.le_trans h.size k.size
 frame b hb d hs:=by
  rw[k.frame b hb (fun e=>(h.own b e).elim d fun x=>x.elim (fun y=>absurd hb (by omega)) hs) hs]
  exact h.frame b hb d hs
 ro a x:=by
  rcases k.ro a x with y|y|y
  .exact h.ro a y
  .exact .inr (h.own _ y)
  .exact .inr (.inr y)
 own b hb:=by
  rcases k.own b hb with x|x
  .exact h.own b x
  .exact .inr x
theorem dF.le {c:Cy}{B0:Nat}{F G H:aa}{w w':World}(h:Le F G)(u:dF c B0 F H w w'):dF c B0 G H w w' where
 os:=u.os
 tape:=u.tape
 output:=u.output
 size:=u.size
 frame b hb d hs:=u.frame b hb (fun x=>d (h.own b x)) hs
 ro a x:=by
  rcases u.ro a x with y|y|y
  .exact (h.ro a y).imp id .inl
  .exact .inr (.inl (h.own _ y))
  .exact .inr (.inr y)
 own b hb:=(u.own b hb).imp (h.own b) id
def pZ (c:Cy)(i:Nat)(r:Rk)(x:Goroutine)(F:aa)(ph:Ph)(s:Sh):Prop:=
 (ph.gp= .gone/\∃q,r=Rk.nat q/\QuitsD c.P q ph.deaf x)\/
 (ph.gp≠ .gone/\jj c i r {x with status:=.running} F ph/\x.offers=none/\(x.status= .running\/(x.status= .blocked/\ph.mp.jg=true/\s.ms=0)))
structure dO (c:Cy)(B0:Nat)(bD:Loc->Prop)(p0:P0)(d0 k:Nat)(g:Goroutine)(Fr:Nat->aa)(gs:Array Goroutine)(w:World)(t:Trace)(ρ:Nat->Rk)(φ:Nat->Ph)(s:Sh):Prop where
 size:gs.size=c.base+k
 base:0<c.base
 run:g.status= .running
 off:g.offers=none
 g0:∃x,gs[0]?=some x/\{x with status:=.running}=g/\(x.status= .running\/(x.status= .blocked/\p0= .reg/\s.ws=0))
 old:∀j x,0<j->j<c.base->gs[j]?=some x->∃q,ρ j=Rk.nat q/\QuitsD c.P q (Deaf t j) x
 wk:∀i,i<k->∃x,gs[c.base+i]?=some x/\pZ c i (ρ (c.base+i)) x (Fr (i+1)) (φ i) s
 deaf:∀i,i<k->Deaf t (c.base+i)=(φ i).deaf
 above:∀j,gs.size<=j->Deaf t j=0
 deaf0:Deaf t 0=d0
 parts:dN c k Fr w
 sh:cA c w s
 inv:Inv c.n c.bs k φ p0 s
 hO:eF c bD k Fr w.heap.size t
 rel:∀i,i<k->(φ i).gp≠ .cnt->∃r,gA c t (c.base+i) r
 apart:∀l,bD l->¬(Fr 0).gW l
 low:∀l,bD l->l.low B0
 jU:∀i,i<k->∀b∈keys (Fr (i+1)).own,B0<=b
 jV:B0<=w.heap.size
 ne:c.Mu≠c.Wg/\c.Mu≠c.Is/\c.Wg≠c.Is
section
variable {c:Cy}{B0:Nat}{bD:Loc->Prop}{p0:P0}{d0 k:Nat}{g:Goroutine}{Fr:Nat->aa}{gs:Array Goroutine}{w:World}{t:Trace}{ρ:Nat->Rk}{φ:Nat->Ph}{s:Sh}
theorem Inv.Eh (h:Inv c.n c.bs k φ p0 s):0<=s.ms:=by
 obtain ⟨C,S,W,L,m,hm⟩:=h.m;have:=hm.cnt;omega
theorem Inv.Ld (h:Inv c.n c.bs k φ p0 s):0<=s.ws:=by
 have:=h.w.inv;cases p0<;>simp only at this<;>omega
theorem pZ.woken {i:Nat}{r:Rk}{x:Goroutine}{F:aa}{ph:Ph}{s s':Sh}(h:pZ c i r x F ph s){y y':Goroutine}{w':World}(h0:0<=s'.ms)
  (hw:(mayWake c.P y=true/\y'.status≠ .blocked/\y'.status≠ .waiting)\/s'.ms<=s.ms):pZ c i r (woken c.P y y' w' x) F ph s':=by
 rcases h with ⟨hg,q,m,j⟩|⟨hg,f,e,n⟩
 .exact .inl ⟨hg,q,m,by rw[woken_quitsD j];exact j⟩
 .rcases n with k|⟨l,o,t⟩
  .rw[woken_run k];exact .inr ⟨hg,f,e,.inl k⟩
  .have p:x.again w'={x with status:=.running}:=by
    unfold Goroutine.again
    simp only[l,e]
   by_cases g:(mayWake c.P y&&y'.status != .blocked&&y'.status != .waiting)=true
   .have:Go.Conc.woken c.P y y' w' x={x with status:=.running}:=by unfold Go.Conc.woken;rw[if_pos g,p]
    rw[this]
    exact .inr ⟨hg,f,e,.inl rfl⟩
   .have:Go.Conc.woken c.P y y' w' x=x:=by unfold Go.Conc.woken;rw[if_neg g]
    rw[this]
    refine .inr ⟨hg,f,e,.inr ⟨l,o,?_⟩⟩
    rcases hw with ⟨a,b,d⟩|hw
    .simp[a,b,d] at g
    .omega
theorem Lf {x:Goroutine}{s s':Sh}(h:x.offers=none)(i:x.status= .running\/(x.status= .blocked/\p0= .reg/\s.ws=0)){y y':Goroutine}{w':World}(h0:0<=s'.ws)
  (hw:(mayWake c.P y=true/\y'.status≠ .blocked/\y'.status≠ .waiting)\/s'.ws<=s.ws):
  {woken c.P y y' w' x with status:=.running}=({x with status:=.running}:Goroutine)/\((woken c.P y y' w' x).status= .running\/((woken c.P y y' w' x).status= .blocked/\p0= .reg/\s'.ws=0)):=by
 rcases i with f|⟨g,j,l⟩
 .rw[woken_run f];exact ⟨rfl,.inl f⟩
 .have k:x.again w'={x with status:=.running}:=by
   unfold Goroutine.again
   simp only[g,h]
  by_cases e:(mayWake c.P y&&y'.status != .blocked&&y'.status != .waiting)=true
  .have:Go.Conc.woken c.P y y' w' x={x with status:=.running}:=by unfold Go.Conc.woken;rw[if_pos e,k]
   rw[this]
   exact ⟨rfl,.inl rfl⟩
  .have:Go.Conc.woken c.P y y' w' x=x:=by unfold Go.Conc.woken;rw[if_neg e]
   rw[this]
   refine ⟨rfl,.inr ⟨g,j,?_⟩⟩
   rcases hw with ⟨a,b,d⟩|hw
   .simp[a,b,d] at e
   .omega
theorem dO.kK (h:dO c B0 bD p0 d0 k g Fr gs w t ρ φ s){j:Nat}{x d:Goroutine}{w':World}{es:Array Event}{fn:FuncId}{pos:String}{ρ':Nat->Rk}{φ':Nat->Ph}{c8:Nat->aa}{s':Sh}(U:0<j)(D:gs[j]?=some x)
  (v:(mayWake c.P x=true/\d.status≠ .blocked/\d.status≠ .waiting)\/(s'.ms<=s.ms/\s'.ws<=s.ws))
  (A:∀a,a≠j->ρ' a=ρ a) (u:∀i,c.base+i≠j->φ' i=φ i) (B:∀i,c.base+i≠j->c8 (i+1)=Fr (i+1)) (E:c8 0=Fr 0)
  (hold:j<c.base->∃q,ρ' j=Rk.nat q/\QuitsD c.P q (Deaf (t++MemOp.ofEvents j fn pos es) j) d)
  (o:∀i,j=c.base+i->i<k->pZ c i (ρ' j) d (c8 (i+1)) (φ' i) s'/\Deaf (t++MemOp.ofEvents j fn pos es) j=(φ' i).deaf/\((φ' i).gp≠ .cnt->∃r,gA c (t++MemOp.ofEvents j fn pos es) j r)/\∀b∈keys (c8 (i+1)).own,B0<=b)
  (F:dN c k c8 w') (G:cA c w' s') (hinv:Inv c.n c.bs k φ' p0 s') (H:eF c bD k c8 w'.heap.size (t++MemOp.ofEvents j fn pos es)) (I:w.heap.size<=w'.heap.size):
  dO c B0 bD p0 d0 k g c8 ((gs.map (woken c.P x d w')).setIfInBounds j d) w' (t++MemOp.ofEvents j fn pos es) ρ' φ' s':=by
 have J:j<gs.size:=(Array.getElem?_eq_some_iff.1 D).1
 have hu:∀op∈MemOp.ofEvents j fn pos es,op.g=j:=fun op K=>by obtain ⟨e,_,rfl⟩:=Go.Conc.mem_ofEvents K;rfl
 have other:∀a,a≠j->∀y,((gs.map (woken c.P x d w')).setIfInBounds j d)[a]?=some y->∃z,gs[a]?=some z/\y=woken c.P x d w' z:=fun a aG y m=>by
  rw[Array.getElem?_setIfInBounds_ne (Ne.symm aG),Array.getElem?_map] at m
  obtain ⟨z,f,rfl⟩:=Option.map_eq_some_iff.1 m
  exact ⟨z,f,rfl⟩
 have at_:∀a z,a≠j->gs[a]?=some z->((gs.map (woken c.P x d w')).setIfInBounds j d)[a]?=some (woken c.P x d w' z):=fun a z aG f=>by
  rw[Array.getElem?_setIfInBounds_ne (Ne.symm aG),Array.getElem?_map,f];rfl
 have self:((gs.map (woken c.P x d w')).setIfInBounds j d)[j]?=some d:=Array.getElem?_setIfInBounds_self_of_lt (by simpa using J)
 have p:∀a,a≠j->Deaf (t++MemOp.ofEvents j fn pos es) a=Deaf t a:=fun a aG=>Deaf_other t (Ne.symm aG) _ hu
 have L:(mayWake c.P x=true/\d.status≠ .blocked/\d.status≠ .waiting)\/s'.ms<=s.ms:=v.imp id And.left
 have M:(mayWake c.P x=true/\d.status≠ .blocked/\d.status≠ .waiting)\/s'.ws<=s.ws:=v.imp id And.right
 refine ⟨by simpa using h.size,h.base,h.run,h.off,?_,fun a y h0 hb m=>?_,fun i hi=>?_,fun i hi=>?_,fun a N=>?_,?_,F,G,hinv,H,fun i hi hg=>?_,fun l O=>by rw[E];exact h.apart l O,h.low,fun i hi b hb=>?_,Nat.le_trans h.jV I,h.ne⟩
 .obtain ⟨z,f,e,Q⟩:=h.g0
  have R:z.offers=none:=by have:=h.off;rw[<-e] at this;exact this
  obtain ⟨h1,h2⟩:=Lf (c:=c) (p0:=p0) (s':=s') (y:=x) (y':=d) (w':=w') R Q hinv.Ld M
  exact ⟨_,at_ 0 z (by omega) f,h1.trans e,h2⟩
 .by_cases aG:a=j
  .subst aG
   rw[self] at m
   cases m
   exact hold hb
  .obtain ⟨z,f,rfl⟩:=other a aG y m
   obtain ⟨q,S,C⟩:=h.old a z h0 hb f
   exact ⟨q,by rw[A a aG];exact S,by rw[woken_quitsD C,p a aG];exact C⟩
 .by_cases aG:c.base+i=j
  .subst aG
   exact ⟨d,self,(o i rfl hi).1⟩
  .obtain ⟨z,f,hW⟩:=h.wk i hi
   refine ⟨_,at_ _ z aG f,?_⟩
   rw[A _ aG,u i aG,B i aG]
   exact hW.woken hinv.Eh L
 .by_cases aG:c.base+i=j
  .subst aG;exact (o i rfl hi).2.1
  .rw[p _ aG,u i aG];exact h.deaf i hi
 .have:gs.size<=a:=by simpa using N
  rw[p a (by omega)]
  exact h.above a this
 .rw[p 0 (by omega)];exact h.deaf0
 .by_cases aG:c.base+i=j
  .subst aG;exact (o i rfl hi).2.2.1 hg
  .rw[u i aG] at hg
   obtain ⟨r,T⟩:=h.rel i hi hg
   exact ⟨r,T.other (Ne.symm aG) hu⟩
 .by_cases aG:c.base+i=j
  .exact (o i aG.symm hi).2.2.2 b hb
  .rw[B i aG] at hb;exact h.jU i hi b hb
end
end Go.Sep
end
section
namespace Go.Sep
open Go Go.Conc
open Go.ConcN (sumTo upd upd_ne upd_same sumTo_congr sumTo_upd)
open Go.ConcM (MuAt muA msA muBlock OsLater)
open Go.ConcR (WgAt wgBlock stA smA)
def mC (x:Option Goroutine):Nat:=match x with
 |some x=>if x.status= .running then 1 else 0
 |none=>0
def runs (gs:Array Goroutine):Nat:=sumTo gs.size fun j=>mC gs[j]?
theorem Ei {gs:Array Goroutine}{j:Nat}{x y:Goroutine}(c:gs[j]?=some x)(f:x.status= .running)(g:y.status≠ .running):runs (gs.setIfInBounds j y)<runs gs:=by
 have d:j<gs.size:=(Array.getElem?_eq_some_iff.1 c).1;have h:=sumTo_upd (fun a=>mC gs[a]?) (0:Nat) id d;simp only[id] at h;have e:runs (gs.setIfInBounds j y)=sumTo gs.size (upd (fun a=>mC gs[a]?) j 0):=by
  unfold runs;rw[Array.size_setIfInBounds];refine sumTo_congr fun a i=>?_;by_cases b:a=j
  .subst b;rw[upd_same,Array.getElem?_setIfInBounds_self_of_lt d];simp[mC,g]
  .rw[upd_ne _ _ b,Array.getElem?_setIfInBounds_ne (Ne.symm b)]
 have h1:mC gs[j]?=1:=by rw[c];simp[mC,f]
 rw[e];unfold runs;simp only[h1] at h;have:sumTo gs.size (fun a=>upd (fun a=>mC gs[a]?) j 0 a)=sumTo gs.size (upd (fun a=>mC gs[a]?) j 0):=rfl;omega
theorem jj.up {c:Cy}{i:Nat}{r:Rk}{g:Goroutine}{F:aa}{ph:Ph}(h:jj c i r g F ph)(hg:ph.gp≠ .gone):g.status= .running/\g.offers=none:=by
 cases r with
 |mk ι f=>
  rcases h with h|h|h
  .exact absurd h.1 hg
  .exact ⟨h.1,h.2.1⟩
  .exact ⟨h.1,h.2.1⟩
theorem jj.left {c:Cy}{i:Nat}{r:Rk}{g:Goroutine}{F:aa}{ph:Ph}(h:jj c i r g F ph)(hg:ph.gp= .gone):∃q,r=Rk.nat q/\QuitsD c.P q ph.deaf g:=by
 cases r with
 |mk ι f=>
  rcases h with h|h|h
  .exact h.2
  .rw[hg] at h;cases h.2.2.1
  .exact absurd hg h.2.2.1
theorem jj.zx {c:Cy}{i:Nat}{r:Rk}{g:Goroutine}{F:aa}{ph:Ph}(h:jj c i r g F ph)(s:Sh):pZ c i r g F ph s/\g.status≠ .blocked/\g.status≠ .waiting:=by
 by_cases hg:ph.gp= .gone
 .obtain ⟨q,b,a⟩:=h.left hg;refine ⟨.inl ⟨hg,q,b,a⟩,?_,?_⟩<;>rcases a.status with e|e<;>rw[e]<;>simp
 .obtain ⟨h1,h2⟩:=h.up hg;refine ⟨.inr ⟨hg,?_,h2,.inl h1⟩,by rw[h1];simp,by rw[h1];simp⟩;have:({g with status:=.running}:Goroutine)=g:=by cases g;simp_all
  rw[this];exact h
section
variable {c:Cy}{B0:Nat}{bD:Loc->Prop}{p0:P0}{d0 k:Nat}{g:Goroutine}{Fr:Nat->aa}{gs:Array Goroutine}{w:World}{t u:Trace}{ρ:Nat->Rk}{φ:Nat->Ph}{s:Sh}
theorem eF.still {B:Nat}(h:eF c bD k Fr B t)(v:∀op∈u,op.act.touch?=none)(e:∀op∈u,op.act.low B)(w:∀op∈u,op.act≠ .mark (.release (stA c.Wg))){gg:Nat}(hu:∀op∈u,op.g=gg):eF c bD k Fr B (t++u):=by
 have f:∀op∈u,∀b,op.act.touch?=some b->False:=fun op d b hb=>by rw[v op d] at hb;cases hb
 have old:∀{i:Nat} {a:Touch},touchAt (t++u) i=some a->touchAt t i=some a/\i<t.size:=by
  intro i a o;obtain ⟨z,m,r⟩:=touch_of o;rcases getElem?_append_cases m with ⟨hi,x⟩|⟨_,y⟩
  .exact ⟨by rw[touchAt_of x];exact r,hi⟩
  .exact (f z y a r).elim
 refine ⟨by have:=h.len;simp;omega,Eg h.quiet fun op d b hb _=>(f op d b hb).elim,fun said=>noRace_append (g:=gg) (h.nr said) hu fun i a _ op d b hb _=>(f op d b hb).elim,fun q p l e=>(h.own q p l e).app fun op d b hb _=>(f op d b hb).elim,fun q p l e=>(h.ro q p l e).app fun op d b hb _ _=>(f op d b hb).elim,
  fun i hi l e=>(h.vq i hi l e).app fun op d b hb _=>(f op d b hb).elim,fun i hi l e=>(h.vr i hi l e).app fun op d b hb _=>(f op d b hb).elim,fun op d=>(Array.mem_append.1 d).elim (h.low op) (e op),vu h.norel w,fun i a o hm=>?_,fun i g hg A s=>?_⟩
 .obtain ⟨C,hi⟩:=old o;rcases h.known i a C hm with z|z|⟨j,n,z⟩
  .exact .inl (z.app _)
  .exact .inr (.inl z)
  .exact .inr (.inr ⟨j,n,by rw[g?_old hi];exact z⟩)
 .have D:=s;obtain ⟨z,m,_⟩:=s;obtain ⟨_,hi⟩:=old (show touchAt _ i=some z from m);rcases h.over i g (by rw[<-g?_old (u:=u) hi];exact hg) A ((counts_old hi).1 D) with ⟨j,n,y'⟩|y'
  .have E:j<t.size:=by
    unfold Trace.g? at n;obtain ⟨z,m,_⟩:=Option.map_eq_some_iff.1 n;exact lt_size_of_getElem? m
   exact .inl ⟨j,by rw[g?_old E];exact n,hb_app _ y'⟩
  .exact .inr y'
theorem eF.mute {B:Nat}(h:eF c bD k Fr B t){j:Nat}{fn:FuncId}{pos:String}{es:Array Event}(hm:∀e∈es,e.mute=true):eF c bD k Fr B (t++MemOp.ofEvents j fn pos es):=by
 refine h.still (gg:=j) (fun op a=>?_) (fun op a=>?_) (fun op a=>?_) (fun op a=>?_)<;>obtain ⟨e,he,rfl⟩:=Go.Conc.mem_ofEvents a
 .exact touch_mute (hm e he)
 .exact low_mute (hm e he) B
 .have:=hm e he;obtain ⟨loc,wr,sy⟩:=e;cases loc with
  |mark m=>cases m<;>simp_all [Event.mute,MemAct.ofEvent]
  |_=>simp_all [Event.mute]
 .rfl
theorem Inv.deaf {n:Nat}{bs:Nat->Bool}(h:Inv n bs k φ p0 s){i:Nat}(hi:i<n)(hg:(φ i).gp≠ .new)(d:Nat):Inv n bs k (upd φ i {φ i with deaf:=d}) p0 s:=by
 obtain ⟨C,S,W,L,m,hm⟩:=h.m;refine ⟨⟨C,S,W,L,m,n9 hm hi _ (.inl rfl)⟩,vp h.w hi _ (.inl rfl),h.i.len,h.i.kn,fun j a=>?_,fun j a=>?_,fun j a b=>?_,fun j a h1 h2=>?_⟩<;>by_cases e:j=i
 .subst e;rw[upd_same];exact h.i.all j a
 .rw[upd_ne _ _ e];exact h.i.all j a
 .subst e;rw[upd_same];exact h.i.born j a
 .rw[upd_ne _ _ e];exact h.i.born j a
 .subst e;rw[upd_same] at b;exact absurd b hg
 .rw[upd_ne _ _ e] at b ⊢;exact h.i.new j a b
 .subst e;rw[upd_same] at h1 h2 ⊢;exact h.i.done j a h1 h2
 .rw[upd_ne _ _ e] at h1 h2 ⊢;exact h.i.done j a h1 h2
theorem cA.keep {w w':World}(h:cA c w s)(he:∀b,c.shared b->w'.heap[b]?=w.heap[b]?):cA c w' s:=by
 obtain ⟨h1,h2,h3⟩:=h;refine ⟨?_,?_,?_⟩
 .unfold MuAt at*;rw[he _ (.inl rfl)];exact h1
 .unfold WgAt at*;rw[he _ (.inr (.inl rfl))];exact h2
 .rw[he _ (.inr (.inr rfl))];exact h3
theorem dN.walk (h:dN c k Fr w){p:Nat}(n:p<=k){F':aa}{w':World}(hu:ef (Fr p) F' w w')(s:Has F' w'):dN c k (upd Fr p F') w':=by
 have keep:∀b,b<w.heap.size->b∉keys (Fr p).own->w'.heap[b]?=w.heap[b]?:=hu.frame;have i:∀q,q≠p->(upd Fr p F') q=Fr q:=fun q d=>upd_ne _ _ d;have self:(upd Fr p F') p=F':=upd_same _ _ _;refine ⟨fun q d=>?_,fun q r d f aG b hb j=>?_,fun q r d f aG a g hb=>?_,fun q d b hb hs=>?_,fun q d a g hs=>?_,fun b hb=>Nat.lt_of_lt_of_le (h.gS b hb) hu.size⟩
 .by_cases e:q=p
  .subst e;rw[self];exact s
  .rw[i q e];have l:=h.has q d
   exact ⟨fun a v f=>by
    have:=l.ro a v f;unfold World.cell? at this ⊢;rw[keep _ (l.ig (a:=a) (by rw[f];rfl)) (fun hm=>h.ro q p d n e a (by rw[f];rfl) hm)]
    exact this,fun b o hb=>by rw[keep b (l.lt (e6 hb)) (fun hm=>h.own q p d n e b (e6 hb) hm)];exact l.own b o hb,l.nodup,l.apart⟩
 .by_cases eq:q=p
  .subst eq;rw[self] at hb;rw[i r (Ne.symm aG)] at j;rcases hu.own b hb with x|x
   .exact h.own q r d f aG b x j
   .have:=(h.has r f).lt j;omega
  .rw[i q eq] at hb;by_cases m:r=p
   .subst m;rw[self] at j;rcases hu.own b j with x|x
    .exact h.own q r d f aG b hb x
    .have:=(h.has q d).lt hb;omega
   .rw[i r m] at j;exact h.own q r d f aG b hb j
 .by_cases eq:q=p
  .subst eq;rw[self] at g;rw[i r (Ne.symm aG)] at hb;rcases hu.ro a g with x|x|x
   .exact h.ro q r d f aG a x hb
   .exact h.own q r d f aG _ x hb
   .have:=(h.has r f).lt hb;omega
  .rw[i q eq] at g;by_cases m:r=p
   .subst m;rw[self] at hb;rcases hu.own _ hb with x|x
    .exact h.ro q r d f aG a g x
    .have:=(h.has q d).ig g;omega
   .rw[i r m] at hb;exact h.ro q r d f aG a g hb
 .by_cases e:q=p
  .subst e;rw[self] at hb;rcases hu.own b hb with x|x
   .exact h.hH q d b x hs
   .have:=h.gS b hs;omega
  .rw[i q e] at hb;exact h.hH q d b hb hs
 .by_cases e:q=p
  .subst e;rw[self] at g;rcases hu.ro a g with x|x|x
   .exact h.jT q d a x hs
   .exact h.hH q d _ x hs
   .have:=h.gS _ hs;omega
  .rw[i q e] at g;exact h.jT q d a g hs
theorem dN.act (h:dN c k Fr w){p:Nat}(t:p<=k){F':aa}{w':World}(he:iN c w w')(hle:Le F' (Fr p)):dN c k (upd Fr p F') w':=by
 have m:∀q,q<=k->Has (Fr q) w':=fun q d=>by
  have j:=h.has q d
  exact ⟨fun a v g=>by
   have:=j.ro a v g;unfold World.cell? at this ⊢;rw[he.block _ (h.jT q d a (by rw[g];rfl))]
   exact this,fun b o hb=>by rw[he.block b (h.hH q d b (e6 hb))];exact j.own b o hb,j.nodup,j.apart⟩
 have l:∀q,q≠p->(upd Fr p F') q=Fr q:=fun q d=>upd_ne _ _ d;have self:(upd Fr p F') p=F':=upd_same _ _ _;have i:∀q b,b∈keys ((upd Fr p F') q).own->b∈keys (Fr q).own:=fun q b hb=>by
  by_cases e:q=p
  .subst e;rw[self] at hb;exact hle.own b hb
  .rw[l q e] at hb;exact hb
 have n:∀q a,(((upd Fr p F') q).ro a).isSome=true->((Fr q).ro a).isSome=true\/a.block∈keys (Fr q).own:=fun q a f=>by
  by_cases e:q=p
  .subst e;rw[self] at f;exact hle.ro a f
  .rw[l q e] at f;exact .inl f
 refine ⟨fun q d=>?_,fun q r d g aG b hb s=>h.own q r d g aG b (i q b hb) (i r b s),fun q r d g aG a f hb=>(n q a f).elim (fun x=>h.ro q r d g aG a x (i r _ hb)) (fun x=>h.own q r d g aG _ x (i r _ hb)),
  fun q d b hb hs=>h.hH q d b (i q b hb) hs,fun q d a f hs=>(n q a f).elim (fun x=>h.jT q d a x hs) (fun x=>h.hH q d _ x hs),fun b hb=>by rw[he.size];exact h.gS b hb⟩
 by_cases e:q=p
 .subst e;rw[self];exact hle.has _ (m q d)
 .rw[l q e];exact m q d
theorem dN.at (h:dN c k Fr w)(d:Nat):dN c k Fr (w.at d):=⟨fun p a=>(h.has p a).at d,h.own,h.ro,h.hH,h.jT,h.gS⟩
theorem dO.at (h:dO c B0 bD p0 d0 k g Fr gs w t ρ φ s)(d:Nat):dO c B0 bD p0 d0 k g Fr gs (w.at d) t ρ φ s:=
 ⟨h.size,h.base,h.run,h.off,h.g0,h.old,h.wk,h.deaf,h.above,h.deaf0,h.parts.at d,h.sh,h.inv,h.hO,h.rel,h.apart,h.low,h.jU,h.jV,h.ne⟩
theorem mD {F:aa}{w w':World}(g:Has F w)(h:w.heap.size<=w'.heap.size){e:Event}(he:jv F.ro (ie F w.heap.size w'.heap.size) e)(p:Nat):
  (∀x,(MemAct.ofEvent e).touch?=some x->vt c F w.heap.size p x)/\(MemAct.ofEvent e).low w'.heap.size/\MemAct.ofEvent e≠ .mark (.release (stA c.Wg))/\e.loc≠ .mark .disable/\e.loc≠ .mark .enable:=by
 have hm:∀b,ie F w.heap.size w'.heap.size b->b<w'.heap.size:=fun b hb=>hb.elim (fun x=>Nat.lt_of_lt_of_le (g.lt x) h) (fun x=>x.2)
 rcases he with ⟨a,wr,rfl,d⟩|⟨r,wr,rfl,d⟩|⟨m,rfl,i⟩
 .refine ⟨fun x f=>?_,?_,by cases wr<;>simp[MemAct.ofEvent],by simp,by simp⟩
  .have e1:x=⟨.cell a,wr,.plain⟩:=by cases wr<;>simp[MemAct.ofEvent,MemAct.touch?] at f<;>rw[<-f]
   subst e1
   rcases d with (d|d)|⟨hw,d⟩
   .exact .inl d
   .exact .inr (.inl d.1)
   .exact .inr (.inr (.inl ⟨⟨a,rfl,d⟩,hw⟩))
  .have:a.block<w'.heap.size:=d.elim (hm _) fun x=>Nat.lt_of_lt_of_le (g.ig x.2) h
   cases wr<;>exact this
 .refine ⟨fun x f=>?_,?_,by cases wr<;>simp[MemAct.ofEvent],by simp,by simp⟩
  .have e1:x=⟨.obj r,wr,.plain⟩:=by cases wr<;>simp[MemAct.ofEvent,MemAct.touch?] at f<;>rw[<-f]
   subst e1
   rcases d with d|d
   .exact .inl d
   .exact .inr (.inl d.1)
  .have:=hm _ d
   cases wr<;>exact this
 .cases m<;>simp[qm] at i<;>exact ⟨fun x d=>by simp[MemAct.ofEvent,MemAct.touch?] at d,trivial,by simp[MemAct.ofEvent],by simp,by simp⟩
theorem Lg {i:Nat}{ph aK:Ph}{es:Array Event}(h:EvA c i ph aK es)(F:aa)(B:Nat)(f:∀b,c.shared b->b<B):∀e∈es,
  (∀x,(MemAct.ofEvent e).touch?=some x->vt c F B (i+1) x)/\(MemAct.ofEvent e).low B/\MemAct.ofEvent e≠ .mark (.release (stA c.Wg)):=by
 intro e he
 cases h with
 |book h hd ht hg=>
  rcases h e he with rfl|rfl|⟨a,x,rfl,k⟩
  .exact ⟨fun x d=>by simp[cK,MemAct.ofEvent,MemAct.touch?] at d,trivial,by simp[cK,MemAct.ofEvent]⟩
  .exact ⟨fun x d=>by simp[cK,MemAct.ofEvent,MemAct.touch?] at d,trivial,by simp[cK,MemAct.ofEvent]⟩
  .refine ⟨fun y g=>?_,?_,by cases x<;>simp[MemAct.ofEvent]⟩
   .have:y=⟨.cell a,x,.atomic⟩:=by cases x<;>simp[MemAct.ofEvent,MemAct.touch?] at g<;>rw[<-g]
    subst this
    exact .inr (.inr (.inr (.inl ⟨⟨a,rfl,k.elim .inr fun z=>.inl z.1⟩,by simp,by simp⟩)))
   .have:a.block<B:=f _ (k.elim (fun z=>.inr (.inl z)) fun z=>.inl z.1)
    cases x<;>exact this
 |word m j hm hd hg=>
  rw[j] at he
  simp only[List.mem_toArray,List.mem_singleton] at he
  subst he
  rcases hm with rfl|rfl
  .exact ⟨fun x d=>by simp[cK,MemAct.ofEvent,MemAct.touch?] at d,f _ (.inl rfl),by simp[cK,MemAct.ofEvent]⟩
  .exact ⟨fun x d=>by simp[cK,MemAct.ofEvent,MemAct.touch?] at d,f _ (.inl rfl),by simp[cK,MemAct.ofEvent]⟩
 |store j hd hg=>
  rw[j] at he
  simp only[List.mem_toArray,List.mem_singleton] at he
  subst he
  refine ⟨fun y g=>?_,f _ (.inr (.inr rfl)),by simp[MemAct.ofEvent]⟩
  have:y=⟨.cell ⟨c.Is,i,none⟩,true,.plain⟩:=by simp[MemAct.ofEvent,MemAct.touch?] at g;rw[<-g]
  subst this
  exact .inr (.inr (.inr (.inr (.inl ⟨i,rfl,rfl⟩))))
 |rel j hd hg=>
  rw[j] at he
  simp only[List.mem_toArray,List.mem_singleton] at he
  subst he
  exact ⟨fun x d=>by simp[cK,MemAct.ofEvent,MemAct.touch?] at d,f _ (.inr (.inl rfl)),by simp[cK,MemAct.ofEvent]⟩
theorem Lh {i:Nat}{ph aK:Ph}{es:Array Event}(h:EvA c i ph aK es):deafBehind ph.deaf es=aK.deaf:=by
 cases h with
 |book h hd ht hg=>exact hd
 |word m a hm hd hg=>rw[a,hd];rcases hm with rfl|rfl<;>simp[cK,deafBehind]
 |store a hd hg=>rw[a,hd];simp[deafBehind]
 |rel a hd hg=>rw[a,hd.2,hd.1];simp[cK,deafBehind]
theorem Li (d:Nat)(es:Array Event)(n:Nat)(h:n<=es.size){fn:FuncId}{pos:String}{j:Nat}(t:Trace)(hd:Deaf t j=d):(t++MemOp.ofEvents j fn pos es).deaf j (t.size+n)=deafBehind d (es.extract 0 n):=by
 have e1:es=es.extract 0 n++es.extract n es.size:=by simp[Array.extract_append_extract,h]
 have e2:MemOp.ofEvents j fn pos es=MemOp.ofEvents j fn pos (es.extract 0 n)++MemOp.ofEvents j fn pos (es.extract n es.size):=by
  rw[Go.Conc.ofEvents_eq,Go.Conc.ofEvents_eq,Go.Conc.ofEvents_eq,<-Array.map_append,<-e1]
 rw[e2,<-Array.append_assoc];have hs:(t++MemOp.ofEvents j fn pos (es.extract 0 n)).size=t.size+n:=by rw[Go.Conc.ofEvents_eq];simp;omega
 rw[<-hs,deaf_old (Nat.le_refl _)];have:=Deaf_own t j fn pos (es.extract 0 n);unfold Deaf at this;rw[this];exact congrArg (fun d=>deafBehind d _) hd
theorem Lj {i j:Nat}{ph aK:Ph}{es:Array Event}{fn:FuncId}{pos:String}(hlen:c.T0<=t.size)(h:EvA c i ph aK es)(hd:Deaf t j=ph.deaf)(k:ph.gp≠ .cnt->∃r,gA c t j r)(l:aK.gp≠ .cnt):∃r,gA c (t++MemOp.ofEvents j fn pos es) j r:=by
 cases h with
 |book h d ht hg=>
  have o:ph.gp≠ .cnt:=fun e=>l (hg.2 e);obtain ⟨r,k⟩:=k o;refine ⟨r,k.app fun idx x hi p n=>?_⟩;obtain ⟨z,f,b⟩:=touch_of n;have s:(MemOp.ofEvents j fn pos es)[idx - t.size]?=some z:=by rw[Array.getElem?_append_right hi] at f;exact f
  rw[Go.Conc.ofEvents_eq,Array.getElem?_map] at s;obtain ⟨e,he,rfl⟩:=Option.map_eq_some_iff.1 s;have u:idx - t.size<es.size:=(Array.getElem?_eq_some_iff.1 he).1;rcases ht _ e he with q|q
  .simp only at b;rw[q] at b;cases b
  rcases h e (Array.mem_of_getElem? he) with rfl|rfl|⟨a,y,rfl,v⟩
  .simp[cK,MemAct.ofEvent,MemAct.touch?] at b
  .simp[cK,MemAct.ofEvent,MemAct.touch?] at b
  .have:x=⟨.cell a,y,.atomic⟩:=by cases y<;>simp[MemAct.ofEvent,MemAct.touch?] at b<;>rw[<-b]
   subst this;refine ⟨rfl,?_,a,rfl,v.resolve_right fun z=>o z.2⟩;rintro ⟨g,hg,w⟩;have A:g=j:=by rw[p] at hg;exact (Option.some.inj hg).symm
   subst A;have e1:idx=t.size+(idx - t.size):=by omega
   rw[e1,Li ph.deaf es (idx - t.size) (Nat.le_of_lt u) t hd] at w;omega
 |word m he hm d hg=>exact absurd hg.1 l
 |store he d hg=>exact absurd hg.1 l
 |rel he d hg=>
  refine ⟨t.size,?_⟩;have B:MemOp.ofEvents j fn pos es=#[{g:=j,fn:=fn,pos:=pos,act:=.mark (.releaseMerge (stA c.Wg))}]:=by rw[Go.Conc.ofEvents_eq,he];simp[cK,MemAct.ofEvent]
  rw[B];have C:(t++#[({g:=j,fn:=fn,pos:=pos,act:=.mark (.releaseMerge (stA c.Wg))}:MemOp)])[t.size]?=some {g:=j,fn:=fn,pos:=pos,act:=.mark (.releaseMerge (stA c.Wg))}:=by
   rw[Array.getElem?_append_right (Nat.le_refl _)];simp
  refine ⟨hlen,act?_of C,by simp[Trace.g?],⟨j,by simp[Trace.g?],by rw[deaf_old (Nat.le_refl _)];exact hd.trans d.1⟩,fun idx x hi p n=>?_⟩;obtain ⟨z,f,_⟩:=touch_of n;have:=lt_size_of_getElem? f;simp at this;omega
end
section
variable {c:Cy}{B0:Nat}{bD:Loc->Prop}{p0:P0}{d0 k:Nat}{g:Goroutine}{Fr:Nat->aa}{gs:Array Goroutine}{w:World}{t u:Trace}{ρ:Nat->Rk}{φ:Nat->Ph}{s:Sh}
theorem dF.at_ (F:aa)(w:World)(d:Nat):dF c B0 F F w (w.at d):=⟨.refl _,rfl,rfl,Nat.le_refl _,fun _ _ _ _=>rfl,fun _ h=>.inl h,fun _ h=>.inl h⟩
structure Ll (c:Cy)(B0:Nat)(bD:Loc->Prop)(p0:P0)(d0 k:Nat)(g:Goroutine)(Fr:Nat->aa)(gs:Array Goroutine)(w:World)(t:Trace)(ρ:Nat->Rk)(m:Machine)(ops:Array MemOp)(sl:Option (Nat×Nat)):Prop where
 ex:∃(bW:Array Goroutine) (w':World) (ρ':Nat->Rk) (φ':Nat->Ph) (c8:Nat->aa) (s':Sh),m=crowd bW w' sl/\dO c B0 bD p0 d0 k g c8 bW w' (t++ops) ρ' φ' s'/\
  bW.size=gs.size/\c8 0=Fr 0/\dF c B0 (Fr 0) (Fr 0) w w'/\AU gs.size (ρ',runs bW) (ρ,runs gs)
def mE (ρ:Nat->Rk)(j:Nat)(r:Rk)(a:Nat):Rk:=if a=j then r else ρ a
theorem p5 (ρ:Nat->Rk)(j:Nat)(r:Rk):mE ρ j r j=r:=if_pos rfl
theorem oa (ρ:Nat->Rk)(r:Rk){a j:Nat}(h:a≠j):mE ρ j r a=ρ a:=if_neg h
theorem vv {n j:Nat}{ρ:Nat->Rk}{r:Rk}(a:j<n)(h:(ρ j).kids r):sM n (mE ρ j r) ρ:=⟨j,a,by rw[p5];exact h,fun _ aG=>oa _ _ aG⟩
theorem dO.other (h:dO c B0 bD p0 d0 k g Fr gs w t ρ φ s){j:Nat}{x:Goroutine}(K:0<j)(B:gs[j]?=some x)(F:x.status= .running)(sl:Option (Nat×Nat)):
  ∃m ops,runT c.P (crowd gs w sl) j=(.next m,ops)/\Ll c B0 bD p0 d0 k g Fr gs w t ρ m ops sl:=by
 have Q:j<gs.size:=(Array.getElem?_eq_some_iff.1 B).1
 have M:(j==0)=false:=by simp;omega
 rcases Nat.lt_or_ge j c.base with al|al
 ·
  obtain ⟨q,J,N⟩:=h.old j x K al B
  cases q with
  |zero=>rw[N.1] at F;cases F
  |succ q=>
   rcases N with ⟨U,_⟩|⟨_,V,es,hm,G,W⟩
   .rw[U] at F;cases F
   have E:=runT_crowd_go (P:=c.P) (gs:=gs) (w:=w) (sl:=sl) (i:=j) B (by rw[M];exact G w)
   refine ⟨_,_,E,⟨_,w,mE ρ j (Rk.nat q),φ,Fr,s,rfl,?_,by simp,rfl,.refl _ _ _ _,.inl (vv Q (by rw[J];exact Rk.AS q))⟩⟩
   refine h.kK K B (.inr ⟨Int.le_refl _,Int.le_refl _⟩) (fun X aG=>oa _ _ aG) (fun _ _=>rfl) (fun _ _=>rfl) rfl (fun _=>⟨q,p5 _ _ _,by rw[Deaf_own];exact W⟩) (fun i e _=>by omega) h.parts h.sh h.inv (h.hO.mute hm) (Nat.le_refl _)
 ·
  have bs:=h.size
  obtain ⟨i,rfl⟩:∃i,j=c.base+i:=⟨j - c.base,by omega⟩
  have C:i<k:=by omega
  have ao:i<c.n:=Nat.lt_of_lt_of_le C h.inv.i.kn
  obtain ⟨u,ar,hW⟩:=h.wk i C
  obtain rfl:u=x:=by rw[B] at ar;exact (Option.some.inj ar).symm
  have aG:∀d,c.base+d≠c.base+i->d≠i:=fun d D e=>D (by rw[e])
  rcases hW with ⟨hg,q,J,N⟩|⟨hg,Y,a0,_⟩
  .cases q with
   |zero=>rw[N.1] at F;cases F
   |succ q=>
    rcases N with ⟨U,_⟩|⟨_,V,es,hm,G,W⟩
    .rw[U] at F;cases F
    have E:=runT_crowd_go (P:=c.P) (gs:=gs) (w:=w) (sl:=sl) (i:=c.base+i) B (by rw[M];exact G w)
    refine ⟨_,_,E,⟨_,w,mE ρ (c.base+i) (Rk.nat q),upd φ i {φ i with deaf:=deafBehind (φ i).deaf es},Fr,s,rfl,?_,by simp,rfl,.refl _ _ _ _,.inl (vv Q (by rw[J];exact Rk.AS q))⟩⟩
    have hd:=h.deaf i C
    refine h.kK K B (.inr ⟨Int.le_refl _,Int.le_refl _⟩) (fun X aG=>oa _ _ aG) (fun d D=>upd_ne _ _ (aG d D)) (fun _ _=>rfl) rfl (fun D=>by omega) (fun d e R=>?_) h.parts h.sh (h.inv.deaf ao (by rw[hg];simp) _) (h.hO.mute hm) (Nat.le_refl _)
    obtain rfl:d=i:=by omega
    rw[p5,upd_same]
    refine ⟨.inl ⟨hg,q,rfl,W⟩,by rw[Deaf_own,hd],fun L=>?_,h.jU d C⟩
    obtain ⟨r,E⟩:=h.rel d C (by rw[hg];simp)
    refine ⟨r,E.app fun idx y hi bz a7=>?_⟩
    obtain ⟨z,O,a2⟩:=touch_of a7
    rcases getElem?_append_cases O with ⟨R,_⟩|⟨_,a8⟩
    .omega
    .obtain ⟨e,he,rfl⟩:=Go.Conc.mem_ofEvents a8
     rw[touch_mute (hm e he)] at a2;cases a2
  .have ex:({u with status:=.running}:Goroutine)=u:=by cases u;simp_all
   rw[ex] at Y
   cases S:ρ (c.base+i) with
   |mk ι f=>
    rw[S] at Y
    rcases Y with ⟨a9,_⟩|⟨_,_,ba,bb⟩|⟨_,_,_,a3⟩
    .exact absurd a9 hg
    ·
     obtain ⟨y,V,w',es,F',G,hu,bc,I,Z⟩:=bb w (h.parts.has (i+1) (by omega))
     have E:=runT_crowd_go (P:=c.P) (gs:=gs) (w:=w) (sl:=sl) (i:=c.base+i) B (by rw[M];exact G)
     have T:=h.parts.has (i+1) (by omega)
     obtain ⟨ab,a4,a5⟩:=Z.zx s
     have a6:∀b,b<w.heap.size->b∉keys (Fr (i+1)).own->w'.heap[b]?=w.heap[b]?:=hu.frame
     refine ⟨_,_,E,⟨_,w',mE ρ (c.base+i) (f y),φ,upd Fr (i+1) F',s,rfl,?_,by simp,upd_ne _ _ (by omega),?_,.inl (vv Q (by rw[S];exact ⟨y,rfl⟩))⟩⟩
     .have bd:Deaf (t++MemOp.ofEvents (c.base+i) u.frame.fn u.frame.place es) (c.base+i)=(φ i).deaf:=by
       rw[Deaf_own,deafBehind_still (fun e he=>(mD (c:=c) T hu.size (I e he) 0).2.2.2)]
       exact h.deaf i C
      refine h.kK K B (.inr ⟨Int.le_refl _,Int.le_refl _⟩) (fun X aG=>oa _ _ aG) (fun _ _=>rfl) (fun d D=>upd_ne _ _ (by have:=aG d D;omega)) (upd_ne _ _ (by omega)) (fun D=>by omega) (fun d e R=>?_) (h.parts.walk (by omega) hu bc)
       (h.sh.keep fun b hb=>a6 b (h.parts.gS b hb) (fun hm=>h.parts.hH (i+1) (by omega) b hm hb)) h.inv ?_ hu.size
      .obtain rfl:d=i:=by omega
       rw[p5,upd_same]
       refine ⟨ab,bd,fun L=>absurd ba L,fun b hb=>?_⟩
       rcases hu.own b hb with z|z
       .exact h.jU d C b z
       .exact Nat.le_trans h.jV z
      .refine eF.app h.base ⟨h.ne.2.1,h.ne.2.2⟩ h.parts h.hO (p:=i+1) (by omega) hu.size (fun op v=>?_) (fun op v z O=>?_) (fun op v=>?_) (fun op v=>?_) (fun q J=>upd_ne _ _ J) (fun l A=>?_) (fun l A=>?_)
       .obtain ⟨e,_,rfl⟩:=Go.Conc.mem_ofEvents v;rfl
       .obtain ⟨e,he,rfl⟩:=Go.Conc.mem_ofEvents v;exact (mD (c:=c) T hu.size (I e he) (i+1)).1 z O
       .obtain ⟨e,he,rfl⟩:=Go.Conc.mem_ofEvents v;exact (mD (c:=c) T hu.size (I e he) (i+1)).2.1
       .obtain ⟨e,he,rfl⟩:=Go.Conc.mem_ofEvents v;exact (mD (c:=c) T hu.size (I e he) (i+1)).2.2.1
       .rw[upd_same] at A
        cases l with
        |cell a=>exact hu.own _ A
        |obj r=>exact hu.own _ A
        |_=>exact A.elim
       .rw[upd_same] at A
        obtain ⟨a,rfl,ad⟩:=A
        rcases hu.ro a ad with z|z|z
        .exact .inl ⟨a,rfl,z⟩
        .exact .inr (.inl z)
        .exact .inr (.inr z)
     .exact ⟨by rw[hu.os];exact .refl _,hu.tape,hu.output,hu.size,fun b hb _ _=>a6 b (Nat.lt_of_lt_of_le hb h.jV) (fun hm=>by have:=h.jU i C b hm;omega),fun _ h=>.inl h,fun _ h=>.inl h⟩
    ·
     rcases a3 w s k φ p0 (h.parts.has (i+1) (by omega)) h.sh ao rfl h.inv with ⟨bj,bk,G⟩|⟨y,V,w',es,s',aK,F',G,bl,H,hinv,I,bm,hle,Z⟩
     ·
      have E:=runT_crowd_go (P:=c.P) (gs:=gs) (w:=w) (sl:=sl) (i:=c.base+i) B (by rw[M];exact G)
      have bo:gs.map (woken c.P u {u with status:=.blocked} w)=gs:=by
       have:woken c.P u {u with status:=.blocked} w=id:=by funext o;unfold Go.Conc.woken;simp
       rw[this,Array.map_id]
      refine ⟨_,_,E,⟨_,w,ρ,φ,Fr,s,rfl,?_,by simp,rfl,.refl _ _ _ _,.inr ⟨rfl,?_⟩⟩⟩
      .have he:t++MemOp.ofEvents (c.base+i) u.frame.fn u.frame.place #[]=t:=by simp[MemOp.ofEvents]
       refine h.kK K B (.inr ⟨Int.le_refl _,Int.le_refl _⟩) (fun _ _=>rfl) (fun _ _=>rfl) (fun _ _=>rfl) rfl (fun D=>by omega) (fun d e R=>?_) h.parts h.sh h.inv (by rw[he];exact h.hO) (Nat.le_refl _)
       obtain rfl:d=i:=by omega
       rw[he]
       refine ⟨.inr ⟨hg,?_,a0,.inr ⟨rfl,bj,bk⟩⟩,h.deaf d C,fun L=>h.rel d C L,h.jU d C⟩
       have e2:({({u with status:=.blocked}:Goroutine) with status:=.running}:Goroutine)=u:=by cases u;simp_all
       rw[e2,S]
       exact .inr (.inr ⟨F,a0,hg,a3⟩)
      .rw[bo];exact Ei B F (by simp)
     .have E:=runT_crowd_go (P:=c.P) (gs:=gs) (w:=w) (sl:=sl) (i:=c.base+i) B (by rw[M];exact G)
      obtain ⟨ab,a4,a5⟩:=Z.zx s'
      have hd:=h.deaf i C
      have ae:=Lg I (Fr (i+1)) w.heap.size h.parts.gS
      refine ⟨_,_,E,⟨_,w',mE ρ (c.base+i) (f y),upd φ i aK,upd Fr (i+1) F',s',rfl,?_,by simp,upd_ne _ _ (by omega),?_,.inl (vv Q (by rw[S];exact ⟨y,rfl⟩))⟩⟩
      .refine h.kK K B (bm.imp (fun z=>⟨z,a4,a5⟩) id) (fun X aG=>oa _ _ aG) (fun d D=>upd_ne _ _ (aG d D)) (fun d D=>upd_ne _ _ (by have:=aG d D;omega)) (upd_ne _ _ (by omega)) (fun D=>by omega) (fun d e R=>?_) (h.parts.act (by omega) H hle) bl hinv ?_ (by rw[H.size];exact Nat.le_refl _)
       .obtain rfl:d=i:=by omega
        rw[p5,upd_same,upd_same]
        exact ⟨ab,by rw[Deaf_own,hd];exact Lh I,fun L=>Lj h.hO.len I hd (fun br=>h.rel d C br) L,fun b hb=>h.jU d C b (hle.own b hb)⟩
       .refine eF.app h.base ⟨h.ne.2.1,h.ne.2.2⟩ h.parts h.hO (p:=i+1) (by omega) (by rw[H.size];exact Nat.le_refl _) (fun op v=>?_) (fun op v z O=>?_) (fun op v=>?_) (fun op v=>?_) (fun q J=>upd_ne _ _ J) (fun l A=>?_) (fun l A=>?_)
        .obtain ⟨e,_,rfl⟩:=Go.Conc.mem_ofEvents v;rfl
        .obtain ⟨e,he,rfl⟩:=Go.Conc.mem_ofEvents v;exact (ae e he).1 z O
        .obtain ⟨e,he,rfl⟩:=Go.Conc.mem_ofEvents v;rw[H.size];exact (ae e he).2.1
        .obtain ⟨e,he,rfl⟩:=Go.Conc.mem_ofEvents v;exact (ae e he).2.2
        .rw[upd_same] at A
         refine .inl ?_
         cases l with
         |cell a=>exact hle.own _ A
         |obj r=>exact hle.own _ A
         |_=>exact A.elim
        .rw[upd_same] at A
         obtain ⟨a,rfl,ad⟩:=A
         rcases hle.ro a ad with z|z
         .exact .inl ⟨a,rfl,z⟩
         .exact .inr (.inl z)
      .exact ⟨H.os,H.tape,H.output,by rw[H.size];exact Nat.le_refl _,fun b _ _ hs=>H.block b hs,fun _ h=>.inl h,fun _ h=>.inl h⟩
theorem dO.awake (h:dO c B0 bD p0 d0 k g Fr gs w t ρ φ s):∀x∈gs,awake x:=by
 intro x b;obtain ⟨j,l,rfl⟩:=Array.mem_iff_getElem.1 b;have b:=Array.getElem?_eq_getElem l;rcases Nat.eq_zero_or_pos j with rfl|m
 .obtain ⟨z,a,_,d⟩:=h.g0;obtain rfl:z=gs[0]:=by rw[b] at a;exact (Option.some.inj a).symm
  exact awake_of (d.imp id fun y=>.inl y.1)
 .rcases Nat.lt_or_ge j c.base with i|i
  .obtain ⟨q,_,f⟩:=h.old j _ m i b;exact awake_of (f.status.elim .inl fun y=>.inr (.inr y))
  .have n:=h.size;obtain ⟨z,a,hW⟩:=h.wk (j - c.base) (by omega);have e:c.base+(j - c.base)=j:=by omega
   rw[e] at a;obtain rfl:z=gs[j]:=by rw[b] at a;exact (Option.some.inj a).symm
   rcases hW with ⟨_,q,_,f⟩|⟨_,_,_,d⟩
   .exact awake_of (f.status.elim .inl fun y=>.inr (.inr y))
   .exact awake_of (d.imp id fun y=>.inl y.1)
theorem dO.pick (h:dO c B0 bD p0 d0 k g Fr gs w t ρ φ s)(R:p0= .reg->k=c.n)(sl:Option (Nat×Nat))(S:p0= .reg->∀w s,cA c w s->s.ws=0->stepG c.P true g w= .go {g with status:=.blocked} w #[]):
  ∃(N:Nat) (bW:Array Goroutine) (w':World) (a B:Option (Nat×Nat)) (e:Trace) (ρ':Nat->Rk) (φ':Nat->Ph) (c8:Nat->aa) (s':Sh),
   runNT c.P N (crowd gs w sl) t=(.next (crowd bW w' a),e)/\(∃d,stepT c.P (crowd bW w' a)=runT c.P (crowd bW (w'.at d) B) 0)/\dO c B0 bD p0 d0 k g c8 bW w' e ρ' φ' s'/\bW[0]?=some g/\c8 0=Fr 0/\
   dF c B0 (Fr 0) (Fr 0) w w'/\(p0= .reg->s'.ws≠0):=by
 have key:∀(y:(Nat->Rk)×Nat),∀gs w t ρ φ s l sl,y=(ρ,runs gs)->l 0=Fr 0->dO c B0 bD p0 d0 k g l gs w t ρ φ s->∀n,gs.size=n->n=c.base+k->
   ∃(N:Nat) (bW:Array Goroutine) (w':World) (a B:Option (Nat×Nat)) (e:Trace) (ρ':Nat->Rk) (φ':Nat->Ph) (c8:Nat->aa) (s':Sh),
   runNT c.P N (crowd gs w sl) t=(.next (crowd bW w' a),e)/\(∃d,stepT c.P (crowd bW w' a)=runT c.P (crowd bW (w'.at d) B) 0)/\dO c B0 bD p0 d0 k g c8 bW w' e ρ' φ' s'/\bW[0]?=some g/\c8 0=Fr 0/\
   dF c B0 (Fr 0) (Fr 0) w w'/\(p0= .reg->s'.ws≠0):=by
  intro y
  induction (AV (c.base+k)).apply y with
  |intro y _ ih=>
   intro gs w t ρ φ s l sl p r h n C D
   subst p
   have T:∃(j:Nat) (x:Goroutine),gs[j]?=some x/\x.status= .running:=by
    obtain ⟨z,u,_,f⟩:=h.g0
    rcases f with q|⟨_,v,U⟩
    .exact ⟨0,z,u,q⟩
    .have V:=R v
     have hinv:=h.inv
     rw[v,V] at hinv
     obtain ⟨i,hi,hg,W⟩:=live hinv U
     obtain ⟨x,b,hW⟩:=h.wk i (by omega)
     rcases hW with ⟨X,_⟩|⟨_,_,_,f⟩
     .exact absurd X hg
     .rcases f with q|⟨_,h1,h2⟩
      .exact ⟨_,x,b,q⟩
      .exact absurd h2 (W h1)
   obtain ⟨j,x,d,a,b,q,f⟩:=crowd_pick (P:=c.P) (w:=w) (sl:=sl) h.awake T
   have hd:=h.at d
   rcases Nat.eq_zero_or_pos j with rfl|Y
   .obtain ⟨z,u,he,a9⟩:=h.g0
    obtain rfl:z=x:=by rw[b] at u;exact (Option.some.inj u).symm
    have M:z=g:=by rw[<-he];cases z;simp_all
    by_cases A:p0= .reg/\s.ws=0
    ·
     have Z:=S A.1 (w.at d) s h.sh A.2
     have ab:=runT_crowd_go (P:=c.P) (gs:=gs) (w:=w.at d) (sl:=a) (i:=0) b (by rw[M];exact Z)
     have ad:gs.map (woken c.P z {g with status:=.blocked} (w.at d))=gs:=by
      have:woken c.P z {g with status:=.blocked} (w.at d)=id:=by funext o;unfold Go.Conc.woken;simp
      rw[this,Array.map_id]
     have ae:0<gs.size:=(Array.getElem?_eq_some_iff.1 b).1
     have al:t++MemOp.ofEvents 0 z.frame.fn z.frame.place #[]=t:=by simp[MemOp.ofEvents]
     have ao:dO c B0 bD p0 d0 k g l (gs.setIfInBounds 0 {g with status:=.blocked}) (w.at d) t ρ φ s:=by
      refine ⟨by simpa using hd.size,hd.base,hd.run,hd.off,⟨{g with status:=.blocked},Array.getElem?_setIfInBounds_self_of_lt ae,by have:=h.run;cases g;simp_all,.inr ⟨rfl,A⟩⟩,fun j y h0 hb p=>?_,fun i hi=>?_,hd.deaf,fun j ar=>hd.above j (by simpa using ar),hd.deaf0,hd.parts,hd.sh,hd.inv,hd.hO,hd.rel,hd.apart,hd.low,hd.jU,hd.jV,hd.ne⟩
      .rw[Array.getElem?_setIfInBounds_ne (by omega)] at p
       exact hd.old j y h0 hb p
      .obtain ⟨y,p,hW⟩:=hd.wk i hi
       exact ⟨y,by rw[Array.getElem?_setIfInBounds_ne (by have:=h.base;omega)];exact p,hW⟩
     obtain ⟨N,bW,w',E,F,e,ρ',φ',c8,s',k1,G,H,I,J,K,L⟩:=ih (ρ,runs (gs.setIfInBounds 0 {g with status:=.blocked})) (.inr ⟨rfl,Ei b q (by simp)⟩) _ _ _ _ _ _ l a rfl r ao n (by simpa using C) D
     refine ⟨N+1,bW,w',E,F,e,ρ',φ',c8,s',?_,G,H,I,J,(dF.at_ _ _ _).trans K,L⟩
     simp only[runNT,f,ab]
     rw[ad,al]
     exact k1
    .refine ⟨0,gs,w,sl,a,t,ρ,φ,l,s,rfl,⟨d,f⟩,h,by rw[b,M],r,.refl _ _ _ _,fun v hs=>A ⟨v,hs⟩⟩
   .obtain ⟨m,ops,a0,⟨bW,w',ρ',φ',c8,s',rfl,a2,a3,a4,O,Q⟩⟩:=hd.other Y b q a
    rw[C,D] at Q
    obtain ⟨N,a5,w2,E,F,t2,a6,a7,a8,s2,k1,G,H,I,J,K,L⟩:=ih (ρ',runs bW) Q _ _ _ _ _ _ c8 a rfl (a4.trans r) a2 n (a3.trans C) D
    refine ⟨N+1,a5,w2,E,F,t2,a6,a7,a8,s2,?_,G,H,I,J,?_,L⟩
    .simp only[runNT,f,a0]
     exact k1
    .rw[r] at O
     exact ((dF.at_ _ _ _).trans O).trans K
 exact key (ρ,runs gs) gs w t ρ φ s Fr sl rfl rfl h gs.size rfl h.size
theorem dO.sL (h:dO c B0 bD p0 d0 k g Fr gs w t ρ φ s)(D:p0= .reg->k=c.n)(sl:Option (Nat×Nat)):
  ∃(N:Nat) (bW:Array Goroutine) (w':World) (a q:Option (Nat×Nat)) (e:Trace) (ρ':Nat->Rk) (φ':Nat->Ph) (c8:Nat->aa) (s':Sh),
   runNT c.P N (crowd gs w sl) t=(.next (crowd bW w' a),e)/\(∃d,stepT c.P (crowd bW w' a)=runT c.P (crowd bW (w'.at d) q) 0)/\dO c B0 bD p0 d0 k g c8 bW w' e ρ' φ' s'/\bW[0]?=some g/\c8 0=Fr 0/\
   dF c B0 (Fr 0) (Fr 0) w w':=by
 have key:∀(y:(Nat->Rk)×Nat),∀gs w t ρ φ s o sl,y=(ρ,runs gs)->o 0=Fr 0->dO c B0 bD p0 d0 k g o gs w t ρ φ s->∀n,gs.size=n->n=c.base+k->
   ∃(N:Nat) (bW:Array Goroutine) (w':World) (a q:Option (Nat×Nat)) (e:Trace) (ρ':Nat->Rk) (φ':Nat->Ph) (c8:Nat->aa) (s':Sh),
   runNT c.P N (crowd gs w sl) t=(.next (crowd bW w' a),e)/\(∃d,stepT c.P (crowd bW w' a)=runT c.P (crowd bW (w'.at d) q) 0)/\dO c B0 bD p0 d0 k g c8 bW w' e ρ' φ' s'/\bW[0]?=some g/\c8 0=Fr 0/\
   dF c B0 (Fr 0) (Fr 0) w w':=by
  intro y
  induction (AV (c.base+k)).apply y with
  |intro y _ ih=>
   intro gs w t ρ φ s o sl E r h n u v
   subst E
   have F:∃(j:Nat) (x:Goroutine),gs[j]?=some x/\x.status= .running:=by
    obtain ⟨z,p,_,b⟩:=h.g0
    rcases b with f|⟨_,A,G⟩
    .exact ⟨0,z,p,f⟩
    .have H:=D A
     have hinv:=h.inv
     rw[A,H] at hinv
     obtain ⟨i,hi,hg,I⟩:=live hinv G
     obtain ⟨x,l,hW⟩:=h.wk i (by omega)
     rcases hW with ⟨J,_⟩|⟨_,_,_,b⟩
     .exact absurd J hg
     .rcases b with f|⟨_,h1,h2⟩
      .exact ⟨_,x,l,f⟩
      .exact absurd h2 (I h1)
   obtain ⟨j,x,d,a,l,f,b⟩:=crowd_pick (P:=c.P) (w:=w) (sl:=sl) h.awake F
   have hd:=h.at d
   rcases Nat.eq_zero_or_pos j with rfl|K
   .obtain ⟨z,p,he,al⟩:=h.g0
    obtain rfl:z=x:=by rw[l] at p;exact (Option.some.inj p).symm
    have L:z=g:=by rw[<-he];cases z;simp_all
    exact ⟨0,gs,w,sl,a,t,ρ,φ,o,s,rfl,⟨d,b⟩,h,by rw[l,L],r,.refl _ _ _ _⟩
   .obtain ⟨m,ops,M,⟨bW,w',ρ',φ',c8,s',rfl,O,Q,R,B,C⟩⟩:=hd.other K l f a
    rw[u,v] at C
    obtain ⟨N,S,w2,T,U,t2,V,W,X,s2,k1,Y,Z,ab,ad,ae⟩:=ih (ρ',runs bW) C _ _ _ _ _ _ c8 a rfl (R.trans r) O n (Q.trans u) v
    refine ⟨N+1,S,w2,T,U,t2,V,W,X,s2,?_,Y,Z,ab,ad,?_⟩
    .simp only[runNT,b,M]
     exact k1
    .rw[r] at B
     exact ((dF.at_ _ _ _).trans B).trans ae
 exact key (ρ,runs gs) gs w t ρ φ s Fr sl rfl rfl h gs.size rfl h.size
end
def eG (c:Cy)(B0:Nat)(Φ:Goroutine->aa->Prop)(k:Nat)(p0:P0)(d0:Nat)(g:Goroutine)(F:aa):Prop:=
 g.status= .running/\g.offers=none/\∀(bD:Loc->Prop) (gs:Array Goroutine) (w:World) (sl:Option (Nat×Nat)) (t:Trace) (Fr:Nat->aa) (ρ:Nat->Rk) (φ:Nat->Ph) (s:Sh),Fr 0=F->dO c B0 bD p0 d0 k g Fr gs w t ρ φ s->
  (∀a,bD (.cell a)->¬c.shared a.block)->(∀r,bD (.obj r)->¬c.shared r)->
  ∃(N:Nat) (bW:Array Goroutine) (w':World) (e:Option (Nat×Nat)) (b:Trace) (f:Nat->Nat) (g':Goroutine) (F':aa) (d:Loc->Prop),
   runNT c.P N (crowd gs w sl) t=(.next (crowd bW w' e),b)/\j5 c.P d g' F' bW w' b f/\dF c B0 F F' w w'/\(∀l,d l->bD l\/∃a,l= .cell a/\a.block=c.Wg)/\Φ g' F'
structure Ev0 (c:Cy)(d0 fy:Nat)(es:Array Event):Prop where
 all:∀e∈es,e=cK .disable\/e=cK .enable\/∃a,a.block=c.Wg/\((∃x,e=⟨.cell a,x,true⟩)\/e=cK (.read a)\/e=cK (.write a))
 deaf:deafBehind d0 es=fy
theorem Ej {c:Cy}{d0 fy:Nat}{es:Array Event}(h:Ev0 c d0 fy es)(F:aa)(B:Nat)(f:c.Wg<B):∀e∈es,
  (∀x,(MemAct.ofEvent e).touch?=some x->vt c F B 0 x)/\(MemAct.ofEvent e).low B/\MemAct.ofEvent e≠ .mark (.release (stA c.Wg)):=by
 intro e he
 rcases h.all e he with rfl|rfl|⟨a,d,⟨x,rfl⟩|rfl|rfl⟩
 .exact ⟨fun x g=>by simp[cK,MemAct.ofEvent,MemAct.touch?] at g,trivial,by simp[cK,MemAct.ofEvent]⟩
 .exact ⟨fun x g=>by simp[cK,MemAct.ofEvent,MemAct.touch?] at g,trivial,by simp[cK,MemAct.ofEvent]⟩
 .have hb:a.block<B:=d▸f
  refine ⟨fun y b=>?_,by cases x<;>exact hb,by cases x<;>simp[MemAct.ofEvent]⟩
  have:y=⟨.cell a,x,.atomic⟩:=by cases x<;>simp[MemAct.ofEvent,MemAct.touch?] at b<;>rw[<-b]
  subst this
  exact .inr (.inr (.inr (.inl ⟨⟨a,rfl,.inr d⟩,by simp,by simp⟩)))
 .have hb:a.block<B:=d▸f
  refine ⟨fun y b=>?_,hb,by simp[cK,MemAct.ofEvent]⟩
  have:y=⟨.cell a,false,.said⟩:=by simp[cK,MemAct.ofEvent,MemAct.touch?] at b;rw[<-b]
  subst this
  exact .inr (.inr (.inr (.inl ⟨⟨a,rfl,.inr d⟩,by simp,fun _=>rfl⟩)))
 .have hb:a.block<B:=d▸f
  refine ⟨fun y b=>?_,hb,by simp[cK,MemAct.ofEvent]⟩
  have:y=⟨.cell a,true,.said⟩:=by simp[cK,MemAct.ofEvent,MemAct.touch?] at b;rw[<-b]
  subst this
  exact .inr (.inr (.inr (.inl ⟨⟨a,rfl,.inr d⟩,by simp,fun _=>rfl⟩)))
section
variable {c:Cy}{B0:Nat}{bD:Loc->Prop}{p0:P0}{d0 k:Nat}{g:Goroutine}{Fr:Nat->aa}{gs:Array Goroutine}{w:World}{t u:Trace}{ρ:Nat->Rk}{φ:Nat->Ph}{s:Sh}{Φ:Goroutine->aa->Prop}
theorem dO.zero (h:dO c B0 bD p0 d0 k g Fr gs w t ρ φ s){g':Goroutine}{w':World}{es:Array Event}{fn:FuncId}{pos:String}{s':Sh}{gU:P0}{fy:Nat}{F':aa}(p:gs[0]?=some g)(f:g'.status= .running)(u:g'.offers=none)
  (v:mayWake c.P g=true\/(s'.ms<=s.ms/\s'.ws<=s.ws)) (hd:deafBehind d0 es=fy) (x:dN c k (upd Fr 0 F') w') (A:cA c w' s') (hinv:Inv c.n c.bs k φ gU s') (B:eF c bD k (upd Fr 0 F') w'.heap.size (t++MemOp.ofEvents 0 fn pos es))
  (C:w.heap.size<=w'.heap.size) (D:∀l,bD l->¬F'.gW l):
  dO c B0 bD gU fy k g' (upd Fr 0 F') ((gs.map (woken c.P g g' w')).setIfInBounds 0 g') w' (t++MemOp.ofEvents 0 fn pos es) ρ φ s':=by
 have E:0<gs.size:=(Array.getElem?_eq_some_iff.1 p).1
 have hu:∀op∈MemOp.ofEvents 0 fn pos es,op.g=0:=fun op F=>by obtain ⟨e,_,rfl⟩:=Go.Conc.mem_ofEvents F;rfl
 have other:∀a,a≠0->∀y,((gs.map (woken c.P g g' w')).setIfInBounds 0 g')[a]?=some y->∃z,gs[a]?=some z/\y=woken c.P g g' w' z:=fun a aG y j=>by
  rw[Array.getElem?_setIfInBounds_ne (Ne.symm aG),Array.getElem?_map] at j
  obtain ⟨z,d,rfl⟩:=Option.map_eq_some_iff.1 j
  exact ⟨z,d,rfl⟩
 have m:∀a,a≠0->Deaf (t++MemOp.ofEvents 0 fn pos es) a=Deaf t a:=fun a aG=>Deaf_other t (Ne.symm aG) _ hu
 have G:(mayWake c.P g=true/\g'.status≠ .blocked/\g'.status≠ .waiting)\/s'.ms<=s.ms:=v.imp (fun z=>⟨z,by rw[f];simp,by rw[f];simp⟩) And.left
 refine ⟨by simpa using h.size,h.base,f,u,⟨g',Array.getElem?_setIfInBounds_self_of_lt (by simpa using E),by cases g';simp_all,.inl f⟩,fun a y h0 hb j=>?_,fun i hi=>?_,fun i hi=>?_,fun a H=>?_,?_,x,A,hinv,B,fun i hi hg=>?_,fun l I=>by rw[upd_same];exact D l I,h.low,fun i hi b hb=>?_,Nat.le_trans h.jV C,h.ne⟩
 .obtain ⟨z,d,rfl⟩:=other a (by omega) y j
  obtain ⟨q,J,o⟩:=h.old a z h0 hb d
  exact ⟨q,J,by rw[woken_quitsD o,m a (by omega)];exact o⟩
 .have hb:=h.base
  obtain ⟨z,d,hW⟩:=h.wk i hi
  refine ⟨woken c.P g g' w' z,by rw[Array.getElem?_setIfInBounds_ne (by omega),Array.getElem?_map,d];rfl,?_⟩
  rw[upd_ne _ _ (by omega)]
  exact hW.woken hinv.Eh G
 .have hb:=h.base
  rw[m _ (by omega)];exact h.deaf i hi
 .have:gs.size<=a:=by simpa using H
  rw[m a (by omega)]
  exact h.above a this
 .rw[Deaf_own,h.deaf0];exact hd
 .obtain ⟨r,K⟩:=h.rel i hi hg
  have hb:=h.base
  exact ⟨r,K.other (by omega) hu⟩
 .rw[upd_ne _ _ (by omega)] at hb;exact h.jU i hi b hb
theorem dO.le (h:dO c B0 bD p0 d0 k g Fr gs w t ρ φ s){F:aa}(hle:Le F (Fr 0)):dO c B0 bD p0 d0 k g (upd Fr 0 F) gs w t ρ φ s:=by
 have ht:eF c bD k (upd Fr 0 F) w.heap.size t:=by
  have:=eF.app (u:=#[]) h.base ⟨h.ne.2.1,h.ne.2.2⟩ h.parts h.hO (p:=0) (Nat.zero_le _) (c8:=upd Fr 0 F) (Nat.le_refl _) (by simp) (by simp) (by simp) (by simp) (fun q f=>upd_ne _ _ f) (fun l d=>?_) (fun l d=>?_)
  .simpa using this
  .rw[upd_same] at d;refine .inl ?_;cases l with
   |cell a=>exact hle.own _ d
   |obj r=>exact hle.own _ d
   |_=>exact d.elim
  .rw[upd_same] at d;obtain ⟨a,rfl,j⟩:=d;rcases hle.ro a j with z|z
   .exact .inl ⟨a,rfl,z⟩
   .exact .inr (.inl z)
 refine ⟨h.size,h.base,h.run,h.off,h.g0,h.old,fun i hi=>?_,h.deaf,h.above,h.deaf0,h.parts.act (Nat.zero_le _) (.refl _ _) hle,h.sh,h.inv,ht,h.rel,fun l d e=>?_,h.low,fun i hi b hb=>?_,h.jV,h.ne⟩
 .rw[upd_ne _ _ (by omega)];exact h.wk i hi
 .rw[upd_same] at e;exact h.apart l d (hle.gW e)
 .rw[upd_ne _ _ (by omega)] at hb;exact h.jU i hi b hb
theorem dF.qq {F F':aa}{w w':World}(h:ef F F' w w')(d:B0<=w.heap.size):dF c B0 F F' w w':=
 ⟨by rw[h.os];exact .refl _,h.tape,h.output,h.size,fun b hb e _=>h.frame b (Nat.lt_of_lt_of_le hb d) e,fun a f=>(h.ro a f).imp id fun x=>x.imp id fun y=>.inl (Nat.le_trans d y),fun b hb=>(h.own b hb).imp id fun y=>.inl (Nat.le_trans d y)⟩
theorem dF.Ek {F:aa}{w w':World}(h:iN c w w'):dF c B0 F F w w':=
 ⟨h.os,h.tape,h.output,by rw[h.size];exact Nat.le_refl _,fun b _ _ hs=>h.block b hs,fun _ h=>.inl h,fun _ h=>.inl h⟩
theorem eG.mono {F F':aa}(hle:Le F F')(h:eG c B0 Φ k p0 d0 g F):eG c B0 Φ k p0 d0 g F':=by
 refine ⟨h.1,h.2.1,fun bD gs w sl t Fr ρ φ s a b d e=>?_⟩;obtain ⟨N,bW,w',f,i,j,g',l,m,h1,h2,h3,n,o⟩:=h.2.2 bD gs w sl t (upd Fr 0 F) ρ φ s (upd_same _ _ _) (b.le (by rw[a];exact hle)) d e;exact ⟨N,bW,w',f,i,j,g',l,m,h1,h2,h3.le hle,n,o⟩
theorem eG.closed (c:Cy)(B0:Nat)(Φ:Goroutine->aa->Prop)(k:Nat)(p0:P0)(d0:Nat)(B:p0≠ .reg):Closed c.P true (eG c B0 Φ k p0 d0) where
 mono hle h:=h.mono hle
 step {fr cs F} h:=by
  refine ⟨rfl,rfl,fun bD gs w sl t Fr ρ φ s y J K L=>?_⟩
  obtain ⟨N,C,w1,a3,A,t1,a4,a5,D,s1,M,⟨d,O⟩,f,E,H,I,_⟩:=J.pick (fun e=>absurd e B) sl (fun e=>absurd e B)
  have o:Has F (w1.at d):=by have:=f.parts.has 0 (Nat.zero_le _);rw[H,y] at this;exact this.at d
  obtain ⟨g',w',es,F',hgo,hu,Q,u,hJ⟩:=h (w1.at d) o
  have v:=f.at d
  have R:=runT_crowd_go (P:=c.P) (gs:=C) (w:=w1.at d) (sl:=A) (i:=0) E (show stepG c.P (0==0) (G fr cs) (w1.at d)=_ from hgo)
  have n:D 0=F:=H.trans y
  have S:∀b,b<w1.heap.size->b∉keys (D 0).own->w'.heap[b]?=w1.heap[b]?:=by rw[n];exact hu.frame
  have T:=v.zero (g':=g') (w':=w') (es:=es) (fn:=fr.fn) (pos:=fr.place) (s':=s1) (gU:=p0) (fy:=d0) (F':=F') E hJ.1 hJ.2.1 (.inr ⟨Int.le_refl _,Int.le_refl _⟩)
   (deafBehind_still (fun e he=>(mD (c:=c) o hu.size (u e he) 0).2.2.2) _) (v.parts.walk (Nat.zero_le _) (by rw[n];exact hu) Q)
   (v.sh.keep fun b hb=>S b (f.parts.gS b hb) (fun hm=>f.parts.hH 0 (Nat.zero_le _) b hm hb)) v.inv
   (eF.app f.base ⟨f.ne.2.1,f.ne.2.2⟩ f.parts f.hO (p:=0) (Nat.zero_le _) hu.size (fun op j=>by obtain ⟨e,_,rfl⟩:=Go.Conc.mem_ofEvents j;rfl)
    (fun op j z U=>by obtain ⟨e,he,rfl⟩:=Go.Conc.mem_ofEvents j;rw[n];exact (mD (c:=c) o hu.size (u e he) 0).1 z U)
    (fun op j=>by obtain ⟨e,he,rfl⟩:=Go.Conc.mem_ofEvents j;exact (mD (c:=c) o hu.size (u e he) 0).2.1)
    (fun op j=>by obtain ⟨e,he,rfl⟩:=Go.Conc.mem_ofEvents j;exact (mD (c:=c) o hu.size (u e he) 0).2.2.1) (fun q V=>upd_ne _ _ V)
    (fun l g=>by
     rw[upd_same] at g
     rw[n]
     cases l with
     |cell a=>exact hu.own _ g
     |obj r=>exact hu.own _ g
     |_=>exact g.elim)
    (fun l g=>by
     rw[upd_same] at g
     rw[n]
     obtain ⟨a,rfl,W⟩:=g
     rcases hu.ro a W with z|z|z
     .exact .inl ⟨a,rfl,z⟩
     .exact .inr (.inl z)
     .exact .inr (.inr z)))
   hu.size (fun l g m=>by
    have h1:=f.apart l g
    have h2:=Loc.low_mono f.jV (f.low l g)
    rw[n] at h1
    cases l with
    |cell a=>
     rcases m with m|m
     .rcases hu.own _ m with x|x
      .exact h1 (.inl x)
      .exact absurd h2 (Nat.not_lt.2 x)
     .rcases hu.ro _ m with x|x|x
      .exact h1 (.inr x)
      .exact h1 (.inl x)
      .exact absurd h2 (Nat.not_lt.2 x)
    |obj r=>
     rcases hu.own _ m with x|x
     .exact h1 x
     .exact absurd h2 (Nat.not_lt.2 x)
    |_=>exact m)
  obtain ⟨X,Y,w2,Z,t2,ab,ad,ae,al,k1,ao,ar,a0,a2⟩:=hJ.2.2 bD _ w' A _ _ _ _ _ (upd_same _ _ _) T K L
  refine ⟨N+1+X,Y,w2,Z,t2,ab,ad,ae,al,?_,ao,?_,a0,a2⟩
  .have:runNT c.P (N+1) (crowd gs w sl) t=(.next (crowd ((C.map (woken c.P (G fr cs) g' w')).setIfInBounds 0 g') w' A),t1++MemOp.ofEvents 0 fr.fn fr.place es):=by
    rw[runNT_add,M]
    simp only[runNT,O,R]
    rfl
   rw[j6 this]
   exact k1
  .rw[y] at I
   exact (I.trans (dF.at_ _ _ _)).trans ((dF.qq (w:=w1.at d) hu f.jV).trans ar)
end
section
variable {c:Cy}{B0:Nat}{bD:Loc->Prop}{p0:P0}{d0 k:Nat}{g:Goroutine}{F:aa}{Fr:Nat->aa}{gs:Array Goroutine}{w:World}{t u:Trace}{ρ:Nat->Rk}{φ:Nat->Ph}{s:Sh}{Φ:Goroutine->aa->Prop}
theorem eG.act (G:g.status= .running)(H:g.offers=none)(x:p0= .reg->k=c.n/\∀w s,cA c w s->s.ws=0->stepG c.P true g w= .go {g with status:=.blocked} w #[])
  (h:∀(w:World) (s:Sh) (φ:Nat->Ph),Has F w->cA c w s->Inv c.n c.bs k φ p0 s->(p0= .reg->s.ws≠0)->∃(g':Goroutine) (w':World) (es:Array Event) (s':Sh) (gU:P0) (fy:Nat),
   stepG c.P true g w= .go g' w' es/\cA c w' s'/\iN c w w'/\Inv c.n c.bs k φ gU s'/\Ev0 c d0 fy es/\(mayWake c.P g=true\/(s'.ms<=s.ms/\s'.ws<=s.ws))/\eG c B0 Φ k gU fy g' F):eG c B0 Φ k p0 d0 g F:=by
 refine ⟨G,H,fun bD gs w sl t Fr ρ φ s y I J K=>?_⟩
 obtain ⟨N,A,w1,a5,m,t1,a6,L,o,s1,M,⟨d,O⟩,a,B,Q,C,R⟩:=I.pick (fun e=>(x e).1) sl (fun e=>(x e).2)
 have D:o 0=F:=Q.trans y
 have S:Has F (w1.at d):=by have:=a.parts.has 0 (Nat.zero_le _);rw[D] at this;exact this.at d
 have j:=a.at d
 obtain ⟨g',w',es,s',gU,fy,hgo,T,r,hinv,E,U,hJ⟩:=h (w1.at d) s1 L S j.sh j.inv R
 have V:=runT_crowd_go (P:=c.P) (gs:=A) (w:=w1.at d) (sl:=m) (i:=0) B (show stepG c.P (0==0) g (w1.at d)=_ from hgo)
 have u:=Ej E (o 0) w1.heap.size (a.parts.gS _ (.inr (.inl rfl)))
 have v:w'.heap.size=w1.heap.size:=r.size
 have W:=j.zero (g':=g') (w':=w') (es:=es) (fn:=g.frame.fn) (pos:=g.frame.place) (s':=s') (gU:=gU) (fy:=fy) (F':=o 0) B hJ.1 hJ.2.1 U E.deaf (j.parts.act (Nat.zero_le _) r (.refl _)) T hinv
  (eF.app a.base ⟨a.ne.2.1,a.ne.2.2⟩ a.parts a.hO (p:=0) (Nat.zero_le _) (by rw[v];exact Nat.le_refl _) (fun op b=>by obtain ⟨e,_,rfl⟩:=Go.Conc.mem_ofEvents b;rfl)
   (fun op b z X=>by obtain ⟨e,he,rfl⟩:=Go.Conc.mem_ofEvents b;exact (u e he).1 z X)
   (fun op b=>by obtain ⟨e,he,rfl⟩:=Go.Conc.mem_ofEvents b;rw[v];exact (u e he).2.1)
   (fun op b=>by obtain ⟨e,he,rfl⟩:=Go.Conc.mem_ofEvents b;exact (u e he).2.2) (fun q Y=>upd_ne _ _ Y)
   (fun l f=>by rw[upd_same] at f;exact .inl f) (fun l f=>by rw[upd_same] at f;exact .inl f))
  (by rw[v];exact Nat.le_refl _) (fun l f=>a.apart l f)
 obtain ⟨Z,ab,w2,ad,t2,ae,al,ao,ar,k1,a0,a2,a3,a4⟩:=hJ.2.2 bD _ w' m _ _ _ _ _ (by rw[upd_same];exact D) W J K
 refine ⟨N+1+Z,ab,w2,ad,t2,ae,al,ao,ar,?_,a0,?_,a3,a4⟩
 .have:runNT c.P (N+1) (crowd gs w sl) t=(.next (crowd ((A.map (woken c.P g g' w')).setIfInBounds 0 g') w' m),t1++MemOp.ofEvents 0 g.frame.fn g.frame.place es):=by
   rw[runNT_add,M]
   simp only[runNT,O,V]
  rw[j6 this]
  exact k1
 .rw[y] at C
  exact (C.trans (dF.at_ _ _ _)).trans ((dF.Ek r).trans a2)
theorem eG.zy (E:g.status= .running)(G:g.offers=none)(H:p0= .reg->k=c.n)
  (h:∀(w:World) (s:Sh) (φ:Nat->Ph),Has F w->cA c w s->Inv c.n c.bs k φ p0 s->∃(g':Goroutine) (w':World) (es:Array Event) (s':Sh) (gU:P0) (fy:Nat),
   stepG c.P true g w= .go g' w' es/\cA c w' s'/\iN c w w'/\Inv c.n c.bs k φ gU s'/\Ev0 c d0 fy es/\(mayWake c.P g=true\/(s'.ms<=s.ms/\s'.ws<=s.ws))/\eG c B0 Φ k gU fy g' F):eG c B0 Φ k p0 d0 g F:=by
 refine ⟨E,G,fun bD gs w sl t Fr ρ φ s x I J K=>?_⟩
 obtain ⟨N,y,w1,a4,m,t1,a5,L,o,s1,M,⟨d,O⟩,a,A,Q,B⟩:=I.sL H sl
 have C:o 0=F:=Q.trans x
 have R:Has F (w1.at d):=by have:=a.parts.has 0 (Nat.zero_le _);rw[C] at this;exact this.at d
 have j:=a.at d
 obtain ⟨g',w',es,s',gU,fy,hgo,S,r,hinv,D,T,hJ⟩:=h (w1.at d) s1 L R j.sh j.inv
 have U:=runT_crowd_go (P:=c.P) (gs:=y) (w:=w1.at d) (sl:=m) (i:=0) A (show stepG c.P (0==0) g (w1.at d)=_ from hgo)
 have u:=Ej D (o 0) w1.heap.size (a.parts.gS _ (.inr (.inl rfl)))
 have v:w'.heap.size=w1.heap.size:=r.size
 have V:=j.zero (g':=g') (w':=w') (es:=es) (fn:=g.frame.fn) (pos:=g.frame.place) (s':=s') (gU:=gU) (fy:=fy) (F':=o 0) A hJ.1 hJ.2.1 T D.deaf (j.parts.act (Nat.zero_le _) r (.refl _)) S hinv
  (eF.app a.base ⟨a.ne.2.1,a.ne.2.2⟩ a.parts a.hO (p:=0) (Nat.zero_le _) (by rw[v];exact Nat.le_refl _) (fun op b=>by obtain ⟨e,_,rfl⟩:=Go.Conc.mem_ofEvents b;rfl)
   (fun op b z W=>by obtain ⟨e,he,rfl⟩:=Go.Conc.mem_ofEvents b;exact (u e he).1 z W)
   (fun op b=>by obtain ⟨e,he,rfl⟩:=Go.Conc.mem_ofEvents b;rw[v];exact (u e he).2.1)
   (fun op b=>by obtain ⟨e,he,rfl⟩:=Go.Conc.mem_ofEvents b;exact (u e he).2.2) (fun q X=>upd_ne _ _ X)
   (fun l f=>by rw[upd_same] at f;exact .inl f) (fun l f=>by rw[upd_same] at f;exact .inl f))
  (by rw[v];exact Nat.le_refl _) (fun l f=>a.apart l f)
 obtain ⟨Y,Z,w2,ab,t2,ad,ae,al,ao,k1,ar,a0,a2,a3⟩:=hJ.2.2 bD _ w' m _ _ _ _ _ (by rw[upd_same];exact C) V J K
 refine ⟨N+1+Y,Z,w2,ab,t2,ad,ae,al,ao,?_,ar,?_,a2,a3⟩
 .have:runNT c.P (N+1) (crowd gs w sl) t=(.next (crowd ((y.map (woken c.P g g' w')).setIfInBounds 0 g') w' m),t1++MemOp.ofEvents 0 g.frame.fn g.frame.place es):=by
   rw[runNT_add,M]
   simp only[runNT,O,U]
  rw[j6 this]
  exact k1
 .rw[x] at B
  exact (B.trans (dF.at_ _ _ _)).trans ((dF.Ek r).trans a0)
theorem eG.spawn (E:g.status= .running)(a7:g.offers=none)(T:k<c.n)
  (h:∀w,Has F w->∃g' child,stepG c.P true g w= .spawn g' child w #[]/\Wk c k {mp:=.idle,gp:=.cnt,stored:=false,deaf:=0} child ⟨F.ro,[]⟩/\child.status= .running/\child.offers=none/\eG c B0 Φ (k+1) (.opn 0) 0 g' F):
  eG c B0 Φ k (.opn 1) 0 g F:=by
 refine ⟨E,a7,fun bD gs w sl t Fr ρ φ s ar a8 a9 ba=>?_⟩
 obtain ⟨N,I,w1,ds,ae,t1,bb,X,Y,s1,bc,⟨d,bd⟩,f,a0,bj,a2,_⟩:=a8.pick (fun e=>by cases e) sl (fun e=>by cases e)
 have al:Y 0=F:=bj.trans ar
 have a3:Has F (w1.at d):=by have:=f.parts.has 0 (Nat.zero_le _);rw[al] at this;exact this.at d
 have U:=f.at d
 obtain ⟨g',child,hgo,⟨Q,r,hle,hW⟩,dt,du,hJ⟩:=h (w1.at d) a3
 have bk:=runT_crowd_spawn (P:=c.P) (gs:=I) (w:=w1.at d) (sl:=ae) (i:=0) a0 (show stepG c.P (0==0) g (w1.at d)=_ from hgo)
 have a4:=f.size
 have bl:0<I.size:=(Array.getElem?_eq_some_iff.1 a0).1
 let K:Ph:={mp:=.idle,gp:=.cnt,stored:=false,deaf:=0}
 have M:keys Q.own=[]:=by
  cases bm:keys Q.own with
  |nil=>rfl
  |cons b l=>exact absurd (hle.own b (by rw[bm];simp)) (by simp[keys])
 have Z:∀a,(Q.ro a).isSome=true->((Y 0).ro a).isSome=true:=fun a p=>by
  rw[al]
  rcases hle.ro a p with x|x
  .exact x
  .simp[keys] at x
 have bo:Has Q (w1.at d):=hle.has _ ⟨a3.ro,fun b o hb=>(by cases hb),List.nodup_nil,fun a v E hm=>(by cases hm)⟩
 have J:=U.inv.i
 have a5:(X k).gp= .new:=by
  have:=(J.born k T)
  rcases Classical.em ((X k).gp= .new) with x|x
  .exact x
  .exact absurd (this.2 x) (Nat.lt_irrefl _)
 obtain ⟨br,bz,dv⟩:=J.new k T a5
 let R:Nat->aa:=upd Y (k+1) Q
 have e1:∀q,q<=k->R q=Y q:=fun q A=>upd_ne _ _ (by omega)
 have e2:R (k+1)=Q:=upd_same _ _ _
 have bS:dN c (k+1) R (w1.at d):=by
  have H:=U.parts
  have cs:∀q,q<=k+1->q<=k\/q=k+1:=fun q A=>by omega
  refine ⟨fun q A=>?_,fun q r A E aG b hb B=>?_,fun q r A E aG a p hb=>?_,fun q A b hb=>?_,fun q A a p=>?_,H.gS⟩
  .rcases cs q A with x|rfl
   .rw[e1 q x];exact H.has q x
   .rw[e2];exact bo
  .rcases cs q A with x|rfl
   .rcases cs r E with y|rfl
    .rw[e1 q x] at hb;rw[e1 r y] at B;exact H.own q r x y aG b hb B
    .rw[e2,M] at B;cases B
   .rw[e2,M] at hb;cases hb
  .rcases cs r E with y|rfl
   .rw[e1 r y] at hb
    rcases cs q A with x|rfl
    .rw[e1 q x] at p;exact H.ro q r x y aG a p hb
    .rw[e2] at p
     rcases Nat.eq_zero_or_pos r with rfl|dC
     .obtain ⟨v,b0⟩:=Option.isSome_iff_exists.1 (Z a p)
      exact (H.has 0 (Nat.zero_le _)).apart a v b0 hb
     .exact H.ro 0 r (Nat.zero_le _) y (by omega) a (Z a p) hb
   .rw[e2,M] at hb;cases hb
  .rcases cs q A with x|rfl
   .rw[e1 q x] at hb;exact H.hH q x b hb
   .rw[e2,M] at hb;cases hb
  .rcases cs q A with x|rfl
   .rw[e1 q x] at p;exact H.jT q x a p
   .rw[e2] at p;exact H.jT 0 (Nat.zero_le _) a (Z a p)
 have hinv:Inv c.n c.bs (k+1) (upd X k K) (.opn 0) s1:=by
  obtain ⟨C,S,W,L,m,hm⟩:=U.inv.m
  refine ⟨⟨C,S,W,L,m,n9 hm T K (.inl bz.symm)⟩,KX U.inv.w T K a5 rfl,J.len,T,fun j G=>?_,fun j G=>?_,fun j G ab=>?_,fun j G h1 h2=>?_⟩<;>by_cases e:j=k
  .subst e;rw[upd_same,J.all j G,br]
  .rw[upd_ne _ _ e];exact J.all j G
  .subst e;rw[upd_same];exact ⟨fun _=>by simp[K],fun _=>by omega⟩
  .rw[upd_ne _ _ e,<-J.born j G];omega
  .subst e;rw[upd_same] at ab;simp[K] at ab
  .rw[upd_ne _ _ e] at ab ⊢;exact J.new j G ab
  .subst e;rw[upd_same] at h1;simp[K] at h1
  .rw[upd_ne _ _ e] at h1 h2 ⊢;exact J.done j G h1 h2
 let u:Array MemOp:=#[{g:=0,fn:=g.frame.fn,pos:=g.frame.place,act:=.go I.size},{g:=I.size,fn:=child.frame.fn,pos:=g.frame.place,act:=.start}]
 have b1:((MemOp.ofEvents 0 g.frame.fn g.frame.place #[]).push {g:=0,fn:=g.frame.fn,pos:=g.frame.place,act:=.go I.size}|>.push {g:=I.size,fn:=child.frame.fn,pos:=g.frame.place,act:=.start})=u:=by simp[MemOp.ofEvents,u]
 have b2:eF c bD (k+1) R w1.heap.size (t1++u):=f.hO.fork f.base f.parts ⟨rfl,by rw[a4]⟩ ⟨by rw[a4],rfl⟩ f.deaf0 (f.above _ (by omega)) e1 (fun l D=>by
  rw[e2] at D
  cases l with
  |cell a=>simp only[fh,M] at D;cases D
  |obj r=>simp only[fh,M] at D;cases D
  |_=>exact D) (fun l D=>by
  rw[e2] at D
  obtain ⟨a,rfl,p⟩:=D
  exact ⟨a,rfl,Z a p⟩)
 have V:∀j,Deaf (t1++u) j=Deaf t1 j:=fun j=>by
  have:=Deaf_append t1 j u.toList
  simp only[Array.toArray_toList] at this
  rw[this]
  rfl
 have b3:∀j r,gA c t1 j r->gA c (t1++u) j r:=fun j r E=>E.app fun idx x hi hg b4=>by
  obtain ⟨z,b5,ca⟩:=touch_of b4
  rcases getElem?_append_cases b5 with ⟨dE,_⟩|⟨_,a6⟩
  .omega
  .simp only[u,List.mem_toArray,List.mem_cons,List.not_mem_nil,or_false] at a6
   rcases a6 with rfl|rfl<;>cases ca
 have cb:dO c B0 bD (.opn 0) 0 (k+1) g' R ((I.setIfInBounds 0 g').push child) (w1.at d) (t1++u) (mE bb (c.base+k) r) (upd X k K) s1:=by
  have hb:=f.base
  refine ⟨by simp;omega,hb,hJ.1,hJ.2.1,⟨g',by rw[Array.getElem?_push,if_neg (by simp;omega)];exact Array.getElem?_setIfInBounds_self_of_lt bl,by have:=hJ.1;cases g';simp_all,.inl hJ.1⟩,fun j y h0 B ad=>?_,fun i hi=>?_,fun i hi=>?_,fun j G=>?_,?_,bS,U.sh,hinv,b2,fun i hi hg=>?_,fun l D=>by rw[e1 0 (Nat.zero_le _)];exact f.apart l D,f.low,fun i hi b B=>?_,f.jV,f.ne⟩
  .rw[Array.getElem?_push,if_neg (by simp;omega),Array.getElem?_setIfInBounds_ne (by omega)] at ad
   obtain ⟨q,A,cd⟩:=f.old j y h0 B ad
   exact ⟨q,by rw[oa _ _ (by omega)];exact A,by rw[V];exact cd⟩
  .rcases Nat.lt_or_ge i k with O|ao
   .obtain ⟨y,ad,cf⟩:=f.wk i O
    refine ⟨y,by rw[Array.getElem?_push,if_neg (by simp;omega),Array.getElem?_setIfInBounds_ne (by omega)];exact ad,?_⟩
    rw[oa _ _ (by omega),upd_ne _ _ (by omega),e1 (i+1) (by omega)]
    exact cf
   .obtain rfl:i=k:=by omega
    refine ⟨child,by rw[Array.getElem?_push,if_pos (by simp;omega)],?_⟩
    rw[p5,upd_same,e2]
    exact (hW.zx s1).1
  .rcases Nat.lt_or_ge i k with O|ao
   .rw[V,upd_ne _ _ (by omega)];exact f.deaf i O
   .obtain rfl:i=k:=by omega
    rw[V,upd_same];exact f.above _ (by omega)
  .rw[V];exact f.above j (by simp at G;omega)
  .rw[V];exact f.deaf0
  .rcases Nat.lt_or_ge i k with O|ao
   .rw[upd_ne _ _ (by omega)] at hg
    obtain ⟨r,E⟩:=f.rel i O hg
    exact ⟨r,b3 _ _ E⟩
   .obtain rfl:i=k:=by omega
    rw[upd_same] at hg
    exact absurd rfl hg
  .rcases Nat.lt_or_ge i k with O|ao
   .rw[e1 (i+1) (by omega)] at B;exact f.jU i O b B
   .obtain rfl:i=k:=by omega
    rw[e2,M] at B;cases B
 obtain ⟨cl,cy,w2,cS,t2,c0,da,db,dd,k1,df,dk,dp,dq⟩:=hJ.2.2 bD _ (w1.at d) ae _ R _ _ _ (by rw[e1 0 (Nat.zero_le _)];exact al) cb a9 ba
 refine ⟨N+1+cl,cy,w2,cS,t2,c0,da,db,dd,?_,df,?_,dp,dq⟩
 .have:runNT c.P (N+1) (crowd gs w sl) t=(.next (crowd ((I.setIfInBounds 0 g').push child) (w1.at d) ae),t1++u):=by
   rw[runNT_add,bc]
   simp only[runNT,bd,bk,b1]
  rw[j6 this]
  exact k1
 .rw[ar] at a2
  exact (a2.trans (dF.at_ _ _ _)).trans dk
def Cy.fin (c:Cy):Obj:=.cells ((List.range c.n).map fun i=>Value.bool (c.bs i)).toArray c.tI
theorem eG.join (G:g.status= .running)(T:g.offers=none)
  (h:∀w,Has F w->∃g',stepG c.P true g w= .go g' w #[cK (.acquire (stA c.Wg))]/\g'.status= .running/\Φ g' ⟨F.ro,(c.Is,c.fin)::F.own⟩):eG c B0 Φ c.n .e5 0 g F:=by
 refine ⟨G,T,fun bD gs w sl t Fr ρ φ s K U V W=>?_⟩
 obtain ⟨N,p,w1,bc,L,t1,bd,X,Y,s1,Z,⟨d,ab⟩,f,M,ad,O,_⟩:=U.pick (fun e=>by cases e) sl (fun e=>by cases e)
 have A:Y 0=F:=ad.trans K
 have ae:Has F w1:=by have:=f.parts.has 0 (Nat.zero_le _);rw[A] at this;exact this
 have C:Has F (w1.at d):=ae.at d
 obtain ⟨g',hgo,bj,al⟩:=h (w1.at d) C
 have ao:=runT_crowd_go (P:=c.P) (gs:=p) (w:=w1.at d) (sl:=L) (i:=0) M (show stepG c.P (0==0) g (w1.at d)=_ from hgo)
 have ar:0<p.size:=(Array.getElem?_eq_some_iff.1 M).1
 obtain ⟨_,a0,a2,a3⟩:=D8 f.inv.w
 have H:∀i,i<c.n->(X i).gp= .gone:=fun i hi=>(K3 a0 a2 a3 hi).resolve_right fun e=>((f.inv.i.born i hi).1 hi) e
 have a4:∀i,i<c.n->∃r,gA c t1 (c.base+i) r:=fun i hi=>f.rel i hi (by rw[H i hi];simp)
 have a5:=f.hO.fV a4 (y:={g:=0,fn:=g.frame.fn,pos:=g.frame.place,act:=.mark (.acquire (stA c.Wg))}) ⟨rfl,rfl⟩ f.deaf0 (f.parts.gS _ (.inr (.inl rfl)))
 have a6:MemOp.ofEvents 0 g.frame.fn g.frame.place #[cK (.acquire (stA c.Wg))]=#[{g:=0,fn:=g.frame.fn,pos:=g.frame.place,act:=.mark (.acquire (stA c.Wg))}]:=by rw[Go.Conc.ofEvents_eq];simp[cK,MemAct.ofEvent]
 have a7:s1.is=(List.range c.n).map c.bs:=by
  refine List.ext_getElem? fun i=>?_
  by_cases hi:i<c.n
  .rw[f.inv.i.all i hi,(f.inv.i.done i hi (by rw[H i hi];simp) (by rw[H i hi];simp)).1]
   simp[hi]
  .have h1:s1.is.length=c.n:=f.inv.i.len
   rw[List.getElem?_eq_none (by omega),List.getElem?_eq_none (by simp;omega)]
 have a8:w1.heap[c.Is]?=some c.fin:=by
  have:=f.sh.2.2
  rw[a7,List.map_map] at this
  exact this
 have Q:∀j,∃q,∀x,0<j->p[j]?=some x->QuitsD c.P q (Deaf t1 j) x:=fun j=>by
  by_cases I:∃x,0<j/\p[j]?=some x
  .obtain ⟨x,h0,D⟩:=I
   rcases Nat.lt_or_ge j c.base with R|R
   .obtain ⟨q,_,B⟩:=f.old j x h0 R D
    exact ⟨q,fun y _ u=>by rw[D] at u;cases u;exact B⟩
   .have k:j<p.size:=(Array.getElem?_eq_some_iff.1 D).1
    have bk:=f.size
    obtain ⟨i,rfl⟩:∃i,j=c.base+i:=⟨j - c.base,by omega⟩
    obtain ⟨y,u,hW⟩:=f.wk i (by omega)
    rcases hW with ⟨_,q,_,B⟩|⟨a9,_⟩
    .exact ⟨q,fun z _ J=>by rw[u] at J;cases J;rw[f.deaf i (by omega)];exact B⟩
    .exact absurd (H i (by omega)) a9
  .exact ⟨0,fun x h0 D=>absurd ⟨x,h0,D⟩ I⟩
 let q:Nat->Nat:=fun j=>Classical.choose (Q j)
 have ba:∀j x,0<j->p[j]?=some x->QuitsD c.P (q j) (Deaf t1 j) x:=fun j=>Classical.choose_spec (Q j)
 have S:∀j,j≠0->Deaf (t1++#[({g:=0,fn:=g.frame.fn,pos:=g.frame.place,act:=.mark (.acquire (stA c.Wg))}:MemOp)]) j=Deaf t1 j:=fun j aG=>Deaf_other t1 (g':=0) (Ne.symm aG) _ (by simp)
 refine ⟨N+1,(p.map (woken c.P g g' (w1.at d))).setIfInBounds 0 g',w1.at d,L,t1++#[{g:=0,fn:=g.frame.fn,pos:=g.frame.place,act:=.mark (.acquire (stA c.Wg))}],q,g',⟨F.ro,(c.Is,c.fin)::F.own⟩,_,?_,⟨?_,⟨fun j y h0 u=>?_,fun j I=>?_⟩,a5,?_,fun l k m=>?_,fun l k=>?_⟩,?_,fun l k=>k,al⟩
 .rw[runNT_add,Z]
  simp only[runNT,ab,ao,a6]
 .exact Array.getElem?_setIfInBounds_self_of_lt (by simpa using ar)
 .rw[Array.getElem?_setIfInBounds_ne (by omega),Array.getElem?_map] at u
  obtain ⟨z,J,rfl⟩:=Option.map_eq_some_iff.1 u
  have B:=ba j z h0 J
  rw[woken_quitsD B,S j (by omega)];exact B
 .have:p.size<=j:=by simpa using I
  rw[S j (by omega)]
  exact f.above j this
 .have bb:c.Is∉keys F.own:=fun hm=>f.parts.hH 0 (Nat.zero_le _) _ (by rw[A];exact hm) (.inr (.inr rfl))
  refine ⟨C.ro,fun b o hb=>?_,?_,fun a v G hm=>?_⟩
  .rcases List.mem_cons.1 hb with x|x
   .cases x;exact a8
   .exact C.own b o x
  .exact List.nodup_cons.2 ⟨bb,C.nodup⟩
  .rcases List.mem_cons.1 hm with x|x
   .exact f.parts.jT 0 (Nat.zero_le _) a (by rw[A,G];rfl) (.inr (.inr x))
   .exact C.apart a v G x
 .rcases k with k|⟨a,rfl,E⟩
  .have h1:=f.apart l k
   rw[A] at h1
   cases l with
   |cell a=>
    rcases m with m|m
    .rcases List.mem_cons.1 m with x|x
     .exact V a k (.inr (.inr x))
     .exact h1 (.inl x)
    .exact h1 (.inr m)
   |obj r=>
    rcases List.mem_cons.1 m with x|x
    .exact W r k (.inr (.inr x))
    .exact h1 x
   |_=>exact m
  .rcases m with m|m
   .rcases List.mem_cons.1 m with x|x
    .exact f.ne.2.2 (E▸x)
    .exact f.parts.hH 0 (Nat.zero_le _) a.block (by rw[A];exact x) (.inr (.inl E))
   .exact f.parts.jT 0 (Nat.zero_le _) a (by rw[A];exact m) (.inr (.inl E))
 .rcases k with k|⟨a,rfl,E⟩
  .exact Loc.low_mono f.jV (f.low l k)
  .show a.block<_;rw[E];exact f.parts.gS _ (.inr (.inl rfl))
 .rw[K] at O
  refine (O.trans (dF.at_ _ _ _)).trans ⟨.refl _,rfl,rfl,Nat.le_refl _,fun _ _ _ _=>rfl,fun _ h=>.inl h,fun b hb=>?_⟩
  rcases List.mem_cons.1 hb with x|x
  .exact .inr (.inr (.inr (.inr x)))
  .exact .inl x
end
def jk (P:Program)(Φ:Goroutine->aa->Prop)(g:Goroutine)(F:aa):Prop:=
 g.status= .running/\g.offers=none/\∀(bD:Loc->Prop) (gs:Array Goroutine) (w:World) (sl:Option (Nat×Nat)) (t:Trace) (q:Nat->Nat),j5 P bD g F gs w t q->
  ∃(N:Nat) (bW:Array Goroutine) (w':World) (c:Option (Nat×Nat)) (a:Trace) (d:Nat->Nat) (g':Goroutine) (F':aa) (b:Loc->Prop),
   runNT P N (crowd gs w sl) t=(.next (crowd bW w' c),a)/\j5 P b g' F' bW w' a d/\fB F F' w w'/\(∀l,b l->bD l\/¬l.low w.heap.size\/fh F l)/\Φ g' F'
theorem jk.done {P:Program}{Φ:Goroutine->aa->Prop}{g:Goroutine}{F:aa}(a:g.status= .running)(b:g.offers=none)(h:Φ g F):jk P Φ g F:=
 ⟨a,b,fun bD gs w sl t q c=>⟨0,gs,w,sl,t,q,g,F,bD,rfl,c,.refl _ _,fun _ h=>.inl h,h⟩⟩
theorem Le.Lm {F F':aa}(h:Le F F'){l:Loc}(b:fh F l):fh F' l:=by
 cases l with
 |cell a=>exact h.own _ b
 |obj r=>exact h.own _ b
 |_=>exact b
theorem El (P:Program)(Φ:Goroutine->aa->Prop):Closed P true (jk P Φ) where
 mono hle h:=by
  refine ⟨h.1,h.2.1,fun bD gs w sl t q b=>?_⟩
  obtain ⟨N,bW,w',B,C,D,g',F',E,k,H,hu,I,J⟩:=h.2.2 bD gs w sl t q ⟨b.g0,b.lv,b.fV,hle.has w b.has,fun l hs K=>b.apart l hs (hle.gW K),b.low⟩
  exact ⟨N,bW,w',B,C,D,g',F',E,k,H,hu.le hle,fun l m=>(I l m).imp id fun x=>x.imp id hle.Lm,J⟩
 step {fr cs F} h:=by
  refine ⟨rfl,rfl,fun bD gs w sl t q b=>?_⟩
  obtain ⟨N,n,d,o,a2,p,t1,L,k,a3,h0,u,M,O⟩:=sL (P:=P) (a:=G fr cs) rfl _ gs w sl t q (Nat.le_refl _) b.g0 b.lv b.fV
  obtain ⟨g',w',es,F',hgo,hu,Q,R,hJ⟩:=h (w.at o) (b.has.at o)
  have c:ef F F' w w':=⟨hu.os,hu.tape,hu.output,hu.size,hu.frame,hu.ro,hu.own⟩
  have S:=runT_crowd_go (P:=P) (sl:=p) (i:=0) h0 (show stepG P (0==0) (G fr cs) (w.at o)=_ from hgo)
  have T:0<n.size:=(Array.getElem?_eq_some_iff.1 h0).1
  have v:=j5.next (P:=P) b.apart b.low c
  obtain ⟨U,V,w2,W,t2,X,Y,Z,ab,ad,ae,al,ao,ar⟩:=hJ.2.2 bD ((n.map (woken P (G fr cs) g' w')).setIfInBounds 0 g') w' p (t1++MemOp.ofEvents 0 (G fr cs).frame.fn (G fr cs).frame.place es) L
   {g0:=by simp[T]
    lv:=⟨fun j x g z=>by
     have aG:0≠j:=by omega
     rw[Array.getElem?_setIfInBounds_ne aG,Array.getElem?_map] at z
     obtain ⟨y,a0,rfl⟩:=Option.map_eq_some_iff.1 z
     have A:=u.old j y g a0
     rw[woken_quitsD A,Deaf_other t1 (by omega) _ (fun op s=>by obtain ⟨e,_,rfl⟩:=Go.Conc.mem_ofEvents s;rfl)]
     exact A,fun j g=>by
     rw[Deaf_other t1 (g':=0) (by simp at g;omega) _ (fun op s=>by obtain ⟨e,_,rfl⟩:=Go.Conc.mem_ofEvents s;rfl)]
     exact u.above j (by simpa using g)⟩
    fV:=(M.mono c.size).own fun e he=>AQ b.has c.size b.apart b.low (R e he)
    has:=Q
    apart:=v.1
    low:=v.2}
  refine ⟨N+1+U,V,w2,W,t2,X,Y,Z,ab,?_,ae,(fB.qq c).trans al,fun l m=>?_,ar⟩
  .have:runNT P (N+1) (crowd gs w sl) t=(.next (crowd ((n.map (woken P (G fr cs) g' w')).setIfInBounds 0 g') w' p),t1++MemOp.ofEvents 0 (G fr cs).frame.fn (G fr cs).frame.place es):=by
    rw[runNT_add,k]
    simp only[runNT,O,S]
   rw[j6 this]
   exact ad
  .rcases ao l m with x|x|x
   .exact .inl x
   .exact .inr (.inl fun f=>x (Loc.low_mono c.size f))
   .cases l with
    |cell a=>
     rcases c.own _ x with y|y
     .exact .inr (.inr y)
     .exact .inr (.inl fun f=>absurd f (Nat.not_lt.2 y))
    |obj r=>
     rcases c.own _ x with y|y
     .exact .inr (.inr y)
     .exact .inr (.inl fun f=>absurd f (Nat.not_lt.2 y))
    |_=>exact x.elim
theorem fY.Ln {P:Program}{f:FuncId}{args:Array Value}{ro:Addr->Option Value}{R:Value->aa->Prop}(h:∀Φ,cY P (jk P Φ) f args ⟨ro,[]⟩ R):fY P f args ⟨ro,[]⟩ R:=by
 intro Φ c cs b bD gs w sl t q d;obtain ⟨N,bW,w',e,g,i,g',F',j,k,m,hu,n,v,rfl,a⟩:=(h (fun g' F'=>∃v,g'=G (c.finish v) cs/\R v F') c cs (fun v F' a=>jk.done rfl rfl ⟨v,rfl,a⟩)).2.2 bD gs w sl t q d;obtain ⟨o,p,w2,r,t2,s,u,z,A,B,C,D,E,F⟩:=b v F' a j bW w' e g i m;refine ⟨N+o,p,w2,r,t2,s,u,z,A,by rw[j6 k];exact B,C,hu.trans D,fun l H=>?_,F⟩;rcases E l H with x|x
 .rcases n l x with y|y|y
  .exact .inl y
  .exact .inr y
  .cases l<;>first|(simp only[fh,keys,List.map_nil] at y;cases y)|exact y.elim
 .exact .inr fun I=>x (Loc.low_mono hu.size I)
theorem jk.found {P:Program}{Φ:Goroutine->aa->Prop}{g:Goroutine}{F C:aa}{Mu Wg Is:Nat}{tM tW tI:TypeId}{n:Nat}(bs:Nat->Bool)(I:g.status= .running)(Q:g.offers=none)
  (hle:Le ⟨C.ro,(Mu,muBlock tM 0 0)::(Wg,wgBlock tW 0 0)::(Is,.cells (List.replicate n (Value.bool false)).toArray tI)::C.own⟩ F)
  (h:∀base B0 T0,0<base->(Mu≠Wg/\Mu≠Is/\Wg≠Is)->eG ⟨P,Mu,Wg,Is,tM,tW,tI,n,bs,base,T0⟩ B0 (jk P Φ) 0 (.opn 0) 0 g C):jk P Φ g F:=by
 refine ⟨I,Q,fun bD gs w sl t q k=>?_⟩
 have A:=hle.has w k.has
 have R:0<gs.size:=(Array.getElem?_eq_some_iff.1 k.g0).1
 let c:Cy:=⟨P,Mu,Wg,Is,tM,tW,tI,n,bs,gs.size,t.size⟩
 have S:=A.nodup
 simp only[keys,List.map_cons,List.nodup_cons,List.mem_cons,not_or] at S
 obtain ⟨⟨n1,n2,n3⟩,⟨T,U⟩,V,W⟩:=S
 have u:∀b,c.shared b->b∈keys F.own:=fun b hb=>by
  rcases hb with rfl|rfl|rfl<;>exact hle.own _ (by simp[keys,c])
 have D:∀b,b∈keys C.own->b∈keys F.own:=fun b hb=>hle.own b (by simp only[keys,List.map_cons,List.mem_cons];exact .inr (.inr (.inr hb)))
 have M:∀a,(C.ro a).isSome=true->(F.ro a).isSome=true\/a.block∈keys F.own:=fun a d=>hle.ro a d
 have X:Has C w:=⟨A.ro,fun b o hb=>A.own b o (List.mem_cons_of_mem _ (List.mem_cons_of_mem _ (List.mem_cons_of_mem _ hb))),W,fun a v I hm=>A.apart a v I (by simp only[keys,List.map_cons,List.mem_cons];exact .inr (.inr (.inr hm)))⟩
 have K:∀l,F.gW l->∀i a,touchAt t i=some a->a.loc=l->l.isMemory=true->Go.Conc.Knows t 0 i:=fun l m i a d e hm=>by
  rcases k.fV.known i a d (by rw[e];exact hm) with x|⟨x,_⟩
  .exact x
  .exact absurd m (k.apart l (e▸x))
 let φ:Nat->Ph:=fun _=>{mp:=.idle,gp:=.new,stored:=false,deaf:=0}
 let s:Sh:=⟨0,0,0,0,List.replicate n false⟩
 have Y:dO c w.heap.size bD (.opn 0) 0 0 g (fun _=>C) gs w t (fun j=>Rk.nat (q j)) φ s:=by
  refine ⟨rfl,R,I,Q,⟨g,k.g0,by cases g;simp_all,.inl I⟩,fun j x h0 _ Z=>⟨q j,rfl,k.lv.old j x h0 Z⟩,fun i hi=>by omega,fun i hi=>by omega,k.lv.above,k.fV.hears,⟨fun p E=>X,fun p q E ab aG=>by omega,fun p q E ab aG=>by omega,fun p E b hb hs=>?_,fun p E a d hs=>?_,fun b hb=>k.has.lt (u b hb)⟩,
   ⟨?_,?_,?_⟩,⟨⟨0,0,0,0,0,⟨⟨rfl,by omega,by omega,by omega⟩,rfl,?_,fun _=>?_,fun e=>by omega,fun i hi o G ad=>by simp[φ,Mp.seen] at ad⟩⟩,⟨?_⟩,⟨by simp[s,c],Nat.zero_le _,fun i hi=>?_,fun i hi=>?_,fun i hi _=>⟨rfl,rfl,rfl⟩,fun i hi _ L=>by simp[φ] at L⟩⟩,
   ⟨Nat.le_refl _,fun i a d hs=>.inr fun p E=>?_,k.fV.clean,fun p E l m=>?_,fun p E l m=>?_,fun i hi=>by omega,fun i hi l m=>?_,k.fV.seen,fun i hi e=>?_,fun i a d hm=>?_,fun i g hg ae al=>.inl (k.fV.over i g hg ae al)⟩,
   fun i hi=>by omega,fun l m H=>?_,k.low,fun i hi=>by omega,Nat.le_refl _,⟨n1,n2,T⟩⟩
  .rcases hs with e|e|e
   .exact n3 (by rw[<-show b=Mu from e];exact hb)
   .exact U (by rw[<-show b=Wg from e];exact hb)
   .exact V (by rw[<-show b=Is from e];exact hb)
  .obtain ⟨v,ao⟩:=Option.isSome_iff_exists.1 d
   refine A.apart a v ao ?_
   rcases hs with e|e|e
   .rw[show a.block=Mu from e];simp[keys]
   .rw[show a.block=Wg from e];simp[keys]
   .rw[show a.block=Is from e];simp[keys]
  .exact A.own Mu (muBlock tM 0 0) (.head _)
  .exact A.own Wg (wgBlock tW 0 0) (.tail _ (.head _))
  .have:=A.own Is (.cells (List.replicate n (Value.bool false)).toArray tI) (.tail _ (.tail _ (.head _)))
   rw[show (s.is.map Value.bool)=List.replicate n (Value.bool false) from by simp[s]]
   exact this
  .exact (zu fun i hi=>rfl).symm
  .have z:∀f:Mp->Nat,f .idle=0->sm n φ f=0:=fun f H=>zu fun i hi=>H
   have a1:=z Mp.nI rfl;have a2:=z Mp.nY rfl;have a3:=z Mp.nA rfl;have a4:=z Mp.nK rfl;have a5:=z Mp.nT rfl;have b1:=z Mp.nQ rfl
   refine ⟨a1,a2,?_,?_,fun e=>absurd e (Nat.lt_irrefl _)⟩
   .show 0=sm n φ Mp.nA+0+sm n φ Mp.nK+sm n φ Mp.nT;omega
   .show 0+0+sm n φ Mp.nT=sm n φ Mp.nQ;omega
  .have z:∀f:Gp->Nat,f .new=0->sg n φ f=0:=fun f H=>vo fun i hi=>H
   refine ⟨by omega,?_,rfl,z _ rfl,z _ rfl⟩
   show (0:Int)=((sg n φ Gp.nV+0:Nat):Int)*c7
   rw[z _ rfl];rfl
  .simp[s,φ,show i<n from hi]
  .exact ⟨fun e=>by omega,fun e=>by simp[φ] at e⟩
  .obtain rfl:p=0:=by omega
   obtain ⟨b,e,hb⟩:=hs
   exact K a.loc (by rw[e];exact .inl (u _ (hb.elim .inl fun x=>.inr (.inl x)))) i a d rfl (by rw[e];rfl)
  .obtain rfl:p=0:=by omega
   intro i a d e
   refine K l ?_ i a d e ?_
   .cases l with
    |cell a=>exact .inl (D _ m)
    |obj r=>exact D _ m
    |_=>exact m.elim
   .cases l<;>first|rfl|exact m.elim
  .obtain rfl:p=0:=by omega
   obtain ⟨b,rfl,hb⟩:=m
   exact fun i a d e _=>K (.cell b) ((M b hb).elim (fun x=>Or.inr x) (fun x=>Or.inl x)) i a d e rfl
  .intro j a d e
   rw[show l=_ from m] at e
   exact K (.cell ⟨Is,i,none⟩) (Or.inl (u Is (.inr (.inr rfl)))) j a d e rfl
  .exact absurd (lt_of_act? e) (Nat.not_lt.2 hi)
  .rcases k.fV.known i a d hm with x|x
   .exact .inl x
   .exact .inr (.inl x)
  .refine k.apart l m ?_
   cases l with
   |cell a=>exact H.elim (fun x=>.inl (D _ x)) fun x=>(M a x).elim .inr .inl
   |obj r=>exact D _ H
   |_=>exact H
 obtain ⟨N,bW,w',ar,a0,a6,g',F',a7,k1,a8,B,a9,ba⟩:=(h gs.size w.heap.size t.size R ⟨n1,n2,T⟩).2.2 bD gs w sl t _ _ _ _ rfl Y (fun a hs hb=>k.apart _ hs (.inl (u _ hb))) (fun r hs hb=>k.apart _ hs (u _ hb))
 obtain ⟨bb,bc,w2,bd,t2,bj,bk,bl,bm,bo,br,bz,bS,b0⟩:=ba.2.2 a7 bW w' ar a0 a6 a8
 have O:fB F F' w w':=⟨B.os,B.tape,B.output,B.size,fun b hb L=>B.frame b hb (fun x=>L (D b x)) (fun x=>L (u b x)),fun a d=>by
  rcases B.ro a d with x|x|x|x
  .exact (M a x).imp id .inl
  .exact .inr (.inl (D _ x))
  .exact .inr (.inr x)
  .exact .inr (.inl (u _ x)),fun b hb=>by
  rcases B.own b hb with x|x|x
  .exact .inl (D b x)
  .exact .inr x
  .exact .inl (u b x)⟩
 refine ⟨N+bb,bc,w2,bd,t2,bj,bk,bl,bm,by rw[j6 k1];exact bo,br,O.trans bz,fun l m=>?_,b0⟩
 rcases bS l m with x|x|x
 .rcases a9 l x with y|⟨a,rfl,d⟩
  .exact .inl y
  .exact .inr (.inr (show a.block∈keys F.own from u _ (.inr (.inl d))))
 .exact .inr (.inl fun J=>x (Loc.low_mono B.size J))
 .cases l with
  |cell a=>
   rcases O.own _ x with y|y
   .exact .inr (.inr y)
   .exact .inr (.inl fun J=>absurd J (Nat.not_lt.2 y))
  |obj r=>
   rcases O.own _ x with y|y
   .exact .inr (.inr y)
   .exact .inr (.inl fun J=>absurd J (Nat.not_lt.2 y))
  |_=>exact x.elim
end Go.Sep
end

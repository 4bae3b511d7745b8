/- A part of the proof: QT8. -/
import Derived.Test.YtbpddfapodiemaaGreatDoorQT7
import Derived.Conc.CrowdTrace
set_option linter.all false
section
namespace Go.Sep
open Go Go.Conc
open Go.ConcN (PermW fork_knows)
open Go.ConcM (MuAt muA msA muBlock)
open Go.ConcR (WgAt wgBlock stA smA)
structure Cy where
 P:Program
 Mu:Nat
 Wg:Nat
 Is:Nat
 tM:TypeId
 tW:TypeId
 tI:TypeId
 n:Nat
 bs:Nat->Bool
 base:Nat
 T0:Nat
def Cy.shared (c:Cy)(b:Nat):Prop:=b=c.Mu\/b=c.Wg\/b=c.Is
def Cy.sy (c:Cy)(l:Loc):Prop:=∃a,l= .cell a/\(a.block=c.Mu\/a.block=c.Wg)
def Cy.gid (c:Cy):Nat->Nat
 |0=>0
 |i+1=>c.base+i
theorem Cy.KC (c:Cy)(hb:0<c.base){p q:Nat}(h:p≠q):c.gid p≠c.gid q:=by
 cases p<;>cases q<;>simp[Cy.gid] at*<;>omega
def fP (F:af):Loc->Prop
 | .cell a=>a.block∈keys F.own
 | .obj r=>r∈keys F.own
 |_=>False
def jr (F:af)(l:Loc):Prop:=∃a,l= .cell a/\(F.ro a).isSome=true
def lI (B:Nat):Loc->Prop
 | .cell a=>B<=a.block
 | .obj r=>B<=r
 |_=>False
def qf (c:Cy)(i:Nat)(l:Loc):Prop:=l= .cell ⟨c.Is,i,none⟩
structure ef (c:Cy)(k:Nat)(Fr:Nat->af)(w:World):Prop where
 has:∀p,p<=k->Has (Fr p) w
 own:∀p q,p<=k->q<=k->p≠q->∀b∈keys (Fr p).own,b∉keys (Fr q).own
 ro:∀p q,p<=k->q<=k->p≠q->∀a,((Fr p).ro a).isSome=true->a.block∉keys (Fr q).own
 iB:∀p,p<=k->∀b∈keys (Fr p).own,¬c.shared b
 jZ:∀p,p<=k->∀a,((Fr p).ro a).isSome=true->¬c.shared a.block
 hU:∀b,c.shared b->b<w.heap.size
structure gU (c:Cy)(t:Trace)(g r:Nat):Prop where
 late:c.T0<=r
 act:t.act? r=some (.mark (.releaseMerge (stA c.Wg)))
 DJ:t.g? r=some g
 heard:t.heard r
 after:∀i x,r<i->t.g? i=some g->touchAt t i=some x->x.kind= .atomic/\¬t.heard i/\∃a,x.loc= .cell a/\a.block=c.Wg
structure eW (c:Cy)(bJ:Loc->Prop)(k:Nat)(Fr:Nat->af)(B:Nat)(t:Trace):Prop where
 len:c.T0<=t.size
 quiet:∀i a,touchAt t i=some a->c.sy a.loc->(a.kind≠ .plain/\(a.kind= .said->t.g? i=some 0))\/∀p,p<=k->Go.Conc.Knows t (c.gid p) i
 nr:∀said,¬Race said t
 own:∀p,p<=k->∀l,fP (Fr p) l->Perm t (c.gid p) l
 ro:∀p,p<=k->∀l,jr (Fr p) l->PermW t (c.gid p) l
 vi:∀i,i<k->∀l,qf c i l->Perm t (c.base+i) l
 vj:∀i,k<=i->∀l,qf c i l->Perm t 0 l
 low:∀op∈t,op.act.low B
 norel:∀i,c.T0<=i->t.act? i≠some (.mark (.release (stA c.Wg)))
 known:∀i a,touchAt t i=some a->a.loc.isMemory=true->Go.Conc.Knows t 0 i\/(bJ a.loc/\a.kind= .atomic)\/∃j,j<k/\t.g? i=some (c.base+j)
 over:∀i g,t.g? i=some g->g≠0->t.counts i->(∃j,t.g? j=some 0/\HappensBefore t i j)\/∃j,j<k/\g=c.base+j
def vk (c:Cy)(F:af)(B p:Nat)(x:Touch):Prop:=
 fP F x.loc\/lI B x.loc\/(jr F x.loc/\x.write=false)\/(c.sy x.loc/\x.kind≠ .plain/\(x.kind= .said->p=0))\/(∃i,p=i+1/\qf c i x.loc)\/x.loc.isMemory=false
theorem DK {B:Nat}{l:Loc}(h:l.low B)(b:lI B l):False:=by
 cases l with
 |cell a=>exact absurd h (Nat.not_lt.2 b)
 |obj r=>exact absurd h (Nat.not_lt.2 b)
 |_=>exact b
theorem DL {B:Nat}{t:Trace}(h:∀op∈t,op.act.low B){i:Nat}{a:Touch}(c:touchAt t i=some a):a.loc.low B:=by
 obtain ⟨x,d,b⟩:=touch_of c;have hm:=h x (Array.mem_of_getElem? d);obtain ⟨g,fn,pos,act⟩:=x;cases act with
 |access e=>simp only[MemAct.touch?,Option.some.injEq] at b;subst b;exact hm
 |mark m=>cases m<;>simp only[MemAct.touch?,Option.some.injEq] at b<;>first|(subst b;exact hm)|cases b
 |_=>cases b
theorem KD {F:af}{w:World}(h:Has F w){l:Loc}(hl:fP F l):¬lI w.heap.size l:=by
 cases l with
 |cell a=>exact fun x=>absurd (h.lt hl) (Nat.not_lt.2 x)
 |obj r=>exact fun x=>absurd (h.lt hl) (Nat.not_lt.2 x)
 |_=>exact hl.elim
theorem KE {F:af}{w:World}(h:Has F w){l:Loc}(hl:jr F l):¬lI w.heap.size l:=by
 obtain ⟨a,rfl,b⟩:=hl;exact fun x=>absurd (h.iH b) (Nat.not_lt.2 x)
section
variable {c:Cy}{bJ:Loc->Prop}{k:Nat}{Fr:Nat->af}{w:World}{t u:Trace}
theorem ef.sep (h:ef c k Fr w){p q:Nat}(d:p<=k)(e:q<=k)(aO:p≠q){l:Loc}(b:fP (Fr p) l)(f:fP (Fr q) l):False:=by
 cases l with
 |cell a=>exact h.own p q d e aO _ b f
 |obj r=>exact h.own p q d e aO _ b f
 |_=>exact b
theorem ef.DN (h:ef c k Fr w){p q:Nat}(b:p<=k)(d:q<=k)(aO:p≠q){l:Loc}(e:jr (Fr p) l)(f:fP (Fr q) l):False:=by
 obtain ⟨a,rfl,g⟩:=e;exact h.ro p q b d aO a g f
theorem ef.DO (h:ef c k Fr w){p:Nat}(d:p<=k){l:Loc}(e:fP (Fr p) l)(b:c.sy l):False:=by
 obtain ⟨a,rfl,b⟩:=b;exact h.iB p d _ e (b.elim .inl fun x=>.inr (.inl x))
theorem ef.DQ (h:ef c k Fr w){p:Nat}(f:p<=k){l:Loc}(b:jr (Fr p) l)(d:c.sy l):False:=by
 obtain ⟨a,rfl,b⟩:=b;obtain ⟨g,e,d⟩:=d;cases e;exact h.jZ p f _ b (d.elim .inl fun x=>.inr (.inl x))
theorem ef.y9 (h:ef c k Fr w){p i:Nat}(a:p<=k){l:Loc}(b:fP (Fr p) l)(d:qf c i l):False:=by
 subst d;exact h.iB p a _ b (.inr (.inr rfl))
theorem ef.za (h:ef c k Fr w){p i:Nat}(d:p<=k){l:Loc}(b:jr (Fr p) l)(f:qf c i l):False:=by
 subst f;obtain ⟨a,e,b⟩:=b;cases e;exact h.jZ p d _ b (.inr (.inr rfl))
theorem ef.KF (h:ef c k Fr w){l:Loc}(d:lI w.heap.size l)(b:c.sy l):False:=by
 obtain ⟨a,rfl,b⟩:=b;exact absurd (h.hU _ (b.elim .inl fun x=>.inr (.inl x))) (Nat.not_lt.2 d)
theorem ef.DR (h:ef c k Fr w){i:Nat}{l:Loc}(a:lI w.heap.size l)(b:qf c i l):False:=by
 subst b;exact absurd (h.hU _ (.inr (.inr rfl))) (Nat.not_lt.2 a)
theorem vl {a:Addr}{T:Nat}(h:∀i,T<=i->t.act? i≠some (.mark (.release a)))(hu:∀op∈u,op.act≠ .mark (.release a)):∀i,T<=i->(t++u).act? i≠some (.mark (.release a)):=by
 intro i c hi;obtain ⟨op,d,b⟩:=Option.map_eq_some_iff.1 hi;rcases getElem?_append_cases d with ⟨_,e⟩|⟨_,f⟩
 .exact h i c (by rw[act?_of e,b])
 .exact hu op f b
theorem DS (h:∀i a,touchAt t i=some a->c.sy a.loc->(a.kind≠ .plain/\(a.kind= .said->t.g? i=some 0))\/∀p,p<=k->Go.Conc.Knows t (c.gid p) i)
  (hu:∀op∈u,∀x,op.act.touch?=some x->c.sy x.loc->x.kind≠ .plain/\(x.kind= .said->op.g=0)):
  ∀i a,touchAt (t++u) i=some a->c.sy a.loc->(a.kind≠ .plain/\(a.kind= .said->(t++u).g? i=some 0))\/∀p,p<=k->Go.Conc.Knows (t++u) (c.gid p) i:=by
 intro i a f hs
 obtain ⟨x,b,d⟩:=touch_of f
 rcases getElem?_append_cases b with ⟨hi,j⟩|⟨_,l⟩
 .rcases h i a (by rw[touchAt_of j];exact d) hs with ⟨y,z⟩|y
  .exact .inl ⟨y,fun e=>by rw[g?_old hi];exact z e⟩
  .exact .inr fun p m=>(y p m).app u
 .obtain ⟨y,z⟩:=hu x l a d hs
  exact .inl ⟨y,fun e=>by simp[Trace.g?,b,z e]⟩
theorem eW.app (hb:0<c.base)(aO:c.Mu≠c.Is/\c.Wg≠c.Is)(m:ef c k Fr w)(h:eW c bJ k Fr w.heap.size t){p:Nat}(r:p<=k){dA:Nat->af}{I:Nat}(Q:w.heap.size<=I)
  (hu:∀op∈u,op.g=c.gid p) (C:∀op∈u,∀x,op.act.touch?=some x->vk c (Fr p) w.heap.size p x)
  (R:∀op∈u,op.act.low I) (S:∀op∈u,op.act≠ .mark (.release (stA c.Wg)))
  (M:∀q,q≠p->dA q=Fr q) (T:∀l,fP (dA p) l->fP (Fr p) l\/lI w.heap.size l) (U:∀l,jr (dA p) l->jr (Fr p) l\/fP (Fr p) l\/lI w.heap.size l):
  eW c bJ k dA I (t++u):=by
 have a2:∀op∈u,∀x,op.act.touch?=some x->x.loc.isMemory=false->∀l:Loc,l.isMemory=true->x.loc≠l:=fun op _ x _ N l hl e=>by rw[e,hl] at N;cases N
 have V:∀{F:af} {l:Loc},fP F l->l.isMemory=true:=fun {F l} hl=>by cases l<;>first|rfl|exact hl.elim
 have W:∀{F:af} {l:Loc},jr F l->l.isMemory=true:=fun {F l} hl=>by obtain ⟨a,rfl,_⟩:=hl;rfl
 have a3:∀q,q≠p->c.gid q≠c.gid p:=fun q f=>c.KC hb f
 have X:∀q,q<=k->q≠p->∀l,fP (Fr q) l->∀op∈u,∀b,op.act.touch?=some b->b.loc≠l:=by
  intro q f s l hl op d b n e
  rcases C op d b n with x|x|⟨x,_⟩|⟨x,_⟩|⟨i,_,x⟩|x<;>rw[e] at x
  .exact m.sep f r s hl x
  .exact KD (m.has q f) hl x
  .exact m.DN r f (Ne.symm s) x hl
  .exact m.DO f hl x
  .exact m.y9 f hl x
  .rw[V hl] at x;cases x
 have Y:∀q,q<=k->q≠p->∀l,jr (Fr q) l->∀op∈u,∀b,op.act.touch?=some b->b.loc=l->b.write=true->False:=by
  intro q f s l hl op d b n e hw
  rcases C op d b n with x|x|⟨x,Z⟩|⟨x,_⟩|⟨i,_,x⟩|x
  .rw[e] at x;exact m.DN f r s hl x
  .rw[e] at x;exact KE (m.has q f) hl x
  .rw[Z] at hw;cases hw
  .rw[e] at x;exact m.DQ f hl x
  .rw[e] at x;exact m.za f hl x
  .rw[e,W hl] at x;cases x
 have fresh:∀l,lI w.heap.size l->Perm (t++u) (c.gid p) l:=by
  intro l hl i a A e
  obtain ⟨x,B,J⟩:=touch_of A
  rcases getElem?_append_cases B with ⟨hi,K⟩|⟨_,G⟩
  .have:=DL h.low (show touchAt t i=some a by rw[touchAt_of K];exact J)
   rw[e] at this
   exact (DK this hl).elim
  .have:=knows_own B
   rwa [hu x G] at this
 refine ⟨by have:=h.len;simp;omega,DS h.quiet fun op d x B hs=>?_,fun said=>?_,fun q f l hl=>?_,fun q f l hl=>?_,fun i hi l hl=>?_,fun i hi l hl=>?_,fun op d=>?_,vl h.norel S,fun i a A hm=>?_,fun i g hg D v=>?_⟩
 .rcases C op d x B with y|y|⟨y,_⟩|⟨_,y,z⟩|⟨i,_,y⟩|y
  .exact (m.DO r y hs).elim
  .exact (m.KF y hs).elim
  .exact (m.DQ r y hs).elim
  .exact ⟨y,fun e=>by rw[hu op d,z e];rfl⟩
  .obtain ⟨a,e,hs⟩:=hs
   rw[show x.loc=_ from y] at e
   cases e
   rcases hs with hs|hs
   .exact absurd hs.symm aO.1
   .exact absurd hs.symm aO.2
  .obtain ⟨a,e,_⟩:=hs;rw[e] at y;cases y
 .refine noRace_append (h.nr said) hu fun i a A op d b n v=>?_
  rcases C op d b n with y|y|⟨y,z⟩|⟨y,y',z⟩|⟨j,rfl,y⟩|y
  .exact h.own p r _ y i a A v.1
  .have:=DL h.low A
   rw[v.1] at this
   exact (DK this y).elim
  .exact h.ro p r _ y i a A v.1 (v.2.2.1.resolve_right (by rw[z];simp))
  .rcases h.quiet i a A (by rw[v.1];exact y) with ⟨ab,ad⟩|q
   .obtain ⟨_,_,_,ae⟩:=v
    rcases ae with e|e|⟨_,e,H⟩
    .exact absurd e ab
    .exact absurd e y'
    .have D:=ad e
     unfold Trace.g? at D
     obtain ⟨o,al,ao⟩:=Option.map_eq_some_iff.1 D
     have:=knows_own al
     rw[ao] at this
     rw[z H];exact this
   .exact q p r
  .exact h.vi j aa _ y i a A v.1
  .rw[<-v.1,v.2.1] at y;cases y
 .by_cases s:q=p
  .subst s
   rcases T l hl with y|y
   .exact (h.own q f l y).app fun op d _ _ _=>hu op d
   .exact fresh l y
  .rw[M q s] at hl
   exact (h.own q f l hl).app fun op d b n e=>absurd e (X q f s l hl op d b n)
 .by_cases s:q=p
  .subst s
   rcases U l hl with y|y|y
   .exact (h.ro q f l y).app fun op d _ _ _ _=>hu op d
   .exact .of ((h.own q f l y).app fun op d _ _ _=>hu op d)
   .exact .of (fresh l y)
  .rw[M q s] at hl
   exact (h.ro q f l hl).app fun op d b n e hw=>(Y q f s l hl op d b n e hw).elim
 .refine (h.vi i hi l hl).app fun op d b n e=>?_
  rcases C op d b n with y|y|⟨y,_⟩|⟨y,_⟩|⟨j,H,y⟩|y<;>rw[e] at y
  .exact (m.y9 r y hl).elim
  .exact (m.DR y hl).elim
  .exact (m.za r y hl).elim
  .obtain ⟨a,e,hs⟩:=y
   rw[show l=_ from hl] at e
   cases e
   rcases hs with hs|hs
   .exact absurd hs.symm aO.1
   .exact absurd hs.symm aO.2
  .have:i=j:=by rw[show l=_ from hl] at y;cases y;rfl
   rw[hu op d,H,this];rfl
  .rw[show l=_ from hl] at y;cases y
 .refine (h.vj i hi l hl).app fun op d b n e=>?_
  rcases C op d b n with y|y|⟨y,_⟩|⟨y,_⟩|⟨j,H,y⟩|y<;>rw[e] at y
  .exact (m.y9 r y hl).elim
  .exact (m.DR y hl).elim
  .exact (m.za r y hl).elim
  .obtain ⟨a,e,hs⟩:=y
   rw[show l=_ from hl] at e
   cases e
   rcases hs with hs|hs
   .exact absurd hs.symm aO.1
   .exact absurd hs.symm aO.2
  .have:i=j:=by rw[show l=_ from hl] at y;cases y;rfl
   omega
  .rw[show l=_ from hl] at y;cases y
 .exact (Array.mem_append.1 d).elim (fun x=>MemAct.low_mono Q (h.low op x)) (R op)
 .obtain ⟨x,B,J⟩:=touch_of A
  rcases getElem?_append_cases B with ⟨hi,K⟩|⟨_,G⟩
  .rcases h.known i a (by rw[touchAt_of K];exact J) hm with y|y|⟨j,E,y⟩
   .exact .inl (y.app u)
   .exact .inr (.inl y)
   .exact .inr (.inr ⟨j,E,by rw[g?_old hi];exact y⟩)
  .cases p with
   |zero=>have:=knows_own B;rw[hu x G] at this;exact .inl this
   |succ j=>exact .inr (.inr ⟨j,aa,by simp[Trace.g?,B,hu x G,Cy.gid]⟩)
 .by_cases hi:i<t.size
  .rcases h.over i g (by rw[<-g?_old (u:=u) hi];exact hg) D ((counts_old hi).1 v) with ⟨j,E,y⟩|y
   .have ar:j<t.size:=by
     unfold Trace.g? at E
     obtain ⟨z,L,_⟩:=Option.map_eq_some_iff.1 E
     exact lt_size_of_getElem? L
    exact .inl ⟨j,by rw[g?_old ar];exact E,hb_app u y⟩
   .exact .inr y
  .unfold Trace.g? at hg
   obtain ⟨z,L,O⟩:=Option.map_eq_some_iff.1 hg
   rcases getElem?_append_cases L with ⟨a0,_⟩|⟨_,P⟩
   .exact absurd a0 hi
   .cases p with
    |zero=>exact absurd (O▸(hu z P)) D
    |succ j=>exact .inr ⟨j,aa,by rw[<-O,hu z P];rfl⟩
theorem gU.app {g r:Nat}(h:gU c t g r)(hu:∀i x,t.size<=i->(t++u).g? i=some g->touchAt (t++u) i=some x->x.kind= .atomic/\¬(t++u).heard i/\∃a,x.loc= .cell a/\a.block=c.Wg):gU c (t++u) g r:=by
 have b:r<t.size:=lt_of_act? h.act;refine ⟨h.late,by rw[act?_old b];exact h.act,by rw[g?_old b];exact h.DJ,(heard_old b).2 h.heard,fun i x hi hg e=>?_⟩;rcases Nat.lt_or_ge i t.size with d|f
 .rw[heard_old d];exact h.after i x hi (by rw[<-g?_old (u:=u) d];exact hg) (by rw[<-touchAt_old (u:=u) d];exact e)
 .exact hu i x f hg e
theorem gU.other {g r g':Nat}(h:gU c t g r)(aO:g'≠g)(hu:∀op∈u,op.g=g'):gU c (t++u) g r:=by
 refine h.app fun i x hi hg e=>?_;unfold Trace.g? at hg;obtain ⟨z,a,b⟩:=Option.map_eq_some_iff.1 hg;rcases getElem?_append_cases a with ⟨f,_⟩|⟨_,d⟩
 .omega
 .exact absurd (hu z d▸b) aO
theorem eW.fork (hb:0<c.base)(G:ef c k Fr w)(h:eW c bJ k Fr w.heap.size t){x y:MemOp}(n:x.g=0/\x.act= .go (c.base+k))(o:y.g=c.base+k/\y.act= .start)(B:Deaf t 0=0)(hk:Deaf t (c.base+k)=0)
  {dA:Nat->af} (D:∀q,q<=k->dA q=Fr q) (H:∀l,¬fP (dA (k+1)) l) (I:∀l,jr (dA (k+1)) l->jr (Fr 0) l):eW c bJ (k+1) dA w.heap.size (t++#[x,y]):=by
 have r:∀op∈#[x,y],∀b,op.act.touch?=some b->False:=by
  intro op d b hb
  simp only[List.mem_toArray,List.mem_cons,List.not_mem_nil,or_false] at d
  rcases d with rfl|rfl
  .rw[n.2] at hb;cases hb
  .rw[o.2] at hb;cases hb
 have old:∀{i:Nat} {a:Touch},touchAt (t++#[x,y]) i=some a->touchAt t i=some a/\i<t.size:=by
  intro i a f
  obtain ⟨z,s,E⟩:=touch_of f
  rcases getElem?_append_cases s with ⟨hi,J⟩|⟨_,K⟩
  .exact ⟨by rw[touchAt_of J];exact E,hi⟩
  .exact (r z K a E).elim
 refine ⟨by have:=h.len;simp;omega,fun i a f hs=>?_,fun said=>?_,fun q L l hl=>?_,fun q L l hl=>?_,fun i hi l hl=>?_,fun i hi l hl=>?_,fun op d=>?_,vl h.norel fun op d=>?_,fun i a f hm=>?_,fun i g hg M F=>?_⟩
 .obtain ⟨C,hi⟩:=old f
  rcases h.quiet i a C hs with ⟨N,O⟩|q
  .exact .inl ⟨N,fun e=>by rw[g?_old hi];exact O e⟩
  .refine .inr fun p G=>?_
   rcases Nat.lt_or_ge k p with A|m
   .obtain rfl:p=k+1:=aa
    exact fork_knows n o B hk (q 0 (Nat.zero_le _))
   .exact (q p m).app _
 .have e:t++#[x,y]=(t++#[x])++#[y]:=by apply Array.ext';simp
  rw[e]
  refine noRace_append (g:=c.base+k) (noRace_append (g:=0) (h.nr said) (fun op d=>by simp at d;rw[d];exact n.1) (fun i a _ op d b hb _=>(r op (by simp at d ⊢;exact .inl d) b hb).elim))
   (fun op d=>by simp at d;rw[d];exact o.1) (fun i a _ op d b hb _=>(r op (by simp at d ⊢;exact .inr d) b hb).elim)
 .rcases Nat.lt_or_ge k q with A|m
  .obtain rfl:q=k+1:=aa
   exact (H l hl).elim
  .rw[D q m] at hl
   exact (h.own q m l hl).app fun op d b hb _=>(r op d b hb).elim
 .rcases Nat.lt_or_ge k q with A|m
  .obtain rfl:q=k+1:=aa
   exact fun i a f e hw=>fork_knows n o B hk (h.ro 0 (Nat.zero_le _) l (I l hl) i a (old f).1 e hw)
  .rw[D q m] at hl
   exact (h.ro q m l hl).app fun op d b hb _ _=>(r op d b hb).elim
 .rcases Nat.lt_or_ge i k with A|m
  .exact (h.vi i A l hl).app fun op d b hb _=>(r op d b hb).elim
  .obtain rfl:i=k:=aa
   exact fun j a f e=>fork_knows n o B hk (h.vj i (Nat.le_refl _) l hl j a (old f).1 e)
 .exact (h.vj i aa l hl).app fun op d b hb _=>(r op d b hb).elim
 .rcases Array.mem_append.1 d with z|z
  .exact h.low op z
  .simp only[List.mem_toArray,List.mem_cons,List.not_mem_nil,or_false] at z
   rcases z with rfl|rfl
   .rw[n.2];trivial
   .rw[o.2];trivial
 .simp only[List.mem_toArray,List.mem_cons,List.not_mem_nil,or_false] at d
  rcases d with rfl|rfl
  .rw[n.2];simp
  .rw[o.2];simp
 .obtain ⟨C,hi⟩:=old f
  rcases h.known i a C hm with z|z|⟨j,v,z⟩
  .exact .inl (z.app _)
  .exact .inr (.inl z)
  .exact .inr (.inr ⟨j,aa,by rw[g?_old hi];exact z⟩)
 .have P:=F
  obtain ⟨z,s,_⟩:=F
  obtain ⟨_,hi⟩:=old (show touchAt _ i=some z from s)
  rcases h.over i g (by rw[<-g?_old (u:=#[x,y]) hi];exact hg) M ((counts_old hi).1 P) with ⟨j,v,y'⟩|⟨j,v,y'⟩
  .have Q:j<t.size:=by
    unfold Trace.g? at v
    obtain ⟨z,s,_⟩:=Option.map_eq_some_iff.1 v
    exact lt_size_of_getElem? s
   exact .inl ⟨j,by rw[g?_old Q];exact v,hb_app _ y'⟩
  .exact .inr ⟨j,aa,y'⟩
theorem eW.gw (h:eW c bJ k Fr w.heap.size t)(d:∀i,i<k->∃r,gU c t (c.base+i) r){y:MemOp}(f:y.g=0/\y.act= .mark (.acquire (stA c.Wg)))(B:Deaf t 0=0)(I:c.Wg<w.heap.size):
  Past (fun l=>bJ l\/∃a,l= .cell a/\a.block=c.Wg) w.heap.size (t++#[y]):=by
 have hyp:(t++#[y])[t.size]?=some y:=by rw[Array.getElem?_append_right (Nat.le_refl _)];simp
 have C:∀op∈#[y],∀b,op.act.touch?=some b->False:=by
  intro op e b hb
  simp only[List.mem_toArray,List.mem_cons,List.not_mem_nil,or_false] at e
  rw[e,f.2] at hb;cases hb
 have old:∀{i:Nat} {a:Touch},touchAt (t++#[y]) i=some a->touchAt t i=some a/\i<t.size:=by
  intro i a s
  obtain ⟨z,o,D⟩:=touch_of s
  rcases getElem?_append_cases o with ⟨hi,v⟩|⟨_,J⟩
  .exact ⟨by rw[touchAt_of v];exact D,hi⟩
  .exact (C z J a D).elim
 have heard:(t++#[y]).heard t.size:=⟨0,by simp[Trace.g?,f.1],by rw[deaf_old (Nat.le_refl _)];exact B⟩
 have norel:=vl (u:=#[y]) h.norel fun op e=>by
  simp only[List.mem_toArray,List.mem_cons,List.not_mem_nil,or_false] at e
  rw[e,f.2];simp
 have yY:∀g r,gU c t g r->HappensBefore (t++#[y]) r t.size:=fun g r d=>
  .single (.inr ⟨.marked (a:=stA c.Wg) (lt_of_act? d.act) (.inr (by rw[act?_old (lt_of_act? d.act)];exact d.act)) (by rw[act?_of hyp,f.2]) (fun k hk _=>norel k (Nat.le_of_lt (Nat.lt_of_le_of_lt d.late hk))),(heard_old (lt_of_act? d.act)).2 d.heard,heard⟩)
 have upto:∀g r i,gU c t g r->t.g? i=some g->i<=r->HappensBefore (t++#[y]) i t.size:=fun g r i d hg hle=>by
  have E:=lt_of_act? d.act
  rcases Nat.lt_or_ge i r with n|p
  .exact .trans (.single (.inl ⟨n,g,by rw[g?_old (Nat.lt_trans n E)];exact hg,by rw[g?_old E];exact d.DJ⟩)) (yY g r d)
  .obtain rfl:i=r:=aa
   exact yY g i d
 refine ⟨fun said=>noRace_append (g:=0) (h.nr said) (fun op e=>by simp at e;rw[e];exact f.1) (fun i a _ op e b hb _=>(C op e b hb).elim),fun i a s hm=>?_,fun i g hg K F=>?_,?_,fun op e=>?_⟩
 .obtain ⟨G,hi⟩:=old s
  rcases h.known i a G hm with z|z|⟨j,m,z⟩
  .exact .inl (z.app _)
  .exact .inr ⟨.inl z.1,z.2⟩
  .obtain ⟨r,d⟩:=d j m
   rcases Nat.lt_or_ge r i with n|p
   .obtain ⟨x,_,A⟩:=d.after i a n z G
    exact .inr ⟨.inr A,x⟩
   .exact .inl ⟨t.size,y,hyp,f.1,.inr (upto _ r i d z p)⟩
 .have L:=F
  obtain ⟨z,o,O,M⟩:=F
  obtain ⟨v,hi⟩:=old (show touchAt _ i=some z from o)
  rcases h.over i g (by rw[<-g?_old (u:=#[y]) hi];exact hg) K ((counts_old hi).1 L) with ⟨j,m,y'⟩|⟨j,m,y'⟩
  .have N:j<t.size:=by
    unfold Trace.g? at m
    obtain ⟨z,o,_⟩:=Option.map_eq_some_iff.1 m
    exact lt_size_of_getElem? o
   exact ⟨j,by rw[g?_old N];exact m,hb_app _ y'⟩
  .obtain ⟨r,d⟩:=d j m
   have H:t.g? i=some (c.base+j):=by rw[<-g?_old (u:=#[y]) hi,hg,y']
   rcases Nat.lt_or_ge r i with n|p
   .obtain ⟨x,A,_⟩:=d.after i z n H v
    rcases M with q|q
    .exact absurd x q
    .exact absurd ((heard_old hi).1 q) A
   .exact ⟨t.size,by simp[Trace.g?,f.1],upto _ r i d H p⟩
 .rw[Deaf_push]
  simp only[deafStep,f.2]
  exact B
 .rcases Array.mem_append.1 e with z|z
  .exact h.low op z
  .simp only[List.mem_toArray,List.mem_cons,List.not_mem_nil,or_false] at z
   rw[z,f.2];exact I
end
end Go.Sep
end
section
namespace Go.Sep
open Go Go.Conc
open Go.ConcN (sumTo upd upd_ne upd_same sumTo_congr)
open Go.ConcM (MuAt muA msA muBlock OsLater)
open Go.ConcR (WgAt wgBlock stA smA)
def c8 (m:Mark):Event:=⟨.mark m,false,true⟩
def cQ (c:Cy)(w:World)(s:Sh):Prop:=MuAt c.tM c.Mu w s.mu s.ms/\WgAt c.tW c.Wg w s.wg s.ws/\w.heap[c.Is]?=some (.cells (s.is.map Value.bool).toArray c.tI)
structure iV (c:Cy)(w w':World):Prop where
 tape:w'.tape=w.tape
 output:w'.output=w.output
 size:w'.heap.size=w.heap.size
 os:OsLater w.os w'.os
 block:∀k,¬c.shared k->w'.heap[k]?=w.heap[k]?
theorem iV.refl (c:Cy)(w:World):iV c w w:=⟨rfl,rfl,rfl,.refl _,fun _ _=>rfl⟩
inductive EvA (c:Cy)(i:Nat)(ph aX:Ph)(es:Array Event):Prop
 |book (h:∀e∈es,e=c8 .disable\/e=c8 .enable\/∃a x,e=⟨.cell a,x,true⟩/\(a.block=c.Wg\/(a.block=c.Mu/\ph.gp= .cnt))) (hd:deafBehind ph.deaf es=aX.deaf)
   (ht:∀j e,es[j]?=some e->(MemAct.ofEvent e).touch?=none\/0<deafBehind ph.deaf (es.extract 0 j)) (hg:aX.gp= .cnt↔ph.gp= .cnt)
 |word (m:Mark) (he:es=#[c8 m]) (hm:m= .acquire (muA c.Mu)\/m= .releaseMerge (muA c.Mu)) (hd:aX.deaf=ph.deaf) (hg:aX.gp= .cnt/\ph.gp= .cnt)
 |store (he:es=#[⟨.cell ⟨c.Is,i,none⟩,true,false⟩]) (hd:aX.deaf=ph.deaf) (hg:aX.gp= .cnt/\ph.gp= .cnt)
 |rel (he:es=#[c8 (.releaseMerge (stA c.Wg))]) (hd:ph.deaf=0/\aX.deaf=0) (hg:ph.gp= .cnt)
def js (c:Cy)(i:Nat):Rk->Goroutine->af->Ph->Prop
 | .mk ι f,g,F,ph=>
  (ph.gp= .gone/\∃q,Rk.mk ι f=Rk.nat q/\QuitsD c.P q ph.deaf g)\/
  (g.status= .running/\g.offers=none/\ph.gp= .cnt/\∀w,Has F w->∃(x:ι) (g':Goroutine) (w':World) (es:Array Event) (F':af),
   stepG c.P false g w= .go g' w' es/\eC F F' w w'/\Has F' w'/\(∀e∈es,jA F.ro (iG F w.heap.size w'.heap.size) e)/\js c i (f x) g' F' ph)\/
  (g.status= .running/\g.offers=none/\ph.gp≠ .gone/\∀(w:World) (s:Sh) (k:Nat) (φ:Nat->Ph) (p0:P0),Has F w->cQ c w s->i<c.n->φ i=ph->Inv c.n c.bs k φ p0 s->
   (ph.mp.jo=true/\s.ms=0/\stepG c.P false g w= .go {g with status:=.blocked} w #[])\/
   (∃(x:ι) (g':Goroutine) (w':World) (es:Array Event) (s':Sh) (aX:Ph) (F':af),stepG c.P false g w= .go g' w' es/\cQ c w' s'/\iV c w w'/\Inv c.n c.bs k (upd φ i aX) p0 s'/\EvA c i ph aX es/\
    (mayWake c.P g=true\/(s'.ms<=s.ms/\s'.ws<=s.ws))/\Le F' F/\js c i (f x) g' F' aX))
def Wk (c:Cy)(i:Nat)(ph:Ph)(g:Goroutine)(F:af):Prop:=∃F0 r,Le F0 F/\js c i r g F0 ph
theorem Wk.mono {c:Cy}{i:Nat}{ph:Ph}{g:Goroutine}{F F':af}(hle:Le F F')(h:Wk c i ph g F):Wk c i ph g F':=
 let ⟨F0,r,a,b⟩:=h;⟨F0,r,a.trans hle,b⟩
theorem Wk.closed (c:Cy)(i:Nat)(ph:Ph)(hg:ph.gp= .cnt):Closed c.P false (fun g F=>Wk c i ph g F) where
 mono hle h:=h.mono hle
 step {fr cs F} h:=by
  classical
  let Q:World->Rk->Prop:=fun w r=>∃(g':Goroutine) (w':World) (es:Array Event) (F':af),
   stepG c.P false (G fr cs) w= .go g' w' es/\eC F F' w w'/\Has F' w'/\(∀e∈es,jA F.ro (iG F w.heap.size w'.heap.size) e)/\js c i r g' F' ph
  refine ⟨F,.mk World fun w=>if f:∃r,Q w r then Classical.choose f else Rk.nat 0,.refl F,?_⟩
  refine .inr (.inl ⟨rfl,rfl,hg,fun w hw=>?_⟩)
  obtain ⟨g',w',es,F',k,d,l,m,F0,r,j,n⟩:=h w hw
  have f:∃r,Q w r:=⟨r,g',w',es,F0,k,⟨d.os,d.tape,d.output,d.size,d.frame,fun a o=>(j.ro a o).elim (d.ro a) fun x=>.inr (d.own _ x),fun b hb=>d.own b (j.own b hb)⟩,j.has _ l,m,n⟩
  obtain ⟨g',w',es,F',k1,p,q,s,t⟩:=Classical.choose_spec f
  exact ⟨w,g',w',es,F',k1,p,q,s,by simp only[dif_pos f];exact t⟩
theorem Wk.act {c:Cy}{i:Nat}{ph:Ph}{g:Goroutine}{F:af}(hs:g.status= .running)(o:g.offers=none)(hg:ph.gp≠ .gone)
  (h:∀(w:World) (s:Sh) (k:Nat) (φ:Nat->Ph) (p0:P0),Has F w->cQ c w s->i<c.n->φ i=ph->Inv c.n c.bs k φ p0 s->
   (ph.mp.jo=true/\s.ms=0/\stepG c.P false g w= .go {g with status:=.blocked} w #[])\/
   (∃(g':Goroutine) (w':World) (es:Array Event) (s':Sh) (aX:Ph),stepG c.P false g w= .go g' w' es/\cQ c w' s'/\iV c w w'/\Inv c.n c.bs k (upd φ i aX) p0 s'/\EvA c i ph aX es/\
    (mayWake c.P g=true\/(s'.ms<=s.ms/\s'.ws<=s.ws))/\Wk c i aX g' F)):Wk c i ph g F:=by
 classical
 let Q:World×Sh×Nat×(Nat->Ph)×P0->Rk->Prop:=fun y r=>∃(g':Goroutine) (w':World) (es:Array Event) (s':Sh) (aX:Ph) (F':af),stepG c.P false g y.1= .go g' w' es/\cQ c w' s'/\iV c y.1 w'/\Inv c.n c.bs y.2.2.1 (upd y.2.2.2.1 i aX) y.2.2.2.2 s'/\EvA c i ph aX es/\
    (mayWake c.P g=true\/(s'.ms<=y.2.1.ms/\s'.ws<=y.2.1.ws))/\Le F' F/\js c i r g' F' aX
 refine ⟨F,.mk (World×Sh×Nat×(Nat->Ph)×P0) fun y=>if a:∃r,Q y r then Classical.choose a else Rk.nat 0,.refl F,?_⟩
 refine .inr (.inr ⟨hs,o,hg,fun w s k φ p0 p q t u v=>?_⟩)
 rcases h w s k φ p0 p q t u v with x|⟨g',w',es,s',aX,k1,b,d,e,f,j,F',r,l,m⟩
 .exact .inl x
 .have a:∃r,Q (w,s,k,φ,p0) r:=⟨r,g',w',es,s',aX,F',k1,b,d,e,f,j,l,m⟩
  obtain ⟨g',w',es,s',aX,F',k1,b,d,e,f,j,l,m⟩:=Classical.choose_spec a
  exact .inr ⟨(w,s,k,φ,p0),g',w',es,s',aX,F',k1,b,d,e,f,j,l,by simp only[dif_pos a];exact m⟩
theorem Wk.gone {c:Cy}{i:Nat}{ph:Ph}{g:Goroutine}{F:af}{q:Nat}(hg:ph.gp= .gone)(h:QuitsD c.P q ph.deaf g):Wk c i ph g F:=by
 refine ⟨F,Rk.nat q,.refl F,?_⟩;cases q with
 |zero=>exact .inl ⟨hg,0,rfl,h⟩
 |succ q=>exact .inl ⟨hg,q+1,rfl,h⟩
structure dW (c:Cy)(B0:Nat)(F F':af)(w w':World):Prop where
 os:OsLater w.os w'.os
 tape:w'.tape=w.tape
 output:w'.output=w.output
 size:w.heap.size<=w'.heap.size
 frame:∀b,b<B0->b∉keys F.own->¬c.shared b->w'.heap[b]?=w.heap[b]?
 ro:∀a,(F'.ro a).isSome=true->(F.ro a).isSome=true\/a.block∈keys F.own\/B0<=a.block\/c.shared a.block
 own:∀b,b∈keys F'.own->b∈keys F.own\/B0<=b\/c.shared b
theorem dW.refl (c:Cy)(B0:Nat)(F:af)(w:World):dW c B0 F F w w:=⟨.refl _,rfl,rfl,Nat.le_refl _,fun _ _ _ _=>rfl,fun _ h=>.inl h,fun _ h=>.inl h⟩
theorem dW.trans {c:Cy}{B0:Nat}{F G H:af}{u v w:World}(h:dW c B0 F G u v)(k:dW c B0 G H v w):dW c B0 F H u w where
 os:=h.os.trans k.os
 tape:=k.tape.trans h.tape
 output:=k.output.trans h.output
 size:=Nat.le_trans h.size k.size
 frame b hb d hs:=by
  rw[k.frame b hb (fun hk=>(h.own b hk).elim d fun x=>x.elim (fun y=>absurd hb aa) hs) hs]
  exact h.frame b hb d hs
 ro a x:=by
  rcases k.ro a x with y|y|y
  .exact h.ro a y
  .exact .inr (h.own _ y)
  .exact .inr (.inr y)
 own b hb:=by
  rcases k.own b hb with x|x
  .exact h.own b x
  .exact .inr x
theorem dW.le {c:Cy}{B0:Nat}{F G H:af}{w w':World}(h:Le F G)(u:dW c B0 F H w w'):dW c B0 G H w w' where
 os:=u.os
 tape:=u.tape
 output:=u.output
 size:=u.size
 frame b hb d hs:=u.frame b hb (fun x=>d (h.own b x)) hs
 ro a x:=by
  rcases u.ro a x with y|y|y
  .exact (h.ro a y).imp id .inl
  .exact .inr (.inl (h.own _ y))
  .exact .inr (.inr y)
 own b hb:=(u.own b hb).imp (h.own b) id
def qg (c:Cy)(i:Nat)(r:Rk)(x:Goroutine)(F:af)(ph:Ph)(s:Sh):Prop:=
 (ph.gp= .gone/\∃q,r=Rk.nat q/\QuitsD c.P q ph.deaf x)\/
 (ph.gp≠ .gone/\js c i r {x with status:=.running} F ph/\x.offers=none/\(x.status= .running\/(x.status= .blocked/\ph.mp.jo=true/\s.ms=0)))
structure eg (c:Cy)(B0:Nat)(bJ:Loc->Prop)(p0:P0)(d0 k:Nat)(g:Goroutine)(Fr:Nat->af)(gs:Array Goroutine)(w:World)(t:Trace)(ρ:Nat->Rk)(φ:Nat->Ph)(s:Sh):Prop where
 size:gs.size=c.base+k
 base:0<c.base
 run:g.status= .running
 off:g.offers=none
 g0:∃x,gs[0]?=some x/\{x with status:=.running}=g/\(x.status= .running\/(x.status= .blocked/\p0= .reg/\s.ws=0))
 old:∀j x,0<j->j<c.base->gs[j]?=some x->∃q,ρ j=Rk.nat q/\QuitsD c.P q (Deaf t j) x
 wk:∀i,i<k->∃x,gs[c.base+i]?=some x/\qg c i (ρ (c.base+i)) x (Fr (i+1)) (φ i) s
 deaf:∀i,i<k->Deaf t (c.base+i)=(φ i).deaf
 above:∀j,gs.size<=j->Deaf t j=0
 deaf0:Deaf t 0=d0
 parts:ef c k Fr w
 sh:cQ c w s
 inv:Inv c.n c.bs k φ p0 s
 iC:eW c bJ k Fr w.heap.size t
 rel:∀i,i<k->(φ i).gp≠ .cnt->∃r,gU c t (c.base+i) r
 apart:∀l,bJ l->¬(Fr 0).ie l
 low:∀l,bJ l->l.low B0
 j0:∀i,i<k->∀b∈keys (Fr (i+1)).own,B0<=b
 j3:B0<=w.heap.size
 ne:c.Mu≠c.Wg/\c.Mu≠c.Is/\c.Wg≠c.Is
section
variable {c:Cy}{B0:Nat}{bJ:Loc->Prop}{p0:P0}{d0 k:Nat}{g:Goroutine}{Fr:Nat->af}{gs:Array Goroutine}{w:World}{t:Trace}{ρ:Nat->Rk}{φ:Nat->Ph}{s:Sh}
theorem Inv.DT (h:Inv c.n c.bs k φ p0 s):0<=s.ms:=by
 obtain ⟨C,S,W,L,m,hm⟩:=h.m;have:=hm.cnt;omega
theorem Inv.KG (h:Inv c.n c.bs k φ p0 s):0<=s.ws:=by
 have:=h.w.inv;cases p0<;>simp only at this<;>omega
theorem qg.woken {i:Nat}{r:Rk}{x:Goroutine}{F:af}{ph:Ph}{s s':Sh}(h:qg c i r x F ph s){y y':Goroutine}{w':World}(p:0<=s'.ms)
  (hw:(mayWake c.P y=true/\y'.status≠ .blocked/\y'.status≠ .waiting)\/s'.ms<=s.ms):qg c i r (woken c.P y y' w' x) F ph s':=by
 rcases h with ⟨hg,q,l,g⟩|⟨hg,hk,e,m⟩
 .exact .inl ⟨hg,q,l,by rw[woken_quitsD g];exact g⟩
 .rcases m with j|⟨k,n,t⟩
  .rw[woken_run j];exact .inr ⟨hg,hk,e,.inl j⟩
  .have o:x.again w'={x with status:=.running}:=by
    unfold Goroutine.again
    simp only[k,e]
   by_cases f:(mayWake c.P y&&y'.status != .blocked&&y'.status != .waiting)=true
   .have:Go.Conc.woken c.P y y' w' x={x with status:=.running}:=by unfold Go.Conc.woken;rw[if_pos f,o]
    rw[this]
    exact .inr ⟨hg,hk,e,.inl rfl⟩
   .have:Go.Conc.woken c.P y y' w' x=x:=by unfold Go.Conc.woken;rw[if_neg f]
    rw[this]
    refine .inr ⟨hg,hk,e,.inr ⟨k,n,?_⟩⟩
    rcases hw with ⟨a,b,d⟩|hw
    .simp[a,b,d] at f
    .omega
theorem KH {x:Goroutine}{s s':Sh}(h:x.offers=none)(i:x.status= .running\/(x.status= .blocked/\p0= .reg/\s.ws=0)){y y':Goroutine}{w':World}(l:0<=s'.ws)
  (hw:(mayWake c.P y=true/\y'.status≠ .blocked/\y'.status≠ .waiting)\/s'.ws<=s.ws):
  {woken c.P y y' w' x with status:=.running}=({x with status:=.running}:Goroutine)/\((woken c.P y y' w' x).status= .running\/((woken c.P y y' w' x).status= .blocked/\p0= .reg/\s'.ws=0)):=by
 rcases i with f|⟨g,j,m⟩
 .rw[woken_run f];exact ⟨rfl,.inl f⟩
 .have k:x.again w'={x with status:=.running}:=by
   unfold Goroutine.again
   simp only[g,h]
  by_cases e:(mayWake c.P y&&y'.status != .blocked&&y'.status != .waiting)=true
  .have:Go.Conc.woken c.P y y' w' x={x with status:=.running}:=by unfold Go.Conc.woken;rw[if_pos e,k]
   rw[this]
   exact ⟨rfl,.inl rfl⟩
  .have:Go.Conc.woken c.P y y' w' x=x:=by unfold Go.Conc.woken;rw[if_neg e]
   rw[this]
   refine ⟨rfl,.inr ⟨g,j,?_⟩⟩
   rcases hw with ⟨a,b,d⟩|hw
   .simp[a,b,d] at e
   .omega
theorem eg.kO (h:eg c B0 bJ p0 d0 k g Fr gs w t ρ φ s){j:Nat}{x d:Goroutine}{w':World}{es:Array Event}{fn:FuncId}{pos:String}{ρ':Nat->Rk}{φ':Nat->Ph}{dA:Nat->af}{s':Sh}(W:0<j)(D:gs[j]?=some x)
  (v:(mayWake c.P x=true/\d.status≠ .blocked/\d.status≠ .waiting)\/(s'.ms<=s.ms/\s'.ws<=s.ws))
  (A:∀a,a≠j->ρ' a=ρ a) (u:∀i,c.base+i≠j->φ' i=φ i) (B:∀i,c.base+i≠j->dA (i+1)=Fr (i+1)) (E:dA 0=Fr 0)
  (hold:j<c.base->∃q,ρ' j=Rk.nat q/\QuitsD c.P q (Deaf (t++MemOp.ofEvents j fn pos es) j) d)
  (o:∀i,j=c.base+i->i<k->qg c i (ρ' j) d (dA (i+1)) (φ' i) s'/\Deaf (t++MemOp.ofEvents j fn pos es) j=(φ' i).deaf/\((φ' i).gp≠ .cnt->∃r,gU c (t++MemOp.ofEvents j fn pos es) j r)/\∀b∈keys (dA (i+1)).own,B0<=b)
  (F:ef c k dA w') (G:cQ c w' s') (hinv:Inv c.n c.bs k φ' p0 s') (H:eW c bJ k dA w'.heap.size (t++MemOp.ofEvents j fn pos es)) (I:w.heap.size<=w'.heap.size):
  eg c B0 bJ p0 d0 k g dA ((gs.map (woken c.P x d w')).setIfInBounds j d) w' (t++MemOp.ofEvents j fn pos es) ρ' φ' s':=by
 have J:j<gs.size:=(Array.getElem?_eq_some_iff.1 D).1
 have hu:∀op∈MemOp.ofEvents j fn pos es,op.g=j:=fun op K=>by obtain ⟨e,_,rfl⟩:=Go.Conc.mem_ofEvents K;rfl
 have other:∀a,a≠j->∀y,((gs.map (woken c.P x d w')).setIfInBounds j d)[a]?=some y->∃z,gs[a]?=some z/\y=woken c.P x d w' z:=fun a aO y m=>by
  rw[Array.getElem?_setIfInBounds_ne (Ne.symm aO),Array.getElem?_map] at m
  obtain ⟨z,f,rfl⟩:=Option.map_eq_some_iff.1 m
  exact ⟨z,f,rfl⟩
 have at_:∀a z,a≠j->gs[a]?=some z->((gs.map (woken c.P x d w')).setIfInBounds j d)[a]?=some (woken c.P x d w' z):=fun a z aO f=>by
  rw[Array.getElem?_setIfInBounds_ne (Ne.symm aO),Array.getElem?_map,f];rfl
 have self:((gs.map (woken c.P x d w')).setIfInBounds j d)[j]?=some d:=Array.getElem?_setIfInBounds_self_of_lt (by simpa using J)
 have p:∀a,a≠j->Deaf (t++MemOp.ofEvents j fn pos es) a=Deaf t a:=fun a aO=>Deaf_other t (Ne.symm aO) _ hu
 have L:(mayWake c.P x=true/\d.status≠ .blocked/\d.status≠ .waiting)\/s'.ms<=s.ms:=v.imp id And.left
 have M:(mayWake c.P x=true/\d.status≠ .blocked/\d.status≠ .waiting)\/s'.ws<=s.ws:=v.imp id And.right
 refine ⟨by simpa using h.size,h.base,h.run,h.off,?_,fun a y N hb m=>?_,fun i hi=>?_,fun i hi=>?_,fun a O=>?_,?_,F,G,hinv,H,fun i hi hg=>?_,fun l hl=>by rw[E];exact h.apart l hl,h.low,fun i hi b hb=>?_,Nat.le_trans h.j3 I,h.ne⟩
 .obtain ⟨z,f,e,Q⟩:=h.g0
  have R:z.offers=none:=by have:=h.off;rw[<-e] at this;exact this
  obtain ⟨S,T⟩:=KH (c:=c) (p0:=p0) (s':=s') (y:=x) (y':=d) (w':=w') R Q hinv.KG M
  exact ⟨_,at_ 0 z aa f,S.trans e,T⟩
 .by_cases aO:a=j
  .subst aO
   rw[self] at m
   cases m
   exact hold hb
  .obtain ⟨z,f,rfl⟩:=other a aO y m
   obtain ⟨q,U,C⟩:=h.old a z N hb f
   exact ⟨q,by rw[A a aO];exact U,by rw[woken_quitsD C,p a aO];exact C⟩
 .by_cases aO:c.base+i=j
  .subst aO
   exact ⟨d,self,(o i rfl hi).1⟩
  .obtain ⟨z,f,hW⟩:=h.wk i hi
   refine ⟨_,at_ _ z aO f,?_⟩
   rw[A _ aO,u i aO,B i aO]
   exact hW.woken hinv.DT L
 .by_cases aO:c.base+i=j
  .subst aO;exact (o i rfl hi).2.1
  .rw[p _ aO,u i aO];exact h.deaf i hi
 .have:gs.size<=a:=by simpa using O
  rw[p a aa]
  exact h.above a this
 .rw[p 0 aa];exact h.deaf0
 .by_cases aO:c.base+i=j
  .subst aO;exact (o i rfl hi).2.2.1 hg
  .rw[u i aO] at hg
   obtain ⟨r,V⟩:=h.rel i hi hg
   exact ⟨r,V.other (Ne.symm aO) hu⟩
 .by_cases aO:c.base+i=j
  .exact (o i aO.symm hi).2.2.2 b hb
  .rw[B i aO] at hb;exact h.j0 i hi b hb
end
end Go.Sep
end
section
namespace Go.Sep
open Go Go.Conc
open Go.ConcN (sumTo upd upd_ne upd_same sumTo_congr sumTo_upd)
open Go.ConcM (MuAt muA msA muBlock OsLater)
open Go.ConcR (WgAt wgBlock stA smA)
def mE (x:Option Goroutine):Nat:=match x with
 |some x=>if x.status= .running then 1 else 0
 |none=>0
def runs (gs:Array Goroutine):Nat:=sumTo gs.size fun j=>mE gs[j]?
theorem DU {gs:Array Goroutine}{j:Nat}{x y:Goroutine}(c:gs[j]?=some x)(f:x.status= .running)(g:y.status≠ .running):runs (gs.setIfInBounds j y)<runs gs:=by
 have d:j<gs.size:=(Array.getElem?_eq_some_iff.1 c).1;have h:=sumTo_upd (fun a=>mE gs[a]?) (0:Nat) id d;simp only[id] at h;have e:runs (gs.setIfInBounds j y)=sumTo gs.size (upd (fun a=>mE gs[a]?) j 0):=by
  unfold runs;rw[Array.size_setIfInBounds];refine sumTo_congr fun a k=>?_;by_cases b:a=j
  .subst b;rw[upd_same,Array.getElem?_setIfInBounds_self_of_lt d];simp[mE,g]
  .rw[upd_ne _ _ b,Array.getElem?_setIfInBounds_ne (Ne.symm b)]
 have i:mE gs[j]?=1:=by rw[c];simp[mE,f]
 rw[e];unfold runs;simp only[i] at h;have:sumTo gs.size (fun a=>upd (fun a=>mE gs[a]?) j 0 a)=sumTo gs.size (upd (fun a=>mE gs[a]?) j 0):=rfl;omega
theorem js.up {c:Cy}{i:Nat}{r:Rk}{g:Goroutine}{F:af}{ph:Ph}(h:js c i r g F ph)(hg:ph.gp≠ .gone):g.status= .running/\g.offers=none:=by
 cases r with
 |mk ι f=>
  rcases h with h|h|h
  .exact absurd h.1 hg
  .exact ⟨h.1,h.2.1⟩
  .exact ⟨h.1,h.2.1⟩
theorem js.left {c:Cy}{i:Nat}{r:Rk}{g:Goroutine}{F:af}{ph:Ph}(h:js c i r g F ph)(hg:ph.gp= .gone):∃q,r=Rk.nat q/\QuitsD c.P q ph.deaf g:=by
 cases r with
 |mk ι f=>
  rcases h with h|h|h
  .exact h.2
  .rw[hg] at h;cases h.2.2.1
  .exact absurd hg h.2.2.1
theorem js.zb {c:Cy}{i:Nat}{r:Rk}{g:Goroutine}{F:af}{ph:Ph}(h:js c i r g F ph)(s:Sh):qg c i r g F ph s/\g.status≠ .blocked/\g.status≠ .waiting:=by
 by_cases hg:ph.gp= .gone
 .obtain ⟨q,d,b⟩:=h.left hg;refine ⟨.inl ⟨hg,q,d,b⟩,?_,?_⟩<;>rcases b.status with e|e<;>rw[e]<;>simp
 .obtain ⟨a,f⟩:=h.up hg;refine ⟨.inr ⟨hg,?_,f,.inl a⟩,by rw[a];simp,by rw[a];simp⟩;have:({g with status:=.running}:Goroutine)=g:=by cases g;simp_all
  rw[this];exact h
section
variable {c:Cy}{B0:Nat}{bJ:Loc->Prop}{p0:P0}{d0 k:Nat}{g:Goroutine}{Fr:Nat->af}{gs:Array Goroutine}{w:World}{t u:Trace}{ρ:Nat->Rk}{φ:Nat->Ph}{s:Sh}
theorem eW.still {B:Nat}(h:eW c bJ k Fr B t)(s:∀op∈u,op.act.touch?=none)(hl:∀op∈u,op.act.low B)(v:∀op∈u,op.act≠ .mark (.release (stA c.Wg))){gg:Nat}(hu:∀op∈u,op.g=gg):eW c bJ k Fr B (t++u):=by
 have e:∀op∈u,∀b,op.act.touch?=some b->False:=fun op d b hb=>by rw[s op d] at hb;cases hb
 have old:∀{i:Nat} {a:Touch},touchAt (t++u) i=some a->touchAt t i=some a/\i<t.size:=by
  intro i a n;obtain ⟨z,f,p⟩:=touch_of n;rcases getElem?_append_cases f with ⟨hi,w⟩|⟨_,x⟩
  .exact ⟨by rw[touchAt_of w];exact p,hi⟩
  .exact (e z x a p).elim
 refine ⟨by have:=h.len;simp;omega,DS h.quiet fun op d b hb _=>(e op d b hb).elim,fun said=>noRace_append (g:=gg) (h.nr said) hu fun i a _ op d b hb _=>(e op d b hb).elim,fun q o l hl=>(h.own q o l hl).app fun op d b hb _=>(e op d b hb).elim,fun q o l hl=>(h.ro q o l hl).app fun op d b hb _ _=>(e op d b hb).elim,
  fun i hi l hl=>(h.vi i hi l hl).app fun op d b hb _=>(e op d b hb).elim,fun i hi l hl=>(h.vj i hi l hl).app fun op d b hb _=>(e op d b hb).elim,fun op d=>(Array.mem_append.1 d).elim (h.low op) (hl op),vl h.norel v,fun i a n hm=>?_,fun i g hg y r=>?_⟩
 .obtain ⟨A,hi⟩:=old n;rcases h.known i a A hm with z|z|⟨j,m,z⟩
  .exact .inl (z.app _)
  .exact .inr (.inl z)
  .exact .inr (.inr ⟨j,m,by rw[g?_old hi];exact z⟩)
 .have C:=r;obtain ⟨z,f,_⟩:=r;obtain ⟨_,hi⟩:=old (show touchAt _ i=some z from f);rcases h.over i g (by rw[<-g?_old (u:=u) hi];exact hg) y ((counts_old hi).1 C) with ⟨j,m,y'⟩|y'
  .have D:j<t.size:=by
    unfold Trace.g? at m;obtain ⟨z,f,_⟩:=Option.map_eq_some_iff.1 m;exact lt_size_of_getElem? f
   exact .inl ⟨j,by rw[g?_old D];exact m,hb_app _ y'⟩
  .exact .inr y'
theorem eW.mute {B:Nat}(h:eW c bJ k Fr B t){j:Nat}{fn:FuncId}{pos:String}{es:Array Event}(hm:∀e∈es,e.mute=true):eW c bJ k Fr B (t++MemOp.ofEvents j fn pos es):=by
 refine h.still (gg:=j) (fun op a=>?_) (fun op a=>?_) (fun op a=>?_) (fun op a=>?_)<;>obtain ⟨e,he,rfl⟩:=Go.Conc.mem_ofEvents a
 .exact touch_mute (hm e he)
 .exact low_mute (hm e he) B
 .have:=hm e he;obtain ⟨loc,wr,sy⟩:=e;cases loc with
  |mark m=>cases m<;>simp_all [Event.mute,MemAct.ofEvent]
  |_=>simp_all [Event.mute]
 .rfl
theorem Inv.deaf {n:Nat}{bs:Nat->Bool}(h:Inv n bs k φ p0 s){i:Nat}(hi:i<n)(hg:(φ i).gp≠ .new)(d:Nat):Inv n bs k (upd φ i {φ i with deaf:=d}) p0 s:=by
 obtain ⟨C,S,W,L,m,hm⟩:=h.m;refine ⟨⟨C,S,W,L,m,oh hm hi _ (.inl rfl)⟩,vh h.w hi _ (.inl rfl),h.i.len,h.i.kn,fun j a=>?_,fun j a=>?_,fun j a b=>?_,fun j a c f=>?_⟩<;>by_cases e:j=i
 .subst e;rw[upd_same];exact h.i.all j a
 .rw[upd_ne _ _ e];exact h.i.all j a
 .subst e;rw[upd_same];exact h.i.born j a
 .rw[upd_ne _ _ e];exact h.i.born j a
 .subst e;rw[upd_same] at b;exact absurd b hg
 .rw[upd_ne _ _ e] at b ⊢;exact h.i.new j a b
 .subst e;rw[upd_same] at c f ⊢;exact h.i.done j a c f
 .rw[upd_ne _ _ e] at c f ⊢;exact h.i.done j a c f
theorem cQ.keep {w w':World}(h:cQ c w s)(he:∀b,c.shared b->w'.heap[b]?=w.heap[b]?):cQ c w' s:=by
 obtain ⟨a,d,e⟩:=h;refine ⟨?_,?_,?_⟩
 .unfold MuAt at*;rw[he _ (.inl rfl)];exact a
 .unfold WgAt at*;rw[he _ (.inr (.inl rfl))];exact d
 .rw[he _ (.inr (.inr rfl))];exact e
theorem ef.walk (h:ef c k Fr w){p:Nat}(n:p<=k){F':af}{w':World}(hu:eC (Fr p) F' w w')(s:Has F' w'):ef c k (upd Fr p F') w':=by
 have keep:∀b,b<w.heap.size->b∉keys (Fr p).own->w'.heap[b]?=w.heap[b]?:=hu.frame;have i:∀q,q≠p->(upd Fr p F') q=Fr q:=fun q d=>upd_ne _ _ d;have self:(upd Fr p F') p=F':=upd_same _ _ _;refine ⟨fun q d=>?_,fun q r d f aO b hb j=>?_,fun q r d f aO a g hb=>?_,fun q d b hb hs=>?_,fun q d a g hs=>?_,fun b hb=>Nat.lt_of_lt_of_le (h.hU b hb) hu.size⟩
 .by_cases e:q=p
  .subst e;rw[self];exact s
  .rw[i q e];have l:=h.has q d
   exact ⟨fun a v f=>by
    have:=l.ro a v f;unfold World.cell? at this ⊢;rw[keep _ (l.iH (a:=a) (by rw[f];rfl)) (fun hm=>h.ro q p d n e a (by rw[f];rfl) hm)]
    exact this,fun b o hb=>by rw[keep b (l.lt (fJ hb)) (fun hm=>h.own q p d n e b (fJ hb) hm)];exact l.own b o hb,l.nodup,l.apart⟩
 .by_cases eq:q=p
  .subst eq;rw[self] at hb;rw[i r (Ne.symm aO)] at j;rcases hu.own b hb with x|x
   .exact h.own q r d f aO b x j
   .have:=(h.has r f).lt j;omega
  .rw[i q eq] at hb;by_cases m:r=p
   .subst m;rw[self] at j;rcases hu.own b j with x|x
    .exact h.own q r d f aO b hb x
    .have:=(h.has q d).lt hb;omega
   .rw[i r m] at j;exact h.own q r d f aO b hb j
 .by_cases eq:q=p
  .subst eq;rw[self] at g;rw[i r (Ne.symm aO)] at hb;rcases hu.ro a g with x|x|x
   .exact h.ro q r d f aO a x hb
   .exact h.own q r d f aO _ x hb
   .have:=(h.has r f).lt hb;omega
  .rw[i q eq] at g;by_cases m:r=p
   .subst m;rw[self] at hb;rcases hu.own _ hb with x|x
    .exact h.ro q r d f aO a g x
    .have:=(h.has q d).iH g;omega
   .rw[i r m] at hb;exact h.ro q r d f aO a g hb
 .by_cases e:q=p
  .subst e;rw[self] at hb;rcases hu.own b hb with x|x
   .exact h.iB q d b x hs
   .have:=h.hU b hs;omega
  .rw[i q e] at hb;exact h.iB q d b hb hs
 .by_cases e:q=p
  .subst e;rw[self] at g;rcases hu.ro a g with x|x|x
   .exact h.jZ q d a x hs
   .exact h.iB q d _ x hs
   .have:=h.hU _ hs;omega
  .rw[i q e] at g;exact h.jZ q d a g hs
theorem ef.act (h:ef c k Fr w){p:Nat}(t:p<=k){F':af}{w':World}(he:iV c w w')(hle:Le F' (Fr p)):ef c k (upd Fr p F') w':=by
 have m:∀q,q<=k->Has (Fr q) w':=fun q d=>by
  have j:=h.has q d
  exact ⟨fun a v g=>by
   have:=j.ro a v g;unfold World.cell? at this ⊢;rw[he.block _ (h.jZ q d a (by rw[g];rfl))]
   exact this,fun b o hb=>by rw[he.block b (h.iB q d b (fJ hb))];exact j.own b o hb,j.nodup,j.apart⟩
 have l:∀q,q≠p->(upd Fr p F') q=Fr q:=fun q d=>upd_ne _ _ d;have self:(upd Fr p F') p=F':=upd_same _ _ _;have i:∀q b,b∈keys ((upd Fr p F') q).own->b∈keys (Fr q).own:=fun q b hb=>by
  by_cases e:q=p
  .subst e;rw[self] at hb;exact hle.own b hb
  .rw[l q e] at hb;exact hb
 have n:∀q a,(((upd Fr p F') q).ro a).isSome=true->((Fr q).ro a).isSome=true\/a.block∈keys (Fr q).own:=fun q a f=>by
  by_cases e:q=p
  .subst e;rw[self] at f;exact hle.ro a f
  .rw[l q e] at f;exact .inl f
 refine ⟨fun q d=>?_,fun q r d g aO b hb s=>h.own q r d g aO b (i q b hb) (i r b s),fun q r d g aO a f hb=>(n q a f).elim (fun x=>h.ro q r d g aO a x (i r _ hb)) (fun x=>h.own q r d g aO _ x (i r _ hb)),
  fun q d b hb hs=>h.iB q d b (i q b hb) hs,fun q d a f hs=>(n q a f).elim (fun x=>h.jZ q d a x hs) (fun x=>h.iB q d _ x hs),fun b hb=>by rw[he.size];exact h.hU b hb⟩
 by_cases e:q=p
 .subst e;rw[self];exact hle.has _ (m q d)
 .rw[l q e];exact m q d
theorem ef.at (h:ef c k Fr w)(d:Nat):ef c k Fr (w.at d):=⟨fun p a=>(h.has p a).at d,h.own,h.ro,h.iB,h.jZ,h.hU⟩
theorem eg.at (h:eg c B0 bJ p0 d0 k g Fr gs w t ρ φ s)(d:Nat):eg c B0 bJ p0 d0 k g Fr gs (w.at d) t ρ φ s:=
 ⟨h.size,h.base,h.run,h.off,h.g0,h.old,h.wk,h.deaf,h.above,h.deaf0,h.parts.at d,h.sh,h.inv,h.iC,h.rel,h.apart,h.low,h.j0,h.j3,h.ne⟩
theorem mF {F:af}{w w':World}(g:Has F w)(h:w.heap.size<=w'.heap.size){e:Event}(he:jA F.ro (iG F w.heap.size w'.heap.size) e)(p:Nat):
  (∀x,(MemAct.ofEvent e).touch?=some x->vk c F w.heap.size p x)/\(MemAct.ofEvent e).low w'.heap.size/\MemAct.ofEvent e≠ .mark (.release (stA c.Wg))/\e.loc≠ .mark .disable/\e.loc≠ .mark .enable:=by
 have hm:∀b,iG F w.heap.size w'.heap.size b->b<w'.heap.size:=fun b hb=>hb.elim (fun x=>Nat.lt_of_lt_of_le (g.lt x) h) (fun x=>x.2)
 rcases he with ⟨a,wr,rfl,d⟩|⟨r,wr,rfl,d⟩|⟨m,rfl,i⟩
 .refine ⟨fun x f=>?_,?_,by cases wr<;>simp[MemAct.ofEvent],av,av⟩
  .have e1:x=⟨.cell a,wr,.plain⟩:=by cases wr<;>simp[MemAct.ofEvent,MemAct.touch?] at f<;>rw[<-f]
   subst e1
   rcases d with (d|d)|⟨hw,d⟩
   .exact .inl d
   .exact .inr (.inl d.1)
   .exact .inr (.inr (.inl ⟨⟨a,rfl,d⟩,hw⟩))
  .have:a.block<w'.heap.size:=d.elim (hm _) fun x=>Nat.lt_of_lt_of_le (g.iH x.2) h
   cases wr<;>exact this
 .refine ⟨fun x f=>?_,?_,by cases wr<;>simp[MemAct.ofEvent],av,av⟩
  .have e1:x=⟨.obj r,wr,.plain⟩:=by cases wr<;>simp[MemAct.ofEvent,MemAct.touch?] at f<;>rw[<-f]
   subst e1
   rcases d with d|d
   .exact .inl d
   .exact .inr (.inl d.1)
  .have:=hm _ d
   cases wr<;>exact this
 .cases m<;>simp[qz] at i<;>exact ⟨fun x d=>by simp[MemAct.ofEvent,MemAct.touch?] at d,trivial,by simp[MemAct.ofEvent],av,av⟩
theorem KI {i:Nat}{ph aX:Ph}{es:Array Event}(h:EvA c i ph aX es)(F:af)(B:Nat)(f:∀b,c.shared b->b<B):∀e∈es,
  (∀x,(MemAct.ofEvent e).touch?=some x->vk c F B (i+1) x)/\(MemAct.ofEvent e).low B/\MemAct.ofEvent e≠ .mark (.release (stA c.Wg)):=by
 intro e he
 cases h with
 |book h hd ht hg=>
  rcases h e he with rfl|rfl|⟨a,x,rfl,k⟩
  .exact ⟨fun x d=>by simp[c8,MemAct.ofEvent,MemAct.touch?] at d,trivial,by simp[c8,MemAct.ofEvent]⟩
  .exact ⟨fun x d=>by simp[c8,MemAct.ofEvent,MemAct.touch?] at d,trivial,by simp[c8,MemAct.ofEvent]⟩
  .refine ⟨fun y g=>?_,?_,by cases x<;>simp[MemAct.ofEvent]⟩
   .have:y=⟨.cell a,x,.atomic⟩:=by cases x<;>simp[MemAct.ofEvent,MemAct.touch?] at g<;>rw[<-g]
    subst this
    exact .inr (.inr (.inr (.inl ⟨⟨a,rfl,k.elim .inr fun z=>.inl z.1⟩,av,av⟩)))
   .have:a.block<B:=f _ (k.elim (fun z=>.inr (.inl z)) fun z=>.inl z.1)
    cases x<;>exact this
 |word m j hm hd hg=>
  rw[j] at he
  simp only[List.mem_toArray,List.mem_singleton] at he
  subst he
  rcases hm with rfl|rfl
  .exact ⟨fun x d=>by simp[c8,MemAct.ofEvent,MemAct.touch?] at d,f _ (.inl rfl),by simp[c8,MemAct.ofEvent]⟩
  .exact ⟨fun x d=>by simp[c8,MemAct.ofEvent,MemAct.touch?] at d,f _ (.inl rfl),by simp[c8,MemAct.ofEvent]⟩
 |store j hd hg=>
  rw[j] at he
  simp only[List.mem_toArray,List.mem_singleton] at he
  subst he
  refine ⟨fun y g=>?_,f _ (.inr (.inr rfl)),by simp[MemAct.ofEvent]⟩
  have:y=⟨.cell ⟨c.Is,i,none⟩,true,.plain⟩:=by simp[MemAct.ofEvent,MemAct.touch?] at g;rw[<-g]
  subst this
  exact .inr (.inr (.inr (.inr (.inl ⟨i,rfl,rfl⟩))))
 |rel j hd hg=>
  rw[j] at he
  simp only[List.mem_toArray,List.mem_singleton] at he
  subst he
  exact ⟨fun x d=>by simp[c8,MemAct.ofEvent,MemAct.touch?] at d,f _ (.inr (.inl rfl)),by simp[c8,MemAct.ofEvent]⟩
theorem KJ {i:Nat}{ph aX:Ph}{es:Array Event}(h:EvA c i ph aX es):deafBehind ph.deaf es=aX.deaf:=by
 cases h with
 |book h hd ht hg=>exact hd
 |word m a hm hd hg=>rw[a,hd];rcases hm with rfl|rfl<;>simp[c8,deafBehind]
 |store a hd hg=>rw[a,hd];simp[deafBehind]
 |rel a hd hg=>rw[a,hd.2,hd.1];simp[c8,deafBehind]
theorem KL (d:Nat)(es:Array Event)(n:Nat)(h:n<=es.size){fn:FuncId}{pos:String}{j:Nat}(t:Trace)(hd:Deaf t j=d):(t++MemOp.ofEvents j fn pos es).deaf j (t.size+n)=deafBehind d (es.extract 0 n):=by
 have e1:es=es.extract 0 n++es.extract n es.size:=by simp[Array.extract_append_extract,h]
 have e2:MemOp.ofEvents j fn pos es=MemOp.ofEvents j fn pos (es.extract 0 n)++MemOp.ofEvents j fn pos (es.extract n es.size):=by
  rw[Go.Conc.ofEvents_eq,Go.Conc.ofEvents_eq,Go.Conc.ofEvents_eq,<-Array.map_append,<-e1]
 rw[e2,<-Array.append_assoc];have hs:(t++MemOp.ofEvents j fn pos (es.extract 0 n)).size=t.size+n:=by rw[Go.Conc.ofEvents_eq];simp;omega
 rw[<-hs,deaf_old (Nat.le_refl _)];have:=Deaf_own t j fn pos (es.extract 0 n);unfold Deaf at this;rw[this];exact congrArg (fun d=>deafBehind d _) hd
theorem KM {i j:Nat}{ph aX:Ph}{es:Array Event}{fn:FuncId}{pos:String}(hlen:c.T0<=t.size)(h:EvA c i ph aX es)(hd:Deaf t j=ph.deaf)(k:ph.gp≠ .cnt->∃r,gU c t j r)(l:aX.gp≠ .cnt):∃r,gU c (t++MemOp.ofEvents j fn pos es) j r:=by
 cases h with
 |book h d ht hg=>
  have o:ph.gp≠ .cnt:=fun e=>l (hg.2 e);obtain ⟨r,k⟩:=k o;refine ⟨r,k.app fun idx x hi p n=>?_⟩;obtain ⟨z,f,b⟩:=touch_of n;have s:(MemOp.ofEvents j fn pos es)[idx - t.size]?=some z:=by rw[Array.getElem?_append_right hi] at f;exact f
  rw[Go.Conc.ofEvents_eq,Array.getElem?_map] at s;obtain ⟨e,he,rfl⟩:=Option.map_eq_some_iff.1 s;have u:idx - t.size<es.size:=(Array.getElem?_eq_some_iff.1 he).1;rcases ht _ e he with q|q
  .simp only at b;rw[q] at b;cases b
  rcases h e (Array.mem_of_getElem? he) with rfl|rfl|⟨a,y,rfl,v⟩
  .simp[c8,MemAct.ofEvent,MemAct.touch?] at b
  .simp[c8,MemAct.ofEvent,MemAct.touch?] at b
  .have:x=⟨.cell a,y,.atomic⟩:=by cases y<;>simp[MemAct.ofEvent,MemAct.touch?] at b<;>rw[<-b]
   subst this;refine ⟨rfl,?_,a,rfl,v.resolve_right fun z=>o z.2⟩;rintro ⟨g,hg,w⟩;have A:g=j:=by rw[p] at hg;exact (Option.some.inj hg).symm
   subst A;have e1:idx=t.size+(idx - t.size):=aa;rw[e1,KL ph.deaf es (idx - t.size) (Nat.le_of_lt u) t hd] at w;omega
 |word m he hm d hg=>exact absurd hg.1 l
 |store he d hg=>exact absurd hg.1 l
 |rel he d hg=>
  refine ⟨t.size,?_⟩;have B:MemOp.ofEvents j fn pos es=#[{g:=j,fn:=fn,pos:=pos,act:=.mark (.releaseMerge (stA c.Wg))}]:=by rw[Go.Conc.ofEvents_eq,he];simp[c8,MemAct.ofEvent]
  rw[B];have C:(t++#[({g:=j,fn:=fn,pos:=pos,act:=.mark (.releaseMerge (stA c.Wg))}:MemOp)])[t.size]?=some {g:=j,fn:=fn,pos:=pos,act:=.mark (.releaseMerge (stA c.Wg))}:=by
   rw[Array.getElem?_append_right (Nat.le_refl _)];simp
  refine ⟨hlen,act?_of C,by simp[Trace.g?],⟨j,by simp[Trace.g?],by rw[deaf_old (Nat.le_refl _)];exact hd.trans d.1⟩,fun idx x hi p n=>?_⟩;obtain ⟨z,f,_⟩:=touch_of n;have:=lt_size_of_getElem? f;simp at this;omega
end
section
variable {c:Cy}{B0:Nat}{bJ:Loc->Prop}{p0:P0}{d0 k:Nat}{g:Goroutine}{Fr:Nat->af}{gs:Array Goroutine}{w:World}{t u:Trace}{ρ:Nat->Rk}{φ:Nat->Ph}{s:Sh}
theorem dW.at_ (F:af)(w:World)(d:Nat):dW c B0 F F w (w.at d):=⟨.refl _,rfl,rfl,Nat.le_refl _,fun _ _ _ _=>rfl,fun _ h=>.inl h,fun _ h=>.inl h⟩
structure KN (c:Cy)(B0:Nat)(bJ:Loc->Prop)(p0:P0)(d0 k:Nat)(g:Goroutine)(Fr:Nat->af)(gs:Array Goroutine)(w:World)(t:Trace)(ρ:Nat->Rk)(m:Machine)(ops:Array MemOp)(sl:Option (Nat×Nat)):Prop where
 ex:∃(cp:Array Goroutine) (w':World) (ρ':Nat->Rk) (φ':Nat->Ph) (dA:Nat->af) (s':Sh),m=crowd cp w' sl/\eg c B0 bJ p0 d0 k g dA cp w' (t++ops) ρ' φ' s'/\
  cp.size=gs.size/\dA 0=Fr 0/\dW c B0 (Fr 0) (Fr 0) w w'/\Az gs.size (ρ',runs cp) (ρ,runs gs)
def mG (ρ:Nat->Rk)(j:Nat)(r:Rk)(a:Nat):Rk:=if a=j then r else ρ a
theorem qh (ρ:Nat->Rk)(j:Nat)(r:Rk):mG ρ j r j=r:=if_pos rfl
theorem om (ρ:Nat->Rk)(r:Rk){a j:Nat}(h:a≠j):mG ρ j r a=ρ a:=if_neg h
theorem vm {n j:Nat}{ρ:Nat->Rk}{r:Rk}(a:j<n)(h:(ρ j).kids r):sR n (mG ρ j r) ρ:=⟨j,a,by rw[qh];exact h,fun _ aO=>om _ _ aO⟩
theorem eg.other (h:eg c B0 bJ p0 d0 k g Fr gs w t ρ φ s){j:Nat}{x:Goroutine}(J:0<j)(A:gs[j]?=some x)(E:x.status= .running)(sl:Option (Nat×Nat)):
  ∃m ops,runT c.P (crowd gs w sl) j=(.next m,ops)/\KN c B0 bJ p0 d0 k g Fr gs w t ρ m ops sl:=by
 have O:j<gs.size:=(Array.getElem?_eq_some_iff.1 A).1
 have L:(j==0)=false:=by simp;omega
 rcases Nat.lt_or_ge j c.base with ad|ad
 ·
  obtain ⟨q,I,M⟩:=h.old j x J ad A
  cases q with
  |zero=>rw[M.1] at E;cases E
  |succ q=>
   rcases M with ⟨T,_⟩|⟨_,U,es,hm,F,V⟩
   .rw[T] at E;cases E
   have D:=runT_crowd_go (P:=c.P) (gs:=gs) (w:=w) (sl:=sl) (i:=j) A (by rw[L];exact F w)
   refine ⟨_,_,D,⟨_,w,mG ρ j (Rk.nat q),φ,Fr,s,rfl,?_,av,rfl,.refl _ _ _ _,.inl (vm O (by rw[I];exact Rk.Ax q))⟩⟩
   refine h.kO J A (.inr ⟨Int.le_refl _,Int.le_refl _⟩) (fun W aO=>om _ _ aO) (fun _ _=>rfl) (fun _ _=>rfl) rfl (fun _=>⟨q,qh _ _ _,by rw[Deaf_own];exact V⟩) (fun i e _=>aa) h.parts h.sh h.inv (h.iC.mute hm) (Nat.le_refl _)
 ·
  have bo:=h.size
  obtain ⟨i,rfl⟩:∃i,j=c.base+i:=⟨j - c.base,aa⟩
  have B:i<k:=aa
  have ae:i<c.n:=Nat.lt_of_lt_of_le B h.inv.i.kn
  obtain ⟨u,al,hW⟩:=h.wk i B
  obtain rfl:u=x:=by rw[A] at al;exact (Option.some.inj al).symm
  have aO:∀d,c.base+d≠c.base+i->d≠i:=fun d C e=>C (by rw[e])
  rcases hW with ⟨hg,q,I,M⟩|⟨hg,hK,ao,_⟩
  .cases q with
   |zero=>rw[M.1] at E;cases E
   |succ q=>
    rcases M with ⟨T,_⟩|⟨_,U,es,hm,F,V⟩
    .rw[T] at E;cases E
    have D:=runT_crowd_go (P:=c.P) (gs:=gs) (w:=w) (sl:=sl) (i:=c.base+i) A (by rw[L];exact F w)
    refine ⟨_,_,D,⟨_,w,mG ρ (c.base+i) (Rk.nat q),upd φ i {φ i with deaf:=deafBehind (φ i).deaf es},Fr,s,rfl,?_,av,rfl,.refl _ _ _ _,.inl (vm O (by rw[I];exact Rk.Ax q))⟩⟩
    have hd:=h.deaf i B
    refine h.kO J A (.inr ⟨Int.le_refl _,Int.le_refl _⟩) (fun W aO=>om _ _ aO) (fun d C=>upd_ne _ _ (aO d C)) (fun _ _=>rfl) rfl (fun C=>aa) (fun d e Q=>?_) h.parts h.sh (h.inv.deaf ae (by rw[hg];simp) _) (h.iC.mute hm) (Nat.le_refl _)
    obtain rfl:d=i:=aa
    rw[qh,upd_same]
    refine ⟨.inl ⟨hg,q,rfl,V⟩,by rw[Deaf_own,hd],fun K=>?_,h.j0 d B⟩
    obtain ⟨r,D⟩:=h.rel d B (by rw[hg];simp)
    refine ⟨r,D.app fun idx y hi br a5=>?_⟩
    obtain ⟨z,N,ar⟩:=touch_of a5
    rcases getElem?_append_cases N with ⟨Q,_⟩|⟨_,a6⟩
    .omega
    .obtain ⟨e,he,rfl⟩:=Go.Conc.mem_ofEvents a6
     rw[touch_mute (hm e he)] at ar;cases ar
  .have ex:({u with status:=.running}:Goroutine)=u:=by cases u;simp_all
   rw[ex] at hK
   cases R:ρ (c.base+i) with
   |mk ι f=>
    rw[R] at hK
    rcases hK with ⟨a7,_⟩|⟨_,_,a8,a9⟩|⟨_,_,_,a0⟩
    .exact absurd a7 hg
    ·
     obtain ⟨y,U,w',es,F',F,hu,ba,H,X⟩:=a9 w (h.parts.has (i+1) aa)
     have D:=runT_crowd_go (P:=c.P) (gs:=gs) (w:=w) (sl:=sl) (i:=c.base+i) A (by rw[L];exact F)
     have S:=h.parts.has (i+1) aa
     obtain ⟨Y,a2,a3⟩:=X.zb s
     have a4:∀b,b<w.heap.size->b∉keys (Fr (i+1)).own->w'.heap[b]?=w.heap[b]?:=hu.frame
     refine ⟨_,_,D,⟨_,w',mG ρ (c.base+i) (f y),φ,upd Fr (i+1) F',s,rfl,?_,av,upd_ne _ _ aa,?_,.inl (vm O (by rw[R];exact ⟨y,rfl⟩))⟩⟩
     .have bb:Deaf (t++MemOp.ofEvents (c.base+i) u.frame.fn u.frame.place es) (c.base+i)=(φ i).deaf:=by
       rw[Deaf_own,deafBehind_still (fun e he=>(mF (c:=c) S hu.size (H e he) 0).2.2.2)]
       exact h.deaf i B
      refine h.kO J A (.inr ⟨Int.le_refl _,Int.le_refl _⟩) (fun W aO=>om _ _ aO) (fun _ _=>rfl) (fun d C=>upd_ne _ _ (by have:=aO d C;omega)) (upd_ne _ _ aa) (fun C=>aa) (fun d e Q=>?_) (h.parts.walk aa hu ba)
       (h.sh.keep fun b hb=>a4 b (h.parts.hU b hb) (fun hm=>h.parts.iB (i+1) aa b hm hb)) h.inv ?_ hu.size
      .obtain rfl:d=i:=aa
       rw[qh,upd_same]
       refine ⟨Y,bb,fun K=>absurd a8 K,fun b hb=>?_⟩
       rcases hu.own b hb with z|z
       .exact h.j0 d B b z
       .exact Nat.le_trans h.j3 z
      .refine eW.app h.base ⟨h.ne.2.1,h.ne.2.2⟩ h.parts h.iC (p:=i+1) aa hu.size (fun op v=>?_) (fun op v z N=>?_) (fun op v=>?_) (fun op v=>?_) (fun q I=>upd_ne _ _ I) (fun l hl=>?_) (fun l hl=>?_)
       .obtain ⟨e,_,rfl⟩:=Go.Conc.mem_ofEvents v;rfl
       .obtain ⟨e,he,rfl⟩:=Go.Conc.mem_ofEvents v;exact (mF (c:=c) S hu.size (H e he) (i+1)).1 z N
       .obtain ⟨e,he,rfl⟩:=Go.Conc.mem_ofEvents v;exact (mF (c:=c) S hu.size (H e he) (i+1)).2.1
       .obtain ⟨e,he,rfl⟩:=Go.Conc.mem_ofEvents v;exact (mF (c:=c) S hu.size (H e he) (i+1)).2.2.1
       .rw[upd_same] at hl
        cases l with
        |cell a=>exact hu.own _ hl
        |obj r=>exact hu.own _ hl
        |_=>exact hl.elim
       .rw[upd_same] at hl
        obtain ⟨a,rfl,Z⟩:=hl
        rcases hu.ro a Z with z|z|z
        .exact .inl ⟨a,rfl,z⟩
        .exact .inr (.inl z)
        .exact .inr (.inr z)
     .exact ⟨by rw[hu.os];exact .refl _,hu.tape,hu.output,hu.size,fun b hb _ _=>a4 b (Nat.lt_of_lt_of_le hb h.j3) (fun hm=>by have:=h.j0 i B b hm;omega),fun _ h=>.inl h,fun _ h=>.inl h⟩
    ·
     rcases a0 w s k φ p0 (h.parts.has (i+1) aa) h.sh ae rfl h.inv with ⟨bc,bd,F⟩|⟨y,U,w',es,s',aX,F',F,bj,G,hinv,H,bk,hle,X⟩
     ·
      have D:=runT_crowd_go (P:=c.P) (gs:=gs) (w:=w) (sl:=sl) (i:=c.base+i) A (by rw[L];exact F)
      have bl:gs.map (woken c.P u {u with status:=.blocked} w)=gs:=by
       have:woken c.P u {u with status:=.blocked} w=id:=by funext o;unfold Go.Conc.woken;simp
       rw[this,Array.map_id]
      refine ⟨_,_,D,⟨_,w,ρ,φ,Fr,s,rfl,?_,av,rfl,.refl _ _ _ _,.inr ⟨rfl,?_⟩⟩⟩
      .have he:t++MemOp.ofEvents (c.base+i) u.frame.fn u.frame.place #[]=t:=by simp[MemOp.ofEvents]
       refine h.kO J A (.inr ⟨Int.le_refl _,Int.le_refl _⟩) (fun _ _=>rfl) (fun _ _=>rfl) (fun _ _=>rfl) rfl (fun C=>aa) (fun d e Q=>?_) h.parts h.sh h.inv (by rw[he];exact h.iC) (Nat.le_refl _)
       obtain rfl:d=i:=aa
       rw[he]
       refine ⟨.inr ⟨hg,?_,ao,.inr ⟨rfl,bc,bd⟩⟩,h.deaf d B,fun K=>h.rel d B K,h.j0 d B⟩
       have e2:({({u with status:=.blocked}:Goroutine) with status:=.running}:Goroutine)=u:=by cases u;simp_all
       rw[e2,R]
       exact .inr (.inr ⟨E,ao,hg,a0⟩)
      .rw[bl];exact DU A E av
     .have D:=runT_crowd_go (P:=c.P) (gs:=gs) (w:=w) (sl:=sl) (i:=c.base+i) A (by rw[L];exact F)
      obtain ⟨Y,a2,a3⟩:=X.zb s'
      have hd:=h.deaf i B
      have ab:=KI H (Fr (i+1)) w.heap.size h.parts.hU
      refine ⟨_,_,D,⟨_,w',mG ρ (c.base+i) (f y),upd φ i aX,upd Fr (i+1) F',s',rfl,?_,av,upd_ne _ _ aa,?_,.inl (vm O (by rw[R];exact ⟨y,rfl⟩))⟩⟩
      .refine h.kO J A (bk.imp (fun z=>⟨z,a2,a3⟩) id) (fun W aO=>om _ _ aO) (fun d C=>upd_ne _ _ (aO d C)) (fun d C=>upd_ne _ _ (by have:=aO d C;omega)) (upd_ne _ _ aa) (fun C=>aa) (fun d e Q=>?_) (h.parts.act aa G hle) bj hinv ?_ (by rw[G.size];exact Nat.le_refl _)
       .obtain rfl:d=i:=aa
        rw[qh,upd_same,upd_same]
        exact ⟨Y,by rw[Deaf_own,hd];exact KJ H,fun K=>KM h.iC.len H hd (fun bm=>h.rel d B bm) K,fun b hb=>h.j0 d B b (hle.own b hb)⟩
       .refine eW.app h.base ⟨h.ne.2.1,h.ne.2.2⟩ h.parts h.iC (p:=i+1) aa (by rw[G.size];exact Nat.le_refl _) (fun op v=>?_) (fun op v z N=>?_) (fun op v=>?_) (fun op v=>?_) (fun q I=>upd_ne _ _ I) (fun l hl=>?_) (fun l hl=>?_)
        .obtain ⟨e,_,rfl⟩:=Go.Conc.mem_ofEvents v;rfl
        .obtain ⟨e,he,rfl⟩:=Go.Conc.mem_ofEvents v;exact (ab e he).1 z N
        .obtain ⟨e,he,rfl⟩:=Go.Conc.mem_ofEvents v;rw[G.size];exact (ab e he).2.1
        .obtain ⟨e,he,rfl⟩:=Go.Conc.mem_ofEvents v;exact (ab e he).2.2
        .rw[upd_same] at hl
         refine .inl ?_
         cases l with
         |cell a=>exact hle.own _ hl
         |obj r=>exact hle.own _ hl
         |_=>exact hl.elim
        .rw[upd_same] at hl
         obtain ⟨a,rfl,Z⟩:=hl
         rcases hle.ro a Z with z|z
         .exact .inl ⟨a,rfl,z⟩
         .exact .inr (.inl z)
      .exact ⟨G.os,G.tape,G.output,by rw[G.size];exact Nat.le_refl _,fun b _ _ hs=>G.block b hs,fun _ h=>.inl h,fun _ h=>.inl h⟩
theorem eg.awake (h:eg c B0 bJ p0 d0 k g Fr gs w t ρ φ s):∀x∈gs,awake x:=by
 intro x b;obtain ⟨j,l,rfl⟩:=Array.mem_iff_getElem.1 b;have b:=Array.getElem?_eq_getElem l;rcases Nat.eq_zero_or_pos j with rfl|m
 .obtain ⟨z,a,_,d⟩:=h.g0;obtain rfl:z=gs[0]:=by rw[b] at a;exact (Option.some.inj a).symm
  exact awake_of (d.imp id fun y=>.inl y.1)
 .rcases Nat.lt_or_ge j c.base with i|i
  .obtain ⟨q,_,f⟩:=h.old j _ m i b;exact awake_of (f.status.elim .inl fun y=>.inr (.inr y))
  .have n:=h.size;obtain ⟨z,a,hW⟩:=h.wk (j - c.base) aa;have e:c.base+(j - c.base)=j:=aa;rw[e] at a;obtain rfl:z=gs[j]:=by rw[b] at a;exact (Option.some.inj a).symm
   rcases hW with ⟨_,q,_,f⟩|⟨_,_,_,d⟩
   .exact awake_of (f.status.elim .inl fun y=>.inr (.inr y))
   .exact awake_of (d.imp id fun y=>.inl y.1)
theorem eg.pick (h:eg c B0 bJ p0 d0 k g Fr gs w t ρ φ s)(hk:p0= .reg->k=c.n)(sl:Option (Nat×Nat))(R:p0= .reg->∀w s,cQ c w s->s.ws=0->stepG c.P true g w= .go {g with status:=.blocked} w #[]):
  ∃(N:Nat) (cp:Array Goroutine) (w':World) (a B:Option (Nat×Nat)) (e:Trace) (ρ':Nat->Rk) (φ':Nat->Ph) (dA:Nat->af) (s':Sh),
   runNT c.P N (crowd gs w sl) t=(.next (crowd cp w' a),e)/\(∃d,stepT c.P (crowd cp w' a)=runT c.P (crowd cp (w'.at d) B) 0)/\eg c B0 bJ p0 d0 k g dA cp w' e ρ' φ' s'/\cp[0]?=some g/\dA 0=Fr 0/\
   dW c B0 (Fr 0) (Fr 0) w w'/\(p0= .reg->s'.ws≠0):=by
 have key:∀(y:(Nat->Rk)×Nat),∀gs w t ρ φ s l sl,y=(ρ,runs gs)->l 0=Fr 0->eg c B0 bJ p0 d0 k g l gs w t ρ φ s->∀n,gs.size=n->n=c.base+k->
   ∃(N:Nat) (cp:Array Goroutine) (w':World) (a B:Option (Nat×Nat)) (e:Trace) (ρ':Nat->Rk) (φ':Nat->Ph) (dA:Nat->af) (s':Sh),
   runNT c.P N (crowd gs w sl) t=(.next (crowd cp w' a),e)/\(∃d,stepT c.P (crowd cp w' a)=runT c.P (crowd cp (w'.at d) B) 0)/\eg c B0 bJ p0 d0 k g dA cp w' e ρ' φ' s'/\cp[0]?=some g/\dA 0=Fr 0/\
   dW c B0 (Fr 0) (Fr 0) w w'/\(p0= .reg->s'.ws≠0):=by
  intro y
  induction (AA (c.base+k)).apply y with
  |intro y _ ih=>
   intro gs w t ρ φ s l sl p r h n C D
   subst p
   have S:∃(j:Nat) (x:Goroutine),gs[j]?=some x/\x.status= .running:=by
    obtain ⟨z,u,_,f⟩:=h.g0
    rcases f with q|⟨_,v,T⟩
    .exact ⟨0,z,u,q⟩
    .have U:=hk v
     have hinv:=h.inv
     rw[v,U] at hinv
     obtain ⟨i,hi,hg,V⟩:=live hinv T
     obtain ⟨x,b,hW⟩:=h.wk i aa
     rcases hW with ⟨W,_⟩|⟨_,_,_,f⟩
     .exact absurd W hg
     .rcases f with q|⟨_,X,Y⟩
      .exact ⟨_,x,b,q⟩
      .exact absurd Y (V X)
   obtain ⟨j,x,d,a,b,q,f⟩:=crowd_pick (P:=c.P) (w:=w) (sl:=sl) h.awake S
   have hd:=h.at d
   rcases Nat.eq_zero_or_pos j with rfl|Z
   .obtain ⟨z,u,he,bb⟩:=h.g0
    obtain rfl:z=x:=by rw[b] at u;exact (Option.some.inj u).symm
    have M:z=g:=by rw[<-he];cases z;simp_all
    by_cases A:p0= .reg/\s.ws=0
    ·
     have ab:=R A.1 (w.at d) s h.sh A.2
     have ad:=runT_crowd_go (P:=c.P) (gs:=gs) (w:=w.at d) (sl:=a) (i:=0) b (by rw[M];exact ab)
     have ae:gs.map (woken c.P z {g with status:=.blocked} (w.at d))=gs:=by
      have:woken c.P z {g with status:=.blocked} (w.at d)=id:=by funext o;unfold Go.Conc.woken;simp
      rw[this,Array.map_id]
     have al:0<gs.size:=(Array.getElem?_eq_some_iff.1 b).1
     have ao:t++MemOp.ofEvents 0 z.frame.fn z.frame.place #[]=t:=by simp[MemOp.ofEvents]
     have ar:eg c B0 bJ p0 d0 k g l (gs.setIfInBounds 0 {g with status:=.blocked}) (w.at d) t ρ φ s:=by
      refine ⟨by simpa using hd.size,hd.base,hd.run,hd.off,⟨{g with status:=.blocked},Array.getElem?_setIfInBounds_self_of_lt al,by have:=h.run;cases g;simp_all,.inr ⟨rfl,A⟩⟩,fun j y a0 hb p=>?_,fun i hi=>?_,hd.deaf,fun j a2=>hd.above j (by simpa using a2),hd.deaf0,hd.parts,hd.sh,hd.inv,hd.iC,hd.rel,hd.apart,hd.low,hd.j0,hd.j3,hd.ne⟩
      .rw[Array.getElem?_setIfInBounds_ne aa] at p
       exact hd.old j y a0 hb p
      .obtain ⟨y,p,hW⟩:=hd.wk i hi
       exact ⟨y,by rw[Array.getElem?_setIfInBounds_ne (by have:=h.base;omega)];exact p,hW⟩
     obtain ⟨N,cp,w',E,F,e,ρ',φ',dA,s',k1,G,H,I,J,K,L⟩:=ih (ρ,runs (gs.setIfInBounds 0 {g with status:=.blocked})) (.inr ⟨rfl,DU b q av⟩) _ _ _ _ _ _ l a rfl r ar n (by simpa using C) D
     refine ⟨N+1,cp,w',E,F,e,ρ',φ',dA,s',?_,G,H,I,J,(dW.at_ _ _ _).trans K,L⟩
     simp only[runNT,f,ad]
     rw[ae,ao]
     exact k1
    .refine ⟨0,gs,w,sl,a,t,ρ,φ,l,s,rfl,⟨d,f⟩,h,by rw[b,M],r,.refl _ _ _ _,fun v hs=>A ⟨v,hs⟩⟩
   .obtain ⟨m,ops,a3,⟨cp,w',ρ',φ',dA,s',rfl,a4,a5,a6,O,Q⟩⟩:=hd.other Z b q a
    rw[C,D] at Q
    obtain ⟨N,a7,w2,E,F,t2,a8,a9,ba,s2,k1,G,H,I,J,K,L⟩:=ih (ρ',runs cp) Q _ _ _ _ _ _ dA a rfl (a6.trans r) a4 n (a5.trans C) D
    refine ⟨N+1,a7,w2,E,F,t2,a8,a9,ba,s2,?_,G,H,I,J,?_,L⟩
    .simp only[runNT,f,a3]
     exact k1
    .rw[r] at O
     exact ((dW.at_ _ _ _).trans O).trans K
 exact key (ρ,runs gs) gs w t ρ φ s Fr sl rfl rfl h gs.size rfl h.size
theorem eg.sQ (h:eg c B0 bJ p0 d0 k g Fr gs w t ρ φ s)(hk:p0= .reg->k=c.n)(sl:Option (Nat×Nat)):
  ∃(N:Nat) (cp:Array Goroutine) (w':World) (a q:Option (Nat×Nat)) (e:Trace) (ρ':Nat->Rk) (φ':Nat->Ph) (dA:Nat->af) (s':Sh),
   runNT c.P N (crowd gs w sl) t=(.next (crowd cp w' a),e)/\(∃d,stepT c.P (crowd cp w' a)=runT c.P (crowd cp (w'.at d) q) 0)/\eg c B0 bJ p0 d0 k g dA cp w' e ρ' φ' s'/\cp[0]?=some g/\dA 0=Fr 0/\
   dW c B0 (Fr 0) (Fr 0) w w':=by
 have key:∀(y:(Nat->Rk)×Nat),∀gs w t ρ φ s o sl,y=(ρ,runs gs)->o 0=Fr 0->eg c B0 bJ p0 d0 k g o gs w t ρ φ s->∀n,gs.size=n->n=c.base+k->
   ∃(N:Nat) (cp:Array Goroutine) (w':World) (a q:Option (Nat×Nat)) (e:Trace) (ρ':Nat->Rk) (φ':Nat->Ph) (dA:Nat->af) (s':Sh),
   runNT c.P N (crowd gs w sl) t=(.next (crowd cp w' a),e)/\(∃d,stepT c.P (crowd cp w' a)=runT c.P (crowd cp (w'.at d) q) 0)/\eg c B0 bJ p0 d0 k g dA cp w' e ρ' φ' s'/\cp[0]?=some g/\dA 0=Fr 0/\
   dW c B0 (Fr 0) (Fr 0) w w':=by
  intro y
  induction (AA (c.base+k)).apply y with
  |intro y _ ih=>
   intro gs w t ρ φ s o sl D r h n u v
   subst D
   have E:∃(j:Nat) (x:Goroutine),gs[j]?=some x/\x.status= .running:=by
    obtain ⟨z,p,_,b⟩:=h.g0
    rcases b with f|⟨_,A,F⟩
    .exact ⟨0,z,p,f⟩
    .have G:=hk A
     have hinv:=h.inv
     rw[A,G] at hinv
     obtain ⟨i,hi,hg,H⟩:=live hinv F
     obtain ⟨x,l,hW⟩:=h.wk i aa
     rcases hW with ⟨I,_⟩|⟨_,_,_,b⟩
     .exact absurd I hg
     .rcases b with f|⟨_,J,K⟩
      .exact ⟨_,x,l,f⟩
      .exact absurd K (H J)
   obtain ⟨j,x,d,a,l,f,b⟩:=crowd_pick (P:=c.P) (w:=w) (sl:=sl) h.awake E
   have hd:=h.at d
   rcases Nat.eq_zero_or_pos j with rfl|L
   .obtain ⟨z,p,he,ao⟩:=h.g0
    obtain rfl:z=x:=by rw[l] at p;exact (Option.some.inj p).symm
    have M:z=g:=by rw[<-he];cases z;simp_all
    exact ⟨0,gs,w,sl,a,t,ρ,φ,o,s,rfl,⟨d,b⟩,h,by rw[l,M],r,.refl _ _ _ _⟩
   .obtain ⟨m,ops,O,⟨cp,w',ρ',φ',dA,s',rfl,Q,R,S,B,C⟩⟩:=hd.other L l f a
    rw[u,v] at C
    obtain ⟨N,T,w2,U,V,t2,W,X,Y,s2,k1,Z,ab,ad,ae,al⟩:=ih (ρ',runs cp) C _ _ _ _ _ _ dA a rfl (S.trans r) Q n (R.trans u) v
    refine ⟨N+1,T,w2,U,V,t2,W,X,Y,s2,?_,Z,ab,ad,ae,?_⟩
    .simp only[runNT,b,O]
     exact k1
    .rw[r] at B
     exact ((dW.at_ _ _ _).trans B).trans al
 exact key (ρ,runs gs) gs w t ρ φ s Fr sl rfl rfl h gs.size rfl h.size
end
def eX (c:Cy)(B0:Nat)(Φ:Goroutine->af->Prop)(k:Nat)(p0:P0)(d0:Nat)(g:Goroutine)(F:af):Prop:=
 g.status= .running/\g.offers=none/\∀(bJ:Loc->Prop) (gs:Array Goroutine) (w:World) (sl:Option (Nat×Nat)) (t:Trace) (Fr:Nat->af) (ρ:Nat->Rk) (φ:Nat->Ph) (s:Sh),Fr 0=F->eg c B0 bJ p0 d0 k g Fr gs w t ρ φ s->
  (∀a,bJ (.cell a)->¬c.shared a.block)->(∀r,bJ (.obj r)->¬c.shared r)->
  ∃(N:Nat) (cp:Array Goroutine) (w':World) (e:Option (Nat×Nat)) (b:Trace) (f:Nat->Nat) (g':Goroutine) (F':af) (d:Loc->Prop),
   runNT c.P N (crowd gs w sl) t=(.next (crowd cp w' e),b)/\j9 c.P d g' F' cp w' b f/\dW c B0 F F' w w'/\(∀l,d l->bJ l\/∃a,l= .cell a/\a.block=c.Wg)/\Φ g' F'
structure Ev0 (c:Cy)(d0 fX:Nat)(es:Array Event):Prop where
 all:∀e∈es,e=c8 .disable\/e=c8 .enable\/∃a,a.block=c.Wg/\((∃x,e=⟨.cell a,x,true⟩)\/e=c8 (.read a)\/e=c8 (.write a))
 deaf:deafBehind d0 es=fX
theorem DV {c:Cy}{d0 fX:Nat}{es:Array Event}(h:Ev0 c d0 fX es)(F:af)(B:Nat)(f:c.Wg<B):∀e∈es,
  (∀x,(MemAct.ofEvent e).touch?=some x->vk c F B 0 x)/\(MemAct.ofEvent e).low B/\MemAct.ofEvent e≠ .mark (.release (stA c.Wg)):=by
 intro e he
 rcases h.all e he with rfl|rfl|⟨a,d,⟨x,rfl⟩|rfl|rfl⟩
 .exact ⟨fun x g=>by simp[c8,MemAct.ofEvent,MemAct.touch?] at g,trivial,by simp[c8,MemAct.ofEvent]⟩
 .exact ⟨fun x g=>by simp[c8,MemAct.ofEvent,MemAct.touch?] at g,trivial,by simp[c8,MemAct.ofEvent]⟩
 .have hb:a.block<B:=d▸f
  refine ⟨fun y b=>?_,by cases x<;>exact hb,by cases x<;>simp[MemAct.ofEvent]⟩
  have:y=⟨.cell a,x,.atomic⟩:=by cases x<;>simp[MemAct.ofEvent,MemAct.touch?] at b<;>rw[<-b]
  subst this
  exact .inr (.inr (.inr (.inl ⟨⟨a,rfl,.inr d⟩,av,av⟩)))
 .have hb:a.block<B:=d▸f
  refine ⟨fun y b=>?_,hb,by simp[c8,MemAct.ofEvent]⟩
  have:y=⟨.cell a,false,.said⟩:=by simp[c8,MemAct.ofEvent,MemAct.touch?] at b;rw[<-b]
  subst this
  exact .inr (.inr (.inr (.inl ⟨⟨a,rfl,.inr d⟩,av,fun _=>rfl⟩)))
 .have hb:a.block<B:=d▸f
  refine ⟨fun y b=>?_,hb,by simp[c8,MemAct.ofEvent]⟩
  have:y=⟨.cell a,true,.said⟩:=by simp[c8,MemAct.ofEvent,MemAct.touch?] at b;rw[<-b]
  subst this
  exact .inr (.inr (.inr (.inl ⟨⟨a,rfl,.inr d⟩,av,fun _=>rfl⟩)))
section
variable {c:Cy}{B0:Nat}{bJ:Loc->Prop}{p0:P0}{d0 k:Nat}{g:Goroutine}{Fr:Nat->af}{gs:Array Goroutine}{w:World}{t u:Trace}{ρ:Nat->Rk}{φ:Nat->Ph}{s:Sh}{Φ:Goroutine->af->Prop}
theorem eg.zero (h:eg c B0 bJ p0 d0 k g Fr gs w t ρ φ s){g':Goroutine}{w':World}{es:Array Event}{fn:FuncId}{pos:String}{s':Sh}{ia:P0}{fX:Nat}{F':af}(p:gs[0]?=some g)(f:g'.status= .running)(u:g'.offers=none)
  (v:mayWake c.P g=true\/(s'.ms<=s.ms/\s'.ws<=s.ws)) (hd:deafBehind d0 es=fX) (x:ef c k (upd Fr 0 F') w') (A:cQ c w' s') (hinv:Inv c.n c.bs k φ ia s') (B:eW c bJ k (upd Fr 0 F') w'.heap.size (t++MemOp.ofEvents 0 fn pos es))
  (C:w.heap.size<=w'.heap.size) (D:∀l,bJ l->¬F'.ie l):
  eg c B0 bJ ia fX k g' (upd Fr 0 F') ((gs.map (woken c.P g g' w')).setIfInBounds 0 g') w' (t++MemOp.ofEvents 0 fn pos es) ρ φ s':=by
 have E:0<gs.size:=(Array.getElem?_eq_some_iff.1 p).1
 have hu:∀op∈MemOp.ofEvents 0 fn pos es,op.g=0:=fun op F=>by obtain ⟨e,_,rfl⟩:=Go.Conc.mem_ofEvents F;rfl
 have other:∀a,a≠0->∀y,((gs.map (woken c.P g g' w')).setIfInBounds 0 g')[a]?=some y->∃z,gs[a]?=some z/\y=woken c.P g g' w' z:=fun a aO y j=>by
  rw[Array.getElem?_setIfInBounds_ne (Ne.symm aO),Array.getElem?_map] at j
  obtain ⟨z,d,rfl⟩:=Option.map_eq_some_iff.1 j
  exact ⟨z,d,rfl⟩
 have m:∀a,a≠0->Deaf (t++MemOp.ofEvents 0 fn pos es) a=Deaf t a:=fun a aO=>Deaf_other t (Ne.symm aO) _ hu
 have G:(mayWake c.P g=true/\g'.status≠ .blocked/\g'.status≠ .waiting)\/s'.ms<=s.ms:=v.imp (fun z=>⟨z,by rw[f];simp,by rw[f];simp⟩) And.left
 refine ⟨by simpa using h.size,h.base,f,u,⟨g',Array.getElem?_setIfInBounds_self_of_lt (by simpa using E),by cases g';simp_all,.inl f⟩,fun a y H hb j=>?_,fun i hi=>?_,fun i hi=>?_,fun a I=>?_,?_,x,A,hinv,B,fun i hi hg=>?_,fun l hl=>by rw[upd_same];exact D l hl,h.low,fun i hi b hb=>?_,Nat.le_trans h.j3 C,h.ne⟩
 .obtain ⟨z,d,rfl⟩:=other a aa y j
  obtain ⟨q,J,o⟩:=h.old a z H hb d
  exact ⟨q,J,by rw[woken_quitsD o,m a aa];exact o⟩
 .have hb:=h.base
  obtain ⟨z,d,hW⟩:=h.wk i hi
  refine ⟨woken c.P g g' w' z,by rw[Array.getElem?_setIfInBounds_ne aa,Array.getElem?_map,d];rfl,?_⟩
  rw[upd_ne _ _ aa]
  exact hW.woken hinv.DT G
 .have hb:=h.base
  rw[m _ aa];exact h.deaf i hi
 .have:gs.size<=a:=by simpa using I
  rw[m a aa]
  exact h.above a this
 .rw[Deaf_own,h.deaf0];exact hd
 .obtain ⟨r,K⟩:=h.rel i hi hg
  have hb:=h.base
  exact ⟨r,K.other aa hu⟩
 .rw[upd_ne _ _ aa] at hb;exact h.j0 i hi b hb
theorem eg.le (h:eg c B0 bJ p0 d0 k g Fr gs w t ρ φ s){F:af}(hle:Le F (Fr 0)):eg c B0 bJ p0 d0 k g (upd Fr 0 F) gs w t ρ φ s:=by
 have ht:eW c bJ k (upd Fr 0 F) w.heap.size t:=by
  have:=eW.app (u:=#[]) h.base ⟨h.ne.2.1,h.ne.2.2⟩ h.parts h.iC (p:=0) (Nat.zero_le _) (dA:=upd Fr 0 F) (Nat.le_refl _) av av av av (fun q e=>upd_ne _ _ e) (fun l hl=>?_) (fun l hl=>?_)
  .simpa using this
  .rw[upd_same] at hl;refine .inl ?_;cases l with
   |cell a=>exact hle.own _ hl
   |obj r=>exact hle.own _ hl
   |_=>exact hl.elim
  .rw[upd_same] at hl;obtain ⟨a,rfl,f⟩:=hl;rcases hle.ro a f with z|z
   .exact .inl ⟨a,rfl,z⟩
   .exact .inr (.inl z)
 refine ⟨h.size,h.base,h.run,h.off,h.g0,h.old,fun i hi=>?_,h.deaf,h.above,h.deaf0,h.parts.act (Nat.zero_le _) (.refl _ _) hle,h.sh,h.inv,ht,h.rel,fun l hl d=>?_,h.low,fun i hi b hb=>?_,h.j3,h.ne⟩
 .rw[upd_ne _ _ aa];exact h.wk i hi
 .rw[upd_same] at d;exact h.apart l hl (hle.ie d)
 .rw[upd_ne _ _ aa] at hb;exact h.j0 i hi b hb
theorem dW.qD {F F':af}{w w':World}(h:eC F F' w w')(d:B0<=w.heap.size):dW c B0 F F' w w':=
 ⟨by rw[h.os];exact .refl _,h.tape,h.output,h.size,fun b hb e _=>h.frame b (Nat.lt_of_lt_of_le hb d) e,fun a f=>(h.ro a f).imp id fun x=>x.imp id fun y=>.inl (Nat.le_trans d y),fun b hb=>(h.own b hb).imp id fun y=>.inl (Nat.le_trans d y)⟩
theorem dW.DW {F:af}{w w':World}(h:iV c w w'):dW c B0 F F w w':=
 ⟨h.os,h.tape,h.output,by rw[h.size];exact Nat.le_refl _,fun b _ _ hs=>h.block b hs,fun _ h=>.inl h,fun _ h=>.inl h⟩
theorem eX.mono {F F':af}(hle:Le F F')(h:eX c B0 Φ k p0 d0 g F):eX c B0 Φ k p0 d0 g F':=by
 refine ⟨h.1,h.2.1,fun bJ gs w sl t Fr ρ φ s a b d e=>?_⟩;obtain ⟨N,cp,w',f,i,j,g',l,m,n,o,p,q,r⟩:=h.2.2 bJ gs w sl t (upd Fr 0 F) ρ φ s (upd_same _ _ _) (b.le (by rw[a];exact hle)) d e;exact ⟨N,cp,w',f,i,j,g',l,m,n,o,p.le hle,q,r⟩
theorem eX.closed (c:Cy)(B0:Nat)(Φ:Goroutine->af->Prop)(k:Nat)(p0:P0)(d0:Nat)(C:p0≠ .reg):Closed c.P true (eX c B0 Φ k p0 d0) where
 mono hle h:=h.mono hle
 step {fr cs F} h:=by
  refine ⟨rfl,rfl,fun bJ gs w sl t Fr ρ φ s y K L M=>?_⟩
  obtain ⟨N,D,w1,a4,A,t1,a5,a6,E,s1,O,⟨d,Q⟩,f,H,I,J,_⟩:=K.pick (fun e=>absurd e C) sl (fun e=>absurd e C)
  have n:Has F (w1.at d):=by have:=f.parts.has 0 (Nat.zero_le _);rw[I,y] at this;exact this.at d
  obtain ⟨g',w',es,F',hgo,hu,R,u,hJ⟩:=h (w1.at d) n
  have v:=f.at d
  have S:=runT_crowd_go (P:=c.P) (gs:=D) (w:=w1.at d) (sl:=A) (i:=0) H (show stepG c.P (0==0) (G fr cs) (w1.at d)=_ from hgo)
  have m:E 0=F:=I.trans y
  have T:∀b,b<w1.heap.size->b∉keys (E 0).own->w'.heap[b]?=w1.heap[b]?:=by rw[m];exact hu.frame
  have U:=v.zero (g':=g') (w':=w') (es:=es) (fn:=fr.fn) (pos:=fr.place) (s':=s1) (ia:=p0) (fX:=d0) (F':=F') H hJ.1 hJ.2.1 (.inr ⟨Int.le_refl _,Int.le_refl _⟩)
   (deafBehind_still (fun e he=>(mF (c:=c) n hu.size (u e he) 0).2.2.2) _) (v.parts.walk (Nat.zero_le _) (by rw[m];exact hu) R)
   (v.sh.keep fun b hb=>T b (f.parts.hU b hb) (fun hm=>f.parts.iB 0 (Nat.zero_le _) b hm hb)) v.inv
   (eW.app f.base ⟨f.ne.2.1,f.ne.2.2⟩ f.parts f.iC (p:=0) (Nat.zero_le _) hu.size (fun op g=>by obtain ⟨e,_,rfl⟩:=Go.Conc.mem_ofEvents g;rfl)
    (fun op g z V=>by obtain ⟨e,he,rfl⟩:=Go.Conc.mem_ofEvents g;rw[m];exact (mF (c:=c) n hu.size (u e he) 0).1 z V)
    (fun op g=>by obtain ⟨e,he,rfl⟩:=Go.Conc.mem_ofEvents g;exact (mF (c:=c) n hu.size (u e he) 0).2.1)
    (fun op g=>by obtain ⟨e,he,rfl⟩:=Go.Conc.mem_ofEvents g;exact (mF (c:=c) n hu.size (u e he) 0).2.2.1) (fun q W=>upd_ne _ _ W)
    (fun l hl=>by
     rw[upd_same] at hl
     rw[m]
     cases l with
     |cell a=>exact hu.own _ hl
     |obj r=>exact hu.own _ hl
     |_=>exact hl.elim)
    (fun l hl=>by
     rw[upd_same] at hl
     rw[m]
     obtain ⟨a,rfl,X⟩:=hl
     rcases hu.ro a X with z|z|z
     .exact .inl ⟨a,rfl,z⟩
     .exact .inr (.inl z)
     .exact .inr (.inr z)))
   hu.size (fun l hl j=>by
    have o:=f.apart l hl
    have B:=Loc.low_mono f.j3 (f.low l hl)
    rw[m] at o
    cases l with
    |cell a=>
     rcases j with j|j
     .rcases hu.own _ j with x|x
      .exact o (.inl x)
      .exact absurd B (Nat.not_lt.2 x)
     .rcases hu.ro _ j with x|x|x
      .exact o (.inr x)
      .exact o (.inl x)
      .exact absurd B (Nat.not_lt.2 x)
    |obj r=>
     rcases hu.own _ j with x|x
     .exact o x
     .exact absurd B (Nat.not_lt.2 x)
    |_=>exact j)
  obtain ⟨Y,Z,w2,ab,t2,ad,ae,al,ao,k1,ar,a0,a2,a3⟩:=hJ.2.2 bJ _ w' A _ _ _ _ _ (upd_same _ _ _) U L M
  refine ⟨N+1+Y,Z,w2,ab,t2,ad,ae,al,ao,?_,ar,?_,a2,a3⟩
  .have:runNT c.P (N+1) (crowd gs w sl) t=(.next (crowd ((D.map (woken c.P (G fr cs) g' w')).setIfInBounds 0 g') w' A),t1++MemOp.ofEvents 0 fr.fn fr.place es):=by
    rw[runNT_add,O]
    simp only[runNT,Q,S]
    rfl
   rw[kg this]
   exact k1
  .rw[y] at J
   exact (J.trans (dW.at_ _ _ _)).trans ((dW.qD (w:=w1.at d) hu f.j3).trans a0)
end
section
variable {c:Cy}{B0:Nat}{bJ:Loc->Prop}{p0:P0}{d0 k:Nat}{g:Goroutine}{F:af}{Fr:Nat->af}{gs:Array Goroutine}{w:World}{t u:Trace}{ρ:Nat->Rk}{φ:Nat->Ph}{s:Sh}{Φ:Goroutine->af->Prop}
theorem eX.act (E:g.status= .running)(G:g.offers=none)(v:p0= .reg->k=c.n/\∀w s,cQ c w s->s.ws=0->stepG c.P true g w= .go {g with status:=.blocked} w #[])
  (h:∀(w:World) (s:Sh) (φ:Nat->Ph),Has F w->cQ c w s->Inv c.n c.bs k φ p0 s->(p0= .reg->s.ws≠0)->∃(g':Goroutine) (w':World) (es:Array Event) (s':Sh) (ia:P0) (fX:Nat),
   stepG c.P true g w= .go g' w' es/\cQ c w' s'/\iV c w w'/\Inv c.n c.bs k φ ia s'/\Ev0 c d0 fX es/\(mayWake c.P g=true\/(s'.ms<=s.ms/\s'.ws<=s.ws))/\eX c B0 Φ k ia fX g' F):eX c B0 Φ k p0 d0 g F:=by
 refine ⟨E,G,fun bJ gs w sl t Fr ρ φ s x H I J=>?_⟩
 obtain ⟨N,y,w1,a4,j,t1,a5,K,m,s1,L,⟨d,M⟩,a,A,O,B,Q⟩:=H.pick (fun e=>(v e).1) sl (fun e=>(v e).2)
 have C:m 0=F:=O.trans x
 have R:Has F (w1.at d):=by have:=a.parts.has 0 (Nat.zero_le _);rw[C] at this;exact this.at d
 have f:=a.at d
 obtain ⟨g',w',es,s',ia,fX,hgo,S,o,hinv,D,T,hJ⟩:=h (w1.at d) s1 K R f.sh f.inv Q
 have U:=runT_crowd_go (P:=c.P) (gs:=y) (w:=w1.at d) (sl:=j) (i:=0) A (show stepG c.P (0==0) g (w1.at d)=_ from hgo)
 have r:=DV D (m 0) w1.heap.size (a.parts.hU _ (.inr (.inl rfl)))
 have u:w'.heap.size=w1.heap.size:=o.size
 have V:=f.zero (g':=g') (w':=w') (es:=es) (fn:=g.frame.fn) (pos:=g.frame.place) (s':=s') (ia:=ia) (fX:=fX) (F':=m 0) A hJ.1 hJ.2.1 T D.deaf (f.parts.act (Nat.zero_le _) o (.refl _)) S hinv
  (eW.app a.base ⟨a.ne.2.1,a.ne.2.2⟩ a.parts a.iC (p:=0) (Nat.zero_le _) (by rw[u];exact Nat.le_refl _) (fun op b=>by obtain ⟨e,_,rfl⟩:=Go.Conc.mem_ofEvents b;rfl)
   (fun op b z W=>by obtain ⟨e,he,rfl⟩:=Go.Conc.mem_ofEvents b;exact (r e he).1 z W)
   (fun op b=>by obtain ⟨e,he,rfl⟩:=Go.Conc.mem_ofEvents b;rw[u];exact (r e he).2.1)
   (fun op b=>by obtain ⟨e,he,rfl⟩:=Go.Conc.mem_ofEvents b;exact (r e he).2.2) (fun q X=>upd_ne _ _ X)
   (fun l hl=>by rw[upd_same] at hl;exact .inl hl) (fun l hl=>by rw[upd_same] at hl;exact .inl hl))
  (by rw[u];exact Nat.le_refl _) (fun l hl=>a.apart l hl)
 obtain ⟨Y,Z,w2,ab,t2,ad,ae,al,ao,k1,ar,a0,a2,a3⟩:=hJ.2.2 bJ _ w' j _ _ _ _ _ (by rw[upd_same];exact C) V I J
 refine ⟨N+1+Y,Z,w2,ab,t2,ad,ae,al,ao,?_,ar,?_,a2,a3⟩
 .have:runNT c.P (N+1) (crowd gs w sl) t=(.next (crowd ((y.map (woken c.P g g' w')).setIfInBounds 0 g') w' j),t1++MemOp.ofEvents 0 g.frame.fn g.frame.place es):=by
   rw[runNT_add,L]
   simp only[runNT,M,U]
  rw[kg this]
  exact k1
 .rw[x] at B
  exact (B.trans (dW.at_ _ _ _)).trans ((dW.DW o).trans a0)
theorem eX.ze (D:g.status= .running)(E:g.offers=none)(G:p0= .reg->k=c.n)
  (h:∀(w:World) (s:Sh) (φ:Nat->Ph),Has F w->cQ c w s->Inv c.n c.bs k φ p0 s->∃(g':Goroutine) (w':World) (es:Array Event) (s':Sh) (ia:P0) (fX:Nat),
   stepG c.P true g w= .go g' w' es/\cQ c w' s'/\iV c w w'/\Inv c.n c.bs k φ ia s'/\Ev0 c d0 fX es/\(mayWake c.P g=true\/(s'.ms<=s.ms/\s'.ws<=s.ws))/\eX c B0 Φ k ia fX g' F):eX c B0 Φ k p0 d0 g F:=by
 refine ⟨D,E,fun bJ gs w sl t Fr ρ φ s v H I J=>?_⟩
 obtain ⟨N,x,w1,a3,j,t1,a4,K,m,s1,L,⟨d,M⟩,a,y,O,A⟩:=H.sQ G sl
 have B:m 0=F:=O.trans v
 have Q:Has F (w1.at d):=by have:=a.parts.has 0 (Nat.zero_le _);rw[B] at this;exact this.at d
 have f:=a.at d
 obtain ⟨g',w',es,s',ia,fX,hgo,R,o,hinv,C,S,hJ⟩:=h (w1.at d) s1 K Q f.sh f.inv
 have T:=runT_crowd_go (P:=c.P) (gs:=x) (w:=w1.at d) (sl:=j) (i:=0) y (show stepG c.P (0==0) g (w1.at d)=_ from hgo)
 have r:=DV C (m 0) w1.heap.size (a.parts.hU _ (.inr (.inl rfl)))
 have u:w'.heap.size=w1.heap.size:=o.size
 have U:=f.zero (g':=g') (w':=w') (es:=es) (fn:=g.frame.fn) (pos:=g.frame.place) (s':=s') (ia:=ia) (fX:=fX) (F':=m 0) y hJ.1 hJ.2.1 S C.deaf (f.parts.act (Nat.zero_le _) o (.refl _)) R hinv
  (eW.app a.base ⟨a.ne.2.1,a.ne.2.2⟩ a.parts a.iC (p:=0) (Nat.zero_le _) (by rw[u];exact Nat.le_refl _) (fun op b=>by obtain ⟨e,_,rfl⟩:=Go.Conc.mem_ofEvents b;rfl)
   (fun op b z V=>by obtain ⟨e,he,rfl⟩:=Go.Conc.mem_ofEvents b;exact (r e he).1 z V)
   (fun op b=>by obtain ⟨e,he,rfl⟩:=Go.Conc.mem_ofEvents b;rw[u];exact (r e he).2.1)
   (fun op b=>by obtain ⟨e,he,rfl⟩:=Go.Conc.mem_ofEvents b;exact (r e he).2.2) (fun q W=>upd_ne _ _ W)
   (fun l hl=>by rw[upd_same] at hl;exact .inl hl) (fun l hl=>by rw[upd_same] at hl;exact .inl hl))
  (by rw[u];exact Nat.le_refl _) (fun l hl=>a.apart l hl)
 obtain ⟨X,Y,w2,Z,t2,ab,ad,ae,al,k1,ao,ar,a0,a2⟩:=hJ.2.2 bJ _ w' j _ _ _ _ _ (by rw[upd_same];exact B) U I J
 refine ⟨N+1+X,Y,w2,Z,t2,ab,ad,ae,al,?_,ao,?_,a0,a2⟩
 .have:runNT c.P (N+1) (crowd gs w sl) t=(.next (crowd ((x.map (woken c.P g g' w')).setIfInBounds 0 g') w' j),t1++MemOp.ofEvents 0 g.frame.fn g.frame.place es):=by
   rw[runNT_add,L]
   simp only[runNT,M,T]
  rw[kg this]
  exact k1
 .rw[v] at A
  exact (A.trans (dW.at_ _ _ _)).trans ((dW.DW o).trans ar)
theorem eX.spawn (D:g.status= .running)(a7:g.offers=none)(hk:k<c.n)
  (h:∀w,Has F w->∃g' child,stepG c.P true g w= .spawn g' child w #[]/\Wk c k {mp:=.idle,gp:=.cnt,stored:=false,deaf:=0} child ⟨F.ro,[]⟩/\child.status= .running/\child.offers=none/\eX c B0 Φ (k+1) (.opn 0) 0 g' F):
  eX c B0 Φ k (.opn 1) 0 g F:=by
 refine ⟨D,a7,fun bJ gs w sl t Fr ρ φ s ao a8 a9 ba=>?_⟩
 obtain ⟨N,H,w1,dt,ad,t1,bb,U,V,s1,bc,⟨d,bd⟩,f,ar,bj,a0,_⟩:=a8.pick (fun e=>by cases e) sl (fun e=>by cases e)
 have ae:V 0=F:=bj.trans ao
 have a2:Has F (w1.at d):=by have:=f.parts.has 0 (Nat.zero_le _);rw[ae] at this;exact this.at d
 have R:=f.at d
 obtain ⟨g',child,hgo,⟨O,r,hle,hW⟩,du,dv,hJ⟩:=h (w1.at d) a2
 have bk:=runT_crowd_spawn (P:=c.P) (gs:=H) (w:=w1.at d) (sl:=ad) (i:=0) ar (show stepG c.P (0==0) g (w1.at d)=_ from hgo)
 have a3:=f.size
 have bl:0<H.size:=(Array.getElem?_eq_some_iff.1 ar).1
 let J:Ph:={mp:=.idle,gp:=.cnt,stored:=false,deaf:=0}
 have K:keys O.own=[]:=by
  cases bm:keys O.own with
  |nil=>rfl
  |cons b l=>exact absurd (hle.own b (by rw[bm];simp)) (by simp[keys])
 have X:∀a,(O.ro a).isSome=true->((V 0).ro a).isSome=true:=fun a p=>by
  rw[ae]
  rcases hle.ro a p with x|x
  .exact x
  .simp[keys] at x
 have bo:Has O (w1.at d):=hle.has _ ⟨a2.ro,fun b o hb=>(by cases hb),List.nodup_nil,fun a v D hm=>(by cases hm)⟩
 have I:=R.inv.i
 have a4:(U k).gp= .new:=by
  have:=(I.born k hk)
  rcases Classical.em ((U k).gp= .new) with x|x
  .exact x
  .exact absurd (this.2 x) (Nat.lt_irrefl _)
 obtain ⟨br,bz,dC⟩:=I.new k hk a4
 let Q:Nat->af:=upd V (k+1) O
 have e1:∀q,q<=k->Q q=V q:=fun q A=>upd_ne _ _ aa
 have e2:Q (k+1)=O:=upd_same _ _ _
 have bS:ef c (k+1) Q (w1.at d):=by
  have G:=R.parts
  have cs:∀q,q<=k+1->q<=k\/q=k+1:=fun q A=>aa
  refine ⟨fun q A=>?_,fun q r A D aO b hb B=>?_,fun q r A D aO a p hb=>?_,fun q A b hb=>?_,fun q A a p=>?_,G.hU⟩
  .rcases cs q A with x|rfl
   .rw[e1 q x];exact G.has q x
   .rw[e2];exact bo
  .rcases cs q A with x|rfl
   .rcases cs r D with y|rfl
    .rw[e1 q x] at hb;rw[e1 r y] at B;exact G.own q r x y aO b hb B
    .rw[e2,K] at B;cases B
   .rw[e2,K] at hb;cases hb
  .rcases cs r D with y|rfl
   .rw[e1 r y] at hb
    rcases cs q A with x|rfl
    .rw[e1 q x] at p;exact G.ro q r x y aO a p hb
    .rw[e2] at p
     rcases Nat.eq_zero_or_pos r with rfl|dE
     .obtain ⟨v,b0⟩:=Option.isSome_iff_exists.1 (X a p)
      exact (G.has 0 (Nat.zero_le _)).apart a v b0 hb
     .exact G.ro 0 r (Nat.zero_le _) y aa a (X a p) hb
   .rw[e2,K] at hb;cases hb
  .rcases cs q A with x|rfl
   .rw[e1 q x] at hb;exact G.iB q x b hb
   .rw[e2,K] at hb;cases hb
  .rcases cs q A with x|rfl
   .rw[e1 q x] at p;exact G.jZ q x a p
   .rw[e2] at p;exact G.jZ 0 (Nat.zero_le _) a (X a p)
 have hinv:Inv c.n c.bs (k+1) (upd U k J) (.opn 0) s1:=by
  obtain ⟨C,S,W,L,m,hm⟩:=R.inv.m
  refine ⟨⟨C,S,W,L,m,oh hm hk J (.inl bz.symm)⟩,Kq R.inv.w hk J a4 rfl,I.len,hk,fun j E=>?_,fun j E=>?_,fun j E Y=>?_,fun j E Z a5=>?_⟩<;>by_cases e:j=k
  .subst e;rw[upd_same,I.all j E,br]
  .rw[upd_ne _ _ e];exact I.all j E
  .subst e;rw[upd_same];exact ⟨fun _=>by simp[J],fun _=>aa⟩
  .rw[upd_ne _ _ e,<-I.born j E];omega
  .subst e;rw[upd_same] at Y;simp[J] at Y
  .rw[upd_ne _ _ e] at Y ⊢;exact I.new j E Y
  .subst e;rw[upd_same] at Z;simp[J] at Z
  .rw[upd_ne _ _ e] at Z a5 ⊢;exact I.done j E Z a5
 let u:Array MemOp:=#[{g:=0,fn:=g.frame.fn,pos:=g.frame.place,act:=.go H.size},{g:=H.size,fn:=child.frame.fn,pos:=g.frame.place,act:=.start}]
 have b1:((MemOp.ofEvents 0 g.frame.fn g.frame.place #[]).push {g:=0,fn:=g.frame.fn,pos:=g.frame.place,act:=.go H.size}|>.push {g:=H.size,fn:=child.frame.fn,pos:=g.frame.place,act:=.start})=u:=by simp[MemOp.ofEvents,u]
 have b2:eW c bJ (k+1) Q w1.heap.size (t1++u):=f.iC.fork f.base f.parts ⟨rfl,by rw[a3]⟩ ⟨by rw[a3],rfl⟩ f.deaf0 (f.above _ aa) e1 (fun l hl=>by
  rw[e2] at hl
  cases l with
  |cell a=>simp only[fP,K] at hl;cases hl
  |obj r=>simp only[fP,K] at hl;cases hl
  |_=>exact hl) (fun l hl=>by
  rw[e2] at hl
  obtain ⟨a,rfl,p⟩:=hl
  exact ⟨a,rfl,X a p⟩)
 have T:∀j,Deaf (t1++u) j=Deaf t1 j:=fun j=>by
  have:=Deaf_append t1 j u.toList
  simp only[Array.toArray_toList] at this
  rw[this]
  rfl
 have b3:∀j r,gU c t1 j r->gU c (t1++u) j r:=fun j r D=>D.app fun idx x hi hg b4=>by
  obtain ⟨z,b5,ca⟩:=touch_of b4
  rcases getElem?_append_cases b5 with ⟨dT,_⟩|⟨_,a6⟩
  .omega
  .simp only[u,List.mem_toArray,List.mem_cons,List.not_mem_nil,or_false] at a6
   rcases a6 with rfl|rfl<;>cases ca
 have cb:eg c B0 bJ (.opn 0) 0 (k+1) g' Q ((H.setIfInBounds 0 g').push child) (w1.at d) (t1++u) (mG bb (c.base+k) r) (upd U k J) s1:=by
  have hb:=f.base
  refine ⟨by simp;omega,hb,hJ.1,hJ.2.1,⟨g',by rw[Array.getElem?_push,if_neg (by simp;omega)];exact Array.getElem?_setIfInBounds_self_of_lt bl,by have:=hJ.1;cases g';simp_all,.inl hJ.1⟩,fun j y cd B ab=>?_,fun i hi=>?_,fun i hi=>?_,fun j E=>?_,?_,bS,R.sh,hinv,b2,fun i hi hg=>?_,fun l hl=>by rw[e1 0 (Nat.zero_le _)];exact f.apart l hl,f.low,fun i hi b B=>?_,f.j3,f.ne⟩
  .rw[Array.getElem?_push,if_neg (by simp;omega),Array.getElem?_setIfInBounds_ne aa] at ab
   obtain ⟨q,A,cf⟩:=f.old j y cd B ab
   exact ⟨q,by rw[om _ _ aa];exact A,by rw[T];exact cf⟩
  .rcases Nat.lt_or_ge i k with M|al
   .obtain ⟨y,ab,cl⟩:=f.wk i M
    refine ⟨y,by rw[Array.getElem?_push,if_neg (by simp;omega),Array.getElem?_setIfInBounds_ne aa];exact ab,?_⟩
    rw[om _ _ aa,upd_ne _ _ aa,e1 (i+1) aa]
    exact cl
   .obtain rfl:i=k:=aa
    refine ⟨child,by rw[Array.getElem?_push,if_pos (by simp;omega)],?_⟩
    rw[qh,upd_same,e2]
    exact (hW.zb s1).1
  .rcases Nat.lt_or_ge i k with M|al
   .rw[T,upd_ne _ _ aa];exact f.deaf i M
   .obtain rfl:i=k:=aa
    rw[T,upd_same];exact f.above _ aa
  .rw[T];exact f.above j (by simp at E;omega)
  .rw[T];exact f.deaf0
  .rcases Nat.lt_or_ge i k with M|al
   .rw[upd_ne _ _ aa] at hg
    obtain ⟨r,D⟩:=f.rel i M hg
    exact ⟨r,b3 _ _ D⟩
   .obtain rfl:i=k:=aa
    rw[upd_same] at hg
    exact absurd rfl hg
  .rcases Nat.lt_or_ge i k with M|al
   .rw[e1 (i+1) aa] at B;exact f.j0 i M b B
   .obtain rfl:i=k:=aa
    rw[e2,K] at B;cases B
 obtain ⟨cy,cS,w2,c0,t2,da,db,dd,df,k1,dk,dp,dq,ds⟩:=hJ.2.2 bJ _ (w1.at d) ad _ Q _ _ _ (by rw[e1 0 (Nat.zero_le _)];exact ae) cb a9 ba
 refine ⟨N+1+cy,cS,w2,c0,t2,da,db,dd,df,?_,dk,?_,dq,ds⟩
 .have:runNT c.P (N+1) (crowd gs w sl) t=(.next (crowd ((H.setIfInBounds 0 g').push child) (w1.at d) ad),t1++u):=by
   rw[runNT_add,bc]
   simp only[runNT,bd,bk,b1]
  rw[kg this]
  exact k1
 .rw[ao] at a0
  exact (a0.trans (dW.at_ _ _ _)).trans dp
def Cy.fin (c:Cy):Obj:=.cells ((List.range c.n).map fun i=>Value.bool (c.bs i)).toArray c.tI
theorem eX.join (H:g.status= .running)(U:g.offers=none)
  (h:∀w,Has F w->∃g',stepG c.P true g w= .go g' w #[c8 (.acquire (stA c.Wg))]/\g'.status= .running/\Φ g' ⟨F.ro,(c.Is,c.fin)::F.own⟩):eX c B0 Φ c.n .fI 0 g F:=by
 refine ⟨H,U,fun bJ gs w sl t Fr ρ φ s L V W X=>?_⟩
 obtain ⟨N,m,w1,bd,M,t1,bj,Y,Z,s1,ab,⟨d,ad⟩,f,O,ae,Q,_⟩:=V.pick (fun e=>by cases e) sl (fun e=>by cases e)
 have u:Z 0=F:=ae.trans L
 have al:Has F w1:=by have:=f.parts.has 0 (Nat.zero_le _);rw[u] at this;exact this
 have B:Has F (w1.at d):=al.at d
 obtain ⟨g',hgo,bk,ao⟩:=h (w1.at d) B
 have ar:=runT_crowd_go (P:=c.P) (gs:=m) (w:=w1.at d) (sl:=M) (i:=0) O (show stepG c.P (0==0) g (w1.at d)=_ from hgo)
 have a0:0<m.size:=(Array.getElem?_eq_some_iff.1 O).1
 obtain ⟨_,a2,a3,a4⟩:=DI f.inv.w
 have I:∀i,i<c.n->(Y i).gp= .gone:=fun i hi=>(Kw a2 a3 a4 hi).resolve_right fun e=>((f.inv.i.born i hi).1 hi) e
 have a5:∀i,i<c.n->∃r,gU c t1 (c.base+i) r:=fun i hi=>f.rel i hi (by rw[I i hi];simp)
 have a6:=f.iC.gw a5 (y:={g:=0,fn:=g.frame.fn,pos:=g.frame.place,act:=.mark (.acquire (stA c.Wg))}) ⟨rfl,rfl⟩ f.deaf0 (f.parts.hU _ (.inr (.inl rfl)))
 have a7:MemOp.ofEvents 0 g.frame.fn g.frame.place #[c8 (.acquire (stA c.Wg))]=#[{g:=0,fn:=g.frame.fn,pos:=g.frame.place,act:=.mark (.acquire (stA c.Wg))}]:=by rw[Go.Conc.ofEvents_eq];simp[c8,MemAct.ofEvent]
 have a8:s1.is=(List.range c.n).map c.bs:=by
  refine List.ext_getElem? fun i=>?_
  by_cases hi:i<c.n
  .rw[f.inv.i.all i hi,(f.inv.i.done i hi (by rw[I i hi];simp) (by rw[I i hi];simp)).1]
   simp[hi]
  .have C:s1.is.length=c.n:=f.inv.i.len
   rw[List.getElem?_eq_none aa,List.getElem?_eq_none (by simp;omega)]
 have a9:w1.heap[c.Is]?=some c.fin:=by
  have:=f.sh.2.2
  rw[a8,List.map_map] at this
  exact this
 have R:∀j,∃q,∀x,0<j->m[j]?=some x->QuitsD c.P q (Deaf t1 j) x:=fun j=>by
  by_cases J:∃x,0<j/\m[j]?=some x
  .obtain ⟨x,D,E⟩:=J
   rcases Nat.lt_or_ge j c.base with S|S
   .obtain ⟨q,_,A⟩:=f.old j x D S E
    exact ⟨q,fun y _ p=>by rw[E] at p;cases p;exact A⟩
   .have hl:j<m.size:=(Array.getElem?_eq_some_iff.1 E).1
    have bl:=f.size
    obtain ⟨i,rfl⟩:∃i,j=c.base+i:=⟨j - c.base,aa⟩
    obtain ⟨y,p,hW⟩:=f.wk i aa
    rcases hW with ⟨_,q,_,A⟩|⟨ba,_⟩
    .exact ⟨q,fun z _ K=>by rw[p] at K;cases K;rw[f.deaf i aa];exact A⟩
    .exact absurd (I i aa) ba
  .exact ⟨0,fun x D E=>absurd ⟨x,D,E⟩ J⟩
 let q:Nat->Nat:=fun j=>Classical.choose (R j)
 have bb:∀j x,0<j->m[j]?=some x->QuitsD c.P (q j) (Deaf t1 j) x:=fun j=>Classical.choose_spec (R j)
 have T:∀j,j≠0->Deaf (t1++#[({g:=0,fn:=g.frame.fn,pos:=g.frame.place,act:=.mark (.acquire (stA c.Wg))}:MemOp)]) j=Deaf t1 j:=fun j aO=>Deaf_other t1 (g':=0) (Ne.symm aO) _ av
 refine ⟨N+1,(m.map (woken c.P g g' (w1.at d))).setIfInBounds 0 g',w1.at d,M,t1++#[{g:=0,fn:=g.frame.fn,pos:=g.frame.place,act:=.mark (.acquire (stA c.Wg))}],q,g',⟨F.ro,(c.Is,c.fin)::F.own⟩,_,?_,⟨?_,⟨fun j y D p=>?_,fun j J=>?_⟩,a6,?_,fun l hl k=>?_,fun l hl=>?_⟩,?_,fun l hl=>hl,ao⟩
 .rw[runNT_add,ab]
  simp only[runNT,ad,ar,a7]
 .exact Array.getElem?_setIfInBounds_self_of_lt (by simpa using a0)
 .rw[Array.getElem?_setIfInBounds_ne aa,Array.getElem?_map] at p
  obtain ⟨z,K,rfl⟩:=Option.map_eq_some_iff.1 p
  have A:=bb j z D K
  rw[woken_quitsD A,T j aa];exact A
 .have:m.size<=j:=by simpa using J
  rw[T j aa]
  exact f.above j this
 .have bc:c.Is∉keys F.own:=fun hm=>f.parts.iB 0 (Nat.zero_le _) _ (by rw[u];exact hm) (.inr (.inr rfl))
  refine ⟨B.ro,fun b o hb=>?_,?_,fun a v H hm=>?_⟩
  .rcases List.mem_cons.1 hb with x|x
   .cases x;exact a9
   .exact B.own b o x
  .exact List.nodup_cons.2 ⟨bc,B.nodup⟩
  .rcases List.mem_cons.1 hm with x|x
   .exact f.parts.jZ 0 (Nat.zero_le _) a (by rw[u,H];rfl) (.inr (.inr x))
   .exact B.apart a v H x
 .rcases hl with hl|⟨a,rfl,G⟩
  .have C:=f.apart l hl
   rw[u] at C
   cases l with
   |cell a=>
    rcases k with k|k
    .rcases List.mem_cons.1 k with x|x
     .exact W a hl (.inr (.inr x))
     .exact C (.inl x)
    .exact C (.inr k)
   |obj r=>
    rcases List.mem_cons.1 k with x|x
    .exact X r hl (.inr (.inr x))
    .exact C x
   |_=>exact k
  .rcases k with k|k
   .rcases List.mem_cons.1 k with x|x
    .exact f.ne.2.2 (G▸x)
    .exact f.parts.iB 0 (Nat.zero_le _) a.block (by rw[u];exact x) (.inr (.inl G))
   .exact f.parts.jZ 0 (Nat.zero_le _) a (by rw[u];exact k) (.inr (.inl G))
 .rcases hl with hl|⟨a,rfl,G⟩
  .exact Loc.low_mono f.j3 (f.low l hl)
  .show a.block<_;rw[G];exact f.parts.hU _ (.inr (.inl rfl))
 .rw[L] at Q
  refine (Q.trans (dW.at_ _ _ _)).trans ⟨.refl _,rfl,rfl,Nat.le_refl _,fun _ _ _ _=>rfl,fun _ h=>.inl h,fun b hb=>?_⟩
  rcases List.mem_cons.1 hb with x|x
  .exact .inr (.inr (.inr (.inr x)))
  .exact .inl x
end
def ju (P:Program)(Φ:Goroutine->af->Prop)(g:Goroutine)(F:af):Prop:=
 g.status= .running/\g.offers=none/\∀(bJ:Loc->Prop) (gs:Array Goroutine) (w:World) (sl:Option (Nat×Nat)) (t:Trace) (q:Nat->Nat),j9 P bJ g F gs w t q->
  ∃(N:Nat) (cp:Array Goroutine) (w':World) (c:Option (Nat×Nat)) (a:Trace) (d:Nat->Nat) (g':Goroutine) (F':af) (b:Loc->Prop),
   runNT P N (crowd gs w sl) t=(.next (crowd cp w' c),a)/\j9 P b g' F' cp w' a d/\fY F F' w w'/\(∀l,b l->bJ l\/¬l.low w.heap.size\/fP F l)/\Φ g' F'
theorem ju.done {P:Program}{Φ:Goroutine->af->Prop}{g:Goroutine}{F:af}(a:g.status= .running)(b:g.offers=none)(h:Φ g F):ju P Φ g F:=
 ⟨a,b,fun bJ gs w sl t q c=>⟨0,gs,w,sl,t,q,g,F,bJ,rfl,c,.refl _ _,fun _ h=>.inl h,h⟩⟩
theorem Le.KO {F F':af}(h:Le F F'){l:Loc}(hl:fP F l):fP F' l:=by
 cases l with
 |cell a=>exact h.own _ hl
 |obj r=>exact h.own _ hl
 |_=>exact hl
theorem DX (P:Program)(Φ:Goroutine->af->Prop):Closed P true (ju P Φ) where
 mono hle h:=by
  refine ⟨h.1,h.2.1,fun bJ gs w sl t q b=>?_⟩
  obtain ⟨N,cp,w',A,B,C,g',F',D,k,E,hu,H,I⟩:=h.2.2 bJ gs w sl t q ⟨b.g0,b.lv,b.gw,hle.has w b.has,fun l hs J=>b.apart l hs (hle.ie J),b.low⟩
  exact ⟨N,cp,w',A,B,C,g',F',D,k,E,hu.le hle,fun l hl=>(H l hl).imp id fun x=>x.imp id hle.KO,I⟩
 step {fr cs F} h:=by
  refine ⟨rfl,rfl,fun bJ gs w sl t q b=>?_⟩
  obtain ⟨N,m,d,n,a0,o,t1,K,k,a2,s,hL,L,M⟩:=sQ (P:=P) (a:=G fr cs) rfl _ gs w sl t q (Nat.le_refl _) b.g0 b.lv b.gw
  obtain ⟨g',w',es,F',hgo,hu,O,Q,hJ⟩:=h (w.at n) (b.has.at n)
  have c:eC F F' w w':=⟨hu.os,hu.tape,hu.output,hu.size,hu.frame,hu.ro,hu.own⟩
  have R:=runT_crowd_go (P:=P) (sl:=o) (i:=0) s (show stepG P (0==0) (G fr cs) (w.at n)=_ from hgo)
  have S:0<m.size:=(Array.getElem?_eq_some_iff.1 s).1
  have u:=j9.next (P:=P) b.apart b.low c
  obtain ⟨T,U,w2,V,t2,W,X,Y,Z,ab,ad,ae,al,ao⟩:=hJ.2.2 bJ ((m.map (woken P (G fr cs) g' w')).setIfInBounds 0 g') w' o (t1++MemOp.ofEvents 0 (G fr cs).frame.fn (G fr cs).frame.place es) K
   {g0:=by simp[S]
    lv:=⟨fun j x g v=>by
     have aO:0≠j:=aa
     rw[Array.getElem?_setIfInBounds_ne aO,Array.getElem?_map] at v
     obtain ⟨y,ar,rfl⟩:=Option.map_eq_some_iff.1 v
     have z:=hL.old j y g ar
     rw[woken_quitsD z,Deaf_other t1 aa _ (fun op p=>by obtain ⟨e,_,rfl⟩:=Go.Conc.mem_ofEvents p;rfl)]
     exact z,fun j g=>by
     rw[Deaf_other t1 (g':=0) (by simp at g;omega) _ (fun op p=>by obtain ⟨e,_,rfl⟩:=Go.Conc.mem_ofEvents p;rfl)]
     exact hL.above j (by simpa using g)⟩
    gw:=(L.mono c.size).own fun e he=>Av b.has c.size b.apart b.low (Q e he)
    has:=O
    apart:=u.1
    low:=u.2}
  refine ⟨N+1+T,U,w2,V,t2,W,X,Y,Z,?_,ad,(fY.qD c).trans ae,fun l hl=>?_,ao⟩
  .have:runNT P (N+1) (crowd gs w sl) t=(.next (crowd ((m.map (woken P (G fr cs) g' w')).setIfInBounds 0 g') w' o),t1++MemOp.ofEvents 0 (G fr cs).frame.fn (G fr cs).frame.place es):=by
    rw[runNT_add,k]
    simp only[runNT,M,R]
   rw[kg this]
   exact ab
  .rcases al l hl with x|x|x
   .exact .inl x
   .exact .inr (.inl fun f=>x (Loc.low_mono c.size f))
   .cases l with
    |cell a=>
     rcases c.own _ x with y|y
     .exact .inr (.inr y)
     .exact .inr (.inl fun f=>absurd f (Nat.not_lt.2 y))
    |obj r=>
     rcases c.own _ x with y|y
     .exact .inr (.inr y)
     .exact .inr (.inl fun f=>absurd f (Nat.not_lt.2 y))
    |_=>exact x.elim
theorem gz.KP {P:Program}{f:FuncId}{args:Array Value}{ro:Addr->Option Value}{R:Value->af->Prop}(h:∀Φ,dx P (ju P Φ) f args ⟨ro,[]⟩ R):gz P f args ⟨ro,[]⟩ R:=by
 intro Φ c cs hK bJ gs w sl t q b;obtain ⟨N,cp,w',d,e,g,g',F',i,j,k,hu,m,v,rfl,a⟩:=(h (fun g' F'=>∃v,g'=G (c.finish v) cs/\R v F') c cs (fun v F' a=>ju.done rfl rfl ⟨v,rfl,a⟩)).2.2 bJ gs w sl t q b;obtain ⟨n,o,w2,p,t2,r,s,u,z,A,B,C,D,E⟩:=hK v F' a i cp w' d e g k;refine ⟨N+n,o,w2,p,t2,r,s,u,z,by rw[kg j];exact A,B,hu.trans C,fun l hl=>?_,E⟩;rcases D l hl with x|x
 .rcases m l x with y|y|y
  .exact .inl y
  .exact .inr y
  .cases l<;>first|(simp only[fP,keys,List.map_nil] at y;cases y)|exact y.elim
 .exact .inr fun F=>x (Loc.low_mono hu.size F)
theorem ju.found {P:Program}{Φ:Goroutine->af->Prop}{g:Goroutine}{F B:af}{Mu Wg Is:Nat}{tM tW tI:TypeId}{n:Nat}(bs:Nat->Bool)(H:g.status= .running)(O:g.offers=none)
  (hle:Le ⟨B.ro,(Mu,muBlock tM 0 0)::(Wg,wgBlock tW 0 0)::(Is,.cells (List.replicate n (Value.bool false)).toArray tI)::B.own⟩ F)
  (h:∀base B0 T0,0<base->(Mu≠Wg/\Mu≠Is/\Wg≠Is)->eX ⟨P,Mu,Wg,Is,tM,tW,tI,n,bs,base,T0⟩ B0 (ju P Φ) 0 (.opn 0) 0 g B):ju P Φ g F:=by
 refine ⟨H,O,fun bJ gs w sl t q k=>?_⟩
 have u:=hle.has w k.has
 have Q:0<gs.size:=(Array.getElem?_eq_some_iff.1 k.g0).1
 let c:Cy:=⟨P,Mu,Wg,Is,tM,tW,tI,n,bs,gs.size,t.size⟩
 have R:=u.nodup
 simp only[keys,List.map_cons,List.nodup_cons,List.mem_cons,not_or] at R
 obtain ⟨⟨n1,n2,n3⟩,⟨S,T⟩,U,V⟩:=R
 have m:∀b,c.shared b->b∈keys F.own:=fun b hb=>by
  rcases hb with rfl|rfl|rfl<;>exact hle.own _ (by simp[keys,c])
 have C:∀b,b∈keys B.own->b∈keys F.own:=fun b hb=>hle.own b (by simp only[keys,List.map_cons,List.mem_cons];exact .inr (.inr (.inr hb)))
 have L:∀a,(B.ro a).isSome=true->(F.ro a).isSome=true\/a.block∈keys F.own:=fun a d=>hle.ro a d
 have W:Has B w:=⟨u.ro,fun b o hb=>u.own b o (List.mem_cons_of_mem _ (List.mem_cons_of_mem _ (List.mem_cons_of_mem _ hb))),V,fun a v H hm=>u.apart a v H (by simp only[keys,List.map_cons,List.mem_cons];exact .inr (.inr (.inr hm)))⟩
 have J:∀l,F.ie l->∀i a,touchAt t i=some a->a.loc=l->l.isMemory=true->Go.Conc.Knows t 0 i:=fun l hl i a d e hm=>by
  rcases k.gw.known i a d (by rw[e];exact hm) with x|⟨x,_⟩
  .exact x
  .exact absurd hl (k.apart l (e▸x))
 let φ:Nat->Ph:=fun _=>{mp:=.idle,gp:=.new,stored:=false,deaf:=0}
 let s:Sh:=⟨0,0,0,0,List.replicate n false⟩
 have X:eg c w.heap.size bJ (.opn 0) 0 0 g (fun _=>B) gs w t (fun j=>Rk.nat (q j)) φ s:=by
  refine ⟨rfl,Q,H,O,⟨g,k.g0,by cases g;simp_all,.inl H⟩,fun j x Y _ Z=>⟨q j,rfl,k.lv.old j x Y Z⟩,fun i hi=>aa,fun i hi=>aa,k.lv.above,k.gw.hears,⟨fun p D=>W,fun p q D ab aO=>aa,fun p q D ab aO=>aa,fun p D b hb hs=>?_,fun p D a d hs=>?_,fun b hb=>k.has.lt (m b hb)⟩,
   ⟨?_,?_,?_⟩,⟨⟨0,0,0,0,0,⟨⟨rfl,aa,aa,aa⟩,rfl,?_,fun _=>?_,fun e=>aa,fun i hi o G ad=>by simp[φ,Mp.seen] at ad⟩⟩,⟨?_⟩,⟨by simp[s,c],Nat.zero_le _,fun i hi=>?_,fun i hi=>?_,fun i hi _=>⟨rfl,rfl,rfl⟩,fun i hi _ K=>by simp[φ] at K⟩⟩,
   ⟨Nat.le_refl _,fun i a d hs=>.inr fun p D=>?_,k.gw.clean,fun p D l hl=>?_,fun p D l hl=>?_,fun i hi=>aa,fun i hi l hl=>?_,k.gw.seen,fun i hi e=>?_,fun i a d hm=>?_,fun i g hg ae al=>.inl (k.gw.over i g hg ae al)⟩,
   fun i hi=>aa,fun l hl E=>?_,k.low,fun i hi=>aa,Nat.le_refl _,⟨n1,n2,S⟩⟩
  .rcases hs with e|e|e
   .exact n3 (by rw[<-show b=Mu from e];exact hb)
   .exact T (by rw[<-show b=Wg from e];exact hb)
   .exact U (by rw[<-show b=Is from e];exact hb)
  .obtain ⟨v,ao⟩:=Option.isSome_iff_exists.1 d
   refine u.apart a v ao ?_
   rcases hs with e|e|e
   .rw[show a.block=Mu from e];simp[keys]
   .rw[show a.block=Wg from e];simp[keys]
   .rw[show a.block=Is from e];simp[keys]
  .exact u.own Mu (muBlock tM 0 0) (.head _)
  .exact u.own Wg (wgBlock tW 0 0) (.tail _ (.head _))
  .have:=u.own Is (.cells (List.replicate n (Value.bool false)).toArray tI) (.tail _ (.tail _ (.head _)))
   rw[show (s.is.map Value.bool)=List.replicate n (Value.bool false) from by simp[s]]
   exact this
  .exact (y8 fun i hi=>rfl).symm
  .have z:∀f:Mp->Nat,f .idle=0->sm n φ f=0:=fun f E=>y8 fun i hi=>E
   have a1:=z Mp.nI rfl;have a2:=z Mp.nY rfl;have a3:=z Mp.nA rfl;have a4:=z Mp.nK rfl;have a5:=z Mp.nT rfl;have b1:=z Mp.nQ rfl
   refine ⟨a1,a2,?_,?_,fun e=>absurd e (Nat.lt_irrefl _)⟩
   .show 0=sm n φ Mp.nA+0+sm n φ Mp.nK+sm n φ Mp.nT;omega
   .show 0+0+sm n φ Mp.nT=sm n φ Mp.nQ;omega
  .have z:∀f:Gp->Nat,f .new=0->sg n φ f=0:=fun f E=>vg fun i hi=>E
   refine ⟨aa,?_,rfl,z _ rfl,z _ rfl⟩
   show (0:Int)=((sg n φ Gp.nV+0:Nat):Int)*dz
   rw[z _ rfl];rfl
  .simp[s,φ,show i<n from hi]
  .exact ⟨fun e=>aa,fun e=>by simp[φ] at e⟩
  .obtain rfl:p=0:=aa
   obtain ⟨b,e,hb⟩:=hs
   exact J a.loc (by rw[e];exact .inl (m _ (hb.elim .inl fun x=>.inr (.inl x)))) i a d rfl (by rw[e];rfl)
  .obtain rfl:p=0:=aa
   intro i a d e
   refine J l ?_ i a d e ?_
   .cases l with
    |cell a=>exact .inl (C _ hl)
    |obj r=>exact C _ hl
    |_=>exact hl.elim
   .cases l<;>first|rfl|exact hl.elim
  .obtain rfl:p=0:=aa
   obtain ⟨b,rfl,hb⟩:=hl
   exact fun i a d e _=>J (.cell b) ((L b hb).elim (fun x=>Or.inr x) (fun x=>Or.inl x)) i a d e rfl
  .intro j a d e
   rw[show l=_ from hl] at e
   exact J (.cell ⟨Is,i,none⟩) (Or.inl (m Is (.inr (.inr rfl)))) j a d e rfl
  .exact absurd (lt_of_act? e) (Nat.not_lt.2 hi)
  .rcases k.gw.known i a d hm with x|x
   .exact .inl x
   .exact .inr (.inl x)
  .refine k.apart l hl ?_
   cases l with
   |cell a=>exact E.elim (fun x=>.inl (C _ x)) fun x=>(L a x).elim .inr .inl
   |obj r=>exact C _ E
   |_=>exact E
 obtain ⟨N,cp,w',ar,a0,a6,g',F',a7,k1,a8,A,a9,ba⟩:=(h gs.size w.heap.size t.size Q ⟨n1,n2,S⟩).2.2 bJ gs w sl t _ _ _ _ rfl X (fun a hs hb=>k.apart _ hs (.inl (m _ hb))) (fun r hs hb=>k.apart _ hs (m _ hb))
 obtain ⟨bb,bc,w2,bd,t2,bj,bk,bl,bm,bo,br,bz,bS,b0⟩:=ba.2.2 a7 cp w' ar a0 a6 a8
 have M:fY F F' w w':=⟨A.os,A.tape,A.output,A.size,fun b hb K=>A.frame b hb (fun x=>K (C b x)) (fun x=>K (m b x)),fun a d=>by
  rcases A.ro a d with x|x|x|x
  .exact (L a x).imp id .inl
  .exact .inr (.inl (C _ x))
  .exact .inr (.inr x)
  .exact .inr (.inl (m _ x)),fun b hb=>by
  rcases A.own b hb with x|x|x
  .exact .inl (C b x)
  .exact .inr x
  .exact .inl (m b x)⟩
 refine ⟨N+bb,bc,w2,bd,t2,bj,bk,bl,bm,by rw[kg k1];exact bo,br,M.trans bz,fun l hl=>?_,b0⟩
 rcases bS l hl with x|x|x
 .rcases a9 l x with y|⟨a,rfl,d⟩
  .exact .inl y
  .exact .inr (.inr (show a.block∈keys F.own from m _ (.inr (.inl d))))
 .exact .inr (.inl fun I=>x (Loc.low_mono A.size I))
 .cases l with
  |cell a=>
   rcases M.own _ x with y|y
   .exact .inr (.inr y)
   .exact .inr (.inl fun I=>absurd I (Nat.not_lt.2 y))
  |obj r=>
   rcases M.own _ x with y|y
   .exact .inr (.inr y)
   .exact .inr (.inl fun I=>absurd I (Nat.not_lt.2 y))
  |_=>exact x.elim
end Go.Sep
end

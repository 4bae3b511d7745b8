/- A part of the proof of a row and its tied card: QK7. -/
import Derived.Test.YtpgcmoanfifglaaGreatDoorQK6
import Derived.Conc.CrowdTrace
set_option linter.all false
section
namespace Go.Sep
open Go Go.Conc
open Go.ConcN (PermW fork_knows)
open Go.ConcM (MuAt muA msA muBlock)
open Go.ConcR (WgAt wgBlock stA smA)
structure Cy where
 P:Program
 Mu:Nat
 Wg:Nat
 Is:Nat
 tM:TypeId
 tW:TypeId
 tI:TypeId
 n:Nat
 bs:Nat->Bool
 base:Nat
 T0:Nat
def Cy.shared (c:Cy)(b:Nat):Prop:=b=c.Mu\/b=c.Wg\/b=c.Is
def Cy.sy (c:Cy)(l:Loc):Prop:=∃a,l= .cell a/\(a.block=c.Mu\/a.block=c.Wg)
def Cy.gid (c:Cy):Nat->Nat
 |0=>0
 |i+1=>c.base+i
theorem Cy.IN (c:Cy)(hb:0<c.base){p q:Nat}(h:p≠q):c.gid p≠c.gid q:=by
 cases p<;>cases q<;>simp[Cy.gid] at*<;>omega
def eV (F:aa):Loc->Prop
 | .cell a=>a.block∈keys F.own
 | .obj r=>r∈keys F.own
 |_=>False
def iI (F:aa)(l:Loc):Prop:=∃a,l= .cell a/\(F.ro a).isSome=true
def kG (B:Nat):Loc->Prop
 | .cell a=>B<=a.block
 | .obj r=>B<=r
 |_=>False
def ov (c:Cy)(i:Nat)(l:Loc):Prop:=l= .cell ⟨c.Is,i,none⟩
structure dB (c:Cy)(k:Nat)(Fr:Nat->aa)(w:World):Prop where
 has:∀p,p<=k->Has (Fr p) w
 own:∀p q,p<=k->q<=k->p≠q->∀b∈keys (Fr p).own,b∉keys (Fr q).own
 ro:∀p q,p<=k->q<=k->p≠q->∀a,((Fr p).ro a).isSome=true->a.block∉keys (Fr q).own
 gE:∀p,p<=k->∀b∈keys (Fr p).own,¬c.shared b
 jj:∀p,p<=k->∀a,((Fr p).ro a).isSome=true->¬c.shared a.block
 gk:∀b,c.shared b->b<w.heap.size
structure fV (c:Cy)(t:Trace)(g r:Nat):Prop where
 late:c.T0<=r
 act:t.act? r=some (.mark (.releaseMerge (stA c.Wg)))
 Cf:t.g? r=some g
 heard:t.heard r
 after:∀i x,r<i->t.g? i=some g->touchAt t i=some x->x.kind= .atomic/\¬t.heard i/\∃a,x.loc= .cell a/\a.block=c.Wg
structure ei (c:Cy)(bB:Loc->Prop)(k:Nat)(Fr:Nat->aa)(B:Nat)(t:Trace):Prop where
 len:c.T0<=t.size
 quiet:∀i a,touchAt t i=some a->c.sy a.loc->(a.kind≠ .plain/\(a.kind= .said->t.g? i=some 0))\/∀p,p<=k->Go.Conc.Knows t (c.gid p) i
 nr:∀said,¬Race said t
 own:∀p,p<=k->∀l,eV (Fr p) l->Perm t (c.gid p) l
 ro:∀p,p<=k->∀l,iI (Fr p) l->PermW t (c.gid p) l
 s9:∀i,i<k->∀l,ov c i l->Perm t (c.base+i) l
 ta:∀i,k<=i->∀l,ov c i l->Perm t 0 l
 low:∀op∈t,op.act.low B
 norel:∀i,c.T0<=i->t.act? i≠some (.mark (.release (stA c.Wg)))
 known:∀i a,touchAt t i=some a->a.loc.isMemory=true->Go.Conc.Knows t 0 i\/(bB a.loc/\a.kind= .atomic)\/∃j,j<k/\t.g? i=some (c.base+j)
 over:∀i g,t.g? i=some g->g≠0->t.counts i->(∃j,t.g? j=some 0/\HappensBefore t i j)\/∃j,j<k/\g=c.base+j
def tc (c:Cy)(F:aa)(B p:Nat)(x:Touch):Prop:=
 eV F x.loc\/kG B x.loc\/(iI F x.loc/\x.write=false)\/(c.sy x.loc/\x.kind≠ .plain/\(x.kind= .said->p=0))\/(∃i,p=i+1/\ov c i x.loc)\/x.loc.isMemory=false
theorem Cg {B:Nat}{l:Loc}(h:l.low B)(b:kG B l):False:=by
 cases l with
 |cell a=>exact absurd h (Nat.not_lt.2 b)
 |obj r=>exact absurd h (Nat.not_lt.2 b)
 |_=>exact b
theorem Ch {B:Nat}{t:Trace}(h:∀op∈t,op.act.low B){i:Nat}{a:Touch}(c:touchAt t i=some a):a.loc.low B:=by
 obtain ⟨x,hx,b⟩:=touch_of c;have hm:=h x (Array.mem_of_getElem? hx);obtain ⟨g,fn,pos,act⟩:=x;cases act with
 |access e=>simp only[MemAct.touch?,Option.some.injEq] at b;subst b;exact hm
 |mark m=>cases m<;>simp only[MemAct.touch?,Option.some.injEq] at b<;>first|(subst b;exact hm)|cases b
 |_=>cases b
theorem IP {F:aa}{w:World}(h:Has F w){l:Loc}(hl:eV F l):¬kG w.heap.size l:=by
 cases l with
 |cell a=>exact fun x=>absurd (h.lt hl) (Nat.not_lt.2 x)
 |obj r=>exact fun x=>absurd (h.lt hl) (Nat.not_lt.2 x)
 |_=>exact hl.elim
theorem IQ {F:aa}{w:World}(h:Has F w){l:Loc}(hl:iI F l):¬kG w.heap.size l:=by
 obtain ⟨a,rfl,b⟩:=hl;exact fun x=>absurd (h.gK b) (Nat.not_lt.2 x)
section
variable {c : Cy} {bB : Loc → Prop} {k : Nat} {Fr : Nat → aa} {w : World} {t u : Trace}
theorem dB.sep (h:dB c k Fr w){p q:Nat}(d:p<=k)(e:q<=k)(aG:p≠q){l:Loc}(b:eV (Fr p) l)(f:eV (Fr q) l):False:=by
 cases l with
 |cell a=>exact h.own p q d e aG _ b f
 |obj r=>exact h.own p q d e aG _ b f
 |_=>exact b
theorem dB.Ci (h:dB c k Fr w){p q:Nat}(b:p<=k)(d:q<=k)(aG:p≠q){l:Loc}(e:iI (Fr p) l)(f:eV (Fr q) l):False:=by
 obtain ⟨a,rfl,g⟩:=e;exact h.ro p q b d aG a g f
theorem dB.Cj (h:dB c k Fr w){p:Nat}(d:p<=k){l:Loc}(e:eV (Fr p) l)(b:c.sy l):False:=by
 obtain ⟨a,rfl,b⟩:=b;exact h.gE p d _ e (b.elim .inl fun x=>.inr (.inl x))
theorem dB.Ck (h:dB c k Fr w){p:Nat}(f:p<=k){l:Loc}(b:iI (Fr p) l)(d:c.sy l):False:=by
 obtain ⟨a,rfl,b⟩:=b;obtain ⟨g,e,d⟩:=d;cases e;exact h.jj p f _ b (d.elim .inl fun x=>.inr (.inl x))
theorem dB.xP (h:dB c k Fr w){p i:Nat}(a:p<=k){l:Loc}(b:eV (Fr p) l)(d:ov c i l):False:=by
 subst d;exact h.gE p a _ b (.inr (.inr rfl))
theorem dB.xQ (h:dB c k Fr w){p i:Nat}(d:p<=k){l:Loc}(b:iI (Fr p) l)(f:ov c i l):False:=by
 subst f;obtain ⟨a,e,b⟩:=b;cases e;exact h.jj p d _ b (.inr (.inr rfl))
theorem dB.IS (h:dB c k Fr w){l:Loc}(d:kG w.heap.size l)(b:c.sy l):False:=by
 obtain ⟨a,rfl,b⟩:=b;exact absurd (h.gk _ (b.elim .inl fun x=>.inr (.inl x))) (Nat.not_lt.2 d)
theorem dB.Cl (h:dB c k Fr w){i:Nat}{l:Loc}(a:kG w.heap.size l)(b:ov c i l):False:=by
 subst b;exact absurd (h.gk _ (.inr (.inr rfl))) (Nat.not_lt.2 a)
theorem td {a:Addr}{T:Nat}(h:∀i,T<=i->t.act? i≠some (.mark (.release a)))(hu:∀op∈u,op.act≠ .mark (.release a)):∀i,T<=i->(t++u).act? i≠some (.mark (.release a)):=by
 intro i c hi;obtain ⟨op,d,b⟩:=Option.map_eq_some_iff.1 hi;rcases getElem?_append_cases d with ⟨_,e⟩|⟨_,f⟩
 ·exact h i c (by rw[act?_of e,b])
 ·exact hu op f b
theorem Cm (h:∀i a,touchAt t i=some a->c.sy a.loc->(a.kind≠ .plain/\(a.kind= .said->t.g? i=some 0))\/∀p,p<=k->Go.Conc.Knows t (c.gid p) i)
  (hu:∀op∈u,∀x,op.act.touch?=some x->c.sy x.loc->x.kind≠ .plain/\(x.kind= .said->op.g=0)):
  ∀i a,touchAt (t++u) i=some a->c.sy a.loc->(a.kind≠ .plain/\(a.kind= .said->(t++u).g? i=some 0))\/∀p,p<=k->Go.Conc.Knows (t++u) (c.gid p) i:=by
 intro i a d hs
 obtain ⟨x,hx,b⟩:=touch_of d
 rcases getElem?_append_cases hx with ⟨hi,f⟩|⟨_,j⟩
 ·rcases h i a (by rw[touchAt_of f];exact b) hs with ⟨y,z⟩|y
  ·exact .inl ⟨y,fun e=>by rw[g?_old hi];exact z e⟩
  ·exact .inr fun p l=>(y p l).app u
 ·obtain ⟨y,z⟩:=hu x j a b hs
  exact .inl ⟨y,fun e=>by simp[Trace.g?,hx,z e]⟩
theorem ei.app (hb:0<c.base)(aG:c.Mu≠c.Is/\c.Wg≠c.Is)(m:dB c k Fr w)(h:ei c bB k Fr w.heap.size t){p:Nat}(r:p<=k){cV:Nat->aa}{H:Nat}(P:w.heap.size<=H)
  (hu:∀op∈u,op.g=c.gid p) (B:∀op∈u,∀x,op.act.touch?=some x->tc c (Fr p) w.heap.size p x)
  (Q:∀op∈u,op.act.low H) (R:∀op∈u,op.act≠ .mark (.release (stA c.Wg)))
  (L:∀q,q≠p->cV q=Fr q) (S:∀l,eV (cV p) l->eV (Fr p) l\/kG w.heap.size l) (T:∀l,iI (cV p) l->iI (Fr p) l\/eV (Fr p) l\/kG w.heap.size l):
  ei c bB k cV H (t++u):=by
 have a0:∀op∈u,∀x,op.act.touch?=some x->x.loc.isMemory=false->∀l:Loc,l.isMemory=true->x.loc≠l:=fun op _ x _ M l hl e=>by rw[e,hl] at M;cases M
 have U:∀{F:aa} {l:Loc},eV F l->l.isMemory=true:=fun {F l} hl=>by cases l<;>first|rfl|exact hl.elim
 have V:∀{F:aa} {l:Loc},iI F l->l.isMemory=true:=fun {F l} hl=>by obtain ⟨a,rfl,_⟩:=hl;rfl
 have a2:∀q,q≠p->c.gid q≠c.gid p:=fun q f=>c.IN hb f
 have W:∀q,q<=k->q≠p->∀l,eV (Fr q) l->∀op∈u,∀b,op.act.touch?=some b->b.loc≠l:=by
  intro q f s l hl op d b n e
  rcases B op d b n with x|x|⟨x,_⟩|⟨x,_⟩|⟨i,_,x⟩|x<;>rw[e] at x
  ·exact m.sep f r s hl x
  ·exact IP (m.has q f) hl x
  ·exact m.Ci r f (Ne.symm s) x hl
  ·exact m.Cj f hl x
  ·exact m.xP f hl x
  ·rw[U hl] at x;cases x
 have X:∀q,q<=k->q≠p->∀l,iI (Fr q) l->∀op∈u,∀b,op.act.touch?=some b->b.loc=l->b.write=true->False:=by
  intro q f s l hl op d b n e hw
  rcases B op d b n with x|x|⟨x,Y⟩|⟨x,_⟩|⟨i,_,x⟩|x
  ·rw[e] at x;exact m.Ci f r s hl x
  ·rw[e] at x;exact IQ (m.has q f) hl x
  ·rw[Y] at hw;cases hw
  ·rw[e] at x;exact m.Ck f hl x
  ·rw[e] at x;exact m.xQ f hl x
  ·rw[e,V hl] at x;cases x
 have fresh:∀l,kG w.heap.size l->Perm (t++u) (c.gid p) l:=by
  intro l hl i a A e
  obtain ⟨x,hx,I⟩:=touch_of A
  rcases getElem?_append_cases hx with ⟨hi,J⟩|⟨_,E⟩
  ·have:=Ch h.low (show touchAt t i=some a by rw[touchAt_of J];exact I)
   rw[e] at this
   exact (Cg this hl).elim
  ·have:=knows_own hx
   rwa [hu x E] at this
 refine ⟨by have:=h.len;simp;omega,Cm h.quiet fun op d x hx hs=>?_,fun said=>?_,fun q f l hl=>?_,fun q f l hl=>?_,fun i hi l hl=>?_,fun i hi l hl=>?_,fun op d=>?_,td h.norel R,fun i a A hm=>?_,fun i g hg C v=>?_⟩
 ·rcases B op d x hx with y|y|⟨y,_⟩|⟨_,y,z⟩|⟨i,_,y⟩|y
  ·exact (m.Cj r y hs).elim
  ·exact (m.IS y hs).elim
  ·exact (m.Ck r y hs).elim
  ·exact ⟨y,fun e=>by rw[hu op d,z e];rfl⟩
  ·obtain ⟨a,e,hs⟩:=hs
   rw[show x.loc=_ from y] at e
   cases e
   rcases hs with hs|hs
   ·exact absurd hs.symm aG.1
   ·exact absurd hs.symm aG.2
  ·obtain ⟨a,e,_⟩:=hs;rw[e] at y;cases y
 ·refine noRace_append (h.nr said) hu fun i a A op d b n v=>?_
  rcases B op d b n with y|y|⟨y,z⟩|⟨y,y',z⟩|⟨j,rfl,y⟩|y
  ·exact h.own p r _ y i a A v.1
  ·have:=Ch h.low A
   rw[v.1] at this
   exact (Cg this y).elim
  ·exact h.ro p r _ y i a A v.1 (v.2.2.1.resolve_right (by rw[z];simp))
  ·rcases h.quiet i a A (by rw[v.1];exact y) with ⟨Z,ab⟩|q
   ·obtain ⟨_,_,_,ad⟩:=v
    rcases ad with e|e|⟨_,e,G⟩
    ·exact absurd e Z
    ·exact absurd e y'
    ·have C:=ab e
     unfold Trace.g? at C
     obtain ⟨o,ae,al⟩:=Option.map_eq_some_iff.1 C
     have:=knows_own ae
     rw[al] at this
     rw[z G];exact this
   ·exact q p r
  ·exact h.s9 j (by omega) _ y i a A v.1
  ·rw[<-v.1,v.2.1] at y;cases y
 ·by_cases s:q=p
  ·subst s
   rcases S l hl with y|y
   ·exact (h.own q f l y).app fun op d _ _ _=>hu op d
   ·exact fresh l y
  ·rw[L q s] at hl
   exact (h.own q f l hl).app fun op d b n e=>absurd e (W q f s l hl op d b n)
 ·by_cases s:q=p
  ·subst s
   rcases T l hl with y|y|y
   ·exact (h.ro q f l y).app fun op d _ _ _ _=>hu op d
   ·exact .of ((h.own q f l y).app fun op d _ _ _=>hu op d)
   ·exact .of (fresh l y)
  ·rw[L q s] at hl
   exact (h.ro q f l hl).app fun op d b n e hw=>(X q f s l hl op d b n e hw).elim
 ·refine (h.s9 i hi l hl).app fun op d b n e=>?_
  rcases B op d b n with y|y|⟨y,_⟩|⟨y,_⟩|⟨j,G,y⟩|y<;>rw[e] at y
  ·exact (m.xP r y hl).elim
  ·exact (m.Cl y hl).elim
  ·exact (m.xQ r y hl).elim
  ·obtain ⟨a,e,hs⟩:=y
   rw[show l=_ from hl] at e
   cases e
   rcases hs with hs|hs
   ·exact absurd hs.symm aG.1
   ·exact absurd hs.symm aG.2
  ·have:i=j:=by rw[show l=_ from hl] at y;cases y;rfl
   rw[hu op d,G,this];rfl
  ·rw[show l=_ from hl] at y;cases y
 ·refine (h.ta i hi l hl).app fun op d b n e=>?_
  rcases B op d b n with y|y|⟨y,_⟩|⟨y,_⟩|⟨j,G,y⟩|y<;>rw[e] at y
  ·exact (m.xP r y hl).elim
  ·exact (m.Cl y hl).elim
  ·exact (m.xQ r y hl).elim
  ·obtain ⟨a,e,hs⟩:=y
   rw[show l=_ from hl] at e
   cases e
   rcases hs with hs|hs
   ·exact absurd hs.symm aG.1
   ·exact absurd hs.symm aG.2
  ·have:i=j:=by rw[show l=_ from hl] at y;cases y;rfl
   omega
  ·rw[show l=_ from hl] at y;cases y
 ·exact (Array.mem_append.1 d).elim (fun x=>MemAct.low_mono P (h.low op x)) (Q op)
 ·obtain ⟨x,hx,I⟩:=touch_of A
  rcases getElem?_append_cases hx with ⟨hi,J⟩|⟨_,E⟩
  ·rcases h.known i a (by rw[touchAt_of J];exact I) hm with y|y|⟨j,D,y⟩
   ·exact .inl (y.app u)
   ·exact .inr (.inl y)
   ·exact .inr (.inr ⟨j,D,by rw[g?_old hi];exact y⟩)
  ·cases p with
   |zero=>have:=knows_own hx;rw[hu x E] at this;exact .inl this
   |succ j=>exact .inr (.inr ⟨j,by omega,by simp[Trace.g?,hx,hu x E,Cy.gid]⟩)
 ·by_cases hi:i<t.size
  ·rcases h.over i g (by rw[<-g?_old (u:=u) hi];exact hg) C ((counts_old hi).1 v) with ⟨j,D,y⟩|y
   ·have ao:j<t.size:=by
     unfold Trace.g? at D
     obtain ⟨z,K,_⟩:=Option.map_eq_some_iff.1 D
     exact lt_size_of_getElem? K
    exact .inl ⟨j,by rw[g?_old ao];exact D,hb_app u y⟩
   ·exact .inr y
  ·unfold Trace.g? at hg
   obtain ⟨z,K,N⟩:=Option.map_eq_some_iff.1 hg
   rcases getElem?_append_cases K with ⟨ar,_⟩|⟨_,O⟩
   ·exact absurd ar hi
   ·cases p with
    |zero=>exact absurd (N▸(hu z O)) C
    |succ j=>exact .inr ⟨j,by omega,by rw[<-N,hu z O];rfl⟩
theorem fV.app {g r:Nat}(h:fV c t g r)(hu:∀i x,t.size<=i->(t++u).g? i=some g->touchAt (t++u) i=some x->x.kind= .atomic/\¬(t++u).heard i/\∃a,x.loc= .cell a/\a.block=c.Wg):fV c (t++u) g r:=by
 have b:r<t.size:=lt_of_act? h.act;refine ⟨h.late,by rw[act?_old b];exact h.act,by rw[g?_old b];exact h.Cf,(heard_old b).2 h.heard,fun i x hi hg hx=>?_⟩;rcases Nat.lt_or_ge i t.size with d|e
 ·rw[heard_old d];exact h.after i x hi (by rw[<-g?_old (u:=u) d];exact hg) (by rw[<-touchAt_old (u:=u) d];exact hx)
 ·exact hu i x e hg hx
theorem fV.other {g r g':Nat}(h:fV c t g r)(aG:g'≠g)(hu:∀op∈u,op.g=g'):fV c (t++u) g r:=by
 refine h.app fun i x hi hg hx=>?_;unfold Trace.g? at hg;obtain ⟨z,a,b⟩:=Option.map_eq_some_iff.1 hg;rcases getElem?_append_cases a with ⟨e,_⟩|⟨_,d⟩
 ·omega
 ·exact absurd (hu z d▸b) aG
theorem ei.fork (hb:0<c.base)(G:dB c k Fr w)(h:ei c bB k Fr w.heap.size t){x y:MemOp}(hx:x.g=0/\x.act= .go (c.base+k))(n:y.g=c.base+k/\y.act= .start)(A:Deaf t 0=0)(B:Deaf t (c.base+k)=0)
  {cV:Nat->aa} (D:∀q,q<=k->cV q=Fr q) (H:∀l,¬eV (cV (k+1)) l) (I:∀l,iI (cV (k+1)) l->iI (Fr 0) l):ei c bB (k+1) cV w.heap.size (t++#[x,y]):=by
 have o:∀op∈#[x,y],∀b,op.act.touch?=some b->False:=by
  intro op d b hb
  simp only[List.mem_toArray,List.mem_cons,List.not_mem_nil,or_false] at d
  rcases d with rfl|rfl
  ·rw[hx.2] at hb;cases hb
  ·rw[n.2] at hb;cases hb
 have old:∀{i:Nat} {a:Touch},touchAt (t++#[x,y]) i=some a->touchAt t i=some a/\i<t.size:=by
  intro i a f
  obtain ⟨z,r,E⟩:=touch_of f
  rcases getElem?_append_cases r with ⟨hi,J⟩|⟨_,K⟩
  ·exact ⟨by rw[touchAt_of J];exact E,hi⟩
  ·exact (o z K a E).elim
 refine ⟨by have:=h.len;simp;omega,fun i a f hs=>?_,fun said=>?_,fun q L l hl=>?_,fun q L l hl=>?_,fun i hi l hl=>?_,fun i hi l hl=>?_,fun op d=>?_,td h.norel fun op d=>?_,fun i a f hm=>?_,fun i g hg M F=>?_⟩
 ·obtain ⟨C,hi⟩:=old f
  rcases h.quiet i a C hs with ⟨N,O⟩|q
  ·exact .inl ⟨N,fun e=>by rw[g?_old hi];exact O e⟩
  ·refine .inr fun p G=>?_
   rcases Nat.lt_or_ge k p with v|m
   ·obtain rfl:p=k+1:=by omega
    exact fork_knows hx n A B (q 0 (Nat.zero_le _))
   ·exact (q p m).app _
 ·have e:t++#[x,y]=(t++#[x])++#[y]:=by apply Array.ext';simp
  rw[e]
  refine noRace_append (g:=c.base+k) (noRace_append (g:=0) (h.nr said) (fun op d=>by simp at d;rw[d];exact hx.1) (fun i a _ op d b hb _=>(o op (by simp at d ⊢;exact .inl d) b hb).elim))
   (fun op d=>by simp at d;rw[d];exact n.1) (fun i a _ op d b hb _=>(o op (by simp at d ⊢;exact .inr d) b hb).elim)
 ·rcases Nat.lt_or_ge k q with v|m
  ·obtain rfl:q=k+1:=by omega
   exact (H l hl).elim
  ·rw[D q m] at hl
   exact (h.own q m l hl).app fun op d b hb _=>(o op d b hb).elim
 ·rcases Nat.lt_or_ge k q with v|m
  ·obtain rfl:q=k+1:=by omega
   exact fun i a f e hw=>fork_knows hx n A B (h.ro 0 (Nat.zero_le _) l (I l hl) i a (old f).1 e hw)
  ·rw[D q m] at hl
   exact (h.ro q m l hl).app fun op d b hb _ _=>(o op d b hb).elim
 ·rcases Nat.lt_or_ge i k with v|m
  ·exact (h.s9 i v l hl).app fun op d b hb _=>(o op d b hb).elim
  ·obtain rfl:i=k:=by omega
   exact fun j a f e=>fork_knows hx n A B (h.ta i (Nat.le_refl _) l hl j a (old f).1 e)
 ·exact (h.ta i (by omega) l hl).app fun op d b hb _=>(o op d b hb).elim
 ·rcases Array.mem_append.1 d with z|z
  ·exact h.low op z
  ·simp only[List.mem_toArray,List.mem_cons,List.not_mem_nil,or_false] at z
   rcases z with rfl|rfl
   ·rw[hx.2];trivial
   ·rw[n.2];trivial
 ·simp only[List.mem_toArray,List.mem_cons,List.not_mem_nil,or_false] at d
  rcases d with rfl|rfl
  ·rw[hx.2];simp
  ·rw[n.2];simp
 ·obtain ⟨C,hi⟩:=old f
  rcases h.known i a C hm with z|z|⟨j,s,z⟩
  ·exact .inl (z.app _)
  ·exact .inr (.inl z)
  ·exact .inr (.inr ⟨j,by omega,by rw[g?_old hi];exact z⟩)
 ·have P:=F
  obtain ⟨z,r,_⟩:=F
  obtain ⟨_,hi⟩:=old (show touchAt _ i=some z from r)
  rcases h.over i g (by rw[<-g?_old (u:=#[x,y]) hi];exact hg) M ((counts_old hi).1 P) with ⟨j,s,y'⟩|⟨j,s,y'⟩
  ·have Q:j<t.size:=by
    unfold Trace.g? at s
    obtain ⟨z,r,_⟩:=Option.map_eq_some_iff.1 s
    exact lt_size_of_getElem? r
   exact .inl ⟨j,by rw[g?_old Q];exact s,hb_app _ y'⟩
  ·exact .inr ⟨j,by omega,y'⟩
theorem ei.fB (h:ei c bB k Fr w.heap.size t)(d:∀i,i<k->∃r,fV c t (c.base+i) r){y:MemOp}(f:y.g=0/\y.act= .mark (.acquire (stA c.Wg)))(B:Deaf t 0=0)(I:c.Wg<w.heap.size):
  Past (fun l=>bB l\/∃a,l= .cell a/\a.block=c.Wg) w.heap.size (t++#[y]):=by
 have hyp:(t++#[y])[t.size]?=some y:=by rw[Array.getElem?_append_right (Nat.le_refl _)];simp
 have C:∀op∈#[y],∀b,op.act.touch?=some b->False:=by
  intro op e b hb
  simp only[List.mem_toArray,List.mem_cons,List.not_mem_nil,or_false] at e
  rw[e,f.2] at hb;cases hb
 have old:∀{i:Nat} {a:Touch},touchAt (t++#[y]) i=some a->touchAt t i=some a/\i<t.size:=by
  intro i a s
  obtain ⟨z,o,D⟩:=touch_of s
  rcases getElem?_append_cases o with ⟨hi,v⟩|⟨_,J⟩
  ·exact ⟨by rw[touchAt_of v];exact D,hi⟩
  ·exact (C z J a D).elim
 have heard:(t++#[y]).heard t.size:=⟨0,by simp[Trace.g?,f.1],by rw[deaf_old (Nat.le_refl _)];exact B⟩
 have norel:=td (u:=#[y]) h.norel fun op e=>by
  simp only[List.mem_toArray,List.mem_cons,List.not_mem_nil,or_false] at e
  rw[e,f.2];simp
 have xH:∀g r,fV c t g r->HappensBefore (t++#[y]) r t.size:=fun g r d=>
  .single (.inr ⟨.marked (a:=stA c.Wg) (lt_of_act? d.act) (.inr (by rw[act?_old (lt_of_act? d.act)];exact d.act)) (by rw[act?_of hyp,f.2]) (fun k K _=>norel k (Nat.le_of_lt (Nat.lt_of_le_of_lt d.late K))),(heard_old (lt_of_act? d.act)).2 d.heard,heard⟩)
 have upto:∀g r i,fV c t g r->t.g? i=some g->i<=r->HappensBefore (t++#[y]) i t.size:=fun g r i d hg hle=>by
  have E:=lt_of_act? d.act
  rcases Nat.lt_or_ge i r with n|p
  ·exact .trans (.single (.inl ⟨n,g,by rw[g?_old (Nat.lt_trans n E)];exact hg,by rw[g?_old E];exact d.Cf⟩)) (xH g r d)
  ·obtain rfl:i=r:=by omega
   exact xH g i d
 refine ⟨fun said=>noRace_append (g:=0) (h.nr said) (fun op e=>by simp at e;rw[e];exact f.1) (fun i a _ op e b hb _=>(C op e b hb).elim),fun i a s hm=>?_,fun i g hg L F=>?_,?_,fun op e=>?_⟩
 ·obtain ⟨G,hi⟩:=old s
  rcases h.known i a G hm with z|z|⟨j,m,z⟩
  ·exact .inl (z.app _)
  ·exact .inr ⟨.inl z.1,z.2⟩
  ·obtain ⟨r,d⟩:=d j m
   rcases Nat.lt_or_ge r i with n|p
   ·obtain ⟨x,_,A⟩:=d.after i a n z G
    exact .inr ⟨.inr A,x⟩
   ·exact .inl ⟨t.size,y,hyp,f.1,.inr (upto _ r i d z p)⟩
 ·have M:=F
  obtain ⟨z,o,P,N⟩:=F
  obtain ⟨v,hi⟩:=old (show touchAt _ i=some z from o)
  rcases h.over i g (by rw[<-g?_old (u:=#[y]) hi];exact hg) L ((counts_old hi).1 M) with ⟨j,m,y'⟩|⟨j,m,y'⟩
  ·have O:j<t.size:=by
    unfold Trace.g? at m
    obtain ⟨z,o,_⟩:=Option.map_eq_some_iff.1 m
    exact lt_size_of_getElem? o
   exact ⟨j,by rw[g?_old O];exact m,hb_app _ y'⟩
  ·obtain ⟨r,d⟩:=d j m
   have H:t.g? i=some (c.base+j):=by rw[<-g?_old (u:=#[y]) hi,hg,y']
   rcases Nat.lt_or_ge r i with n|p
   ·obtain ⟨x,A,_⟩:=d.after i z n H v
    rcases N with q|q
    ·exact absurd x q
    ·exact absurd ((heard_old hi).1 q) A
   ·exact ⟨t.size,by simp[Trace.g?,f.1],upto _ r i d H p⟩
 ·rw[Deaf_push]
  simp only[deafStep,f.2]
  exact B
 ·rcases Array.mem_append.1 e with z|z
  ·exact h.low op z
  ·simp only[List.mem_toArray,List.mem_cons,List.not_mem_nil,or_false] at z
   rw[z,f.2];exact I
end
end Go.Sep
end
section
namespace Go.Sep
open Go Go.Conc
open Go.ConcN (sumTo upd upd_ne upd_same sumTo_congr)
open Go.ConcM (MuAt muA msA muBlock OsLater)
open Go.ConcR (WgAt wgBlock stA smA)
def cF (m:Mark):Event:=⟨.mark m,false,true⟩
def cv (c:Cy)(w:World)(s:Sh):Prop:=MuAt c.tM c.Mu w s.mu s.ms/\WgAt c.tW c.Wg w s.wg s.ws/\w.heap[c.Is]?=some (.cells (s.is.map Value.bool).toArray c.tI)
structure gZ (c:Cy)(w w':World):Prop where
 tape:w'.tape=w.tape
 output:w'.output=w.output
 size:w'.heap.size=w.heap.size
 os:OsLater w.os w'.os
 block:∀k,¬c.shared k->w'.heap[k]?=w.heap[k]?
theorem gZ.refl (c:Cy)(w:World):gZ c w w:=⟨rfl,rfl,rfl,.refl _,fun _ _=>rfl⟩
inductive EvA (c:Cy)(i:Nat)(ph aL:Ph)(es:Array Event):Prop
 |book (h:∀e∈es,e=cF .disable\/e=cF .enable\/∃a x,e=⟨.cell a,x,true⟩/\(a.block=c.Wg\/(a.block=c.Mu/\ph.gp= .cnt))) (hd:deafBehind ph.deaf es=aL.deaf)
   (ht:∀j e,es[j]?=some e->(MemAct.ofEvent e).touch?=none\/0<deafBehind ph.deaf (es.extract 0 j)) (hg:aL.gp= .cnt↔ph.gp= .cnt)
 |word (m:Mark) (he:es=#[cF m]) (hm:m= .acquire (muA c.Mu)\/m= .releaseMerge (muA c.Mu)) (hd:aL.deaf=ph.deaf) (hg:aL.gp= .cnt/\ph.gp= .cnt)
 |store (he:es=#[⟨.cell ⟨c.Is,i,none⟩,true,false⟩]) (hd:aL.deaf=ph.deaf) (hg:aL.gp= .cnt/\ph.gp= .cnt)
 |rel (he:es=#[cF (.releaseMerge (stA c.Wg))]) (hd:ph.deaf=0/\aL.deaf=0) (hg:ph.gp= .cnt)
def iJ (c:Cy)(i:Nat):Rk->Goroutine->aa->Ph->Prop
 | .mk ι f,g,F,ph=>
  (ph.gp= .gone/\∃q,Rk.mk ι f=Rk.nat q/\QuitsD c.P q ph.deaf g)\/
  (g.status= .running/\g.offers=none/\ph.gp= .cnt/\∀w,Has F w->∃(x:ι) (g':Goroutine) (w':World) (es:Array Event) (F':aa),
   stepG c.P false g w= .go g' w' es/\dP F F' w w'/\Has F' w'/\(∀e∈es,iP F.ro (gJ F w.heap.size w'.heap.size) e)/\iJ c i (f x) g' F' ph)\/
  (g.status= .running/\g.offers=none/\ph.gp≠ .gone/\∀(w:World) (s:Sh) (k:Nat) (φ:Nat->Ph) (p0:P0),Has F w->cv c w s->i<c.n->φ i=ph->Inv c.n c.bs k φ p0 s->
   (ph.mp.iG=true/\s.ms=0/\stepG c.P false g w= .go {g with status:=.blocked} w #[])\/
   (∃(x:ι) (g':Goroutine) (w':World) (es:Array Event) (s':Sh) (aL:Ph) (F':aa),stepG c.P false g w= .go g' w' es/\cv c w' s'/\gZ c w w'/\Inv c.n c.bs k (upd φ i aL) p0 s'/\EvA c i ph aL es/\
    (mayWake c.P g=true\/(s'.ms<=s.ms/\s'.ws<=s.ws))/\Le F' F/\iJ c i (f x) g' F' aL))
def Wk (c:Cy)(i:Nat)(ph:Ph)(g:Goroutine)(F:aa):Prop:=∃F0 r,Le F0 F/\iJ c i r g F0 ph
theorem Wk.mono {c:Cy}{i:Nat}{ph:Ph}{g:Goroutine}{F F':aa}(hle:Le F F')(h:Wk c i ph g F):Wk c i ph g F':=
 let ⟨F0,r,a,b⟩:=h;⟨F0,r,a.trans hle,b⟩
theorem Wk.closed (c:Cy)(i:Nat)(ph:Ph)(hg:ph.gp= .cnt):Closed c.P false (fun g F=>Wk c i ph g F) where
 mono hle h:=h.mono hle
 step {fr cs F} h:=by
  classical
  let Q:World->Rk->Prop:=fun w r=>∃(g':Goroutine) (w':World) (es:Array Event) (F':aa),
   stepG c.P false (G fr cs) w= .go g' w' es/\dP F F' w w'/\Has F' w'/\(∀e∈es,iP F.ro (gJ F w.heap.size w'.heap.size) e)/\iJ c i r g' F' ph
  refine ⟨F,.mk World fun w=>if f:∃r,Q w r then Classical.choose f else Rk.nat 0,.refl F,?_⟩
  refine .inr (.inl ⟨rfl,rfl,hg,fun w hw=>?_⟩)
  obtain ⟨g',w',es,F',k,d,l,m,F0,r,j,n⟩:=h w hw
  have f:∃r,Q w r:=⟨r,g',w',es,F0,k,⟨d.os,d.tape,d.output,d.size,d.frame,fun a o=>(j.ro a o).elim (d.ro a) fun x=>.inr (d.own _ x),fun b hb=>d.own b (j.own b hb)⟩,j.has _ l,m,n⟩
  obtain ⟨g',w',es,F',k1,p,q,s,t⟩:=Classical.choose_spec f
  exact ⟨w,g',w',es,F',k1,p,q,s,by simp only[dif_pos f];exact t⟩
theorem Wk.act {c:Cy}{i:Nat}{ph:Ph}{g:Goroutine}{F:aa}(hs:g.status= .running)(o:g.offers=none)(hg:ph.gp≠ .gone)
  (h:∀(w:World) (s:Sh) (k:Nat) (φ:Nat->Ph) (p0:P0),Has F w->cv c w s->i<c.n->φ i=ph->Inv c.n c.bs k φ p0 s->
   (ph.mp.iG=true/\s.ms=0/\stepG c.P false g w= .go {g with status:=.blocked} w #[])\/
   (∃(g':Goroutine) (w':World) (es:Array Event) (s':Sh) (aL:Ph),stepG c.P false g w= .go g' w' es/\cv c w' s'/\gZ c w w'/\Inv c.n c.bs k (upd φ i aL) p0 s'/\EvA c i ph aL es/\
    (mayWake c.P g=true\/(s'.ms<=s.ms/\s'.ws<=s.ws))/\Wk c i aL g' F)):Wk c i ph g F:=by
 classical
 let Q:World×Sh×Nat×(Nat->Ph)×P0->Rk->Prop:=fun y r=>∃(g':Goroutine) (w':World) (es:Array Event) (s':Sh) (aL:Ph) (F':aa),stepG c.P false g y.1= .go g' w' es/\cv c w' s'/\gZ c y.1 w'/\Inv c.n c.bs y.2.2.1 (upd y.2.2.2.1 i aL) y.2.2.2.2 s'/\EvA c i ph aL es/\
    (mayWake c.P g=true\/(s'.ms<=y.2.1.ms/\s'.ws<=y.2.1.ws))/\Le F' F/\iJ c i r g' F' aL
 refine ⟨F,.mk (World×Sh×Nat×(Nat->Ph)×P0) fun y=>if a:∃r,Q y r then Classical.choose a else Rk.nat 0,.refl F,?_⟩
 refine .inr (.inr ⟨hs,o,hg,fun w s k φ p0 p q t u v=>?_⟩)
 rcases h w s k φ p0 p q t u v with x|⟨g',w',es,s',aL,k1,b,d,e,f,j,F',r,l,m⟩
 ·exact .inl x
 ·have a:∃r,Q (w,s,k,φ,p0) r:=⟨r,g',w',es,s',aL,F',k1,b,d,e,f,j,l,m⟩
  obtain ⟨g',w',es,s',aL,F',k1,b,d,e,f,j,l,m⟩:=Classical.choose_spec a
  exact .inr ⟨(w,s,k,φ,p0),g',w',es,s',aL,F',k1,b,d,e,f,j,l,by simp only[dif_pos a];exact m⟩
theorem Wk.gone {c:Cy}{i:Nat}{ph:Ph}{g:Goroutine}{F:aa}{q:Nat}(hg:ph.gp= .gone)(h:QuitsD c.P q ph.deaf g):Wk c i ph g F:=by
 refine ⟨F,Rk.nat q,.refl F,?_⟩;cases q with
 |zero=>exact .inl ⟨hg,0,rfl,h⟩
 |succ q=>exact .inl ⟨hg,q+1,rfl,h⟩
structure dx (c:Cy)(B0:Nat)(F F':aa)(w w':World):Prop where
 os:OsLater w.os w'.os
 tape:w'.tape=w.tape
 output:w'.output=w.output
 size:w.heap.size<=w'.heap.size
 frame:∀b,b<B0->b∉keys F.own->¬c.shared b->w'.heap[b]?=w.heap[b]?
 ro:∀a,(F'.ro a).isSome=true->(F.ro a).isSome=true\/a.block∈keys F.own\/B0<=a.block\/c.shared a.block
 own:∀b,b∈keys F'.own->b∈keys F.own\/B0<=b\/c.shared b
theorem dx.refl (c:Cy)(B0:Nat)(F:aa)(w:World):dx c B0 F F w w:=⟨.refl _,rfl,rfl,Nat.le_refl _,fun _ _ _ _=>rfl,fun _ h=>.inl h,fun _ h=>.inl h⟩
theorem dx.trans {c:Cy}{B0:Nat}{F G H:aa}{u v w:World}(h:dx c B0 F G u v)(k:dx c B0 G H v w):dx c B0 F H u w where
 os:=h.os.trans k.os
 tape:=k.tape.trans h.tape
 output:=k.output.trans h.output
 size:=Nat.le_trans h.size k.size
 frame b hb d hs:=by
  rw[k.frame b hb (fun e=>(h.own b e).elim d fun x=>x.elim (fun y=>absurd hb (by omega)) hs) hs]
  exact h.frame b hb d hs
 ro a x:=by
  rcases k.ro a x with y|y|y
  ·exact h.ro a y
  ·exact .inr (h.own _ y)
  ·exact .inr (.inr y)
 own b hb:=by
  rcases k.own b hb with x|x
  ·exact h.own b x
  ·exact .inr x
theorem dx.le {c:Cy}{B0:Nat}{F G H:aa}{w w':World}(h:Le F G)(u:dx c B0 F H w w'):dx c B0 G H w w' where
 os:=u.os
 tape:=u.tape
 output:=u.output
 size:=u.size
 frame b hb d hs:=u.frame b hb (fun x=>d (h.own b x)) hs
 ro a x:=by
  rcases u.ro a x with y|y|y
  ·exact (h.ro a y).imp id .inl
  ·exact .inr (.inl (h.own _ y))
  ·exact .inr (.inr y)
 own b hb:=(u.own b hb).imp (h.own b) id
def ow (c:Cy)(i:Nat)(r:Rk)(x:Goroutine)(F:aa)(ph:Ph)(s:Sh):Prop:=
 (ph.gp= .gone/\∃q,r=Rk.nat q/\QuitsD c.P q ph.deaf x)\/
 (ph.gp≠ .gone/\iJ c i r {x with status:=.running} F ph/\x.offers=none/\(x.status= .running\/(x.status= .blocked/\ph.mp.iG=true/\s.ms=0)))
structure dD (c:Cy)(B0:Nat)(bB:Loc->Prop)(p0:P0)(d0 k:Nat)(g:Goroutine)(Fr:Nat->aa)(gs:Array Goroutine)(w:World)(t:Trace)(ρ:Nat->Rk)(φ:Nat->Ph)(s:Sh):Prop where
 size:gs.size=c.base+k
 base:0<c.base
 run:g.status= .running
 off:g.offers=none
 g0:∃x,gs[0]?=some x/\{x with status:=.running}=g/\(x.status= .running\/(x.status= .blocked/\p0= .reg/\s.ws=0))
 old:∀j x,0<j->j<c.base->gs[j]?=some x->∃q,ρ j=Rk.nat q/\QuitsD c.P q (Deaf t j) x
 wk:∀i,i<k->∃x,gs[c.base+i]?=some x/\ow c i (ρ (c.base+i)) x (Fr (i+1)) (φ i) s
 deaf:∀i,i<k->Deaf t (c.base+i)=(φ i).deaf
 above:∀j,gs.size<=j->Deaf t j=0
 deaf0:Deaf t 0=d0
 parts:dB c k Fr w
 sh:cv c w s
 inv:Inv c.n c.bs k φ p0 s
 gF:ei c bB k Fr w.heap.size t
 rel:∀i,i<k->(φ i).gp≠ .cnt->∃r,fV c t (c.base+i) r
 apart:∀l,bB l->¬(Fr 0).gq l
 low:∀l,bB l->l.low B0
 jk:∀i,i<k->∀b∈keys (Fr (i+1)).own,B0<=b
 jl:B0<=w.heap.size
 ne:c.Mu≠c.Wg/\c.Mu≠c.Is/\c.Wg≠c.Is
section
variable {c : Cy} {B0 : Nat} {bB : Loc → Prop} {p0 : P0} {d0 k : Nat} {g : Goroutine} {Fr : Nat → aa} {gs : Array Goroutine} {w : World} {t : Trace} {ρ : Nat → Rk} {φ : Nat → Ph} {s : Sh}
theorem Inv.Cn (h:Inv c.n c.bs k φ p0 s):0<=s.ms:=by
 obtain ⟨C,S,W,L,m,hm⟩:=h.m;have:=hm.cnt;omega
theorem Inv.IT (h:Inv c.n c.bs k φ p0 s):0<=s.ws:=by
 have:=h.w.inv;cases p0<;>simp only at this<;>omega
theorem ow.woken {i:Nat}{r:Rk}{x:Goroutine}{F:aa}{ph:Ph}{s s':Sh}(h:ow c i r x F ph s){y y':Goroutine}{w':World}(t:0<=s'.ms)
  (hw:(mayWake c.P y=true/\y'.status≠ .blocked/\y'.status≠ .waiting)\/s'.ms<=s.ms):ow c i r (woken c.P y y' w' x) F ph s':=by
 rcases h with ⟨hg,q,m,j⟩|⟨hg,f,e,n⟩
 ·exact .inl ⟨hg,q,m,by rw[woken_quitsD j];exact j⟩
 ·rcases n with k|⟨l,o,u⟩
  ·rw[woken_run k];exact .inr ⟨hg,f,e,.inl k⟩
  ·have p:x.again w'={x with status:=.running}:=by
    unfold Goroutine.again
    simp only[l,e]
   by_cases g:(mayWake c.P y&&y'.status != .blocked&&y'.status != .waiting)=true
   ·have:Go.Conc.woken c.P y y' w' x={x with status:=.running}:=by unfold Go.Conc.woken;rw[if_pos g,p]
    rw[this]
    exact .inr ⟨hg,f,e,.inl rfl⟩
   ·have:Go.Conc.woken c.P y y' w' x=x:=by unfold Go.Conc.woken;rw[if_neg g]
    rw[this]
    refine .inr ⟨hg,f,e,.inr ⟨l,o,?_⟩⟩
    rcases hw with ⟨a,b,d⟩|hw
    ·simp[a,b,d] at g
    ·omega
theorem IU {x:Goroutine}{s s':Sh}(h:x.offers=none)(i:x.status= .running\/(x.status= .blocked/\p0= .reg/\s.ws=0)){y y':Goroutine}{w':World}(l:0<=s'.ws)
  (hw:(mayWake c.P y=true/\y'.status≠ .blocked/\y'.status≠ .waiting)\/s'.ws<=s.ws):
  {woken c.P y y' w' x with status:=.running}=({x with status:=.running}:Goroutine)/\((woken c.P y y' w' x).status= .running\/((woken c.P y y' w' x).status= .blocked/\p0= .reg/\s'.ws=0)):=by
 rcases i with f|⟨g,j,m⟩
 ·rw[woken_run f];exact ⟨rfl,.inl f⟩
 ·have k:x.again w'={x with status:=.running}:=by
   unfold Goroutine.again
   simp only[g,h]
  by_cases e:(mayWake c.P y&&y'.status != .blocked&&y'.status != .waiting)=true
  ·have:Go.Conc.woken c.P y y' w' x={x with status:=.running}:=by unfold Go.Conc.woken;rw[if_pos e,k]
   rw[this]
   exact ⟨rfl,.inl rfl⟩
  ·have:Go.Conc.woken c.P y y' w' x=x:=by unfold Go.Conc.woken;rw[if_neg e]
   rw[this]
   refine ⟨rfl,.inr ⟨g,j,?_⟩⟩
   rcases hw with ⟨a,b,d⟩|hw
   ·simp[a,b,d] at e
   ·omega
theorem dD.jL (h:dD c B0 bB p0 d0 k g Fr gs w t ρ φ s){j:Nat}{x d:Goroutine}{w':World}{es:Array Event}{fn:FuncId}{pos:String}{ρ':Nat->Rk}{φ':Nat->Ph}{cV:Nat->aa}{s':Sh}(V:0<j)(hx:gs[j]?=some x)
  (v:(mayWake c.P x=true/\d.status≠ .blocked/\d.status≠ .waiting)\/(s'.ms<=s.ms/\s'.ws<=s.ws))
  (A:∀a,a≠j->ρ' a=ρ a) (u:∀i,c.base+i≠j->φ' i=φ i) (B:∀i,c.base+i≠j->cV (i+1)=Fr (i+1)) (D:cV 0=Fr 0)
  (hold:j<c.base->∃q,ρ' j=Rk.nat q/\QuitsD c.P q (Deaf (t++MemOp.ofEvents j fn pos es) j) d)
  (o:∀i,j=c.base+i->i<k->ow c i (ρ' j) d (cV (i+1)) (φ' i) s'/\Deaf (t++MemOp.ofEvents j fn pos es) j=(φ' i).deaf/\((φ' i).gp≠ .cnt->∃r,fV c (t++MemOp.ofEvents j fn pos es) j r)/\∀b∈keys (cV (i+1)).own,B0<=b)
  (E:dB c k cV w') (F:cv c w' s') (hinv:Inv c.n c.bs k φ' p0 s') (G:ei c bB k cV w'.heap.size (t++MemOp.ofEvents j fn pos es)) (H:w.heap.size<=w'.heap.size):
  dD c B0 bB p0 d0 k g cV ((gs.map (woken c.P x d w')).setIfInBounds j d) w' (t++MemOp.ofEvents j fn pos es) ρ' φ' s':=by
 have I:j<gs.size:=(Array.getElem?_eq_some_iff.1 hx).1
 have hu:∀op∈MemOp.ofEvents j fn pos es,op.g=j:=fun op J=>by obtain ⟨e,_,rfl⟩:=Go.Conc.mem_ofEvents J;rfl
 have other:∀a,a≠j->∀y,((gs.map (woken c.P x d w')).setIfInBounds j d)[a]?=some y->∃z,gs[a]?=some z/\y=woken c.P x d w' z:=fun a aG y m=>by
  rw[Array.getElem?_setIfInBounds_ne (Ne.symm aG),Array.getElem?_map] at m
  obtain ⟨z,f,rfl⟩:=Option.map_eq_some_iff.1 m
  exact ⟨z,f,rfl⟩
 have at_:∀a z,a≠j->gs[a]?=some z->((gs.map (woken c.P x d w')).setIfInBounds j d)[a]?=some (woken c.P x d w' z):=fun a z aG f=>by
  rw[Array.getElem?_setIfInBounds_ne (Ne.symm aG),Array.getElem?_map,f];rfl
 have self:((gs.map (woken c.P x d w')).setIfInBounds j d)[j]?=some d:=Array.getElem?_setIfInBounds_self_of_lt (by simpa using I)
 have p:∀a,a≠j->Deaf (t++MemOp.ofEvents j fn pos es) a=Deaf t a:=fun a aG=>Deaf_other t (Ne.symm aG) _ hu
 have K:(mayWake c.P x=true/\d.status≠ .blocked/\d.status≠ .waiting)\/s'.ms<=s.ms:=v.imp id And.left
 have L:(mayWake c.P x=true/\d.status≠ .blocked/\d.status≠ .waiting)\/s'.ws<=s.ws:=v.imp id And.right
 refine ⟨by simpa using h.size,h.base,h.run,h.off,?_,fun a y M hb m=>?_,fun i hi=>?_,fun i hi=>?_,fun a N=>?_,?_,E,F,hinv,G,fun i hi hg=>?_,fun l hl=>by rw[D];exact h.apart l hl,h.low,fun i hi b hb=>?_,Nat.le_trans h.jl H,h.ne⟩
 ·obtain ⟨z,f,e,O⟩:=h.g0
  have Q:z.offers=none:=by have:=h.off;rw[<-e] at this;exact this
  obtain ⟨R,S⟩:=IU (c:=c) (p0:=p0) (s':=s') (y:=x) (y':=d) (w':=w') Q O hinv.IT L
  exact ⟨_,at_ 0 z (by omega) f,R.trans e,S⟩
 ·by_cases aG:a=j
  ·subst aG
   rw[self] at m
   cases m
   exact hold hb
  ·obtain ⟨z,f,rfl⟩:=other a aG y m
   obtain ⟨q,T,C⟩:=h.old a z M hb f
   exact ⟨q,by rw[A a aG];exact T,by rw[woken_quitsD C,p a aG];exact C⟩
 ·by_cases aG:c.base+i=j
  ·subst aG
   exact ⟨d,self,(o i rfl hi).1⟩
  ·obtain ⟨z,f,hW⟩:=h.wk i hi
   refine ⟨_,at_ _ z aG f,?_⟩
   rw[A _ aG,u i aG,B i aG]
   exact hW.woken hinv.Cn K
 ·by_cases aG:c.base+i=j
  ·subst aG;exact (o i rfl hi).2.1
  ·rw[p _ aG,u i aG];exact h.deaf i hi
 ·have:gs.size<=a:=by simpa using N
  rw[p a (by omega)]
  exact h.above a this
 ·rw[p 0 (by omega)];exact h.deaf0
 ·by_cases aG:c.base+i=j
  ·subst aG;exact (o i rfl hi).2.2.1 hg
  ·rw[u i aG] at hg
   obtain ⟨r,U⟩:=h.rel i hi hg
   exact ⟨r,U.other (Ne.symm aG) hu⟩
 ·by_cases aG:c.base+i=j
  ·exact (o i aG.symm hi).2.2.2 b hb
  ·rw[B i aG] at hb;exact h.jk i hi b hb
end
end Go.Sep
end
section
namespace Go.Sep
open Go Go.Conc
open Go.ConcN (sumTo upd upd_ne upd_same sumTo_congr sumTo_upd)
open Go.ConcM (MuAt muA msA muBlock OsLater)
open Go.ConcR (WgAt wgBlock stA smA)
def lA (x:Option Goroutine):Nat:=match x with
 |some x=>if x.status= .running then 1 else 0
 |none=>0
def runs (gs:Array Goroutine):Nat:=sumTo gs.size fun j=>lA gs[j]?
theorem Co {gs:Array Goroutine}{j:Nat}{x y:Goroutine}(hx:gs[j]?=some x)(d:x.status= .running)(f:y.status≠ .running):runs (gs.setIfInBounds j y)<runs gs:=by
 have c:j<gs.size:=(Array.getElem?_eq_some_iff.1 hx).1;have h:=sumTo_upd (fun a=>lA gs[a]?) (0:Nat) id c;simp only[id] at h;have e:runs (gs.setIfInBounds j y)=sumTo gs.size (upd (fun a=>lA gs[a]?) j 0):=by
  unfold runs;rw[Array.size_setIfInBounds];refine sumTo_congr fun a i=>?_;by_cases b:a=j
  ·subst b;rw[upd_same,Array.getElem?_setIfInBounds_self_of_lt c];simp[lA,f]
  ·rw[upd_ne _ _ b,Array.getElem?_setIfInBounds_ne (Ne.symm b)]
 have g:lA gs[j]?=1:=by rw[hx];simp[lA,d]
 rw[e];unfold runs;simp only[g] at h;have:sumTo gs.size (fun a=>upd (fun a=>lA gs[a]?) j 0 a)=sumTo gs.size (upd (fun a=>lA gs[a]?) j 0):=rfl;omega
theorem iJ.up {c:Cy}{i:Nat}{r:Rk}{g:Goroutine}{F:aa}{ph:Ph}(h:iJ c i r g F ph)(hg:ph.gp≠ .gone):g.status= .running/\g.offers=none:=by
 cases r with
 |mk ι f=>
  rcases h with h|h|h
  ·exact absurd h.1 hg
  ·exact ⟨h.1,h.2.1⟩
  ·exact ⟨h.1,h.2.1⟩
theorem iJ.left {c:Cy}{i:Nat}{r:Rk}{g:Goroutine}{F:aa}{ph:Ph}(h:iJ c i r g F ph)(hg:ph.gp= .gone):∃q,r=Rk.nat q/\QuitsD c.P q ph.deaf g:=by
 cases r with
 |mk ι f=>
  rcases h with h|h|h
  ·exact h.2
  ·rw[hg] at h;cases h.2.2.1
  ·exact absurd hg h.2.2.1
theorem iJ.xR {c:Cy}{i:Nat}{r:Rk}{g:Goroutine}{F:aa}{ph:Ph}(h:iJ c i r g F ph)(s:Sh):ow c i r g F ph s/\g.status≠ .blocked/\g.status≠ .waiting:=by
 by_cases hg:ph.gp= .gone
 ·obtain ⟨q,d,b⟩:=h.left hg;refine ⟨.inl ⟨hg,q,d,b⟩,?_,?_⟩<;>rcases b.status with e|e<;>rw[e]<;>simp
 ·obtain ⟨a,f⟩:=h.up hg;refine ⟨.inr ⟨hg,?_,f,.inl a⟩,by rw[a];simp,by rw[a];simp⟩;have:({g with status:=.running}:Goroutine)=g:=by cases g;simp_all
  rw[this];exact h
section
variable {c : Cy} {B0 : Nat} {bB : Loc → Prop} {p0 : P0} {d0 k : Nat} {g : Goroutine} {Fr : Nat → aa} {gs : Array Goroutine} {w : World} {t u : Trace} {ρ : Nat → Rk} {φ : Nat → Ph} {s : Sh}
theorem ei.still {B:Nat}(h:ei c bB k Fr B t)(s:∀op∈u,op.act.touch?=none)(hl:∀op∈u,op.act.low B)(v:∀op∈u,op.act≠ .mark (.release (stA c.Wg))){gg:Nat}(hu:∀op∈u,op.g=gg):ei c bB k Fr B (t++u):=by
 have e:∀op∈u,∀b,op.act.touch?=some b->False:=fun op d b hb=>by rw[s op d] at hb;cases hb
 have old:∀{i:Nat} {a:Touch},touchAt (t++u) i=some a->touchAt t i=some a/\i<t.size:=by
  intro i a n;obtain ⟨z,f,p⟩:=touch_of n;rcases getElem?_append_cases f with ⟨hi,w⟩|⟨_,x⟩
  ·exact ⟨by rw[touchAt_of w];exact p,hi⟩
  ·exact (e z x a p).elim
 refine ⟨by have:=h.len;simp;omega,Cm h.quiet fun op d b hb _=>(e op d b hb).elim,fun said=>noRace_append (g:=gg) (h.nr said) hu fun i a _ op d b hb _=>(e op d b hb).elim,fun q o l hl=>(h.own q o l hl).app fun op d b hb _=>(e op d b hb).elim,fun q o l hl=>(h.ro q o l hl).app fun op d b hb _ _=>(e op d b hb).elim,
  fun i hi l hl=>(h.s9 i hi l hl).app fun op d b hb _=>(e op d b hb).elim,fun i hi l hl=>(h.ta i hi l hl).app fun op d b hb _=>(e op d b hb).elim,fun op d=>(Array.mem_append.1 d).elim (h.low op) (hl op),td h.norel v,fun i a n hm=>?_,fun i g hg y r=>?_⟩
 ·obtain ⟨A,hi⟩:=old n;rcases h.known i a A hm with z|z|⟨j,m,z⟩
  ·exact .inl (z.app _)
  ·exact .inr (.inl z)
  ·exact .inr (.inr ⟨j,m,by rw[g?_old hi];exact z⟩)
 ·have C:=r;obtain ⟨z,f,_⟩:=r;obtain ⟨_,hi⟩:=old (show touchAt _ i=some z from f);rcases h.over i g (by rw[<-g?_old (u:=u) hi];exact hg) y ((counts_old hi).1 C) with ⟨j,m,y'⟩|y'
  ·have D:j<t.size:=by
    unfold Trace.g? at m;obtain ⟨z,f,_⟩:=Option.map_eq_some_iff.1 m;exact lt_size_of_getElem? f
   exact .inl ⟨j,by rw[g?_old D];exact m,hb_app _ y'⟩
  ·exact .inr y'
theorem ei.mute {B:Nat}(h:ei c bB k Fr B t){j:Nat}{fn:FuncId}{pos:String}{es:Array Event}(hm:∀e∈es,e.mute=true):ei c bB k Fr B (t++MemOp.ofEvents j fn pos es):=by
 refine h.still (gg:=j) (fun op a=>?_) (fun op a=>?_) (fun op a=>?_) (fun op a=>?_)<;>obtain ⟨e,he,rfl⟩:=Go.Conc.mem_ofEvents a
 ·exact touch_mute (hm e he)
 ·exact low_mute (hm e he) B
 ·have:=hm e he;obtain ⟨loc,wr,sy⟩:=e;cases loc with
  |mark m=>cases m<;>simp_all [Event.mute,MemAct.ofEvent]
  |_=>simp_all [Event.mute]
 ·rfl
theorem Inv.deaf {n:Nat}{bs:Nat->Bool}(h:Inv n bs k φ p0 s){i:Nat}(hi:i<n)(hg:(φ i).gp≠ .new)(d:Nat):Inv n bs k (upd φ i {φ i with deaf:=d}) p0 s:=by
 obtain ⟨C,S,W,L,m,hm⟩:=h.m;refine ⟨⟨C,S,W,L,m,mR hm hi _ (.inl rfl)⟩,s8 h.w hi _ (.inl rfl),h.i.len,h.i.kn,fun j a=>?_,fun j a=>?_,fun j a b=>?_,fun j a c f=>?_⟩<;>by_cases e:j=i
 ·subst e;rw[upd_same];exact h.i.all j a
 ·rw[upd_ne _ _ e];exact h.i.all j a
 ·subst e;rw[upd_same];exact h.i.born j a
 ·rw[upd_ne _ _ e];exact h.i.born j a
 ·subst e;rw[upd_same] at b;exact absurd b hg
 ·rw[upd_ne _ _ e] at b ⊢;exact h.i.new j a b
 ·subst e;rw[upd_same] at c f ⊢;exact h.i.done j a c f
 ·rw[upd_ne _ _ e] at c f ⊢;exact h.i.done j a c f
theorem cv.keep {w w':World}(h:cv c w s)(he:∀b,c.shared b->w'.heap[b]?=w.heap[b]?):cv c w' s:=by
 obtain ⟨a,d,e⟩:=h;refine ⟨?_,?_,?_⟩
 ·unfold MuAt at*;rw[he _ (.inl rfl)];exact a
 ·unfold WgAt at*;rw[he _ (.inr (.inl rfl))];exact d
 ·rw[he _ (.inr (.inr rfl))];exact e
theorem dB.walk (h:dB c k Fr w){p:Nat}(n:p<=k){F':aa}{w':World}(hu:dP (Fr p) F' w w')(s:Has F' w'):dB c k (upd Fr p F') w':=by
 have keep:∀b,b<w.heap.size->b∉keys (Fr p).own->w'.heap[b]?=w.heap[b]?:=hu.frame;have i:∀q,q≠p->(upd Fr p F') q=Fr q:=fun q d=>upd_ne _ _ d;have self:(upd Fr p F') p=F':=upd_same _ _ _;refine ⟨fun q d=>?_,fun q r d f aG b hb j=>?_,fun q r d f aG a g hb=>?_,fun q d b hb hs=>?_,fun q d a g hs=>?_,fun b hb=>Nat.lt_of_lt_of_le (h.gk b hb) hu.size⟩
 ·by_cases e:q=p
  ·subst e;rw[self];exact s
  ·rw[i q e];have l:=h.has q d
   exact ⟨fun a v f=>by
    have:=l.ro a v f;unfold World.cell? at this ⊢;rw[keep _ (l.gK (a:=a) (by rw[f];rfl)) (fun hm=>h.ro q p d n e a (by rw[f];rfl) hm)]
    exact this,fun b o hb=>by rw[keep b (l.lt (eN hb)) (fun hm=>h.own q p d n e b (eN hb) hm)];exact l.own b o hb,l.nodup,l.apart⟩
 ·by_cases eq:q=p
  ·subst eq;rw[self] at hb;rw[i r (Ne.symm aG)] at j;rcases hu.own b hb with x|x
   ·exact h.own q r d f aG b x j
   ·have:=(h.has r f).lt j;omega
  ·rw[i q eq] at hb;by_cases m:r=p
   ·subst m;rw[self] at j;rcases hu.own b j with x|x
    ·exact h.own q r d f aG b hb x
    ·have:=(h.has q d).lt hb;omega
   ·rw[i r m] at j;exact h.own q r d f aG b hb j
 ·by_cases eq:q=p
  ·subst eq;rw[self] at g;rw[i r (Ne.symm aG)] at hb;rcases hu.ro a g with x|x|x
   ·exact h.ro q r d f aG a x hb
   ·exact h.own q r d f aG _ x hb
   ·have:=(h.has r f).lt hb;omega
  ·rw[i q eq] at g;by_cases m:r=p
   ·subst m;rw[self] at hb;rcases hu.own _ hb with x|x
    ·exact h.ro q r d f aG a g x
    ·have:=(h.has q d).gK g;omega
   ·rw[i r m] at hb;exact h.ro q r d f aG a g hb
 ·by_cases e:q=p
  ·subst e;rw[self] at hb;rcases hu.own b hb with x|x
   ·exact h.gE q d b x hs
   ·have:=h.gk b hs;omega
  ·rw[i q e] at hb;exact h.gE q d b hb hs
 ·by_cases e:q=p
  ·subst e;rw[self] at g;rcases hu.ro a g with x|x|x
   ·exact h.jj q d a x hs
   ·exact h.gE q d _ x hs
   ·have:=h.gk _ hs;omega
  ·rw[i q e] at g;exact h.jj q d a g hs
theorem dB.act (h:dB c k Fr w){p:Nat}(t:p<=k){F':aa}{w':World}(he:gZ c w w')(hle:Le F' (Fr p)):dB c k (upd Fr p F') w':=by
 have m:∀q,q<=k->Has (Fr q) w':=fun q d=>by
  have j:=h.has q d
  exact ⟨fun a v g=>by
   have:=j.ro a v g;unfold World.cell? at this ⊢;rw[he.block _ (h.jj q d a (by rw[g];rfl))]
   exact this,fun b o hb=>by rw[he.block b (h.gE q d b (eN hb))];exact j.own b o hb,j.nodup,j.apart⟩
 have l:∀q,q≠p->(upd Fr p F') q=Fr q:=fun q d=>upd_ne _ _ d;have self:(upd Fr p F') p=F':=upd_same _ _ _;have i:∀q b,b∈keys ((upd Fr p F') q).own->b∈keys (Fr q).own:=fun q b hb=>by
  by_cases e:q=p
  ·subst e;rw[self] at hb;exact hle.own b hb
  ·rw[l q e] at hb;exact hb
 have n:∀q a,(((upd Fr p F') q).ro a).isSome=true->((Fr q).ro a).isSome=true\/a.block∈keys (Fr q).own:=fun q a f=>by
  by_cases e:q=p
  ·subst e;rw[self] at f;exact hle.ro a f
  ·rw[l q e] at f;exact .inl f
 refine ⟨fun q d=>?_,fun q r d g aG b hb s=>h.own q r d g aG b (i q b hb) (i r b s),fun q r d g aG a f hb=>(n q a f).elim (fun x=>h.ro q r d g aG a x (i r _ hb)) (fun x=>h.own q r d g aG _ x (i r _ hb)),
  fun q d b hb hs=>h.gE q d b (i q b hb) hs,fun q d a f hs=>(n q a f).elim (fun x=>h.jj q d a x hs) (fun x=>h.gE q d _ x hs),fun b hb=>by rw[he.size];exact h.gk b hb⟩
 by_cases e:q=p
 ·subst e;rw[self];exact hle.has _ (m q d)
 ·rw[l q e];exact m q d
theorem dB.at (h:dB c k Fr w)(d:Nat):dB c k Fr (w.at d):=⟨fun p a=>(h.has p a).at d,h.own,h.ro,h.gE,h.jj,h.gk⟩
theorem dD.at (h:dD c B0 bB p0 d0 k g Fr gs w t ρ φ s)(d:Nat):dD c B0 bB p0 d0 k g Fr gs (w.at d) t ρ φ s:=
 ⟨h.size,h.base,h.run,h.off,h.g0,h.old,h.wk,h.deaf,h.above,h.deaf0,h.parts.at d,h.sh,h.inv,h.gF,h.rel,h.apart,h.low,h.jk,h.jl,h.ne⟩
theorem lB {F:aa}{w w':World}(f:Has F w)(g:w.heap.size<=w'.heap.size){e:Event}(he:iP F.ro (gJ F w.heap.size w'.heap.size) e)(p:Nat):
  (∀x,(MemAct.ofEvent e).touch?=some x->tc c F w.heap.size p x)/\(MemAct.ofEvent e).low w'.heap.size/\MemAct.ofEvent e≠ .mark (.release (stA c.Wg))/\e.loc≠ .mark .disable/\e.loc≠ .mark .enable:=by
 have hm:∀b,gJ F w.heap.size w'.heap.size b->b<w'.heap.size:=fun b hb=>hb.elim (fun x=>Nat.lt_of_lt_of_le (f.lt x) g) (fun x=>x.2)
 rcases he with ⟨a,wr,rfl,hx⟩|⟨r,wr,rfl,hx⟩|⟨m,rfl,h⟩
 ·refine ⟨fun x d=>?_,?_,by cases wr<;>simp[MemAct.ofEvent],by simp,by simp⟩
  ·have e1:x=⟨.cell a,wr,.plain⟩:=by cases wr<;>simp[MemAct.ofEvent,MemAct.touch?] at d<;>rw[<-d]
   subst e1
   rcases hx with (hx|hx)|⟨hw,hx⟩
   ·exact .inl hx
   ·exact .inr (.inl hx.1)
   ·exact .inr (.inr (.inl ⟨⟨a,rfl,hx⟩,hw⟩))
  ·have:a.block<w'.heap.size:=hx.elim (hm _) fun x=>Nat.lt_of_lt_of_le (f.gK x.2) g
   cases wr<;>exact this
 ·refine ⟨fun x d=>?_,?_,by cases wr<;>simp[MemAct.ofEvent],by simp,by simp⟩
  ·have e1:x=⟨.obj r,wr,.plain⟩:=by cases wr<;>simp[MemAct.ofEvent,MemAct.touch?] at d<;>rw[<-d]
   subst e1
   rcases hx with hx|hx
   ·exact .inl hx
   ·exact .inr (.inl hx.1)
  ·have:=hm _ hx
   cases wr<;>exact this
 ·cases m<;>simp[oL] at h<;>exact ⟨fun x hx=>by simp[MemAct.ofEvent,MemAct.touch?] at hx,trivial,by simp[MemAct.ofEvent],by simp,by simp⟩
theorem IV {i:Nat}{ph aL:Ph}{es:Array Event}(h:EvA c i ph aL es)(F:aa)(B:Nat)(d:∀b,c.shared b->b<B):∀e∈es,
  (∀x,(MemAct.ofEvent e).touch?=some x->tc c F B (i+1) x)/\(MemAct.ofEvent e).low B/\MemAct.ofEvent e≠ .mark (.release (stA c.Wg)):=by
 intro e he
 cases h with
 |book h hd ht hg=>
  rcases h e he with rfl|rfl|⟨a,x,rfl,j⟩
  ·exact ⟨fun x hx=>by simp[cF,MemAct.ofEvent,MemAct.touch?] at hx,trivial,by simp[cF,MemAct.ofEvent]⟩
  ·exact ⟨fun x hx=>by simp[cF,MemAct.ofEvent,MemAct.touch?] at hx,trivial,by simp[cF,MemAct.ofEvent]⟩
  ·refine ⟨fun y f=>?_,?_,by cases x<;>simp[MemAct.ofEvent]⟩
   ·have:y=⟨.cell a,x,.atomic⟩:=by cases x<;>simp[MemAct.ofEvent,MemAct.touch?] at f<;>rw[<-f]
    subst this
    exact .inr (.inr (.inr (.inl ⟨⟨a,rfl,j.elim .inr fun z=>.inl z.1⟩,by simp,by simp⟩)))
   ·have:a.block<B:=d _ (j.elim (fun z=>.inr (.inl z)) fun z=>.inl z.1)
    cases x<;>exact this
 |word m g hm hd hg=>
  rw[g] at he
  simp only[List.mem_toArray,List.mem_singleton] at he
  subst he
  rcases hm with rfl|rfl
  ·exact ⟨fun x hx=>by simp[cF,MemAct.ofEvent,MemAct.touch?] at hx,d _ (.inl rfl),by simp[cF,MemAct.ofEvent]⟩
  ·exact ⟨fun x hx=>by simp[cF,MemAct.ofEvent,MemAct.touch?] at hx,d _ (.inl rfl),by simp[cF,MemAct.ofEvent]⟩
 |store g hd hg=>
  rw[g] at he
  simp only[List.mem_toArray,List.mem_singleton] at he
  subst he
  refine ⟨fun y f=>?_,d _ (.inr (.inr rfl)),by simp[MemAct.ofEvent]⟩
  have:y=⟨.cell ⟨c.Is,i,none⟩,true,.plain⟩:=by simp[MemAct.ofEvent,MemAct.touch?] at f;rw[<-f]
  subst this
  exact .inr (.inr (.inr (.inr (.inl ⟨i,rfl,rfl⟩))))
 |rel g hd hg=>
  rw[g] at he
  simp only[List.mem_toArray,List.mem_singleton] at he
  subst he
  exact ⟨fun x hx=>by simp[cF,MemAct.ofEvent,MemAct.touch?] at hx,d _ (.inr (.inl rfl)),by simp[cF,MemAct.ofEvent]⟩
theorem IW {i:Nat}{ph aL:Ph}{es:Array Event}(h:EvA c i ph aL es):deafBehind ph.deaf es=aL.deaf:=by
 cases h with
 |book h hd ht hg=>exact hd
 |word m a hm hd hg=>rw[a,hd];rcases hm with rfl|rfl<;>simp[cF,deafBehind]
 |store a hd hg=>rw[a,hd];simp[deafBehind]
 |rel a hd hg=>rw[a,hd.2,hd.1];simp[cF,deafBehind]
theorem IX (d:Nat)(es:Array Event)(n:Nat)(h:n<=es.size){fn:FuncId}{pos:String}{j:Nat}(t:Trace)(hd:Deaf t j=d):(t++MemOp.ofEvents j fn pos es).deaf j (t.size+n)=deafBehind d (es.extract 0 n):=by
 have e1:es=es.extract 0 n++es.extract n es.size:=by simp[Array.extract_append_extract,h]
 have e2:MemOp.ofEvents j fn pos es=MemOp.ofEvents j fn pos (es.extract 0 n)++MemOp.ofEvents j fn pos (es.extract n es.size):=by
  rw[Go.Conc.ofEvents_eq,Go.Conc.ofEvents_eq,Go.Conc.ofEvents_eq,<-Array.map_append,<-e1]
 rw[e2,<-Array.append_assoc];have hs:(t++MemOp.ofEvents j fn pos (es.extract 0 n)).size=t.size+n:=by rw[Go.Conc.ofEvents_eq];simp;omega
 rw[<-hs,deaf_old (Nat.le_refl _)];have:=Deaf_own t j fn pos (es.extract 0 n);unfold Deaf at this;rw[this];exact congrArg (fun d=>deafBehind d _) hd
theorem IY {i j:Nat}{ph aL:Ph}{es:Array Event}{fn:FuncId}{pos:String}(hlen:c.T0<=t.size)(h:EvA c i ph aL es)(hd:Deaf t j=ph.deaf)(k:ph.gp≠ .cnt->∃r,fV c t j r)(l:aL.gp≠ .cnt):∃r,fV c (t++MemOp.ofEvents j fn pos es) j r:=by
 cases h with
 |book h d ht hg=>
  have n:ph.gp≠ .cnt:=fun e=>l (hg.2 e);obtain ⟨r,k⟩:=k n;refine ⟨r,k.app fun idx x hi o hx=>?_⟩;obtain ⟨z,f,b⟩:=touch_of hx;have p:(MemOp.ofEvents j fn pos es)[idx - t.size]?=some z:=by rw[Array.getElem?_append_right hi] at f;exact f
  rw[Go.Conc.ofEvents_eq,Array.getElem?_map] at p;obtain ⟨e,he,rfl⟩:=Option.map_eq_some_iff.1 p;have s:idx - t.size<es.size:=(Array.getElem?_eq_some_iff.1 he).1;rcases ht _ e he with q|q
  ·simp only at b;rw[q] at b;cases b
  rcases h e (Array.mem_of_getElem? he) with rfl|rfl|⟨a,y,rfl,u⟩
  ·simp[cF,MemAct.ofEvent,MemAct.touch?] at b
  ·simp[cF,MemAct.ofEvent,MemAct.touch?] at b
  ·have:x=⟨.cell a,y,.atomic⟩:=by cases y<;>simp[MemAct.ofEvent,MemAct.touch?] at b<;>rw[<-b]
   subst this;refine ⟨rfl,?_,a,rfl,u.resolve_right fun z=>n z.2⟩;rintro ⟨g,hg,v⟩;have w:g=j:=by rw[o] at hg;exact (Option.some.inj hg).symm
   subst w;have e1:idx=t.size+(idx - t.size):=by omega
   rw[e1,IX ph.deaf es (idx - t.size) (Nat.le_of_lt s) t hd] at v;omega
 |word m he hm d hg=>exact absurd hg.1 l
 |store he d hg=>exact absurd hg.1 l
 |rel he d hg=>
  refine ⟨t.size,?_⟩;have A:MemOp.ofEvents j fn pos es=#[{g:=j,fn:=fn,pos:=pos,act:=.mark (.releaseMerge (stA c.Wg))}]:=by rw[Go.Conc.ofEvents_eq,he];simp[cF,MemAct.ofEvent]
  rw[A];have B:(t++#[({g:=j,fn:=fn,pos:=pos,act:=.mark (.releaseMerge (stA c.Wg))}:MemOp)])[t.size]?=some {g:=j,fn:=fn,pos:=pos,act:=.mark (.releaseMerge (stA c.Wg))}:=by
   rw[Array.getElem?_append_right (Nat.le_refl _)];simp
  refine ⟨hlen,act?_of B,by simp[Trace.g?],⟨j,by simp[Trace.g?],by rw[deaf_old (Nat.le_refl _)];exact hd.trans d.1⟩,fun idx x hi o hx=>?_⟩;obtain ⟨z,f,_⟩:=touch_of hx;have:=lt_size_of_getElem? f;simp at this;omega
end
section
variable {c : Cy} {B0 : Nat} {bB : Loc → Prop} {p0 : P0} {d0 k : Nat} {g : Goroutine} {Fr : Nat → aa} {gs : Array Goroutine} {w : World} {t u : Trace} {ρ : Nat → Rk} {φ : Nat → Ph} {s : Sh}
theorem dx.at_ (F:aa)(w:World)(d:Nat):dx c B0 F F w (w.at d):=⟨.refl _,rfl,rfl,Nat.le_refl _,fun _ _ _ _=>rfl,fun _ h=>.inl h,fun _ h=>.inl h⟩
structure IZ (c:Cy)(B0:Nat)(bB:Loc->Prop)(p0:P0)(d0 k:Nat)(g:Goroutine)(Fr:Nat->aa)(gs:Array Goroutine)(w:World)(t:Trace)(ρ:Nat->Rk)(m:Machine)(ops:Array MemOp)(sl:Option (Nat×Nat)):Prop where
 ex:∃(bW:Array Goroutine) (w':World) (ρ':Nat->Rk) (φ':Nat->Ph) (cV:Nat->aa) (s':Sh),m=crowd bW w' sl/\dD c B0 bB p0 d0 k g cV bW w' (t++ops) ρ' φ' s'/\
  bW.size=gs.size/\cV 0=Fr 0/\dx c B0 (Fr 0) (Fr 0) w w'/\y8 gs.size (ρ',runs bW) (ρ,runs gs)
def lC (ρ:Nat->Rk)(j:Nat)(r:Rk)(a:Nat):Rk:=if a=j then r else ρ a
theorem oz (ρ:Nat->Rk)(j:Nat)(r:Rk):lC ρ j r j=r:=if_pos rfl
theorem mS (ρ:Nat->Rk)(r:Rk){a j:Nat}(h:a≠j):lC ρ j r a=ρ a:=if_neg h
theorem tf {n j:Nat}{ρ:Nat->Rk}{r:Rk}(a:j<n)(h:(ρ j).kids r):qH n (lC ρ j r) ρ:=⟨j,a,by rw[oz];exact h,fun _ aG=>mS _ _ aG⟩
theorem dD.other (h:dD c B0 bB p0 d0 k g Fr gs w t ρ φ s){j:Nat}{x:Goroutine}(I:0<j)(hx:gs[j]?=some x)(D:x.status= .running)(sl:Option (Nat×Nat)):
  ∃m ops,runT c.P (crowd gs w sl) j=(.next m,ops)/\IZ c B0 bB p0 d0 k g Fr gs w t ρ m ops sl:=by
 have N:j<gs.size:=(Array.getElem?_eq_some_iff.1 hx).1
 have K:(j==0)=false:=by simp;omega
 rcases Nat.lt_or_ge j c.base with ab|ab
 ·
  obtain ⟨q,H,L⟩:=h.old j x I ab hx
  cases q with
  |zero=>rw[L.1] at D;cases D
  |succ q=>
   rcases L with ⟨hf,_⟩|⟨_,S,es,hm,E,T⟩
   ·rw[hf] at D;cases D
   have C:=runT_crowd_go (P:=c.P) (gs:=gs) (w:=w) (sl:=sl) (i:=j) hx (by rw[K];exact E w)
   refine ⟨_,_,C,⟨_,w,lC ρ j (Rk.nat q),φ,Fr,s,rfl,?_,by simp,rfl,.refl _ _ _ _,.inl (tf N (by rw[H];exact Rk.y6 q))⟩⟩
   refine h.jL I hx (.inr ⟨Int.le_refl _,Int.le_refl _⟩) (fun U aG=>mS _ _ aG) (fun _ _=>rfl) (fun _ _=>rfl) rfl (fun _=>⟨q,oz _ _ _,by rw[Deaf_own];exact T⟩) (fun i e _=>by omega) h.parts h.sh h.inv (h.gF.mute hm) (Nat.le_refl _)
 ·
  have bm:=h.size
  obtain ⟨i,rfl⟩:∃i,j=c.base+i:=⟨j - c.base,by omega⟩
  have A:i<k:=by omega
  have ad:i<c.n:=Nat.lt_of_lt_of_le A h.inv.i.kn
  obtain ⟨u,ae,hW⟩:=h.wk i A
  obtain rfl:u=x:=by rw[hx] at ae;exact (Option.some.inj ae).symm
  have aG:∀d,c.base+d≠c.base+i->d≠i:=fun d B e=>B (by rw[e])
  rcases hW with ⟨hg,q,H,L⟩|⟨hg,V,al,_⟩
  ·cases q with
   |zero=>rw[L.1] at D;cases D
   |succ q=>
    rcases L with ⟨hf,_⟩|⟨_,S,es,hm,E,T⟩
    ·rw[hf] at D;cases D
    have C:=runT_crowd_go (P:=c.P) (gs:=gs) (w:=w) (sl:=sl) (i:=c.base+i) hx (by rw[K];exact E w)
    refine ⟨_,_,C,⟨_,w,lC ρ (c.base+i) (Rk.nat q),upd φ i {φ i with deaf:=deafBehind (φ i).deaf es},Fr,s,rfl,?_,by simp,rfl,.refl _ _ _ _,.inl (tf N (by rw[H];exact Rk.y6 q))⟩⟩
    have hd:=h.deaf i A
    refine h.jL I hx (.inr ⟨Int.le_refl _,Int.le_refl _⟩) (fun U aG=>mS _ _ aG) (fun d B=>upd_ne _ _ (aG d B)) (fun _ _=>rfl) rfl (fun B=>by omega) (fun d e O=>?_) h.parts h.sh (h.inv.deaf ad (by rw[hg];simp) _) (h.gF.mute hm) (Nat.le_refl _)
    obtain rfl:d=i:=by omega
    rw[oz,upd_same]
    refine ⟨.inl ⟨hg,q,rfl,T⟩,by rw[Deaf_own,hd],fun J=>?_,h.jk d A⟩
    obtain ⟨r,C⟩:=h.rel d A (by rw[hg];simp)
    refine ⟨r,C.app fun idx y hi bo a4=>?_⟩
    obtain ⟨z,M,ao⟩:=touch_of a4
    rcases getElem?_append_cases M with ⟨O,_⟩|⟨_,a5⟩
    ·omega
    ·obtain ⟨e,he,rfl⟩:=Go.Conc.mem_ofEvents a5
     rw[touch_mute (hm e he)] at ao;cases ao
  ·have ex:({u with status:=.running}:Goroutine)=u:=by cases u;simp_all
   rw[ex] at V
   cases Q:ρ (c.base+i) with
   |mk ι f=>
    rw[Q] at V
    rcases V with ⟨a6,_⟩|⟨_,_,a7,a8⟩|⟨_,_,_,ar⟩
    ·exact absurd a6 hg
    ·
     obtain ⟨y,S,w',es,F',E,hu,a9,G,W⟩:=a8 w (h.parts.has (i+1) (by omega))
     have C:=runT_crowd_go (P:=c.P) (gs:=gs) (w:=w) (sl:=sl) (i:=c.base+i) hx (by rw[K];exact E)
     have R:=h.parts.has (i+1) (by omega)
     obtain ⟨X,a0,a2⟩:=W.xR s
     have a3:∀b,b<w.heap.size->b∉keys (Fr (i+1)).own->w'.heap[b]?=w.heap[b]?:=hu.frame
     refine ⟨_,_,C,⟨_,w',lC ρ (c.base+i) (f y),φ,upd Fr (i+1) F',s,rfl,?_,by simp,upd_ne _ _ (by omega),?_,.inl (tf N (by rw[Q];exact ⟨y,rfl⟩))⟩⟩
     ·have ba:Deaf (t++MemOp.ofEvents (c.base+i) u.frame.fn u.frame.place es) (c.base+i)=(φ i).deaf:=by
       rw[Deaf_own,deafBehind_still (fun e he=>(lB (c:=c) R hu.size (G e he) 0).2.2.2)]
       exact h.deaf i A
      refine h.jL I hx (.inr ⟨Int.le_refl _,Int.le_refl _⟩) (fun U aG=>mS _ _ aG) (fun _ _=>rfl) (fun d B=>upd_ne _ _ (by have:=aG d B;omega)) (upd_ne _ _ (by omega)) (fun B=>by omega) (fun d e O=>?_) (h.parts.walk (by omega) hu a9)
       (h.sh.keep fun b hb=>a3 b (h.parts.gk b hb) (fun hm=>h.parts.gE (i+1) (by omega) b hm hb)) h.inv ?_ hu.size
      ·obtain rfl:d=i:=by omega
       rw[oz,upd_same]
       refine ⟨X,ba,fun J=>absurd a7 J,fun b hb=>?_⟩
       rcases hu.own b hb with z|z
       ·exact h.jk d A b z
       ·exact Nat.le_trans h.jl z
      ·refine ei.app h.base ⟨h.ne.2.1,h.ne.2.2⟩ h.parts h.gF (p:=i+1) (by omega) hu.size (fun op v=>?_) (fun op v z M=>?_) (fun op v=>?_) (fun op v=>?_) (fun q H=>upd_ne _ _ H) (fun l hl=>?_) (fun l hl=>?_)
       ·obtain ⟨e,_,rfl⟩:=Go.Conc.mem_ofEvents v;rfl
       ·obtain ⟨e,he,rfl⟩:=Go.Conc.mem_ofEvents v;exact (lB (c:=c) R hu.size (G e he) (i+1)).1 z M
       ·obtain ⟨e,he,rfl⟩:=Go.Conc.mem_ofEvents v;exact (lB (c:=c) R hu.size (G e he) (i+1)).2.1
       ·obtain ⟨e,he,rfl⟩:=Go.Conc.mem_ofEvents v;exact (lB (c:=c) R hu.size (G e he) (i+1)).2.2.1
       ·rw[upd_same] at hl
        cases l with
        |cell a=>exact hu.own _ hl
        |obj r=>exact hu.own _ hl
        |_=>exact hl.elim
       ·rw[upd_same] at hl
        obtain ⟨a,rfl,Y⟩:=hl
        rcases hu.ro a Y with z|z|z
        ·exact .inl ⟨a,rfl,z⟩
        ·exact .inr (.inl z)
        ·exact .inr (.inr z)
     ·exact ⟨by rw[hu.os];exact .refl _,hu.tape,hu.output,hu.size,fun b hb _ _=>a3 b (Nat.lt_of_lt_of_le hb h.jl) (fun hm=>by have:=h.jk i A b hm;omega),fun _ h=>.inl h,fun _ h=>.inl h⟩
    ·
     rcases ar w s k φ p0 (h.parts.has (i+1) (by omega)) h.sh ad rfl h.inv with ⟨bb,bc,E⟩|⟨y,S,w',es,s',aL,F',E,bd,F,hinv,G,bj,hle,W⟩
     ·
      have C:=runT_crowd_go (P:=c.P) (gs:=gs) (w:=w) (sl:=sl) (i:=c.base+i) hx (by rw[K];exact E)
      have bk:gs.map (woken c.P u {u with status:=.blocked} w)=gs:=by
       have:woken c.P u {u with status:=.blocked} w=id:=by funext o;unfold Go.Conc.woken;simp
       rw[this,Array.map_id]
      refine ⟨_,_,C,⟨_,w,ρ,φ,Fr,s,rfl,?_,by simp,rfl,.refl _ _ _ _,.inr ⟨rfl,?_⟩⟩⟩
      ·have he:t++MemOp.ofEvents (c.base+i) u.frame.fn u.frame.place #[]=t:=by simp[MemOp.ofEvents]
       refine h.jL I hx (.inr ⟨Int.le_refl _,Int.le_refl _⟩) (fun _ _=>rfl) (fun _ _=>rfl) (fun _ _=>rfl) rfl (fun B=>by omega) (fun d e O=>?_) h.parts h.sh h.inv (by rw[he];exact h.gF) (Nat.le_refl _)
       obtain rfl:d=i:=by omega
       rw[he]
       refine ⟨.inr ⟨hg,?_,al,.inr ⟨rfl,bb,bc⟩⟩,h.deaf d A,fun J=>h.rel d A J,h.jk d A⟩
       have e2:({({u with status:=.blocked}:Goroutine) with status:=.running}:Goroutine)=u:=by cases u;simp_all
       rw[e2,Q]
       exact .inr (.inr ⟨D,al,hg,ar⟩)
      ·rw[bk];exact Co hx D (by simp)
     ·have C:=runT_crowd_go (P:=c.P) (gs:=gs) (w:=w) (sl:=sl) (i:=c.base+i) hx (by rw[K];exact E)
      obtain ⟨X,a0,a2⟩:=W.xR s'
      have hd:=h.deaf i A
      have Z:=IV G (Fr (i+1)) w.heap.size h.parts.gk
      refine ⟨_,_,C,⟨_,w',lC ρ (c.base+i) (f y),upd φ i aL,upd Fr (i+1) F',s',rfl,?_,by simp,upd_ne _ _ (by omega),?_,.inl (tf N (by rw[Q];exact ⟨y,rfl⟩))⟩⟩
      ·refine h.jL I hx (bj.imp (fun z=>⟨z,a0,a2⟩) id) (fun U aG=>mS _ _ aG) (fun d B=>upd_ne _ _ (aG d B)) (fun d B=>upd_ne _ _ (by have:=aG d B;omega)) (upd_ne _ _ (by omega)) (fun B=>by omega) (fun d e O=>?_) (h.parts.act (by omega) F hle) bd hinv ?_ (by rw[F.size];exact Nat.le_refl _)
       ·obtain rfl:d=i:=by omega
        rw[oz,upd_same,upd_same]
        exact ⟨X,by rw[Deaf_own,hd];exact IW G,fun J=>IY h.gF.len G hd (fun bl=>h.rel d A bl) J,fun b hb=>h.jk d A b (hle.own b hb)⟩
       ·refine ei.app h.base ⟨h.ne.2.1,h.ne.2.2⟩ h.parts h.gF (p:=i+1) (by omega) (by rw[F.size];exact Nat.le_refl _) (fun op v=>?_) (fun op v z M=>?_) (fun op v=>?_) (fun op v=>?_) (fun q H=>upd_ne _ _ H) (fun l hl=>?_) (fun l hl=>?_)
        ·obtain ⟨e,_,rfl⟩:=Go.Conc.mem_ofEvents v;rfl
        ·obtain ⟨e,he,rfl⟩:=Go.Conc.mem_ofEvents v;exact (Z e he).1 z M
        ·obtain ⟨e,he,rfl⟩:=Go.Conc.mem_ofEvents v;rw[F.size];exact (Z e he).2.1
        ·obtain ⟨e,he,rfl⟩:=Go.Conc.mem_ofEvents v;exact (Z e he).2.2
        ·rw[upd_same] at hl
         refine .inl ?_
         cases l with
         |cell a=>exact hle.own _ hl
         |obj r=>exact hle.own _ hl
         |_=>exact hl.elim
        ·rw[upd_same] at hl
         obtain ⟨a,rfl,Y⟩:=hl
         rcases hle.ro a Y with z|z
         ·exact .inl ⟨a,rfl,z⟩
         ·exact .inr (.inl z)
      ·exact ⟨F.os,F.tape,F.output,by rw[F.size];exact Nat.le_refl _,fun b _ _ hs=>F.block b hs,fun _ h=>.inl h,fun _ h=>.inl h⟩
theorem dD.awake (h:dD c B0 bB p0 d0 k g Fr gs w t ρ φ s):∀x∈gs,awake x:=by
 intro x hx;obtain ⟨j,i,rfl⟩:=Array.mem_iff_getElem.1 hx;have hx:=Array.getElem?_eq_getElem i;rcases Nat.eq_zero_or_pos j with rfl|l
 ·obtain ⟨z,a,_,b⟩:=h.g0;obtain rfl:z=gs[0]:=by rw[hx] at a;exact (Option.some.inj a).symm
  exact awake_of (b.imp id fun y=>.inl y.1)
 ·rcases Nat.lt_or_ge j c.base with f|f
  ·obtain ⟨q,_,d⟩:=h.old j _ l f hx;exact awake_of (d.status.elim .inl fun y=>.inr (.inr y))
  ·have m:=h.size;obtain ⟨z,a,hW⟩:=h.wk (j - c.base) (by omega);have e:c.base+(j - c.base)=j:=by omega
   rw[e] at a;obtain rfl:z=gs[j]:=by rw[hx] at a;exact (Option.some.inj a).symm
   rcases hW with ⟨_,q,_,d⟩|⟨_,_,_,b⟩
   ·exact awake_of (d.status.elim .inl fun y=>.inr (.inr y))
   ·exact awake_of (b.imp id fun y=>.inl y.1)
theorem dD.pick (h:dD c B0 bB p0 d0 k g Fr gs w t ρ φ s)(Q:p0= .reg->k=c.n)(sl:Option (Nat×Nat))(R:p0= .reg->∀w s,cv c w s->s.ws=0->stepG c.P true g w= .go {g with status:=.blocked} w #[]):
  ∃(N:Nat) (bW:Array Goroutine) (w':World) (a A:Option (Nat×Nat)) (b:Trace) (ρ':Nat->Rk) (φ':Nat->Ph) (cV:Nat->aa) (s':Sh),
   runNT c.P N (crowd gs w sl) t=(.next (crowd bW w' a),b)/\(∃d,stepT c.P (crowd bW w' a)=runT c.P (crowd bW (w'.at d) A) 0)/\dD c B0 bB p0 d0 k g cV bW w' b ρ' φ' s'/\bW[0]?=some g/\cV 0=Fr 0/\
   dx c B0 (Fr 0) (Fr 0) w w'/\(p0= .reg->s'.ws≠0):=by
 have key:∀(y:(Nat->Rk)×Nat),∀gs w t ρ φ s f sl,y=(ρ,runs gs)->f 0=Fr 0->dD c B0 bB p0 d0 k g f gs w t ρ φ s->∀n,gs.size=n->n=c.base+k->
   ∃(N:Nat) (bW:Array Goroutine) (w':World) (a A:Option (Nat×Nat)) (b:Trace) (ρ':Nat->Rk) (φ':Nat->Ph) (cV:Nat->aa) (s':Sh),
   runNT c.P N (crowd gs w sl) t=(.next (crowd bW w' a),b)/\(∃d,stepT c.P (crowd bW w' a)=runT c.P (crowd bW (w'.at d) A) 0)/\dD c B0 bB p0 d0 k g cV bW w' b ρ' φ' s'/\bW[0]?=some g/\cV 0=Fr 0/\
   dx c B0 (Fr 0) (Fr 0) w w'/\(p0= .reg->s'.ws≠0):=by
  intro y
  induction (y9 (c.base+k)).apply y with
  |intro y _ ih=>
   intro gs w t ρ φ s f sl l q h n B C
   subst l
   have S:∃(j:Nat) (x:Goroutine),gs[j]?=some x/\x.status= .running:=by
    obtain ⟨z,r,_,e⟩:=h.g0
    rcases e with p|⟨_,u,T⟩
    ·exact ⟨0,z,r,p⟩
    ·have U:=Q u
     have hinv:=h.inv
     rw[u,U] at hinv
     obtain ⟨i,hi,hg,V⟩:=live hinv T
     obtain ⟨x,hx,hW⟩:=h.wk i (by omega)
     rcases hW with ⟨W,_⟩|⟨_,_,_,e⟩
     ·exact absurd W hg
     ·rcases e with p|⟨_,X,Y⟩
      ·exact ⟨_,x,hx,p⟩
      ·exact absurd Y (V X)
   obtain ⟨j,x,d,a,hx,p,e⟩:=crowd_pick (P:=c.P) (w:=w) (sl:=sl) h.awake S
   have hd:=h.at d
   rcases Nat.eq_zero_or_pos j with rfl|Z
   ·obtain ⟨z,r,he,ba⟩:=h.g0
    obtain rfl:z=x:=by rw[hx] at r;exact (Option.some.inj r).symm
    have L:z=g:=by rw[<-he];cases z;simp_all
    by_cases v:p0= .reg/\s.ws=0
    ·
     have ab:=R v.1 (w.at d) s h.sh v.2
     have ad:=runT_crowd_go (P:=c.P) (gs:=gs) (w:=w.at d) (sl:=a) (i:=0) hx (by rw[L];exact ab)
     have ae:gs.map (woken c.P z {g with status:=.blocked} (w.at d))=gs:=by
      have:woken c.P z {g with status:=.blocked} (w.at d)=id:=by funext o;unfold Go.Conc.woken;simp
      rw[this,Array.map_id]
     have al:0<gs.size:=(Array.getElem?_eq_some_iff.1 hx).1
     have ao:t++MemOp.ofEvents 0 z.frame.fn z.frame.place #[]=t:=by simp[MemOp.ofEvents]
     have ar:dD c B0 bB p0 d0 k g f (gs.setIfInBounds 0 {g with status:=.blocked}) (w.at d) t ρ φ s:=by
      refine ⟨by simpa using hd.size,hd.base,hd.run,hd.off,⟨{g with status:=.blocked},Array.getElem?_setIfInBounds_self_of_lt al,by have:=h.run;cases g;simp_all,.inr ⟨rfl,v⟩⟩,fun j y a0 hb l=>?_,fun i hi=>?_,hd.deaf,fun j a2=>hd.above j (by simpa using a2),hd.deaf0,hd.parts,hd.sh,hd.inv,hd.gF,hd.rel,hd.apart,hd.low,hd.jk,hd.jl,hd.ne⟩
      ·rw[Array.getElem?_setIfInBounds_ne (by omega)] at l
       exact hd.old j y a0 hb l
      ·obtain ⟨y,l,hW⟩:=hd.wk i hi
       exact ⟨y,by rw[Array.getElem?_setIfInBounds_ne (by have:=h.base;omega)];exact l,hW⟩
     obtain ⟨N,bW,w',D,E,b,ρ',φ',cV,s',k1,F,G,H,I,J,K⟩:=ih (ρ,runs (gs.setIfInBounds 0 {g with status:=.blocked})) (.inr ⟨rfl,Co hx p (by simp)⟩) _ _ _ _ _ _ f a rfl q ar n (by simpa using B) C
     refine ⟨N+1,bW,w',D,E,b,ρ',φ',cV,s',?_,F,G,H,I,(dx.at_ _ _ _).trans J,K⟩
     simp only[runNT,e,ad]
     rw[ae,ao]
     exact k1
    ·refine ⟨0,gs,w,sl,a,t,ρ,φ,f,s,rfl,⟨d,e⟩,h,by rw[hx,L],q,.refl _ _ _ _,fun u hs=>v ⟨u,hs⟩⟩
   ·obtain ⟨m,ops,a3,⟨bW,w',ρ',φ',cV,s',rfl,hA,a4,a5,M,O⟩⟩:=hd.other Z hx p a
    rw[B,C] at O
    obtain ⟨N,a6,w2,D,E,t2,a7,a8,a9,s2,k1,F,G,H,I,J,K⟩:=ih (ρ',runs bW) O _ _ _ _ _ _ cV a rfl (a5.trans q) hA n (a4.trans B) C
    refine ⟨N+1,a6,w2,D,E,t2,a7,a8,a9,s2,?_,F,G,H,I,?_,K⟩
    ·simp only[runNT,e,a3]
     exact k1
    ·rw[q] at M
     exact ((dx.at_ _ _ _).trans M).trans J
 exact key (ρ,runs gs) gs w t ρ φ s Fr sl rfl rfl h gs.size rfl h.size
theorem dD.qG (h:dD c B0 bB p0 d0 k g Fr gs w t ρ φ s)(C:p0= .reg->k=c.n)(sl:Option (Nat×Nat)):
  ∃(N:Nat) (bW:Array Goroutine) (w':World) (a p:Option (Nat×Nat)) (e:Trace) (ρ':Nat->Rk) (φ':Nat->Ph) (cV:Nat->aa) (s':Sh),
   runNT c.P N (crowd gs w sl) t=(.next (crowd bW w' a),e)/\(∃d,stepT c.P (crowd bW w' a)=runT c.P (crowd bW (w'.at d) p) 0)/\dD c B0 bB p0 d0 k g cV bW w' e ρ' φ' s'/\bW[0]?=some g/\cV 0=Fr 0/\
   dx c B0 (Fr 0) (Fr 0) w w':=by
 have key:∀(y:(Nat->Rk)×Nat),∀gs w t ρ φ s l sl,y=(ρ,runs gs)->l 0=Fr 0->dD c B0 bB p0 d0 k g l gs w t ρ φ s->∀n,gs.size=n->n=c.base+k->
   ∃(N:Nat) (bW:Array Goroutine) (w':World) (a p:Option (Nat×Nat)) (e:Trace) (ρ':Nat->Rk) (φ':Nat->Ph) (cV:Nat->aa) (s':Sh),
   runNT c.P N (crowd gs w sl) t=(.next (crowd bW w' a),e)/\(∃d,stepT c.P (crowd bW w' a)=runT c.P (crowd bW (w'.at d) p) 0)/\dD c B0 bB p0 d0 k g cV bW w' e ρ' φ' s'/\bW[0]?=some g/\cV 0=Fr 0/\
   dx c B0 (Fr 0) (Fr 0) w w':=by
  intro y
  induction (y9 (c.base+k)).apply y with
  |intro y _ ih=>
   intro gs w t ρ φ s l sl D q h n r u
   subst D
   have E:∃(j:Nat) (x:Goroutine),gs[j]?=some x/\x.status= .running:=by
    obtain ⟨z,o,_,b⟩:=h.g0
    rcases b with f|⟨_,v,F⟩
    ·exact ⟨0,z,o,f⟩
    ·have G:=C v
     have hinv:=h.inv
     rw[v,G] at hinv
     obtain ⟨i,hi,hg,H⟩:=live hinv F
     obtain ⟨x,hx,hW⟩:=h.wk i (by omega)
     rcases hW with ⟨I,_⟩|⟨_,_,_,b⟩
     ·exact absurd I hg
     ·rcases b with f|⟨_,J,K⟩
      ·exact ⟨_,x,hx,f⟩
      ·exact absurd K (H J)
   obtain ⟨j,x,d,a,hx,f,b⟩:=crowd_pick (P:=c.P) (w:=w) (sl:=sl) h.awake E
   have hd:=h.at d
   rcases Nat.eq_zero_or_pos j with rfl|L
   ·obtain ⟨z,o,he,al⟩:=h.g0
    obtain rfl:z=x:=by rw[hx] at o;exact (Option.some.inj o).symm
    have M:z=g:=by rw[<-he];cases z;simp_all
    exact ⟨0,gs,w,sl,a,t,ρ,φ,l,s,rfl,⟨d,b⟩,h,by rw[hx,M],q,.refl _ _ _ _⟩
   ·obtain ⟨m,ops,O,⟨bW,w',ρ',φ',cV,s',rfl,hA,Q,R,A,B⟩⟩:=hd.other L hx f a
    rw[r,u] at B
    obtain ⟨N,S,w2,T,U,t2,V,W,X,s2,k1,Y,Z,ab,ad,ae⟩:=ih (ρ',runs bW) B _ _ _ _ _ _ cV a rfl (R.trans q) hA n (Q.trans r) u
    refine ⟨N+1,S,w2,T,U,t2,V,W,X,s2,?_,Y,Z,ab,ad,?_⟩
    ·simp only[runNT,b,O]
     exact k1
    ·rw[q] at A
     exact ((dx.at_ _ _ _).trans A).trans ae
 exact key (ρ,runs gs) gs w t ρ φ s Fr sl rfl rfl h gs.size rfl h.size
end
def ej (c:Cy)(B0:Nat)(Φ:Goroutine->aa->Prop)(k:Nat)(p0:P0)(d0:Nat)(g:Goroutine)(F:aa):Prop:=
 g.status= .running/\g.offers=none/\∀(bB:Loc->Prop) (gs:Array Goroutine) (w:World) (sl:Option (Nat×Nat)) (t:Trace) (Fr:Nat->aa) (ρ:Nat->Rk) (φ:Nat->Ph) (s:Sh),Fr 0=F->dD c B0 bB p0 d0 k g Fr gs w t ρ φ s->
  (∀a,bB (.cell a)->¬c.shared a.block)->(∀r,bB (.obj r)->¬c.shared r)->
  ∃(N:Nat) (bW:Array Goroutine) (w':World) (e:Option (Nat×Nat)) (b:Trace) (f:Nat->Nat) (g':Goroutine) (F':aa) (d:Loc->Prop),
   runNT c.P N (crowd gs w sl) t=(.next (crowd bW w' e),b)/\ju c.P d g' F' bW w' b f/\dx c B0 F F' w w'/\(∀l,d l->bB l\/∃a,l= .cell a/\a.block=c.Wg)/\Φ g' F'
structure Ev0 (c:Cy)(d0 eZ:Nat)(es:Array Event):Prop where
 all:∀e∈es,e=cF .disable\/e=cF .enable\/∃a,a.block=c.Wg/\((∃x,e=⟨.cell a,x,true⟩)\/e=cF (.read a)\/e=cF (.write a))
 deaf:deafBehind d0 es=eZ
theorem Cp {c:Cy}{d0 eZ:Nat}{es:Array Event}(h:Ev0 c d0 eZ es)(F:aa)(B:Nat)(f:c.Wg<B):∀e∈es,
  (∀x,(MemAct.ofEvent e).touch?=some x->tc c F B 0 x)/\(MemAct.ofEvent e).low B/\MemAct.ofEvent e≠ .mark (.release (stA c.Wg)):=by
 intro e he
 rcases h.all e he with rfl|rfl|⟨a,d,⟨x,rfl⟩|rfl|rfl⟩
 ·exact ⟨fun x hx=>by simp[cF,MemAct.ofEvent,MemAct.touch?] at hx,trivial,by simp[cF,MemAct.ofEvent]⟩
 ·exact ⟨fun x hx=>by simp[cF,MemAct.ofEvent,MemAct.touch?] at hx,trivial,by simp[cF,MemAct.ofEvent]⟩
 ·have hb:a.block<B:=d▸f
  refine ⟨fun y b=>?_,by cases x<;>exact hb,by cases x<;>simp[MemAct.ofEvent]⟩
  have:y=⟨.cell a,x,.atomic⟩:=by cases x<;>simp[MemAct.ofEvent,MemAct.touch?] at b<;>rw[<-b]
  subst this
  exact .inr (.inr (.inr (.inl ⟨⟨a,rfl,.inr d⟩,by simp,by simp⟩)))
 ·have hb:a.block<B:=d▸f
  refine ⟨fun y b=>?_,hb,by simp[cF,MemAct.ofEvent]⟩
  have:y=⟨.cell a,false,.said⟩:=by simp[cF,MemAct.ofEvent,MemAct.touch?] at b;rw[<-b]
  subst this
  exact .inr (.inr (.inr (.inl ⟨⟨a,rfl,.inr d⟩,by simp,fun _=>rfl⟩)))
 ·have hb:a.block<B:=d▸f
  refine ⟨fun y b=>?_,hb,by simp[cF,MemAct.ofEvent]⟩
  have:y=⟨.cell a,true,.said⟩:=by simp[cF,MemAct.ofEvent,MemAct.touch?] at b;rw[<-b]
  subst this
  exact .inr (.inr (.inr (.inl ⟨⟨a,rfl,.inr d⟩,by simp,fun _=>rfl⟩)))
section
variable {c : Cy} {B0 : Nat} {bB : Loc → Prop} {p0 : P0} {d0 k : Nat} {g : Goroutine} {Fr : Nat → aa} {gs : Array Goroutine} {w : World} {t u : Trace} {ρ : Nat → Rk} {φ : Nat → Ph} {s : Sh} {Φ : Goroutine → aa → Prop}
theorem dD.zero (h:dD c B0 bB p0 d0 k g Fr gs w t ρ φ s){g':Goroutine}{w':World}{es:Array Event}{fn:FuncId}{pos:String}{s':Sh}{gm:P0}{eZ:Nat}{F':aa}(hx:gs[0]?=some g)(f:g'.status= .running)(p:g'.offers=none)
  (u:mayWake c.P g=true\/(s'.ms<=s.ms/\s'.ws<=s.ws)) (hd:deafBehind d0 es=eZ) (v:dB c k (upd Fr 0 F') w') (x:cv c w' s') (hinv:Inv c.n c.bs k φ gm s') (A:ei c bB k (upd Fr 0 F') w'.heap.size (t++MemOp.ofEvents 0 fn pos es))
  (B:w.heap.size<=w'.heap.size) (C:∀l,bB l->¬F'.gq l):
  dD c B0 bB gm eZ k g' (upd Fr 0 F') ((gs.map (woken c.P g g' w')).setIfInBounds 0 g') w' (t++MemOp.ofEvents 0 fn pos es) ρ φ s':=by
 have D:0<gs.size:=(Array.getElem?_eq_some_iff.1 hx).1
 have hu:∀op∈MemOp.ofEvents 0 fn pos es,op.g=0:=fun op E=>by obtain ⟨e,_,rfl⟩:=Go.Conc.mem_ofEvents E;rfl
 have other:∀a,a≠0->∀y,((gs.map (woken c.P g g' w')).setIfInBounds 0 g')[a]?=some y->∃z,gs[a]?=some z/\y=woken c.P g g' w' z:=fun a aG y j=>by
  rw[Array.getElem?_setIfInBounds_ne (Ne.symm aG),Array.getElem?_map] at j
  obtain ⟨z,d,rfl⟩:=Option.map_eq_some_iff.1 j
  exact ⟨z,d,rfl⟩
 have m:∀a,a≠0->Deaf (t++MemOp.ofEvents 0 fn pos es) a=Deaf t a:=fun a aG=>Deaf_other t (Ne.symm aG) _ hu
 have F:(mayWake c.P g=true/\g'.status≠ .blocked/\g'.status≠ .waiting)\/s'.ms<=s.ms:=u.imp (fun z=>⟨z,by rw[f];simp,by rw[f];simp⟩) And.left
 refine ⟨by simpa using h.size,h.base,f,p,⟨g',Array.getElem?_setIfInBounds_self_of_lt (by simpa using D),by cases g';simp_all,.inl f⟩,fun a y G hb j=>?_,fun i hi=>?_,fun i hi=>?_,fun a H=>?_,?_,v,x,hinv,A,fun i hi hg=>?_,fun l hl=>by rw[upd_same];exact C l hl,h.low,fun i hi b hb=>?_,Nat.le_trans h.jl B,h.ne⟩
 ·obtain ⟨z,d,rfl⟩:=other a (by omega) y j
  obtain ⟨q,I,o⟩:=h.old a z G hb d
  exact ⟨q,I,by rw[woken_quitsD o,m a (by omega)];exact o⟩
 ·have hb:=h.base
  obtain ⟨z,d,hW⟩:=h.wk i hi
  refine ⟨woken c.P g g' w' z,by rw[Array.getElem?_setIfInBounds_ne (by omega),Array.getElem?_map,d];rfl,?_⟩
  rw[upd_ne _ _ (by omega)]
  exact hW.woken hinv.Cn F
 ·have hb:=h.base
  rw[m _ (by omega)];exact h.deaf i hi
 ·have:gs.size<=a:=by simpa using H
  rw[m a (by omega)]
  exact h.above a this
 ·rw[Deaf_own,h.deaf0];exact hd
 ·obtain ⟨r,J⟩:=h.rel i hi hg
  have hb:=h.base
  exact ⟨r,J.other (by omega) hu⟩
 ·rw[upd_ne _ _ (by omega)] at hb;exact h.jk i hi b hb
theorem dD.le (h:dD c B0 bB p0 d0 k g Fr gs w t ρ φ s){F:aa}(hle:Le F (Fr 0)):dD c B0 bB p0 d0 k g (upd Fr 0 F) gs w t ρ φ s:=by
 have ht:ei c bB k (upd Fr 0 F) w.heap.size t:=by
  have:=ei.app (u:=#[]) h.base ⟨h.ne.2.1,h.ne.2.2⟩ h.parts h.gF (p:=0) (Nat.zero_le _) (cV:=upd Fr 0 F) (Nat.le_refl _) (by simp) (by simp) (by simp) (by simp) (fun q d=>upd_ne _ _ d) (fun l hl=>?_) (fun l hl=>?_)
  ·simpa using this
  ·rw[upd_same] at hl;refine .inl ?_;cases l with
   |cell a=>exact hle.own _ hl
   |obj r=>exact hle.own _ hl
   |_=>exact hl.elim
  ·rw[upd_same] at hl;obtain ⟨a,rfl,e⟩:=hl;rcases hle.ro a e with z|z
   ·exact .inl ⟨a,rfl,z⟩
   ·exact .inr (.inl z)
 refine ⟨h.size,h.base,h.run,h.off,h.g0,h.old,fun i hi=>?_,h.deaf,h.above,h.deaf0,h.parts.act (Nat.zero_le _) (.refl _ _) hle,h.sh,h.inv,ht,h.rel,fun l hl hf=>?_,h.low,fun i hi b hb=>?_,h.jl,h.ne⟩
 ·rw[upd_ne _ _ (by omega)];exact h.wk i hi
 ·rw[upd_same] at hf;exact h.apart l hl (hle.gq hf)
 ·rw[upd_ne _ _ (by omega)] at hb;exact h.jk i hi b hb
theorem dx.oP {F F':aa}{w w':World}(h:dP F F' w w')(d:B0<=w.heap.size):dx c B0 F F' w w':=
 ⟨by rw[h.os];exact .refl _,h.tape,h.output,h.size,fun b hb e _=>h.frame b (Nat.lt_of_lt_of_le hb d) e,fun a f=>(h.ro a f).imp id fun x=>x.imp id fun y=>.inl (Nat.le_trans d y),fun b hb=>(h.own b hb).imp id fun y=>.inl (Nat.le_trans d y)⟩
theorem dx.Cq {F:aa}{w w':World}(h:gZ c w w'):dx c B0 F F w w':=
 ⟨h.os,h.tape,h.output,by rw[h.size];exact Nat.le_refl _,fun b _ _ hs=>h.block b hs,fun _ h=>.inl h,fun _ h=>.inl h⟩
theorem ej.mono {F F':aa}(hle:Le F F')(h:ej c B0 Φ k p0 d0 g F):ej c B0 Φ k p0 d0 g F':=by
 refine ⟨h.1,h.2.1,fun bB gs w sl t Fr ρ φ s a hA b d=>?_⟩;obtain ⟨N,bW,w',e,f,i,g',j,l,m,n,o,p,q⟩:=h.2.2 bB gs w sl t (upd Fr 0 F) ρ φ s (upd_same _ _ _) (hA.le (by rw[a];exact hle)) b d;exact ⟨N,bW,w',e,f,i,g',j,l,m,n,o.le hle,p,q⟩
theorem ej.closed (c:Cy)(B0:Nat)(Φ:Goroutine->aa->Prop)(k:Nat)(p0:P0)(d0:Nat)(B:p0≠ .reg):Closed c.P true (ej c B0 Φ k p0 d0) where
 mono hle h:=h.mono hle
 step {fr cs F} h:=by
  refine ⟨rfl,rfl,fun bB gs w sl t Fr ρ φ s v hA J K=>?_⟩
  obtain ⟨N,C,w1,a2,y,t1,a3,a4,D,s1,L,⟨d,M⟩,f,E,H,I,_⟩:=hA.pick (fun e=>absurd e B) sl (fun e=>absurd e B)
  have m:Has F (w1.at d):=by have:=f.parts.has 0 (Nat.zero_le _);rw[H,v] at this;exact this.at d
  obtain ⟨g',w',es,F',hgo,hu,O,o,hJ⟩:=h (w1.at d) m
  have u:=f.at d
  have Q:=runT_crowd_go (P:=c.P) (gs:=C) (w:=w1.at d) (sl:=y) (i:=0) E (show stepG c.P (0==0) (G fr cs) (w1.at d)=_ from hgo)
  have j:D 0=F:=H.trans v
  have R:∀b,b<w1.heap.size->b∉keys (D 0).own->w'.heap[b]?=w1.heap[b]?:=by rw[j];exact hu.frame
  have S:=u.zero (g':=g') (w':=w') (es:=es) (fn:=fr.fn) (pos:=fr.place) (s':=s1) (gm:=p0) (eZ:=d0) (F':=F') E hJ.1 hJ.2.1 (.inr ⟨Int.le_refl _,Int.le_refl _⟩)
   (deafBehind_still (fun e he=>(lB (c:=c) m hu.size (o e he) 0).2.2.2) _) (u.parts.walk (Nat.zero_le _) (by rw[j];exact hu) O)
   (u.sh.keep fun b hb=>R b (f.parts.gk b hb) (fun hm=>f.parts.gE 0 (Nat.zero_le _) b hm hb)) u.inv
   (ei.app f.base ⟨f.ne.2.1,f.ne.2.2⟩ f.parts f.gF (p:=0) (Nat.zero_le _) hu.size (fun op g=>by obtain ⟨e,_,rfl⟩:=Go.Conc.mem_ofEvents g;rfl)
    (fun op g z T=>by obtain ⟨e,he,rfl⟩:=Go.Conc.mem_ofEvents g;rw[j];exact (lB (c:=c) m hu.size (o e he) 0).1 z T)
    (fun op g=>by obtain ⟨e,he,rfl⟩:=Go.Conc.mem_ofEvents g;exact (lB (c:=c) m hu.size (o e he) 0).2.1)
    (fun op g=>by obtain ⟨e,he,rfl⟩:=Go.Conc.mem_ofEvents g;exact (lB (c:=c) m hu.size (o e he) 0).2.2.1) (fun q U=>upd_ne _ _ U)
    (fun l hl=>by
     rw[upd_same] at hl
     rw[j]
     cases l with
     |cell a=>exact hu.own _ hl
     |obj r=>exact hu.own _ hl
     |_=>exact hl.elim)
    (fun l hl=>by
     rw[upd_same] at hl
     rw[j]
     obtain ⟨a,rfl,V⟩:=hl
     rcases hu.ro a V with z|z|z
     ·exact .inl ⟨a,rfl,z⟩
     ·exact .inr (.inl z)
     ·exact .inr (.inr z)))
   hu.size (fun l hl hf=>by
    have n:=f.apart l hl
    have A:=Loc.low_mono f.jl (f.low l hl)
    rw[j] at n
    cases l with
    |cell a=>
     rcases hf with hf|hf
     ·rcases hu.own _ hf with x|x
      ·exact n (.inl x)
      ·exact absurd A (Nat.not_lt.2 x)
     ·rcases hu.ro _ hf with x|x|x
      ·exact n (.inr x)
      ·exact n (.inl x)
      ·exact absurd A (Nat.not_lt.2 x)
    |obj r=>
     rcases hu.own _ hf with x|x
     ·exact n x
     ·exact absurd A (Nat.not_lt.2 x)
    |_=>exact hf)
  obtain ⟨W,X,w2,Y,t2,Z,ab,ad,ae,k1,al,ao,ar,a0⟩:=hJ.2.2 bB _ w' y _ _ _ _ _ (upd_same _ _ _) S J K
  refine ⟨N+1+W,X,w2,Y,t2,Z,ab,ad,ae,?_,al,?_,ar,a0⟩
  ·have:runNT c.P (N+1) (crowd gs w sl) t=(.next (crowd ((C.map (woken c.P (G fr cs) g' w')).setIfInBounds 0 g') w' y),t1++MemOp.ofEvents 0 fr.fn fr.place es):=by
    rw[runNT_add,L]
    simp only[runNT,M,Q]
    rfl
   rw[jv this]
   exact k1
  ·rw[v] at I
   exact (I.trans (dx.at_ _ _ _)).trans ((dx.oP (w:=w1.at d) hu f.jl).trans ao)
end
section
variable {c : Cy} {B0 : Nat} {bB : Loc → Prop} {p0 : P0} {d0 k : Nat} {g : Goroutine} {F : aa} {Fr : Nat → aa} {gs : Array Goroutine} {w : World} {t u : Trace} {ρ : Nat → Rk} {φ : Nat → Ph} {s : Sh} {Φ : Goroutine → aa → Prop}
theorem ej.act (E:g.status= .running)(G:g.offers=none)(v:p0= .reg->k=c.n/\∀w s,cv c w s->s.ws=0->stepG c.P true g w= .go {g with status:=.blocked} w #[])
  (h:∀(w:World) (s:Sh) (φ:Nat->Ph),Has F w->cv c w s->Inv c.n c.bs k φ p0 s->(p0= .reg->s.ws≠0)->∃(g':Goroutine) (w':World) (es:Array Event) (s':Sh) (gm:P0) (eZ:Nat),
   stepG c.P true g w= .go g' w' es/\cv c w' s'/\gZ c w w'/\Inv c.n c.bs k φ gm s'/\Ev0 c d0 eZ es/\(mayWake c.P g=true\/(s'.ms<=s.ms/\s'.ws<=s.ws))/\ej c B0 Φ k gm eZ g' F):ej c B0 Φ k p0 d0 g F:=by
 refine ⟨E,G,fun bB gs w sl t Fr ρ φ s x hA H I=>?_⟩
 obtain ⟨N,y,w1,a3,j,t1,a4,J,m,s1,K,⟨d,L⟩,a,A,M,B,O⟩:=hA.pick (fun e=>(v e).1) sl (fun e=>(v e).2)
 have C:m 0=F:=M.trans x
 have Q:Has F (w1.at d):=by have:=a.parts.has 0 (Nat.zero_le _);rw[C] at this;exact this.at d
 have f:=a.at d
 obtain ⟨g',w',es,s',gm,eZ,hgo,R,o,hinv,D,S,hJ⟩:=h (w1.at d) s1 J Q f.sh f.inv O
 have T:=runT_crowd_go (P:=c.P) (gs:=y) (w:=w1.at d) (sl:=j) (i:=0) A (show stepG c.P (0==0) g (w1.at d)=_ from hgo)
 have r:=Cp D (m 0) w1.heap.size (a.parts.gk _ (.inr (.inl rfl)))
 have u:w'.heap.size=w1.heap.size:=o.size
 have U:=f.zero (g':=g') (w':=w') (es:=es) (fn:=g.frame.fn) (pos:=g.frame.place) (s':=s') (gm:=gm) (eZ:=eZ) (F':=m 0) A hJ.1 hJ.2.1 S D.deaf (f.parts.act (Nat.zero_le _) o (.refl _)) R hinv
  (ei.app a.base ⟨a.ne.2.1,a.ne.2.2⟩ a.parts a.gF (p:=0) (Nat.zero_le _) (by rw[u];exact Nat.le_refl _) (fun op b=>by obtain ⟨e,_,rfl⟩:=Go.Conc.mem_ofEvents b;rfl)
   (fun op b z V=>by obtain ⟨e,he,rfl⟩:=Go.Conc.mem_ofEvents b;exact (r e he).1 z V)
   (fun op b=>by obtain ⟨e,he,rfl⟩:=Go.Conc.mem_ofEvents b;rw[u];exact (r e he).2.1)
   (fun op b=>by obtain ⟨e,he,rfl⟩:=Go.Conc.mem_ofEvents b;exact (r e he).2.2) (fun q W=>upd_ne _ _ W)
   (fun l hl=>by rw[upd_same] at hl;exact .inl hl) (fun l hl=>by rw[upd_same] at hl;exact .inl hl))
  (by rw[u];exact Nat.le_refl _) (fun l hl=>a.apart l hl)
 obtain ⟨X,Y,w2,Z,t2,ab,ad,ae,al,k1,ao,ar,a0,a2⟩:=hJ.2.2 bB _ w' j _ _ _ _ _ (by rw[upd_same];exact C) U H I
 refine ⟨N+1+X,Y,w2,Z,t2,ab,ad,ae,al,?_,ao,?_,a0,a2⟩
 ·have:runNT c.P (N+1) (crowd gs w sl) t=(.next (crowd ((y.map (woken c.P g g' w')).setIfInBounds 0 g') w' j),t1++MemOp.ofEvents 0 g.frame.fn g.frame.place es):=by
   rw[runNT_add,K]
   simp only[runNT,L,T]
  rw[jv this]
  exact k1
 ·rw[x] at B
  exact (B.trans (dx.at_ _ _ _)).trans ((dx.Cq o).trans ar)
theorem ej.xS (D:g.status= .running)(E:g.offers=none)(G:p0= .reg->k=c.n)
  (h:∀(w:World) (s:Sh) (φ:Nat->Ph),Has F w->cv c w s->Inv c.n c.bs k φ p0 s->∃(g':Goroutine) (w':World) (es:Array Event) (s':Sh) (gm:P0) (eZ:Nat),
   stepG c.P true g w= .go g' w' es/\cv c w' s'/\gZ c w w'/\Inv c.n c.bs k φ gm s'/\Ev0 c d0 eZ es/\(mayWake c.P g=true\/(s'.ms<=s.ms/\s'.ws<=s.ws))/\ej c B0 Φ k gm eZ g' F):ej c B0 Φ k p0 d0 g F:=by
 refine ⟨D,E,fun bB gs w sl t Fr ρ φ s v hA H I=>?_⟩
 obtain ⟨N,x,w1,a2,j,t1,a3,J,m,s1,K,⟨d,L⟩,a,y,M,A⟩:=hA.qG G sl
 have B:m 0=F:=M.trans v
 have O:Has F (w1.at d):=by have:=a.parts.has 0 (Nat.zero_le _);rw[B] at this;exact this.at d
 have f:=a.at d
 obtain ⟨g',w',es,s',gm,eZ,hgo,Q,o,hinv,C,R,hJ⟩:=h (w1.at d) s1 J O f.sh f.inv
 have S:=runT_crowd_go (P:=c.P) (gs:=x) (w:=w1.at d) (sl:=j) (i:=0) y (show stepG c.P (0==0) g (w1.at d)=_ from hgo)
 have r:=Cp C (m 0) w1.heap.size (a.parts.gk _ (.inr (.inl rfl)))
 have u:w'.heap.size=w1.heap.size:=o.size
 have T:=f.zero (g':=g') (w':=w') (es:=es) (fn:=g.frame.fn) (pos:=g.frame.place) (s':=s') (gm:=gm) (eZ:=eZ) (F':=m 0) y hJ.1 hJ.2.1 R C.deaf (f.parts.act (Nat.zero_le _) o (.refl _)) Q hinv
  (ei.app a.base ⟨a.ne.2.1,a.ne.2.2⟩ a.parts a.gF (p:=0) (Nat.zero_le _) (by rw[u];exact Nat.le_refl _) (fun op b=>by obtain ⟨e,_,rfl⟩:=Go.Conc.mem_ofEvents b;rfl)
   (fun op b z U=>by obtain ⟨e,he,rfl⟩:=Go.Conc.mem_ofEvents b;exact (r e he).1 z U)
   (fun op b=>by obtain ⟨e,he,rfl⟩:=Go.Conc.mem_ofEvents b;rw[u];exact (r e he).2.1)
   (fun op b=>by obtain ⟨e,he,rfl⟩:=Go.Conc.mem_ofEvents b;exact (r e he).2.2) (fun q V=>upd_ne _ _ V)
   (fun l hl=>by rw[upd_same] at hl;exact .inl hl) (fun l hl=>by rw[upd_same] at hl;exact .inl hl))
  (by rw[u];exact Nat.le_refl _) (fun l hl=>a.apart l hl)
 obtain ⟨W,X,w2,Y,t2,Z,ab,ad,ae,k1,al,ao,ar,a0⟩:=hJ.2.2 bB _ w' j _ _ _ _ _ (by rw[upd_same];exact B) T H I
 refine ⟨N+1+W,X,w2,Y,t2,Z,ab,ad,ae,?_,al,?_,ar,a0⟩
 ·have:runNT c.P (N+1) (crowd gs w sl) t=(.next (crowd ((x.map (woken c.P g g' w')).setIfInBounds 0 g') w' j),t1++MemOp.ofEvents 0 g.frame.fn g.frame.place es):=by
   rw[runNT_add,K]
   simp only[runNT,L,S]
  rw[jv this]
  exact k1
 ·rw[v] at A
  exact (A.trans (dx.at_ _ _ _)).trans ((dx.Cq o).trans ao)
theorem ej.spawn (D:g.status= .running)(a8:g.offers=none)(R:k<c.n)
  (h:∀w,Has F w->∃g' child,stepG c.P true g w= .spawn g' child w #[]/\Wk c k {mp:=.idle,gp:=.cnt,stored:=false,deaf:=0} child ⟨F.ro,[]⟩/\child.status= .running/\child.offers=none/\ej c B0 Φ (k+1) (.opn 0) 0 g' F):
  ej c B0 Φ k (.opn 1) 0 g F:=by
 refine ⟨D,a8,fun bB gs w sl t Fr ρ φ s ar hA a9 ba=>?_⟩
 obtain ⟨N,H,w1,dq,ae,t1,bb,V,X,s1,bc,⟨d,bd⟩,f,a0,bj,a2,_⟩:=hA.pick (fun e=>by cases e) sl (fun e=>by cases e)
 have al:X 0=F:=bj.trans ar
 have a3:Has F (w1.at d):=by have:=f.parts.has 0 (Nat.zero_le _);rw[al] at this;exact this.at d
 have T:=f.at d
 obtain ⟨g',child,hgo,⟨O,r,hle,hW⟩,ds,dt,hJ⟩:=h (w1.at d) a3
 have bk:=runT_crowd_spawn (P:=c.P) (gs:=H) (w:=w1.at d) (sl:=ae) (i:=0) a0 (show stepG c.P (0==0) g (w1.at d)=_ from hgo)
 have a4:=f.size
 have bl:0<H.size:=(Array.getElem?_eq_some_iff.1 a0).1
 let J:Ph:={mp:=.idle,gp:=.cnt,stored:=false,deaf:=0}
 have K:keys O.own=[]:=by
  cases bm:keys O.own with
  |nil=>rfl
  |cons b l=>exact absurd (hle.own b (by rw[bm];simp)) (by simp[keys])
 have Y:∀a,(O.ro a).isSome=true->((X 0).ro a).isSome=true:=fun a p=>by
  rw[al]
  rcases hle.ro a p with x|x
  ·exact x
  ·simp[keys] at x
 have bo:Has O (w1.at d):=hle.has _ ⟨a3.ro,fun b o hb=>(by cases hb),List.nodup_nil,fun a v D hm=>(by cases hm)⟩
 have I:=T.inv.i
 have a5:(V k).gp= .new:=by
  have:=(I.born k R)
  rcases Classical.em ((V k).gp= .new) with x|x
  ·exact x
  ·exact absurd (this.2 x) (Nat.lt_irrefl _)
 obtain ⟨br,bz,du⟩:=I.new k R a5
 let Q:Nat->aa:=upd X (k+1) O
 have e1:∀q,q<=k->Q q=X q:=fun q A=>upd_ne _ _ (by omega)
 have e2:Q (k+1)=O:=upd_same _ _ _
 have bS:dB c (k+1) Q (w1.at d):=by
  have G:=T.parts
  have cs:∀q,q<=k+1->q<=k\/q=k+1:=fun q A=>by omega
  refine ⟨fun q A=>?_,fun q r A D aG b hb B=>?_,fun q r A D aG a p hb=>?_,fun q A b hb=>?_,fun q A a p=>?_,G.gk⟩
  ·rcases cs q A with x|rfl
   ·rw[e1 q x];exact G.has q x
   ·rw[e2];exact bo
  ·rcases cs q A with x|rfl
   ·rcases cs r D with y|rfl
    ·rw[e1 q x] at hb;rw[e1 r y] at B;exact G.own q r x y aG b hb B
    ·rw[e2,K] at B;cases B
   ·rw[e2,K] at hb;cases hb
  ·rcases cs r D with y|rfl
   ·rw[e1 r y] at hb
    rcases cs q A with x|rfl
    ·rw[e1 q x] at p;exact G.ro q r x y aG a p hb
    ·rw[e2] at p
     rcases Nat.eq_zero_or_pos r with rfl|dv
     ·obtain ⟨v,b0⟩:=Option.isSome_iff_exists.1 (Y a p)
      exact (G.has 0 (Nat.zero_le _)).apart a v b0 hb
     ·exact G.ro 0 r (Nat.zero_le _) y (by omega) a (Y a p) hb
   ·rw[e2,K] at hb;cases hb
  ·rcases cs q A with x|rfl
   ·rw[e1 q x] at hb;exact G.gE q x b hb
   ·rw[e2,K] at hb;cases hb
  ·rcases cs q A with x|rfl
   ·rw[e1 q x] at p;exact G.jj q x a p
   ·rw[e2] at p;exact G.jj 0 (Nat.zero_le _) a (Y a p)
 have hinv:Inv c.n c.bs (k+1) (upd V k J) (.opn 0) s1:=by
  obtain ⟨C,S,W,L,m,hm⟩:=T.inv.m
  refine ⟨⟨C,S,W,L,m,mR hm R J (.inl bz.symm)⟩,IA T.inv.w R J a5 rfl,I.len,R,fun j E=>?_,fun j E=>?_,fun j E Z=>?_,fun j E ab a6=>?_⟩<;>by_cases e:j=k
  ·subst e;rw[upd_same,I.all j E,br]
  ·rw[upd_ne _ _ e];exact I.all j E
  ·subst e;rw[upd_same];exact ⟨fun _=>by simp[J],fun _=>by omega⟩
  ·rw[upd_ne _ _ e,<-I.born j E];omega
  ·subst e;rw[upd_same] at Z;simp[J] at Z
  ·rw[upd_ne _ _ e] at Z ⊢;exact I.new j E Z
  ·subst e;rw[upd_same] at ab;simp[J] at ab
  ·rw[upd_ne _ _ e] at ab a6 ⊢;exact I.done j E ab a6
 let u:Array MemOp:=#[{g:=0,fn:=g.frame.fn,pos:=g.frame.place,act:=.go H.size},{g:=H.size,fn:=child.frame.fn,pos:=g.frame.place,act:=.start}]
 have b1:((MemOp.ofEvents 0 g.frame.fn g.frame.place #[]).push {g:=0,fn:=g.frame.fn,pos:=g.frame.place,act:=.go H.size}|>.push {g:=H.size,fn:=child.frame.fn,pos:=g.frame.place,act:=.start})=u:=by simp[MemOp.ofEvents,u]
 have b2:ei c bB (k+1) Q w1.heap.size (t1++u):=f.gF.fork f.base f.parts ⟨rfl,by rw[a4]⟩ ⟨by rw[a4],rfl⟩ f.deaf0 (f.above _ (by omega)) e1 (fun l hl=>by
  rw[e2] at hl
  cases l with
  |cell a=>simp only[eV,K] at hl;cases hl
  |obj r=>simp only[eV,K] at hl;cases hl
  |_=>exact hl) (fun l hl=>by
  rw[e2] at hl
  obtain ⟨a,rfl,p⟩:=hl
  exact ⟨a,rfl,Y a p⟩)
 have U:∀j,Deaf (t1++u) j=Deaf t1 j:=fun j=>by
  have:=Deaf_append t1 j u.toList
  simp only[Array.toArray_toList] at this
  rw[this]
  rfl
 have b3:∀j r,fV c t1 j r->fV c (t1++u) j r:=fun j r D=>D.app fun idx x hi hg hx=>by
  obtain ⟨z,b4,b5⟩:=touch_of hx
  rcases getElem?_append_cases b4 with ⟨dC,_⟩|⟨_,a7⟩
  ·omega
  ·simp only[u,List.mem_toArray,List.mem_cons,List.not_mem_nil,or_false] at a7
   rcases a7 with rfl|rfl<;>cases b5
 have ca:dD c B0 bB (.opn 0) 0 (k+1) g' Q ((H.setIfInBounds 0 g').push child) (w1.at d) (t1++u) (lC bb (c.base+k) r) (upd V k J) s1:=by
  have hb:=f.base
  refine ⟨by simp;omega,hb,hJ.1,hJ.2.1,⟨g',by rw[Array.getElem?_push,if_neg (by simp;omega)];exact Array.getElem?_setIfInBounds_self_of_lt bl,by have:=hJ.1;cases g';simp_all,.inl hJ.1⟩,fun j y cb B ad=>?_,fun i hi=>?_,fun i hi=>?_,fun j E=>?_,?_,bS,T.sh,hinv,b2,fun i hi hg=>?_,fun l hl=>by rw[e1 0 (Nat.zero_le _)];exact f.apart l hl,f.low,fun i hi b B=>?_,f.jl,f.ne⟩
  ·rw[Array.getElem?_push,if_neg (by simp;omega),Array.getElem?_setIfInBounds_ne (by omega)] at ad
   obtain ⟨q,A,cd⟩:=f.old j y cb B ad
   exact ⟨q,by rw[mS _ _ (by omega)];exact A,by rw[U];exact cd⟩
  ·rcases Nat.lt_or_ge i k with M|ao
   ·obtain ⟨y,ad,cf⟩:=f.wk i M
    refine ⟨y,by rw[Array.getElem?_push,if_neg (by simp;omega),Array.getElem?_setIfInBounds_ne (by omega)];exact ad,?_⟩
    rw[mS _ _ (by omega),upd_ne _ _ (by omega),e1 (i+1) (by omega)]
    exact cf
   ·obtain rfl:i=k:=by omega
    refine ⟨child,by rw[Array.getElem?_push,if_pos (by simp;omega)],?_⟩
    rw[oz,upd_same,e2]
    exact (hW.xR s1).1
  ·rcases Nat.lt_or_ge i k with M|ao
   ·rw[U,upd_ne _ _ (by omega)];exact f.deaf i M
   ·obtain rfl:i=k:=by omega
    rw[U,upd_same];exact f.above _ (by omega)
  ·rw[U];exact f.above j (by simp at E;omega)
  ·rw[U];exact f.deaf0
  ·rcases Nat.lt_or_ge i k with M|ao
   ·rw[upd_ne _ _ (by omega)] at hg
    obtain ⟨r,D⟩:=f.rel i M hg
    exact ⟨r,b3 _ _ D⟩
   ·obtain rfl:i=k:=by omega
    rw[upd_same] at hg
    exact absurd rfl hg
  ·rcases Nat.lt_or_ge i k with M|ao
   ·rw[e1 (i+1) (by omega)] at B;exact f.jk i M b B
   ·obtain rfl:i=k:=by omega
    rw[e2,K] at B;cases B
 obtain ⟨cl,cu,w2,cy,t2,cS,c0,da,db,k1,dd,df,dk,dp⟩:=hJ.2.2 bB _ (w1.at d) ae _ Q _ _ _ (by rw[e1 0 (Nat.zero_le _)];exact al) ca a9 ba
 refine ⟨N+1+cl,cu,w2,cy,t2,cS,c0,da,db,?_,dd,?_,dk,dp⟩
 ·have:runNT c.P (N+1) (crowd gs w sl) t=(.next (crowd ((H.setIfInBounds 0 g').push child) (w1.at d) ae),t1++u):=by
   rw[runNT_add,bc]
   simp only[runNT,bd,bk,b1]
  rw[jv this]
  exact k1
 ·rw[ar] at a2
  exact (a2.trans (dx.at_ _ _ _)).trans df
def Cy.fin (c:Cy):Obj:=.cells ((List.range c.n).map fun i=>Value.bool (c.bs i)).toArray c.tI
theorem ej.join (E:g.status= .running)(S:g.offers=none)
  (h:∀w,Has F w->∃g',stepG c.P true g w= .go g' w #[cF (.acquire (stA c.Wg))]/\g'.status= .running/\Φ g' ⟨F.ro,(c.Is,c.fin)::F.own⟩):ej c B0 Φ c.n .eM 0 g F:=by
 refine ⟨E,S,fun bB gs w sl t Fr ρ φ s J hA T U=>?_⟩
 obtain ⟨N,k,w1,ba,K,t1,bb,V,W,s1,X,⟨d,Y⟩,f,L,Z,M,_⟩:=hA.pick (fun e=>by cases e) sl (fun e=>by cases e)
 have p:W 0=F:=Z.trans J
 have ab:Has F w1:=by have:=f.parts.has 0 (Nat.zero_le _);rw[p] at this;exact this
 have A:Has F (w1.at d):=ab.at d
 obtain ⟨g',hgo,bc,ad⟩:=h (w1.at d) A
 have ae:=runT_crowd_go (P:=c.P) (gs:=k) (w:=w1.at d) (sl:=K) (i:=0) L (show stepG c.P (0==0) g (w1.at d)=_ from hgo)
 have al:0<k.size:=(Array.getElem?_eq_some_iff.1 L).1
 obtain ⟨_,ao,ar,a0⟩:=Ce f.inv.w
 have G:∀i,i<c.n->(V i).gp= .gone:=fun i hi=>(IG ao ar a0 hi).resolve_right fun e=>((f.inv.i.born i hi).1 hi) e
 have a2:∀i,i<c.n->∃r,fV c t1 (c.base+i) r:=fun i hi=>f.rel i hi (by rw[G i hi];simp)
 have a3:=f.gF.fB a2 (y:={g:=0,fn:=g.frame.fn,pos:=g.frame.place,act:=.mark (.acquire (stA c.Wg))}) ⟨rfl,rfl⟩ f.deaf0 (f.parts.gk _ (.inr (.inl rfl)))
 have a4:MemOp.ofEvents 0 g.frame.fn g.frame.place #[cF (.acquire (stA c.Wg))]=#[{g:=0,fn:=g.frame.fn,pos:=g.frame.place,act:=.mark (.acquire (stA c.Wg))}]:=by rw[Go.Conc.ofEvents_eq];simp[cF,MemAct.ofEvent]
 have a5:s1.is=(List.range c.n).map c.bs:=by
  refine List.ext_getElem? fun i=>?_
  by_cases hi:i<c.n
  ·rw[f.inv.i.all i hi,(f.inv.i.done i hi (by rw[G i hi];simp) (by rw[G i hi];simp)).1]
   simp[hi]
  ·have B:s1.is.length=c.n:=f.inv.i.len
   rw[List.getElem?_eq_none (by omega),List.getElem?_eq_none (by simp;omega)]
 have a6:w1.heap[c.Is]?=some c.fin:=by
  have:=f.sh.2.2
  rw[a5,List.map_map] at this
  exact this
 have O:∀j,∃q,∀x,0<j->k[j]?=some x->QuitsD c.P q (Deaf t1 j) x:=fun j=>by
  by_cases H:∃x,0<j/\k[j]?=some x
  ·obtain ⟨x,C,hx⟩:=H
   rcases Nat.lt_or_ge j c.base with Q|Q
   ·obtain ⟨q,_,u⟩:=f.old j x C Q hx
    exact ⟨q,fun y _ m=>by rw[hx] at m;cases m;exact u⟩
   ·have hl:j<k.size:=(Array.getElem?_eq_some_iff.1 hx).1
    have bd:=f.size
    obtain ⟨i,rfl⟩:∃i,j=c.base+i:=⟨j - c.base,by omega⟩
    obtain ⟨y,m,hW⟩:=f.wk i (by omega)
    rcases hW with ⟨_,q,_,u⟩|⟨a7,_⟩
    ·exact ⟨q,fun z _ I=>by rw[m] at I;cases I;rw[f.deaf i (by omega)];exact u⟩
    ·exact absurd (G i (by omega)) a7
  ·exact ⟨0,fun x C hx=>absurd ⟨x,C,hx⟩ H⟩
 let q:Nat->Nat:=fun j=>Classical.choose (O j)
 have a8:∀j x,0<j->k[j]?=some x->QuitsD c.P (q j) (Deaf t1 j) x:=fun j=>Classical.choose_spec (O j)
 have R:∀j,j≠0->Deaf (t1++#[({g:=0,fn:=g.frame.fn,pos:=g.frame.place,act:=.mark (.acquire (stA c.Wg))}:MemOp)]) j=Deaf t1 j:=fun j aG=>Deaf_other t1 (g':=0) (Ne.symm aG) _ (by simp)
 refine ⟨N+1,(k.map (woken c.P g g' (w1.at d))).setIfInBounds 0 g',w1.at d,K,t1++#[{g:=0,fn:=g.frame.fn,pos:=g.frame.place,act:=.mark (.acquire (stA c.Wg))}],q,g',⟨F.ro,(c.Is,c.fin)::F.own⟩,_,?_,⟨?_,⟨fun j y C m=>?_,fun j H=>?_⟩,a3,?_,fun l hl hf=>?_,fun l hl=>?_⟩,?_,fun l hl=>hl,ad⟩
 ·rw[runNT_add,X]
  simp only[runNT,Y,ae,a4]
 ·exact Array.getElem?_setIfInBounds_self_of_lt (by simpa using al)
 ·rw[Array.getElem?_setIfInBounds_ne (by omega),Array.getElem?_map] at m
  obtain ⟨z,I,rfl⟩:=Option.map_eq_some_iff.1 m
  have u:=a8 j z C I
  rw[woken_quitsD u,R j (by omega)];exact u
 ·have:k.size<=j:=by simpa using H
  rw[R j (by omega)]
  exact f.above j this
 ·have a9:c.Is∉keys F.own:=fun hm=>f.parts.gE 0 (Nat.zero_le _) _ (by rw[p];exact hm) (.inr (.inr rfl))
  refine ⟨A.ro,fun b o hb=>?_,?_,fun a v E hm=>?_⟩
  ·rcases List.mem_cons.1 hb with x|x
   ·cases x;exact a6
   ·exact A.own b o x
  ·exact List.nodup_cons.2 ⟨a9,A.nodup⟩
  ·rcases List.mem_cons.1 hm with x|x
   ·exact f.parts.jj 0 (Nat.zero_le _) a (by rw[p,E];rfl) (.inr (.inr x))
   ·exact A.apart a v E x
 ·rcases hl with hl|⟨a,rfl,D⟩
  ·have B:=f.apart l hl
   rw[p] at B
   cases l with
   |cell a=>
    rcases hf with hf|hf
    ·rcases List.mem_cons.1 hf with x|x
     ·exact T a hl (.inr (.inr x))
     ·exact B (.inl x)
    ·exact B (.inr hf)
   |obj r=>
    rcases List.mem_cons.1 hf with x|x
    ·exact U r hl (.inr (.inr x))
    ·exact B x
   |_=>exact hf
  ·rcases hf with hf|hf
   ·rcases List.mem_cons.1 hf with x|x
    ·exact f.ne.2.2 (D▸x)
    ·exact f.parts.gE 0 (Nat.zero_le _) a.block (by rw[p];exact x) (.inr (.inl D))
   ·exact f.parts.jj 0 (Nat.zero_le _) a (by rw[p];exact hf) (.inr (.inl D))
 ·rcases hl with hl|⟨a,rfl,D⟩
  ·exact Loc.low_mono f.jl (f.low l hl)
  ·show a.block<_;rw[D];exact f.parts.gk _ (.inr (.inl rfl))
 ·rw[J] at M
  refine (M.trans (dx.at_ _ _ _)).trans ⟨.refl _,rfl,rfl,Nat.le_refl _,fun _ _ _ _=>rfl,fun _ h=>.inl h,fun b hb=>?_⟩
  rcases List.mem_cons.1 hb with x|x
  ·exact .inr (.inr (.inr (.inr x)))
  ·exact .inl x
end
def iK (P:Program)(Φ:Goroutine->aa->Prop)(g:Goroutine)(F:aa):Prop:=
 g.status= .running/\g.offers=none/\∀(bB:Loc->Prop) (gs:Array Goroutine) (w:World) (sl:Option (Nat×Nat)) (t:Trace) (q:Nat->Nat),ju P bB g F gs w t q->
  ∃(N:Nat) (bW:Array Goroutine) (w':World) (c:Option (Nat×Nat)) (a:Trace) (d:Nat->Nat) (g':Goroutine) (F':aa) (b:Loc->Prop),
   runNT P N (crowd gs w sl) t=(.next (crowd bW w' c),a)/\ju P b g' F' bW w' a d/\e4 F F' w w'/\(∀l,b l->bB l\/¬l.low w.heap.size\/eV F l)/\Φ g' F'
theorem iK.done {P:Program}{Φ:Goroutine->aa->Prop}{g:Goroutine}{F:aa}(a:g.status= .running)(b:g.offers=none)(h:Φ g F):iK P Φ g F:=
 ⟨a,b,fun bB gs w sl t q hA=>⟨0,gs,w,sl,t,q,g,F,bB,rfl,hA,.refl _ _,fun _ h=>.inl h,h⟩⟩
theorem Le.I0 {F F':aa}(h:Le F F'){l:Loc}(hl:eV F l):eV F' l:=by
 cases l with
 |cell a=>exact h.own _ hl
 |obj r=>exact h.own _ hl
 |_=>exact hl
theorem Cr (P:Program)(Φ:Goroutine->aa->Prop):Closed P true (iK P Φ) where
 mono hle h:=by
  refine ⟨h.1,h.2.1,fun bB gs w sl t q hA=>?_⟩
  obtain ⟨N,bW,w',z,A,B,g',F',C,g,D,hu,E,H⟩:=h.2.2 bB gs w sl t q ⟨hA.g0,hA.lv,hA.fB,hle.has w hA.has,fun l hs hf=>hA.apart l hs (hle.gq hf),hA.low⟩
  exact ⟨N,bW,w',z,A,B,g',F',C,g,D,hu.le hle,fun l hl=>(E l hl).imp id fun x=>x.imp id hle.I0,H⟩
 step {fr cs F} h:=by
  refine ⟨rfl,rfl,fun bB gs w sl t q hA=>?_⟩
  obtain ⟨N,k,d,m,ao,n,t1,I,g,ar,p,s,J,K⟩:=qG (P:=P) (a:=G fr cs) rfl _ gs w sl t q (Nat.le_refl _) hA.g0 hA.lv hA.fB
  obtain ⟨g',w',es,F',hgo,hu,L,M,hJ⟩:=h (w.at m) (hA.has.at m)
  have b:dP F F' w w':=⟨hu.os,hu.tape,hu.output,hu.size,hu.frame,hu.ro,hu.own⟩
  have O:=runT_crowd_go (P:=P) (sl:=n) (i:=0) p (show stepG P (0==0) (G fr cs) (w.at m)=_ from hgo)
  have Q:0<k.size:=(Array.getElem?_eq_some_iff.1 p).1
  have u:=ju.next (P:=P) hA.apart hA.low b
  obtain ⟨R,S,w2,T,t2,U,V,W,X,Y,Z,ab,ad,ae⟩:=hJ.2.2 bB ((k.map (woken P (G fr cs) g' w')).setIfInBounds 0 g') w' n (t1++MemOp.ofEvents 0 (G fr cs).frame.fn (G fr cs).frame.place es) I
   {g0:=by simp[Q]
    lv:=⟨fun j x f hx=>by
     have aG:0≠j:=by omega
     rw[Array.getElem?_setIfInBounds_ne aG,Array.getElem?_map] at hx
     obtain ⟨y,al,rfl⟩:=Option.map_eq_some_iff.1 hx
     have v:=s.old j y f al
     rw[woken_quitsD v,Deaf_other t1 (by omega) _ (fun op o=>by obtain ⟨e,_,rfl⟩:=Go.Conc.mem_ofEvents o;rfl)]
     exact v,fun j f=>by
     rw[Deaf_other t1 (g':=0) (by simp at f;omega) _ (fun op o=>by obtain ⟨e,_,rfl⟩:=Go.Conc.mem_ofEvents o;rfl)]
     exact s.above j (by simpa using f)⟩
    fB:=(J.mono b.size).own fun e he=>y4 hA.has b.size hA.apart hA.low (M e he)
    has:=L
    apart:=u.1
    low:=u.2}
  refine ⟨N+1+R,S,w2,T,t2,U,V,W,X,?_,Z,(e4.oP b).trans ab,fun l hl=>?_,ae⟩
  ·have:runNT P (N+1) (crowd gs w sl) t=(.next (crowd ((k.map (woken P (G fr cs) g' w')).setIfInBounds 0 g') w' n),t1++MemOp.ofEvents 0 (G fr cs).frame.fn (G fr cs).frame.place es):=by
    rw[runNT_add,g]
    simp only[runNT,K,O]
   rw[jv this]
   exact Y
  ·rcases ad l hl with x|x|x
   ·exact .inl x
   ·exact .inr (.inl fun c=>x (Loc.low_mono b.size c))
   ·cases l with
    |cell a=>
     rcases b.own _ x with y|y
     ·exact .inr (.inr y)
     ·exact .inr (.inl fun c=>absurd c (Nat.not_lt.2 y))
    |obj r=>
     rcases b.own _ x with y|y
     ·exact .inr (.inr y)
     ·exact .inr (.inl fun c=>absurd c (Nat.not_lt.2 y))
    |_=>exact x.elim
theorem fF.I1 {P:Program}{f:FuncId}{args:Array Value}{ro:Addr->Option Value}{R:Value->aa->Prop}(h:∀Φ,cR P (iK P Φ) f args ⟨ro,[]⟩ R):fF P f args ⟨ro,[]⟩ R:=by
 intro Φ c cs b bB gs w sl t q hA;obtain ⟨N,bW,w',d,e,g,g',F',i,j,k,hu,m,v,rfl,a⟩:=(h (fun g' F'=>∃v,g'=G (c.finish v) cs/\R v F') c cs (fun v F' a=>iK.done rfl rfl ⟨v,rfl,a⟩)).2.2 bB gs w sl t q hA;obtain ⟨n,o,w2,p,t2,r,s,u,z,A,B,C,D,E⟩:=b v F' a i bW w' d e g k;refine ⟨N+n,o,w2,p,t2,r,s,u,z,by rw[jv j];exact A,B,hu.trans C,fun l hl=>?_,E⟩;rcases D l hl with x|x
 ·rcases m l x with y|y|y
  ·exact .inl y
  ·exact .inr y
  ·cases l<;>first|(simp only[eV,keys,List.map_nil] at y;cases y)|exact y.elim
 ·exact .inr fun F=>x (Loc.low_mono hu.size F)
theorem iK.found {P:Program}{Φ:Goroutine->aa->Prop}{g:Goroutine}{F A:aa}{Mu Wg Is:Nat}{tM tW tI:TypeId}{n:Nat}(bs:Nat->Bool)(D:g.status= .running)(L:g.offers=none)
  (hle:Le ⟨A.ro,(Mu,muBlock tM 0 0)::(Wg,wgBlock tW 0 0)::(Is,.cells (List.replicate n (Value.bool false)).toArray tI)::A.own⟩ F)
  (h:∀base B0 T0,0<base->(Mu≠Wg/\Mu≠Is/\Wg≠Is)->ej ⟨P,Mu,Wg,Is,tM,tW,tI,n,bs,base,T0⟩ B0 (iK P Φ) 0 (.opn 0) 0 g A):iK P Φ g F:=by
 refine ⟨D,L,fun bB gs w sl t q hA=>?_⟩
 have m:=hle.has w hA.has
 have M:0<gs.size:=(Array.getElem?_eq_some_iff.1 hA.g0).1
 let c:Cy:=⟨P,Mu,Wg,Is,tM,tW,tI,n,bs,gs.size,t.size⟩
 have O:=m.nodup
 simp only[keys,List.map_cons,List.nodup_cons,List.mem_cons,not_or] at O
 obtain ⟨⟨n1,n2,n3⟩,⟨Q,R⟩,S,T⟩:=O
 have k:∀b,c.shared b->b∈keys F.own:=fun b hb=>by
  rcases hb with rfl|rfl|rfl<;>exact hle.own _ (by simp[keys,c])
 have B:∀b,b∈keys A.own->b∈keys F.own:=fun b hb=>hle.own b (by simp only[keys,List.map_cons,List.mem_cons];exact .inr (.inr (.inr hb)))
 have J:∀a,(A.ro a).isSome=true->(F.ro a).isSome=true\/a.block∈keys F.own:=fun a d=>hle.ro a d
 have U:Has A w:=⟨m.ro,fun b o hb=>m.own b o (List.mem_cons_of_mem _ (List.mem_cons_of_mem _ (List.mem_cons_of_mem _ hb))),T,fun a v D hm=>m.apart a v D (by simp only[keys,List.map_cons,List.mem_cons];exact .inr (.inr (.inr hm)))⟩
 have H:∀l,F.gq l->∀i a,touchAt t i=some a->a.loc=l->l.isMemory=true->Go.Conc.Knows t 0 i:=fun l hl i a d e hm=>by
  rcases hA.fB.known i a d (by rw[e];exact hm) with x|⟨x,_⟩
  ·exact x
  ·exact absurd hl (hA.apart l (e▸x))
 let φ:Nat->Ph:=fun _=>{mp:=.idle,gp:=.new,stored:=false,deaf:=0}
 let s:Sh:=⟨0,0,0,0,List.replicate n false⟩
 have V:dD c w.heap.size bB (.opn 0) 0 0 g (fun _=>A) gs w t (fun j=>Rk.nat (q j)) φ s:=by
  refine ⟨rfl,M,D,L,⟨g,hA.g0,by cases g;simp_all,.inl D⟩,fun j x W _ hx=>⟨q j,rfl,hA.lv.old j x W hx⟩,fun i hi=>by omega,fun i hi=>by omega,hA.lv.above,hA.fB.hears,⟨fun p C=>U,fun p q C X aG=>by omega,fun p q C X aG=>by omega,fun p C b hb hs=>?_,fun p C a d hs=>?_,fun b hb=>hA.has.lt (k b hb)⟩,
   ⟨?_,?_,?_⟩,⟨⟨0,0,0,0,0,⟨⟨rfl,by omega,by omega,by omega⟩,rfl,?_,fun _=>?_,fun e=>by omega,fun i hi o G Y=>by simp[φ,Mp.seen] at Y⟩⟩,⟨?_⟩,⟨by simp[s,c],Nat.zero_le _,fun i hi=>?_,fun i hi=>?_,fun i hi _=>⟨rfl,rfl,rfl⟩,fun i hi _ I=>by simp[φ] at I⟩⟩,
   ⟨Nat.le_refl _,fun i a d hs=>.inr fun p C=>?_,hA.fB.clean,fun p C l hl=>?_,fun p C l hl=>?_,fun i hi=>by omega,fun i hi l hl=>?_,hA.fB.seen,fun i hi e=>?_,fun i a d hm=>?_,fun i g hg Z ab=>.inl (hA.fB.over i g hg Z ab)⟩,
   fun i hi=>by omega,fun l hl hf=>?_,hA.low,fun i hi=>by omega,Nat.le_refl _,⟨n1,n2,Q⟩⟩
  ·rcases hs with e|e|e
   ·exact n3 (by rw[<-show b=Mu from e];exact hb)
   ·exact R (by rw[<-show b=Wg from e];exact hb)
   ·exact S (by rw[<-show b=Is from e];exact hb)
  ·obtain ⟨v,ad⟩:=Option.isSome_iff_exists.1 d
   refine m.apart a v ad ?_
   rcases hs with e|e|e
   ·rw[show a.block=Mu from e];simp[keys]
   ·rw[show a.block=Wg from e];simp[keys]
   ·rw[show a.block=Is from e];simp[keys]
  ·exact m.own Mu (muBlock tM 0 0) (.head _)
  ·exact m.own Wg (wgBlock tW 0 0) (.tail _ (.head _))
  ·have:=m.own Is (.cells (List.replicate n (Value.bool false)).toArray tI) (.tail _ (.tail _ (.head _)))
   rw[show (s.is.map Value.bool)=List.replicate n (Value.bool false) from by simp[s]]
   exact this
  ·exact (xO fun i hi=>rfl).symm
  ·have z:∀f:Mp->Nat,f .idle=0->sm n φ f=0:=fun f hf=>xO fun i hi=>hf
   have a1:=z Mp.nI rfl;have a2:=z Mp.nY rfl;have a3:=z Mp.nA rfl;have a4:=z Mp.nK rfl;have a5:=z Mp.nT rfl;have bz:=z Mp.nQ rfl
   refine ⟨a1,a2,?_,?_,fun e=>absurd e (Nat.lt_irrefl _)⟩
   ·show 0=sm n φ Mp.nA+0+sm n φ Mp.nK+sm n φ Mp.nT;omega
   ·show 0+0+sm n φ Mp.nT=sm n φ Mp.nQ;omega
  ·have z:∀f:Gp->Nat,f .new=0->sg n φ f=0:=fun f hf=>s7 fun i hi=>hf
   refine ⟨by omega,?_,rfl,z _ rfl,z _ rfl⟩
   show (0:Int)=((sg n φ Gp.nV+0:Nat):Int)*cU
   rw[z _ rfl];rfl
  ·simp[s,φ,show i<n from hi]
  ·exact ⟨fun e=>by omega,fun e=>by simp[φ] at e⟩
  ·obtain rfl:p=0:=by omega
   obtain ⟨b,e,hb⟩:=hs
   exact H a.loc (by rw[e];exact .inl (k _ (hb.elim .inl fun x=>.inr (.inl x)))) i a d rfl (by rw[e];rfl)
  ·obtain rfl:p=0:=by omega
   intro i a d e
   refine H l ?_ i a d e ?_
   ·cases l with
    |cell a=>exact .inl (B _ hl)
    |obj r=>exact B _ hl
    |_=>exact hl.elim
   ·cases l<;>first|rfl|exact hl.elim
  ·obtain rfl:p=0:=by omega
   obtain ⟨b,rfl,hb⟩:=hl
   exact fun i a d e _=>H (.cell b) ((J b hb).elim (fun x=>Or.inr x) (fun x=>Or.inl x)) i a d e rfl
  ·intro j a d e
   rw[show l=_ from hl] at e
   exact H (.cell ⟨Is,i,none⟩) (Or.inl (k Is (.inr (.inr rfl)))) j a d e rfl
  ·exact absurd (lt_of_act? e) (Nat.not_lt.2 hi)
  ·rcases hA.fB.known i a d hm with x|x
   ·exact .inl x
   ·exact .inr (.inl x)
  ·refine hA.apart l hl ?_
   cases l with
   |cell a=>exact hf.elim (fun x=>.inl (B _ x)) fun x=>(J a x).elim .inr .inl
   |obj r=>exact B _ hf
   |_=>exact hf
 obtain ⟨N,bW,w',ae,al,ao,g',F',ar,k1,a0,u,a6,a7⟩:=(h gs.size w.heap.size t.size M ⟨n1,n2,Q⟩).2.2 bB gs w sl t _ _ _ _ rfl V (fun a hs hb=>hA.apart _ hs (.inl (k _ hb))) (fun r hs hb=>hA.apart _ hs (k _ hb))
 obtain ⟨a8,a9,w2,ba,t2,bb,bc,bd,bj,bk,bl,bm,bo,br⟩:=a7.2.2 ar bW w' ae al ao a0
 have K:e4 F F' w w':=⟨u.os,u.tape,u.output,u.size,fun b hb I=>u.frame b hb (fun x=>I (B b x)) (fun x=>I (k b x)),fun a d=>by
  rcases u.ro a d with x|x|x|x
  ·exact (J a x).imp id .inl
  ·exact .inr (.inl (B _ x))
  ·exact .inr (.inr x)
  ·exact .inr (.inl (k _ x)),fun b hb=>by
  rcases u.own b hb with x|x|x
  ·exact .inl (B b x)
  ·exact .inr x
  ·exact .inl (k b x)⟩
 refine ⟨N+a8,a9,w2,ba,t2,bb,bc,bd,bj,by rw[jv k1];exact bk,bl,K.trans bm,fun l hl=>?_,br⟩
 rcases bo l hl with x|x|x
 ·rcases a6 l x with y|⟨a,rfl,d⟩
  ·exact .inl y
  ·exact .inr (.inr (show a.block∈keys F.own from k _ (.inr (.inl d))))
 ·exact .inr (.inl fun E=>x (Loc.low_mono u.size E))
 ·cases l with
  |cell a=>
   rcases K.own _ x with y|y
   ·exact .inr (.inr y)
   ·exact .inr (.inl fun E=>absurd E (Nat.not_lt.2 y))
  |obj r=>
   rcases K.own _ x with y|y
   ·exact .inr (.inr y)
   ·exact .inr (.inl fun E=>absurd E (Nat.not_lt.2 y))
  |_=>exact x.elim
end Go.Sep
end

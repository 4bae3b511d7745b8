/- A part of the proof: QR8. -/
import Derived.Test.YtbpddfapodiemaaGreatDoorQR7
import Derived.Conc.CrowdTrace
set_option linter.all false
section
namespace Go.Sep
open Go Go.Conc
open Go.ConcN (PermW fork_knows)
open Go.ConcM (MuAt muA msA muBlock)
open Go.ConcR (WgAt wgBlock stA smA)
structure Cy where
 P:Program
 Mu:Nat
 Wg:Nat
 Is:Nat
 tM:TypeId
 tW:TypeId
 tI:TypeId
 n:Nat
 bs:Nat->Bool
 base:Nat
 T0:Nat
def Cy.shared (c:Cy)(b:Nat):Prop:=b=c.Mu\/b=c.Wg\/b=c.Is
def Cy.sy (c:Cy)(l:Loc):Prop:=∃a,l= .cell a/\(a.block=c.Mu\/a.block=c.Wg)
def Cy.gid (c:Cy):Nat->Nat
 |0=>0
 |i+1=>c.base+i
theorem Cy.La (c:Cy)(hb:0<c.base){p q:Nat}(h:p≠q):c.gid p≠c.gid q:=by
 cases p<;>cases q<;>simp[Cy.gid] at*<;>omega
def fK (F:af):Loc->Prop
 | .cell a=>a.block∈keys F.own
 | .obj r=>r∈keys F.own
 |_=>False
def jo (F:af)(l:Loc):Prop:=∃a,l= .cell a/\(F.ro a).isSome=true
def lP (B:Nat):Loc->Prop
 | .cell a=>B<=a.block
 | .obj r=>B<=r
 |_=>False
def p8 (c:Cy)(i:Nat)(l:Loc):Prop:=l= .cell ⟨c.Is,i,none⟩
structure dZ (c:Cy)(k:Nat)(Fr:Nat->af)(w:World):Prop where
 has:∀p,p<=k->Has (Fr p) w
 own:∀p q,p<=k->q<=k->p≠q->∀b∈keys (Fr p).own,b∉keys (Fr q).own
 ro:∀p q,p<=k->q<=k->p≠q->∀a,((Fr p).ro a).isSome=true->a.block∉keys (Fr q).own
 iu:∀p,p<=k->∀b∈keys (Fr p).own,¬c.shared b
 jT:∀p,p<=k->∀a,((Fr p).ro a).isSome=true->¬c.shared a.block
 g6:∀b,c.shared b->b<w.heap.size
structure gI (c:Cy)(t:Trace)(g r:Nat):Prop where
 late:c.T0<=r
 act:t.act? r=some (.mark (.releaseMerge (stA c.Wg)))
 DO:t.g? r=some g
 heard:t.heard r
 after:∀i x,r<i->t.g? i=some g->touchAt t i=some x->x.kind= .atomic/\¬t.heard i/\∃a,x.loc= .cell a/\a.block=c.Wg
structure eO (c:Cy)(bJ:Loc->Prop)(k:Nat)(Fr:Nat->af)(B:Nat)(t:Trace):Prop where
 len:c.T0<=t.size
 quiet:∀i a,touchAt t i=some a->c.sy a.loc->(a.kind≠ .plain/\(a.kind= .said->t.g? i=some 0))\/∀p,p<=k->Go.Conc.Knows t (c.gid p) i
 nr:∀said,¬Race said t
 own:∀p,p<=k->∀l,fK (Fr p) l->Perm t (c.gid p) l
 ro:∀p,p<=k->∀l,jo (Fr p) l->PermW t (c.gid p) l
 vp:∀i,i<k->∀l,p8 c i l->Perm t (c.base+i) l
 vq:∀i,k<=i->∀l,p8 c i l->Perm t 0 l
 low:∀op∈t,op.act.low B
 norel:∀i,c.T0<=i->t.act? i≠some (.mark (.release (stA c.Wg)))
 known:∀i a,touchAt t i=some a->a.loc.isMemory=true->Go.Conc.Knows t 0 i\/(bJ a.loc/\a.kind= .atomic)\/∃j,j<k/\t.g? i=some (c.base+j)
 over:∀i g,t.g? i=some g->g≠0->t.counts i->(∃j,t.g? j=some 0/\HappensBefore t i j)\/∃j,j<k/\g=c.base+j
def vr (c:Cy)(F:af)(B p:Nat)(x:Touch):Prop:=
 fK F x.loc\/lP B x.loc\/(jo F x.loc/\x.write=false)\/(c.sy x.loc/\x.kind≠ .plain/\(x.kind= .said->p=0))\/(∃i,p=i+1/\p8 c i x.loc)\/x.loc.isMemory=false
theorem DQ {B:Nat}{l:Loc}(h:l.low B)(b:lP B l):False:=by
 cases l with
 |cell a=>exact absurd h (Nat.not_lt.2 b)
 |obj r=>exact absurd h (Nat.not_lt.2 b)
 |_=>exact b
theorem DR {B:Nat}{t:Trace}(h:∀op∈t,op.act.low B){i:Nat}{a:Touch}(c:touchAt t i=some a):a.loc.low B:=by
 obtain ⟨x,d,b⟩:=touch_of c;have hm:=h x (Array.mem_of_getElem? d);obtain ⟨g,fn,pos,act⟩:=x;cases act with
 |access e=>simp only[MemAct.touch?,Option.some.injEq] at b;subst b;exact hm
 |mark m=>cases m<;>simp only[MemAct.touch?,Option.some.injEq] at b<;>first|(subst b;exact hm)|cases b
 |_=>cases b
theorem Lb {F:af}{w:World}(h:Has F w){l:Loc}(b:fK F l):¬lP w.heap.size l:=by
 cases l with
 |cell a=>exact fun x=>absurd (h.lt b) (Nat.not_lt.2 x)
 |obj r=>exact fun x=>absurd (h.lt b) (Nat.not_lt.2 x)
 |_=>exact b.elim
theorem Lc {F:af}{w:World}(h:Has F w){l:Loc}(b:jo F l):¬lP w.heap.size l:=by
 obtain ⟨a,rfl,c⟩:=b;exact fun x=>absurd (h.iB c) (Nat.not_lt.2 x)
section
variable {c:Cy}{bJ:Loc->Prop}{k:Nat}{Fr:Nat->af}{w:World}{t u:Trace}
theorem dZ.sep (h:dZ c k Fr w){p q:Nat}(d:p<=k)(e:q<=k)(aL:p≠q){l:Loc}(b:fK (Fr p) l)(f:fK (Fr q) l):False:=by
 cases l with
 |cell a=>exact h.own p q d e aL _ b f
 |obj r=>exact h.own p q d e aL _ b f
 |_=>exact b
theorem dZ.DS (h:dZ c k Fr w){p q:Nat}(b:p<=k)(d:q<=k)(aL:p≠q){l:Loc}(e:jo (Fr p) l)(f:fK (Fr q) l):False:=by
 obtain ⟨a,rfl,g⟩:=e;exact h.ro p q b d aL a g f
theorem dZ.DT (h:dZ c k Fr w){p:Nat}(d:p<=k){l:Loc}(e:fK (Fr p) l)(b:c.sy l):False:=by
 obtain ⟨a,rfl,b⟩:=b;exact h.iu p d _ e (b.elim .inl fun x=>.inr (.inl x))
theorem dZ.DU (h:dZ c k Fr w){p:Nat}(f:p<=k){l:Loc}(b:jo (Fr p) l)(d:c.sy l):False:=by
 obtain ⟨a,rfl,b⟩:=b;obtain ⟨g,e,d⟩:=d;cases e;exact h.jT p f _ b (d.elim .inl fun x=>.inr (.inl x))
theorem dZ.zu (h:dZ c k Fr w){p i:Nat}(a:p<=k){l:Loc}(b:fK (Fr p) l)(d:p8 c i l):False:=by
 subst d;exact h.iu p a _ b (.inr (.inr rfl))
theorem dZ.zv (h:dZ c k Fr w){p i:Nat}(d:p<=k){l:Loc}(b:jo (Fr p) l)(f:p8 c i l):False:=by
 subst f;obtain ⟨a,e,b⟩:=b;cases e;exact h.jT p d _ b (.inr (.inr rfl))
theorem dZ.Ld (h:dZ c k Fr w){l:Loc}(d:lP w.heap.size l)(b:c.sy l):False:=by
 obtain ⟨a,rfl,b⟩:=b;exact absurd (h.g6 _ (b.elim .inl fun x=>.inr (.inl x))) (Nat.not_lt.2 d)
theorem dZ.DV (h:dZ c k Fr w){i:Nat}{l:Loc}(a:lP w.heap.size l)(b:p8 c i l):False:=by
 subst b;exact absurd (h.g6 _ (.inr (.inr rfl))) (Nat.not_lt.2 a)
theorem vt {a:Addr}{T:Nat}(h:∀i,T<=i->t.act? i≠some (.mark (.release a)))(hu:∀op∈u,op.act≠ .mark (.release a)):∀i,T<=i->(t++u).act? i≠some (.mark (.release a)):=by
 intro i c hi;obtain ⟨op,d,b⟩:=Option.map_eq_some_iff.1 hi;rcases getElem?_append_cases d with ⟨_,e⟩|⟨_,f⟩
 .exact h i c (by rw[act?_of e,b])
 .exact hu op f b
theorem DW (h:∀i a,touchAt t i=some a->c.sy a.loc->(a.kind≠ .plain/\(a.kind= .said->t.g? i=some 0))\/∀p,p<=k->Go.Conc.Knows t (c.gid p) i)
  (hu:∀op∈u,∀x,op.act.touch?=some x->c.sy x.loc->x.kind≠ .plain/\(x.kind= .said->op.g=0)):
  ∀i a,touchAt (t++u) i=some a->c.sy a.loc->(a.kind≠ .plain/\(a.kind= .said->(t++u).g? i=some 0))\/∀p,p<=k->Go.Conc.Knows (t++u) (c.gid p) i:=by
 intro i a f hs
 obtain ⟨x,b,d⟩:=touch_of f
 rcases getElem?_append_cases b with ⟨hi,j⟩|⟨_,l⟩
 .rcases h i a (by rw[touchAt_of j];exact d) hs with ⟨y,z⟩|y
  .exact .inl ⟨y,fun e=>by rw[g?_old hi];exact z e⟩
  .exact .inr fun p m=>(y p m).app u
 .obtain ⟨y,z⟩:=hu x l a d hs
  exact .inl ⟨y,fun e=>by simp[Trace.g?,b,z e]⟩
theorem eO.app (hb:0<c.base)(aL:c.Mu≠c.Is/\c.Wg≠c.Is)(n:dZ c k Fr w)(h:eO c bJ k Fr w.heap.size t){p:Nat}(s:p<=k){dz:Nat->af}{I:Nat}(Q:w.heap.size<=I)
  (hu:∀op∈u,op.g=c.gid p) (C:∀op∈u,∀x,op.act.touch?=some x->vr c (Fr p) w.heap.size p x)
  (R:∀op∈u,op.act.low I) (S:∀op∈u,op.act≠ .mark (.release (stA c.Wg)))
  (M:∀q,q≠p->dz q=Fr q) (T:∀l,fK (dz p) l->fK (Fr p) l\/lP w.heap.size l) (U:∀l,jo (dz p) l->jo (Fr p) l\/fK (Fr p) l\/lP w.heap.size l):
  eO c bJ k dz I (t++u):=by
 have a2:∀op∈u,∀x,op.act.touch?=some x->x.loc.isMemory=false->∀l:Loc,l.isMemory=true->x.loc≠l:=fun op _ x _ N l d e=>by rw[e,d] at N;cases N
 have V:∀{F:af} {l:Loc},fK F l->l.isMemory=true:=fun {F l} d=>by cases l<;>first|rfl|exact d.elim
 have W:∀{F:af} {l:Loc},jo F l->l.isMemory=true:=fun {F l} d=>by obtain ⟨a,rfl,_⟩:=d;rfl
 have a3:∀q,q≠p->c.gid q≠c.gid p:=fun q m=>c.La hb m
 have X:∀q,q<=k->q≠p->∀l,fK (Fr q) l->∀op∈u,∀b,op.act.touch?=some b->b.loc≠l:=by
  intro q m v l d op f b r e
  rcases C op f b r with x|x|⟨x,_⟩|⟨x,_⟩|⟨i,_,x⟩|x<;>rw[e] at x
  .exact n.sep m s v d x
  .exact Lb (n.has q m) d x
  .exact n.DS s m (Ne.symm v) x d
  .exact n.DT m d x
  .exact n.zu m d x
  .rw[V d] at x;cases x
 have Y:∀q,q<=k->q≠p->∀l,jo (Fr q) l->∀op∈u,∀b,op.act.touch?=some b->b.loc=l->b.write=true->False:=by
  intro q m v l d op f b r e hw
  rcases C op f b r with x|x|⟨x,Z⟩|⟨x,_⟩|⟨i,_,x⟩|x
  .rw[e] at x;exact n.DS m s v d x
  .rw[e] at x;exact Lc (n.has q m) d x
  .rw[Z] at hw;cases hw
  .rw[e] at x;exact n.DU m d x
  .rw[e] at x;exact n.zv m d x
  .rw[e,W d] at x;cases x
 have fresh:∀l,lP w.heap.size l->Perm (t++u) (c.gid p) l:=by
  intro l d i a A e
  obtain ⟨x,B,J⟩:=touch_of A
  rcases getElem?_append_cases B with ⟨hi,K⟩|⟨_,G⟩
  .have:=DR h.low (show touchAt t i=some a by rw[touchAt_of K];exact J)
   rw[e] at this
   exact (DQ this d).elim
  .have:=knows_own B
   rwa [hu x G] at this
 refine ⟨by have:=h.len;simp;omega,DW h.quiet fun op f x B hs=>?_,fun said=>?_,fun q m l d=>?_,fun q m l d=>?_,fun i hi l d=>?_,fun i hi l d=>?_,fun op f=>?_,vt h.norel S,fun i a A hm=>?_,fun i g hg D hc=>?_⟩
 .rcases C op f x B with y|y|⟨y,_⟩|⟨_,y,z⟩|⟨i,_,y⟩|y
  .exact (n.DT s y hs).elim
  .exact (n.Ld y hs).elim
  .exact (n.DU s y hs).elim
  .exact ⟨y,fun e=>by rw[hu op f,z e];rfl⟩
  .obtain ⟨a,e,hs⟩:=hs
   rw[show x.loc=_ from y] at e
   cases e
   rcases hs with hs|hs
   .exact absurd hs.symm aL.1
   .exact absurd hs.symm aL.2
  .obtain ⟨a,e,_⟩:=hs;rw[e] at y;cases y
 .refine noRace_append (h.nr said) hu fun i a A op f b r hc=>?_
  rcases C op f b r with y|y|⟨y,z⟩|⟨y,y',z⟩|⟨j,rfl,y⟩|y
  .exact h.own p s _ y i a A hc.1
  .have:=DR h.low A
   rw[hc.1] at this
   exact (DQ this y).elim
  .exact h.ro p s _ y i a A hc.1 (hc.2.2.1.resolve_right (by rw[z];simp))
  .rcases h.quiet i a A (by rw[hc.1];exact y) with ⟨ab,ad⟩|q
   .obtain ⟨_,_,_,ae⟩:=hc
    rcases ae with e|e|⟨_,e,H⟩
    .exact absurd e ab
    .exact absurd e y'
    .have D:=ad e
     unfold Trace.g? at D
     obtain ⟨o,al,ao⟩:=Option.map_eq_some_iff.1 D
     have:=knows_own al
     rw[ao] at this
     rw[z H];exact this
   .exact q p s
  .exact h.vp j aa _ y i a A hc.1
  .rw[<-hc.1,hc.2.1] at y;cases y
 .by_cases v:q=p
  .subst v
   rcases T l d with y|y
   .exact (h.own q m l y).app fun op f _ _ _=>hu op f
   .exact fresh l y
  .rw[M q v] at d
   exact (h.own q m l d).app fun op f b r e=>absurd e (X q m v l d op f b r)
 .by_cases v:q=p
  .subst v
   rcases U l d with y|y|y
   .exact (h.ro q m l y).app fun op f _ _ _ _=>hu op f
   .exact .of ((h.own q m l y).app fun op f _ _ _=>hu op f)
   .exact .of (fresh l y)
  .rw[M q v] at d
   exact (h.ro q m l d).app fun op f b r e hw=>(Y q m v l d op f b r e hw).elim
 .refine (h.vp i hi l d).app fun op f b r e=>?_
  rcases C op f b r with y|y|⟨y,_⟩|⟨y,_⟩|⟨j,H,y⟩|y<;>rw[e] at y
  .exact (n.zu s y d).elim
  .exact (n.DV y d).elim
  .exact (n.zv s y d).elim
  .obtain ⟨a,e,hs⟩:=y
   rw[show l=_ from d] at e
   cases e
   rcases hs with hs|hs
   .exact absurd hs.symm aL.1
   .exact absurd hs.symm aL.2
  .have:i=j:=by rw[show l=_ from d] at y;cases y;rfl
   rw[hu op f,H,this];rfl
  .rw[show l=_ from d] at y;cases y
 .refine (h.vq i hi l d).app fun op f b r e=>?_
  rcases C op f b r with y|y|⟨y,_⟩|⟨y,_⟩|⟨j,H,y⟩|y<;>rw[e] at y
  .exact (n.zu s y d).elim
  .exact (n.DV y d).elim
  .exact (n.zv s y d).elim
  .obtain ⟨a,e,hs⟩:=y
   rw[show l=_ from d] at e
   cases e
   rcases hs with hs|hs
   .exact absurd hs.symm aL.1
   .exact absurd hs.symm aL.2
  .have:i=j:=by rw[show l=_ from d] at y;cases y;rfl
   omega
  .rw[show l=_ from d] at y;cases y
 .exact (Array.mem_append.1 f).elim (fun x=>MemAct.low_mono Q (h.low op x)) (R op)
 .obtain ⟨x,B,J⟩:=touch_of A
  rcases getElem?_append_cases B with ⟨hi,K⟩|⟨_,G⟩
  .rcases h.known i a (by rw[touchAt_of K];exact J) hm with y|y|⟨j,E,y⟩
   .exact .inl (y.app u)
   .exact .inr (.inl y)
   .exact .inr (.inr ⟨j,E,by rw[g?_old hi];exact y⟩)
  .cases p with
   |zero=>have:=knows_own B;rw[hu x G] at this;exact .inl this
   |succ j=>exact .inr (.inr ⟨j,aa,by simp[Trace.g?,B,hu x G,Cy.gid]⟩)
 .by_cases hi:i<t.size
  .rcases h.over i g (by rw[<-g?_old (u:=u) hi];exact hg) D ((counts_old hi).1 hc) with ⟨j,E,y⟩|y
   .have ar:j<t.size:=by
     unfold Trace.g? at E
     obtain ⟨z,L,_⟩:=Option.map_eq_some_iff.1 E
     exact lt_size_of_getElem? L
    exact .inl ⟨j,by rw[g?_old ar];exact E,hb_app u y⟩
   .exact .inr y
  .unfold Trace.g? at hg
   obtain ⟨z,L,O⟩:=Option.map_eq_some_iff.1 hg
   rcases getElem?_append_cases L with ⟨a0,_⟩|⟨_,P⟩
   .exact absurd a0 hi
   .cases p with
    |zero=>exact absurd (O▸(hu z P)) D
    |succ j=>exact .inr ⟨j,aa,by rw[<-O,hu z P];rfl⟩
theorem gI.app {g r:Nat}(h:gI c t g r)(hu:∀i x,t.size<=i->(t++u).g? i=some g->touchAt (t++u) i=some x->x.kind= .atomic/\¬(t++u).heard i/\∃a,x.loc= .cell a/\a.block=c.Wg):gI c (t++u) g r:=by
 have b:r<t.size:=lt_of_act? h.act;refine ⟨h.late,by rw[act?_old b];exact h.act,by rw[g?_old b];exact h.DO,(heard_old b).2 h.heard,fun i x hi hg e=>?_⟩;rcases Nat.lt_or_ge i t.size with d|f
 .rw[heard_old d];exact h.after i x hi (by rw[<-g?_old (u:=u) d];exact hg) (by rw[<-touchAt_old (u:=u) d];exact e)
 .exact hu i x f hg e
theorem gI.other {g r g':Nat}(h:gI c t g r)(aL:g'≠g)(hu:∀op∈u,op.g=g'):gI c (t++u) g r:=by
 refine h.app fun i x hi hg e=>?_;unfold Trace.g? at hg;obtain ⟨z,a,b⟩:=Option.map_eq_some_iff.1 hg;rcases getElem?_append_cases a with ⟨f,_⟩|⟨_,d⟩
 .omega
 .exact absurd (hu z d▸b) aL
theorem eO.fork (hb:0<c.base)(H:dZ c k Fr w)(h:eO c bJ k Fr w.heap.size t){x y:MemOp}(o:x.g=0/\x.act= .go (c.base+k))(r:y.g=c.base+k/\y.act= .start)(C:Deaf t 0=0)(D:Deaf t (c.base+k)=0)
  {dz:Nat->af} (F:∀q,q<=k->dz q=Fr q) (I:∀l,¬fK (dz (k+1)) l) (J:∀l,jo (dz (k+1)) l->jo (Fr 0) l):eO c bJ (k+1) dz w.heap.size (t++#[x,y]):=by
 have s:∀op∈#[x,y],∀b,op.act.touch?=some b->False:=by
  intro op d b hb
  simp only[List.mem_toArray,List.mem_cons,List.not_mem_nil,or_false] at d
  rcases d with rfl|rfl
  .rw[o.2] at hb;cases hb
  .rw[r.2] at hb;cases hb
 have old:∀{i:Nat} {a:Touch},touchAt (t++#[x,y]) i=some a->touchAt t i=some a/\i<t.size:=by
  intro i a m
  obtain ⟨z,v,G⟩:=touch_of m
  rcases getElem?_append_cases v with ⟨hi,K⟩|⟨_,L⟩
  .exact ⟨by rw[touchAt_of K];exact G,hi⟩
  .exact (s z L a G).elim
 refine ⟨by have:=h.len;simp;omega,fun i a m hs=>?_,fun said=>?_,fun q M l f=>?_,fun q M l f=>?_,fun i hi l f=>?_,fun i hi l f=>?_,fun op d=>?_,vt h.norel fun op d=>?_,fun i a m hm=>?_,fun i g hg N hc=>?_⟩
 .obtain ⟨E,hi⟩:=old m
  rcases h.quiet i a E hs with ⟨O,P⟩|q
  .exact .inl ⟨O,fun e=>by rw[g?_old hi];exact P e⟩
  .refine .inr fun p H=>?_
   rcases Nat.lt_or_ge k p with B|n
   .obtain rfl:p=k+1:=aa
    exact fork_knows o r C D (q 0 (Nat.zero_le _))
   .exact (q p n).app _
 .have e:t++#[x,y]=(t++#[x])++#[y]:=by apply Array.ext';simp
  rw[e]
  refine noRace_append (g:=c.base+k) (noRace_append (g:=0) (h.nr said) (fun op d=>by simp at d;rw[d];exact o.1) (fun i a _ op d b hb _=>(s op (by simp at d ⊢;exact .inl d) b hb).elim))
   (fun op d=>by simp at d;rw[d];exact r.1) (fun i a _ op d b hb _=>(s op (by simp at d ⊢;exact .inr d) b hb).elim)
 .rcases Nat.lt_or_ge k q with B|n
  .obtain rfl:q=k+1:=aa
   exact (I l f).elim
  .rw[F q n] at f
   exact (h.own q n l f).app fun op d b hb _=>(s op d b hb).elim
 .rcases Nat.lt_or_ge k q with B|n
  .obtain rfl:q=k+1:=aa
   exact fun i a m e hw=>fork_knows o r C D (h.ro 0 (Nat.zero_le _) l (J l f) i a (old m).1 e hw)
  .rw[F q n] at f
   exact (h.ro q n l f).app fun op d b hb _ _=>(s op d b hb).elim
 .rcases Nat.lt_or_ge i k with B|n
  .exact (h.vp i B l f).app fun op d b hb _=>(s op d b hb).elim
  .obtain rfl:i=k:=aa
   exact fun j a m e=>fork_knows o r C D (h.vq i (Nat.le_refl _) l f j a (old m).1 e)
 .exact (h.vq i aa l f).app fun op d b hb _=>(s op d b hb).elim
 .rcases Array.mem_append.1 d with z|z
  .exact h.low op z
  .simp only[List.mem_toArray,List.mem_cons,List.not_mem_nil,or_false] at z
   rcases z with rfl|rfl
   .rw[o.2];trivial
   .rw[r.2];trivial
 .simp only[List.mem_toArray,List.mem_cons,List.not_mem_nil,or_false] at d
  rcases d with rfl|rfl
  .rw[o.2];simp
  .rw[r.2];simp
 .obtain ⟨E,hi⟩:=old m
  rcases h.known i a E hm with z|z|⟨j,A,z⟩
  .exact .inl (z.app _)
  .exact .inr (.inl z)
  .exact .inr (.inr ⟨j,aa,by rw[g?_old hi];exact z⟩)
 .have Q:=hc
  obtain ⟨z,v,_⟩:=hc
  obtain ⟨_,hi⟩:=old (show touchAt _ i=some z from v)
  rcases h.over i g (by rw[<-g?_old (u:=#[x,y]) hi];exact hg) N ((counts_old hi).1 Q) with ⟨j,A,y'⟩|⟨j,A,y'⟩
  .have R:j<t.size:=by
    unfold Trace.g? at A
    obtain ⟨z,v,_⟩:=Option.map_eq_some_iff.1 A
    exact lt_size_of_getElem? v
   exact .inl ⟨j,by rw[g?_old R];exact A,hb_app _ y'⟩
  .exact .inr ⟨j,aa,y'⟩
theorem eO.gq (h:eO c bJ k Fr w.heap.size t)(d:∀i,i<k->∃r,gI c t (c.base+i) r){y:MemOp}(f:y.g=0/\y.act= .mark (.acquire (stA c.Wg)))(B:Deaf t 0=0)(H:c.Wg<w.heap.size):
  Past (fun l=>bJ l\/∃a,l= .cell a/\a.block=c.Wg) w.heap.size (t++#[y]):=by
 have hyp:(t++#[y])[t.size]?=some y:=by rw[Array.getElem?_append_right (Nat.le_refl _)];simp
 have C:∀op∈#[y],∀b,op.act.touch?=some b->False:=by
  intro op e b hb
  simp only[List.mem_toArray,List.mem_cons,List.not_mem_nil,or_false] at e
  rw[e,f.2] at hb;cases hb
 have old:∀{i:Nat} {a:Touch},touchAt (t++#[y]) i=some a->touchAt t i=some a/\i<t.size:=by
  intro i a s
  obtain ⟨z,o,D⟩:=touch_of s
  rcases getElem?_append_cases o with ⟨hi,v⟩|⟨_,I⟩
  .exact ⟨by rw[touchAt_of v];exact D,hi⟩
  .exact (C z I a D).elim
 have heard:(t++#[y]).heard t.size:=⟨0,by simp[Trace.g?,f.1],by rw[deaf_old (Nat.le_refl _)];exact B⟩
 have norel:=vt (u:=#[y]) h.norel fun op e=>by
  simp only[List.mem_toArray,List.mem_cons,List.not_mem_nil,or_false] at e
  rw[e,f.2];simp
 have zl:∀g r,gI c t g r->HappensBefore (t++#[y]) r t.size:=fun g r d=>
  .single (.inr ⟨.marked (a:=stA c.Wg) (lt_of_act? d.act) (.inr (by rw[act?_old (lt_of_act? d.act)];exact d.act)) (by rw[act?_of hyp,f.2]) (fun k J _=>norel k (Nat.le_of_lt (Nat.lt_of_le_of_lt d.late J))),(heard_old (lt_of_act? d.act)).2 d.heard,heard⟩)
 have upto:∀g r i,gI c t g r->t.g? i=some g->i<=r->HappensBefore (t++#[y]) i t.size:=fun g r i d hg hle=>by
  have E:=lt_of_act? d.act
  rcases Nat.lt_or_ge i r with n|p
  .exact .trans (.single (.inl ⟨n,g,by rw[g?_old (Nat.lt_trans n E)];exact hg,by rw[g?_old E];exact d.DO⟩)) (zl g r d)
  .obtain rfl:i=r:=aa
   exact zl g i d
 refine ⟨fun said=>noRace_append (g:=0) (h.nr said) (fun op e=>by simp at e;rw[e];exact f.1) (fun i a _ op e b hb _=>(C op e b hb).elim),fun i a s hm=>?_,fun i g hg K hc=>?_,?_,fun op e=>?_⟩
 .obtain ⟨F,hi⟩:=old s
  rcases h.known i a F hm with z|z|⟨j,m,z⟩
  .exact .inl (z.app _)
  .exact .inr ⟨.inl z.1,z.2⟩
  .obtain ⟨r,d⟩:=d j m
   rcases Nat.lt_or_ge r i with n|p
   .obtain ⟨x,_,A⟩:=d.after i a n z F
    exact .inr ⟨.inr A,x⟩
   .exact .inl ⟨t.size,y,hyp,f.1,.inr (upto _ r i d z p)⟩
 .have L:=hc
  obtain ⟨z,o,O,M⟩:=hc
  obtain ⟨v,hi⟩:=old (show touchAt _ i=some z from o)
  rcases h.over i g (by rw[<-g?_old (u:=#[y]) hi];exact hg) K ((counts_old hi).1 L) with ⟨j,m,y'⟩|⟨j,m,y'⟩
  .have N:j<t.size:=by
    unfold Trace.g? at m
    obtain ⟨z,o,_⟩:=Option.map_eq_some_iff.1 m
    exact lt_size_of_getElem? o
   exact ⟨j,by rw[g?_old N];exact m,hb_app _ y'⟩
  .obtain ⟨r,d⟩:=d j m
   have G:t.g? i=some (c.base+j):=by rw[<-g?_old (u:=#[y]) hi,hg,y']
   rcases Nat.lt_or_ge r i with n|p
   .obtain ⟨x,A,_⟩:=d.after i z n G v
    rcases M with q|q
    .exact absurd x q
    .exact absurd ((heard_old hi).1 q) A
   .exact ⟨t.size,by simp[Trace.g?,f.1],upto _ r i d G p⟩
 .rw[Deaf_push]
  simp only[deafStep,f.2]
  exact B
 .rcases Array.mem_append.1 e with z|z
  .exact h.low op z
  .simp only[List.mem_toArray,List.mem_cons,List.not_mem_nil,or_false] at z
   rw[z,f.2];exact H
end
end Go.Sep
end
section
namespace Go.Sep
open Go Go.Conc
open Go.ConcN (sumTo upd upd_ne upd_same sumTo_congr)
open Go.ConcM (MuAt muA msA muBlock OsLater)
open Go.ConcR (WgAt wgBlock stA smA)
def c5 (m:Mark):Event:=⟨.mark m,false,true⟩
def cQ (c:Cy)(w:World)(s:Sh):Prop:=MuAt c.tM c.Mu w s.mu s.ms/\WgAt c.tW c.Wg w s.wg s.ws/\w.heap[c.Is]?=some (.cells (s.is.map Value.bool).toArray c.tI)
structure iV (c:Cy)(w w':World):Prop where
 tape:w'.tape=w.tape
 output:w'.output=w.output
 size:w'.heap.size=w.heap.size
 os:OsLater w.os w'.os
 block:∀k,¬c.shared k->w'.heap[k]?=w.heap[k]?
theorem iV.refl (c:Cy)(w:World):iV c w w:=⟨rfl,rfl,rfl,.refl _,fun _ _=>rfl⟩
inductive EvA (c:Cy)(i:Nat)(ph aU:Ph)(es:Array Event):Prop
 |book (h:∀e∈es,e=c5 .disable\/e=c5 .enable\/∃a x,e=⟨.cell a,x,true⟩/\(a.block=c.Wg\/(a.block=c.Mu/\ph.gp= .cnt))) (hd:deafBehind ph.deaf es=aU.deaf)
   (ht:∀j e,es[j]?=some e->(MemAct.ofEvent e).touch?=none\/0<deafBehind ph.deaf (es.extract 0 j)) (hg:aU.gp= .cnt↔ph.gp= .cnt)
 |word (m:Mark) (he:es=#[c5 m]) (hm:m= .acquire (muA c.Mu)\/m= .releaseMerge (muA c.Mu)) (hd:aU.deaf=ph.deaf) (hg:aU.gp= .cnt/\ph.gp= .cnt)
 |store (he:es=#[⟨.cell ⟨c.Is,i,none⟩,true,false⟩]) (hd:aU.deaf=ph.deaf) (hg:aU.gp= .cnt/\ph.gp= .cnt)
 |rel (he:es=#[c5 (.releaseMerge (stA c.Wg))]) (hd:ph.deaf=0/\aU.deaf=0) (hg:ph.gp= .cnt)
def jq (c:Cy)(i:Nat):Rk->Goroutine->af->Ph->Prop
 | .mk ι f,g,F,ph=>
  (ph.gp= .gone/\∃q,Rk.mk ι f=Rk.nat q/\QuitsD c.P q ph.deaf g)\/
  (g.status= .running/\g.offers=none/\ph.gp= .cnt/\∀w,Has F w->∃(x:ι) (g':Goroutine) (w':World) (es:Array Event) (F':af),
   stepG c.P false g w= .go g' w' es/\eA F F' w w'/\Has F' w'/\(∀e∈es,jx F.ro (iA F w.heap.size w'.heap.size) e)/\jq c i (f x) g' F' ph)\/
  (g.status= .running/\g.offers=none/\ph.gp≠ .gone/\∀(w:World) (s:Sh) (k:Nat) (φ:Nat->Ph) (p0:P0),Has F w->cQ c w s->i<c.n->φ i=ph->Inv c.n c.bs k φ p0 s->
   (ph.mp.jl=true/\s.ms=0/\stepG c.P false g w= .go {g with status:=.blocked} w #[])\/
   (∃(x:ι) (g':Goroutine) (w':World) (es:Array Event) (s':Sh) (aU:Ph) (F':af),stepG c.P false g w= .go g' w' es/\cQ c w' s'/\iV c w w'/\Inv c.n c.bs k (upd φ i aU) p0 s'/\EvA c i ph aU es/\
    (mayWake c.P g=true\/(s'.ms<=s.ms/\s'.ws<=s.ws))/\Le F' F/\jq c i (f x) g' F' aU))
def Wk (c:Cy)(i:Nat)(ph:Ph)(g:Goroutine)(F:af):Prop:=∃F0 r,Le F0 F/\jq c i r g F0 ph
theorem Wk.mono {c:Cy}{i:Nat}{ph:Ph}{g:Goroutine}{F F':af}(hle:Le F F')(h:Wk c i ph g F):Wk c i ph g F':=
 let ⟨F0,r,a,b⟩:=h;⟨F0,r,a.trans hle,b⟩
theorem Wk.closed (c:Cy)(i:Nat)(ph:Ph)(hg:ph.gp= .cnt):Closed c.P false (fun g F=>Wk c i ph g F) where
 mono hle h:=h.mono hle
 step {fr cs F} h:=by
  classical
  let Q:World->Rk->Prop:=fun w r=>∃(g':Goroutine) (w':World) (es:Array Event) (F':af),
   stepG c.P false (G fr cs) w= .go g' w' es/\eA F F' w w'/\Has F' w'/\(∀e∈es,jx F.ro (iA F w.heap.size w'.heap.size) e)/\jq c i r g' F' ph
  refine ⟨F,.mk World fun w=>if f:∃r,Q w r then Classical.choose f else Rk.nat 0,.refl F,?_⟩
  refine .inr (.inl ⟨rfl,rfl,hg,fun w hw=>?_⟩)
  obtain ⟨g',w',es,F',k,d,l,m,F0,r,j,n⟩:=h w hw
  have f:∃r,Q w r:=⟨r,g',w',es,F0,k,⟨d.os,d.tape,d.output,d.size,d.frame,fun a o=>(j.ro a o).elim (d.ro a) fun x=>.inr (d.own _ x),fun b hb=>d.own b (j.own b hb)⟩,j.has _ l,m,n⟩
  obtain ⟨g',w',es,F',k1,p,q,s,t⟩:=Classical.choose_spec f
  exact ⟨w,g',w',es,F',k1,p,q,s,by simp only[dif_pos f];exact t⟩
theorem Wk.act {c:Cy}{i:Nat}{ph:Ph}{g:Goroutine}{F:af}(hs:g.status= .running)(o:g.offers=none)(hg:ph.gp≠ .gone)
  (h:∀(w:World) (s:Sh) (k:Nat) (φ:Nat->Ph) (p0:P0),Has F w->cQ c w s->i<c.n->φ i=ph->Inv c.n c.bs k φ p0 s->
   (ph.mp.jl=true/\s.ms=0/\stepG c.P false g w= .go {g with status:=.blocked} w #[])\/
   (∃(g':Goroutine) (w':World) (es:Array Event) (s':Sh) (aU:Ph),stepG c.P false g w= .go g' w' es/\cQ c w' s'/\iV c w w'/\Inv c.n c.bs k (upd φ i aU) p0 s'/\EvA c i ph aU es/\
    (mayWake c.P g=true\/(s'.ms<=s.ms/\s'.ws<=s.ws))/\Wk c i aU g' F)):Wk c i ph g F:=by
 classical
 let Q:World×Sh×Nat×(Nat->Ph)×P0->Rk->Prop:=fun y r=>∃(g':Goroutine) (w':World) (es:Array Event) (s':Sh) (aU:Ph) (F':af),stepG c.P false g y.1= .go g' w' es/\cQ c w' s'/\iV c y.1 w'/\Inv c.n c.bs y.2.2.1 (upd y.2.2.2.1 i aU) y.2.2.2.2 s'/\EvA c i ph aU es/\
    (mayWake c.P g=true\/(s'.ms<=y.2.1.ms/\s'.ws<=y.2.1.ws))/\Le F' F/\jq c i r g' F' aU
 refine ⟨F,.mk (World×Sh×Nat×(Nat->Ph)×P0) fun y=>if a:∃r,Q y r then Classical.choose a else Rk.nat 0,.refl F,?_⟩
 refine .inr (.inr ⟨hs,o,hg,fun w s k φ p0 p q t u v=>?_⟩)
 rcases h w s k φ p0 p q t u v with x|⟨g',w',es,s',aU,k1,b,d,e,f,j,F',r,l,m⟩
 .exact .inl x
 .have a:∃r,Q (w,s,k,φ,p0) r:=⟨r,g',w',es,s',aU,F',k1,b,d,e,f,j,l,m⟩
  obtain ⟨g',w',es,s',aU,F',k1,b,d,e,f,j,l,m⟩:=Classical.choose_spec a
  exact .inr ⟨(w,s,k,φ,p0),g',w',es,s',aU,F',k1,b,d,e,f,j,l,by simp only[dif_pos a];exact m⟩
theorem Wk.gone {c:Cy}{i:Nat}{ph:Ph}{g:Goroutine}{F:af}{q:Nat}(hg:ph.gp= .gone)(h:QuitsD c.P q ph.deaf g):Wk c i ph g F:=by
 refine ⟨F,Rk.nat q,.refl F,?_⟩;cases q with
 |zero=>exact .inl ⟨hg,0,rfl,h⟩
 |succ q=>exact .inl ⟨hg,q+1,rfl,h⟩
structure dV (c:Cy)(B0:Nat)(F F':af)(w w':World):Prop where
 os:OsLater w.os w'.os
 tape:w'.tape=w.tape
 output:w'.output=w.output
 size:w.heap.size<=w'.heap.size
 frame:∀b,b<B0->b∉keys F.own->¬c.shared b->w'.heap[b]?=w.heap[b]?
 ro:∀a,(F'.ro a).isSome=true->(F.ro a).isSome=true\/a.block∈keys F.own\/B0<=a.block\/c.shared a.block
 own:∀b,b∈keys F'.own->b∈keys F.own\/B0<=b\/c.shared b
theorem dV.refl (c:Cy)(B0:Nat)(F:af)(w:World):dV c B0 F F w w:=⟨.refl _,rfl,rfl,Nat.le_refl _,fun _ _ _ _=>rfl,fun _ h=>.inl h,fun _ h=>.inl h⟩
theorem dV.trans {c:Cy}{B0:Nat}{F G H:af}{u v w:World}(h:dV c B0 F G u v)(k:dV c B0 G H v w):dV c B0 F H u w where
 os:=h.os.trans k.os
 tape:=k.tape.trans h.tape
 output:=k.output.trans h.output
 size:=Nat.le_trans h.size k.size
 frame b hb d hs:=by
  rw[k.frame b hb (fun e=>(h.own b e).elim d fun x=>x.elim (fun y=>absurd hb aa) hs) hs]
  exact h.frame b hb d hs
 ro a x:=by
  rcases k.ro a x with y|y|y
  .exact h.ro a y
  .exact .inr (h.own _ y)
  .exact .inr (.inr y)
 own b hb:=by
  rcases k.own b hb with x|x
  .exact h.own b x
  .exact .inr x
theorem dV.le {c:Cy}{B0:Nat}{F G H:af}{w w':World}(h:Le F G)(u:dV c B0 F H w w'):dV c B0 G H w w' where
 os:=u.os
 tape:=u.tape
 output:=u.output
 size:=u.size
 frame b hb d hs:=u.frame b hb (fun x=>d (h.own b x)) hs
 ro a x:=by
  rcases u.ro a x with y|y|y
  .exact (h.ro a y).imp id .inl
  .exact .inr (.inl (h.own _ y))
  .exact .inr (.inr y)
 own b hb:=(u.own b hb).imp (h.own b) id
def p9 (c:Cy)(i:Nat)(r:Rk)(x:Goroutine)(F:af)(ph:Ph)(s:Sh):Prop:=
 (ph.gp= .gone/\∃q,r=Rk.nat q/\QuitsD c.P q ph.deaf x)\/
 (ph.gp≠ .gone/\jq c i r {x with status:=.running} F ph/\x.offers=none/\(x.status= .running\/(x.status= .blocked/\ph.mp.jl=true/\s.ms=0)))
structure ee (c:Cy)(B0:Nat)(bJ:Loc->Prop)(p0:P0)(d0 k:Nat)(g:Goroutine)(Fr:Nat->af)(gs:Array Goroutine)(w:World)(t:Trace)(ρ:Nat->Rk)(φ:Nat->Ph)(s:Sh):Prop where
 size:gs.size=c.base+k
 base:0<c.base
 run:g.status= .running
 off:g.offers=none
 g0:∃x,gs[0]?=some x/\{x with status:=.running}=g/\(x.status= .running\/(x.status= .blocked/\p0= .reg/\s.ws=0))
 old:∀j x,0<j->j<c.base->gs[j]?=some x->∃q,ρ j=Rk.nat q/\QuitsD c.P q (Deaf t j) x
 wk:∀i,i<k->∃x,gs[c.base+i]?=some x/\p9 c i (ρ (c.base+i)) x (Fr (i+1)) (φ i) s
 deaf:∀i,i<k->Deaf t (c.base+i)=(φ i).deaf
 above:∀j,gs.size<=j->Deaf t j=0
 deaf0:Deaf t 0=d0
 parts:dZ c k Fr w
 sh:cQ c w s
 inv:Inv c.n c.bs k φ p0 s
 iw:eO c bJ k Fr w.heap.size t
 rel:∀i,i<k->(φ i).gp≠ .cnt->∃r,gI c t (c.base+i) r
 apart:∀l,bJ l->¬(Fr 0).g8 l
 low:∀l,bJ l->l.low B0
 jU:∀i,i<k->∀b∈keys (Fr (i+1)).own,B0<=b
 jV:B0<=w.heap.size
 ne:c.Mu≠c.Wg/\c.Mu≠c.Is/\c.Wg≠c.Is
section
variable {c:Cy}{B0:Nat}{bJ:Loc->Prop}{p0:P0}{d0 k:Nat}{g:Goroutine}{Fr:Nat->af}{gs:Array Goroutine}{w:World}{t:Trace}{ρ:Nat->Rk}{φ:Nat->Ph}{s:Sh}
theorem Inv.DX (h:Inv c.n c.bs k φ p0 s):0<=s.ms:=by
 obtain ⟨C,S,W,L,m,hm⟩:=h.m;have:=hm.cnt;omega
theorem Inv.Lf (h:Inv c.n c.bs k φ p0 s):0<=s.ws:=by
 have:=h.w.inv;cases p0<;>simp only at this<;>omega
theorem p9.woken {i:Nat}{r:Rk}{x:Goroutine}{F:af}{ph:Ph}{s s':Sh}(h:p9 c i r x F ph s){y y':Goroutine}{w':World}(p:0<=s'.ms)
  (hw:(mayWake c.P y=true/\y'.status≠ .blocked/\y'.status≠ .waiting)\/s'.ms<=s.ms):p9 c i r (woken c.P y y' w' x) F ph s':=by
 rcases h with ⟨hg,q,l,g⟩|⟨hg,f,e,m⟩
 .exact .inl ⟨hg,q,l,by rw[woken_quitsD g];exact g⟩
 .rcases m with j|⟨k,n,t⟩
  .rw[woken_run j];exact .inr ⟨hg,f,e,.inl j⟩
  .have o:x.again w'={x with status:=.running}:=by
    unfold Goroutine.again
    simp only[k,e]
   by_cases hc:(mayWake c.P y&&y'.status != .blocked&&y'.status != .waiting)=true
   .have:Go.Conc.woken c.P y y' w' x={x with status:=.running}:=by unfold Go.Conc.woken;rw[if_pos hc,o]
    rw[this]
    exact .inr ⟨hg,f,e,.inl rfl⟩
   .have:Go.Conc.woken c.P y y' w' x=x:=by unfold Go.Conc.woken;rw[if_neg hc]
    rw[this]
    refine .inr ⟨hg,f,e,.inr ⟨k,n,?_⟩⟩
    rcases hw with ⟨a,b,d⟩|hw
    .simp[a,b,d] at hc
    .omega
theorem Lg {x:Goroutine}{s s':Sh}(g:x.offers=none)(h:x.status= .running\/(x.status= .blocked/\p0= .reg/\s.ws=0)){y y':Goroutine}{w':World}(k:0<=s'.ws)
  (hw:(mayWake c.P y=true/\y'.status≠ .blocked/\y'.status≠ .waiting)\/s'.ws<=s.ws):
  {woken c.P y y' w' x with status:=.running}=({x with status:=.running}:Goroutine)/\((woken c.P y y' w' x).status= .running\/((woken c.P y y' w' x).status= .blocked/\p0= .reg/\s'.ws=0)):=by
 rcases h with e|⟨f,i,l⟩
 .rw[woken_run e];exact ⟨rfl,.inl e⟩
 .have j:x.again w'={x with status:=.running}:=by
   unfold Goroutine.again
   simp only[f,g]
  by_cases hc:(mayWake c.P y&&y'.status != .blocked&&y'.status != .waiting)=true
  .have:Go.Conc.woken c.P y y' w' x={x with status:=.running}:=by unfold Go.Conc.woken;rw[if_pos hc,j]
   rw[this]
   exact ⟨rfl,.inl rfl⟩
  .have:Go.Conc.woken c.P y y' w' x=x:=by unfold Go.Conc.woken;rw[if_neg hc]
   rw[this]
   refine ⟨rfl,.inr ⟨f,i,?_⟩⟩
   rcases hw with ⟨a,b,d⟩|hw
   .simp[a,b,d] at hc
   .omega
theorem ee.kL (h:ee c B0 bJ p0 d0 k g Fr gs w t ρ φ s){j:Nat}{x d:Goroutine}{w':World}{es:Array Event}{fn:FuncId}{pos:String}{ρ':Nat->Rk}{φ':Nat->Ph}{dz:Nat->af}{s':Sh}(X:0<j)(D:gs[j]?=some x)
  (v:(mayWake c.P x=true/\d.status≠ .blocked/\d.status≠ .waiting)\/(s'.ms<=s.ms/\s'.ws<=s.ws))
  (A:∀a,a≠j->ρ' a=ρ a) (u:∀i,c.base+i≠j->φ' i=φ i) (B:∀i,c.base+i≠j->dz (i+1)=Fr (i+1)) (E:dz 0=Fr 0)
  (hold:j<c.base->∃q,ρ' j=Rk.nat q/\QuitsD c.P q (Deaf (t++MemOp.ofEvents j fn pos es) j) d)
  (o:∀i,j=c.base+i->i<k->p9 c i (ρ' j) d (dz (i+1)) (φ' i) s'/\Deaf (t++MemOp.ofEvents j fn pos es) j=(φ' i).deaf/\((φ' i).gp≠ .cnt->∃r,gI c (t++MemOp.ofEvents j fn pos es) j r)/\∀b∈keys (dz (i+1)).own,B0<=b)
  (F:dZ c k dz w') (G:cQ c w' s') (hinv:Inv c.n c.bs k φ' p0 s') (H:eO c bJ k dz w'.heap.size (t++MemOp.ofEvents j fn pos es)) (I:w.heap.size<=w'.heap.size):
  ee c B0 bJ p0 d0 k g dz ((gs.map (woken c.P x d w')).setIfInBounds j d) w' (t++MemOp.ofEvents j fn pos es) ρ' φ' s':=by
 have J:j<gs.size:=(Array.getElem?_eq_some_iff.1 D).1
 have hu:∀op∈MemOp.ofEvents j fn pos es,op.g=j:=fun op K=>by obtain ⟨e,_,rfl⟩:=Go.Conc.mem_ofEvents K;rfl
 have other:∀a,a≠j->∀y,((gs.map (woken c.P x d w')).setIfInBounds j d)[a]?=some y->∃z,gs[a]?=some z/\y=woken c.P x d w' z:=fun a aL y m=>by
  rw[Array.getElem?_setIfInBounds_ne (Ne.symm aL),Array.getElem?_map] at m
  obtain ⟨z,f,rfl⟩:=Option.map_eq_some_iff.1 m
  exact ⟨z,f,rfl⟩
 have at_:∀a z,a≠j->gs[a]?=some z->((gs.map (woken c.P x d w')).setIfInBounds j d)[a]?=some (woken c.P x d w' z):=fun a z aL f=>by
  rw[Array.getElem?_setIfInBounds_ne (Ne.symm aL),Array.getElem?_map,f];rfl
 have self:((gs.map (woken c.P x d w')).setIfInBounds j d)[j]?=some d:=Array.getElem?_setIfInBounds_self_of_lt (by simpa using J)
 have p:∀a,a≠j->Deaf (t++MemOp.ofEvents j fn pos es) a=Deaf t a:=fun a aL=>Deaf_other t (Ne.symm aL) _ hu
 have L:(mayWake c.P x=true/\d.status≠ .blocked/\d.status≠ .waiting)\/s'.ms<=s.ms:=v.imp id And.left
 have M:(mayWake c.P x=true/\d.status≠ .blocked/\d.status≠ .waiting)\/s'.ws<=s.ws:=v.imp id And.right
 refine ⟨by simpa using h.size,h.base,h.run,h.off,?_,fun a y N hb m=>?_,fun i hi=>?_,fun i hi=>?_,fun a O=>?_,?_,F,G,hinv,H,fun i hi hg=>?_,fun l Q=>by rw[E];exact h.apart l Q,h.low,fun i hi b hb=>?_,Nat.le_trans h.jV I,h.ne⟩
 .obtain ⟨z,f,e,R⟩:=h.g0
  have S:z.offers=none:=by have:=h.off;rw[<-e] at this;exact this
  obtain ⟨T,U⟩:=Lg (c:=c) (p0:=p0) (s':=s') (y:=x) (y':=d) (w':=w') S R hinv.Lf M
  exact ⟨_,at_ 0 z aa f,T.trans e,U⟩
 .by_cases aL:a=j
  .subst aL
   rw[self] at m
   cases m
   exact hold hb
  .obtain ⟨z,f,rfl⟩:=other a aL y m
   obtain ⟨q,V,C⟩:=h.old a z N hb f
   exact ⟨q,by rw[A a aL];exact V,by rw[woken_quitsD C,p a aL];exact C⟩
 .by_cases aL:c.base+i=j
  .subst aL
   exact ⟨d,self,(o i rfl hi).1⟩
  .obtain ⟨z,f,hW⟩:=h.wk i hi
   refine ⟨_,at_ _ z aL f,?_⟩
   rw[A _ aL,u i aL,B i aL]
   exact hW.woken hinv.DX L
 .by_cases aL:c.base+i=j
  .subst aL;exact (o i rfl hi).2.1
  .rw[p _ aL,u i aL];exact h.deaf i hi
 .have:gs.size<=a:=by simpa using O
  rw[p a aa]
  exact h.above a this
 .rw[p 0 aa];exact h.deaf0
 .by_cases aL:c.base+i=j
  .subst aL;exact (o i rfl hi).2.2.1 hg
  .rw[u i aL] at hg
   obtain ⟨r,W⟩:=h.rel i hi hg
   exact ⟨r,W.other (Ne.symm aL) hu⟩
 .by_cases aL:c.base+i=j
  .exact (o i aL.symm hi).2.2.2 b hb
  .rw[B i aL] at hb;exact h.jU i hi b hb
end
end Go.Sep
end
section
namespace Go.Sep
open Go Go.Conc
open Go.ConcN (sumTo upd upd_ne upd_same sumTo_congr sumTo_upd)
open Go.ConcM (MuAt muA msA muBlock OsLater)
open Go.ConcR (WgAt wgBlock stA smA)
def mK (x:Option Goroutine):Nat:=match x with
 |some x=>if x.status= .running then 1 else 0
 |none=>0
def runs (gs:Array Goroutine):Nat:=sumTo gs.size fun j=>mK gs[j]?
theorem DY {gs:Array Goroutine}{j:Nat}{x y:Goroutine}(c:gs[j]?=some x)(f:x.status= .running)(g:y.status≠ .running):runs (gs.setIfInBounds j y)<runs gs:=by
 have d:j<gs.size:=(Array.getElem?_eq_some_iff.1 c).1;have h:=sumTo_upd (fun a=>mK gs[a]?) (0:Nat) id d;simp only[id] at h;have e:runs (gs.setIfInBounds j y)=sumTo gs.size (upd (fun a=>mK gs[a]?) j 0):=by
  unfold runs;rw[Array.size_setIfInBounds];refine sumTo_congr fun a k=>?_;by_cases b:a=j
  .subst b;rw[upd_same,Array.getElem?_setIfInBounds_self_of_lt d];simp[mK,g]
  .rw[upd_ne _ _ b,Array.getElem?_setIfInBounds_ne (Ne.symm b)]
 have i:mK gs[j]?=1:=by rw[c];simp[mK,f]
 rw[e];unfold runs;simp only[i] at h;have:sumTo gs.size (fun a=>upd (fun a=>mK gs[a]?) j 0 a)=sumTo gs.size (upd (fun a=>mK gs[a]?) j 0):=rfl;omega
theorem jq.up {c:Cy}{i:Nat}{r:Rk}{g:Goroutine}{F:af}{ph:Ph}(h:jq c i r g F ph)(hg:ph.gp≠ .gone):g.status= .running/\g.offers=none:=by
 cases r with
 |mk ι f=>
  rcases h with h|h|h
  .exact absurd h.1 hg
  .exact ⟨h.1,h.2.1⟩
  .exact ⟨h.1,h.2.1⟩
theorem jq.left {c:Cy}{i:Nat}{r:Rk}{g:Goroutine}{F:af}{ph:Ph}(h:jq c i r g F ph)(hg:ph.gp= .gone):∃q,r=Rk.nat q/\QuitsD c.P q ph.deaf g:=by
 cases r with
 |mk ι f=>
  rcases h with h|h|h
  .exact h.2
  .rw[hg] at h;cases h.2.2.1
  .exact absurd hg h.2.2.1
theorem jq.zw {c:Cy}{i:Nat}{r:Rk}{g:Goroutine}{F:af}{ph:Ph}(h:jq c i r g F ph)(s:Sh):p9 c i r g F ph s/\g.status≠ .blocked/\g.status≠ .waiting:=by
 by_cases hg:ph.gp= .gone
 .obtain ⟨q,d,b⟩:=h.left hg;refine ⟨.inl ⟨hg,q,d,b⟩,?_,?_⟩<;>rcases b.status with e|e<;>rw[e]<;>simp
 .obtain ⟨a,f⟩:=h.up hg;refine ⟨.inr ⟨hg,?_,f,.inl a⟩,by rw[a];simp,by rw[a];simp⟩;have:({g with status:=.running}:Goroutine)=g:=by cases g;simp_all
  rw[this];exact h
section
variable {c:Cy}{B0:Nat}{bJ:Loc->Prop}{p0:P0}{d0 k:Nat}{g:Goroutine}{Fr:Nat->af}{gs:Array Goroutine}{w:World}{t u:Trace}{ρ:Nat->Rk}{φ:Nat->Ph}{s:Sh}
theorem eO.still {B:Nat}(h:eO c bJ k Fr B t)(s:∀op∈u,op.act.touch?=none)(e:∀op∈u,op.act.low B)(v:∀op∈u,op.act≠ .mark (.release (stA c.Wg))){gg:Nat}(hu:∀op∈u,op.g=gg):eO c bJ k Fr B (t++u):=by
 have f:∀op∈u,∀b,op.act.touch?=some b->False:=fun op d b hb=>by rw[s op d] at hb;cases hb
 have old:∀{i:Nat} {a:Touch},touchAt (t++u) i=some a->touchAt t i=some a/\i<t.size:=by
  intro i a o;obtain ⟨z,m,r⟩:=touch_of o;rcases getElem?_append_cases m with ⟨hi,w⟩|⟨_,x⟩
  .exact ⟨by rw[touchAt_of w];exact r,hi⟩
  .exact (f z x a r).elim
 refine ⟨by have:=h.len;simp;omega,DW h.quiet fun op d b hb _=>(f op d b hb).elim,fun said=>noRace_append (g:=gg) (h.nr said) hu fun i a _ op d b hb _=>(f op d b hb).elim,fun q p l e=>(h.own q p l e).app fun op d b hb _=>(f op d b hb).elim,fun q p l e=>(h.ro q p l e).app fun op d b hb _ _=>(f op d b hb).elim,
  fun i hi l e=>(h.vp i hi l e).app fun op d b hb _=>(f op d b hb).elim,fun i hi l e=>(h.vq i hi l e).app fun op d b hb _=>(f op d b hb).elim,fun op d=>(Array.mem_append.1 d).elim (h.low op) (e op),vt h.norel v,fun i a o hm=>?_,fun i g hg y hc=>?_⟩
 .obtain ⟨A,hi⟩:=old o;rcases h.known i a A hm with z|z|⟨j,n,z⟩
  .exact .inl (z.app _)
  .exact .inr (.inl z)
  .exact .inr (.inr ⟨j,n,by rw[g?_old hi];exact z⟩)
 .have C:=hc;obtain ⟨z,m,_⟩:=hc;obtain ⟨_,hi⟩:=old (show touchAt _ i=some z from m);rcases h.over i g (by rw[<-g?_old (u:=u) hi];exact hg) y ((counts_old hi).1 C) with ⟨j,n,y'⟩|y'
  .have D:j<t.size:=by
    unfold Trace.g? at n;obtain ⟨z,m,_⟩:=Option.map_eq_some_iff.1 n;exact lt_size_of_getElem? m
   exact .inl ⟨j,by rw[g?_old D];exact n,hb_app _ y'⟩
  .exact .inr y'
theorem eO.mute {B:Nat}(h:eO c bJ k Fr B t){j:Nat}{fn:FuncId}{pos:String}{es:Array Event}(hm:∀e∈es,e.mute=true):eO c bJ k Fr B (t++MemOp.ofEvents j fn pos es):=by
 refine h.still (gg:=j) (fun op a=>?_) (fun op a=>?_) (fun op a=>?_) (fun op a=>?_)<;>obtain ⟨e,he,rfl⟩:=Go.Conc.mem_ofEvents a
 .exact touch_mute (hm e he)
 .exact low_mute (hm e he) B
 .have:=hm e he;obtain ⟨loc,wr,sy⟩:=e;cases loc with
  |mark m=>cases m<;>simp_all [Event.mute,MemAct.ofEvent]
  |_=>simp_all [Event.mute]
 .rfl
theorem Inv.deaf {n:Nat}{bs:Nat->Bool}(h:Inv n bs k φ p0 s){i:Nat}(hi:i<n)(hg:(φ i).gp≠ .new)(d:Nat):Inv n bs k (upd φ i {φ i with deaf:=d}) p0 s:=by
 obtain ⟨C,S,W,L,m,hm⟩:=h.m;refine ⟨⟨C,S,W,L,m,oq hm hi _ (.inl rfl)⟩,vo h.w hi _ (.inl rfl),h.i.len,h.i.kn,fun j a=>?_,fun j a=>?_,fun j a b=>?_,fun j a c f=>?_⟩<;>by_cases e:j=i
 .subst e;rw[upd_same];exact h.i.all j a
 .rw[upd_ne _ _ e];exact h.i.all j a
 .subst e;rw[upd_same];exact h.i.born j a
 .rw[upd_ne _ _ e];exact h.i.born j a
 .subst e;rw[upd_same] at b;exact absurd b hg
 .rw[upd_ne _ _ e] at b ⊢;exact h.i.new j a b
 .subst e;rw[upd_same] at c f ⊢;exact h.i.done j a c f
 .rw[upd_ne _ _ e] at c f ⊢;exact h.i.done j a c f
theorem cQ.keep {w w':World}(h:cQ c w s)(he:∀b,c.shared b->w'.heap[b]?=w.heap[b]?):cQ c w' s:=by
 obtain ⟨a,d,e⟩:=h;refine ⟨?_,?_,?_⟩
 .unfold MuAt at*;rw[he _ (.inl rfl)];exact a
 .unfold WgAt at*;rw[he _ (.inr (.inl rfl))];exact d
 .rw[he _ (.inr (.inr rfl))];exact e
theorem dZ.walk (h:dZ c k Fr w){p:Nat}(n:p<=k){F':af}{w':World}(hu:eA (Fr p) F' w w')(s:Has F' w'):dZ c k (upd Fr p F') w':=by
 have keep:∀b,b<w.heap.size->b∉keys (Fr p).own->w'.heap[b]?=w.heap[b]?:=hu.frame;have i:∀q,q≠p->(upd Fr p F') q=Fr q:=fun q d=>upd_ne _ _ d;have self:(upd Fr p F') p=F':=upd_same _ _ _;refine ⟨fun q d=>?_,fun q r d f aL b hb j=>?_,fun q r d f aL a g hb=>?_,fun q d b hb hs=>?_,fun q d a g hs=>?_,fun b hb=>Nat.lt_of_lt_of_le (h.g6 b hb) hu.size⟩
 .by_cases e:q=p
  .subst e;rw[self];exact s
  .rw[i q e];have l:=h.has q d
   exact ⟨fun a v f=>by
    have:=l.ro a v f;unfold World.cell? at this ⊢;rw[keep _ (l.iB (a:=a) (by rw[f];rfl)) (fun hm=>h.ro q p d n e a (by rw[f];rfl) hm)]
    exact this,fun b o hb=>by rw[keep b (l.lt (fD hb)) (fun hm=>h.own q p d n e b (fD hb) hm)];exact l.own b o hb,l.nodup,l.apart⟩
 .by_cases eq:q=p
  .subst eq;rw[self] at hb;rw[i r (Ne.symm aL)] at j;rcases hu.own b hb with x|x
   .exact h.own q r d f aL b x j
   .have:=(h.has r f).lt j;omega
  .rw[i q eq] at hb;by_cases m:r=p
   .subst m;rw[self] at j;rcases hu.own b j with x|x
    .exact h.own q r d f aL b hb x
    .have:=(h.has q d).lt hb;omega
   .rw[i r m] at j;exact h.own q r d f aL b hb j
 .by_cases eq:q=p
  .subst eq;rw[self] at g;rw[i r (Ne.symm aL)] at hb;rcases hu.ro a g with x|x|x
   .exact h.ro q r d f aL a x hb
   .exact h.own q r d f aL _ x hb
   .have:=(h.has r f).lt hb;omega
  .rw[i q eq] at g;by_cases m:r=p
   .subst m;rw[self] at hb;rcases hu.own _ hb with x|x
    .exact h.ro q r d f aL a g x
    .have:=(h.has q d).iB g;omega
   .rw[i r m] at hb;exact h.ro q r d f aL a g hb
 .by_cases e:q=p
  .subst e;rw[self] at hb;rcases hu.own b hb with x|x
   .exact h.iu q d b x hs
   .have:=h.g6 b hs;omega
  .rw[i q e] at hb;exact h.iu q d b hb hs
 .by_cases e:q=p
  .subst e;rw[self] at g;rcases hu.ro a g with x|x|x
   .exact h.jT q d a x hs
   .exact h.iu q d _ x hs
   .have:=h.g6 _ hs;omega
  .rw[i q e] at g;exact h.jT q d a g hs
theorem dZ.act (h:dZ c k Fr w){p:Nat}(t:p<=k){F':af}{w':World}(he:iV c w w')(hle:Le F' (Fr p)):dZ c k (upd Fr p F') w':=by
 have m:∀q,q<=k->Has (Fr q) w':=fun q d=>by
  have j:=h.has q d
  exact ⟨fun a v g=>by
   have:=j.ro a v g;unfold World.cell? at this ⊢;rw[he.block _ (h.jT q d a (by rw[g];rfl))]
   exact this,fun b o hb=>by rw[he.block b (h.iu q d b (fD hb))];exact j.own b o hb,j.nodup,j.apart⟩
 have l:∀q,q≠p->(upd Fr p F') q=Fr q:=fun q d=>upd_ne _ _ d;have self:(upd Fr p F') p=F':=upd_same _ _ _;have i:∀q b,b∈keys ((upd Fr p F') q).own->b∈keys (Fr q).own:=fun q b hb=>by
  by_cases e:q=p
  .subst e;rw[self] at hb;exact hle.own b hb
  .rw[l q e] at hb;exact hb
 have n:∀q a,(((upd Fr p F') q).ro a).isSome=true->((Fr q).ro a).isSome=true\/a.block∈keys (Fr q).own:=fun q a f=>by
  by_cases e:q=p
  .subst e;rw[self] at f;exact hle.ro a f
  .rw[l q e] at f;exact .inl f
 refine ⟨fun q d=>?_,fun q r d g aL b hb s=>h.own q r d g aL b (i q b hb) (i r b s),fun q r d g aL a f hb=>(n q a f).elim (fun x=>h.ro q r d g aL a x (i r _ hb)) (fun x=>h.own q r d g aL _ x (i r _ hb)),
  fun q d b hb hs=>h.iu q d b (i q b hb) hs,fun q d a f hs=>(n q a f).elim (fun x=>h.jT q d a x hs) (fun x=>h.iu q d _ x hs),fun b hb=>by rw[he.size];exact h.g6 b hb⟩
 by_cases e:q=p
 .subst e;rw[self];exact hle.has _ (m q d)
 .rw[l q e];exact m q d
theorem dZ.at (h:dZ c k Fr w)(d:Nat):dZ c k Fr (w.at d):=⟨fun p a=>(h.has p a).at d,h.own,h.ro,h.iu,h.jT,h.g6⟩
theorem ee.at (h:ee c B0 bJ p0 d0 k g Fr gs w t ρ φ s)(d:Nat):ee c B0 bJ p0 d0 k g Fr gs (w.at d) t ρ φ s:=
 ⟨h.size,h.base,h.run,h.off,h.g0,h.old,h.wk,h.deaf,h.above,h.deaf0,h.parts.at d,h.sh,h.inv,h.iw,h.rel,h.apart,h.low,h.jU,h.jV,h.ne⟩
theorem mL {F:af}{w w':World}(g:Has F w)(h:w.heap.size<=w'.heap.size){e:Event}(he:jx F.ro (iA F w.heap.size w'.heap.size) e)(p:Nat):
  (∀x,(MemAct.ofEvent e).touch?=some x->vr c F w.heap.size p x)/\(MemAct.ofEvent e).low w'.heap.size/\MemAct.ofEvent e≠ .mark (.release (stA c.Wg))/\e.loc≠ .mark .disable/\e.loc≠ .mark .enable:=by
 have hm:∀b,iA F w.heap.size w'.heap.size b->b<w'.heap.size:=fun b hb=>hb.elim (fun x=>Nat.lt_of_lt_of_le (g.lt x) h) (fun x=>x.2)
 rcases he with ⟨a,wr,rfl,d⟩|⟨r,wr,rfl,d⟩|⟨m,rfl,i⟩
 .refine ⟨fun x f=>?_,?_,by cases wr<;>simp[MemAct.ofEvent],au,au⟩
  .have e1:x=⟨.cell a,wr,.plain⟩:=by cases wr<;>simp[MemAct.ofEvent,MemAct.touch?] at f<;>rw[<-f]
   subst e1
   rcases d with (d|d)|⟨hw,d⟩
   .exact .inl d
   .exact .inr (.inl d.1)
   .exact .inr (.inr (.inl ⟨⟨a,rfl,d⟩,hw⟩))
  .have:a.block<w'.heap.size:=d.elim (hm _) fun x=>Nat.lt_of_lt_of_le (g.iB x.2) h
   cases wr<;>exact this
 .refine ⟨fun x f=>?_,?_,by cases wr<;>simp[MemAct.ofEvent],au,au⟩
  .have e1:x=⟨.obj r,wr,.plain⟩:=by cases wr<;>simp[MemAct.ofEvent,MemAct.touch?] at f<;>rw[<-f]
   subst e1
   rcases d with d|d
   .exact .inl d
   .exact .inr (.inl d.1)
  .have:=hm _ d
   cases wr<;>exact this
 .cases m<;>simp[qo] at i<;>exact ⟨fun x d=>by simp[MemAct.ofEvent,MemAct.touch?] at d,trivial,by simp[MemAct.ofEvent],au,au⟩
theorem Lh {i:Nat}{ph aU:Ph}{es:Array Event}(h:EvA c i ph aU es)(F:af)(B:Nat)(f:∀b,c.shared b->b<B):∀e∈es,
  (∀x,(MemAct.ofEvent e).touch?=some x->vr c F B (i+1) x)/\(MemAct.ofEvent e).low B/\MemAct.ofEvent e≠ .mark (.release (stA c.Wg)):=by
 intro e he
 cases h with
 |book h hd ht hg=>
  rcases h e he with rfl|rfl|⟨a,x,rfl,k⟩
  .exact ⟨fun x d=>by simp[c5,MemAct.ofEvent,MemAct.touch?] at d,trivial,by simp[c5,MemAct.ofEvent]⟩
  .exact ⟨fun x d=>by simp[c5,MemAct.ofEvent,MemAct.touch?] at d,trivial,by simp[c5,MemAct.ofEvent]⟩
  .refine ⟨fun y g=>?_,?_,by cases x<;>simp[MemAct.ofEvent]⟩
   .have:y=⟨.cell a,x,.atomic⟩:=by cases x<;>simp[MemAct.ofEvent,MemAct.touch?] at g<;>rw[<-g]
    subst this
    exact .inr (.inr (.inr (.inl ⟨⟨a,rfl,k.elim .inr fun z=>.inl z.1⟩,au,au⟩)))
   .have:a.block<B:=f _ (k.elim (fun z=>.inr (.inl z)) fun z=>.inl z.1)
    cases x<;>exact this
 |word m j hm hd hg=>
  rw[j] at he
  simp only[List.mem_toArray,List.mem_singleton] at he
  subst he
  rcases hm with rfl|rfl
  .exact ⟨fun x d=>by simp[c5,MemAct.ofEvent,MemAct.touch?] at d,f _ (.inl rfl),by simp[c5,MemAct.ofEvent]⟩
  .exact ⟨fun x d=>by simp[c5,MemAct.ofEvent,MemAct.touch?] at d,f _ (.inl rfl),by simp[c5,MemAct.ofEvent]⟩
 |store j hd hg=>
  rw[j] at he
  simp only[List.mem_toArray,List.mem_singleton] at he
  subst he
  refine ⟨fun y g=>?_,f _ (.inr (.inr rfl)),by simp[MemAct.ofEvent]⟩
  have:y=⟨.cell ⟨c.Is,i,none⟩,true,.plain⟩:=by simp[MemAct.ofEvent,MemAct.touch?] at g;rw[<-g]
  subst this
  exact .inr (.inr (.inr (.inr (.inl ⟨i,rfl,rfl⟩))))
 |rel j hd hg=>
  rw[j] at he
  simp only[List.mem_toArray,List.mem_singleton] at he
  subst he
  exact ⟨fun x d=>by simp[c5,MemAct.ofEvent,MemAct.touch?] at d,f _ (.inr (.inl rfl)),by simp[c5,MemAct.ofEvent]⟩
theorem Li {i:Nat}{ph aU:Ph}{es:Array Event}(h:EvA c i ph aU es):deafBehind ph.deaf es=aU.deaf:=by
 cases h with
 |book h hd ht hg=>exact hd
 |word m a hm hd hg=>rw[a,hd];rcases hm with rfl|rfl<;>simp[c5,deafBehind]
 |store a hd hg=>rw[a,hd];simp[deafBehind]
 |rel a hd hg=>rw[a,hd.2,hd.1];simp[c5,deafBehind]
theorem Lj (d:Nat)(es:Array Event)(n:Nat)(h:n<=es.size){fn:FuncId}{pos:String}{j:Nat}(t:Trace)(hd:Deaf t j=d):(t++MemOp.ofEvents j fn pos es).deaf j (t.size+n)=deafBehind d (es.extract 0 n):=by
 have e1:es=es.extract 0 n++es.extract n es.size:=by simp[Array.extract_append_extract,h]
 have e2:MemOp.ofEvents j fn pos es=MemOp.ofEvents j fn pos (es.extract 0 n)++MemOp.ofEvents j fn pos (es.extract n es.size):=by
  rw[Go.Conc.ofEvents_eq,Go.Conc.ofEvents_eq,Go.Conc.ofEvents_eq,<-Array.map_append,<-e1]
 rw[e2,<-Array.append_assoc];have hs:(t++MemOp.ofEvents j fn pos (es.extract 0 n)).size=t.size+n:=by rw[Go.Conc.ofEvents_eq];simp;omega
 rw[<-hs,deaf_old (Nat.le_refl _)];have:=Deaf_own t j fn pos (es.extract 0 n);unfold Deaf at this;rw[this];exact congrArg (fun d=>deafBehind d _) hd
theorem Ll {i j:Nat}{ph aU:Ph}{es:Array Event}{fn:FuncId}{pos:String}(hlen:c.T0<=t.size)(h:EvA c i ph aU es)(hd:Deaf t j=ph.deaf)(k:ph.gp≠ .cnt->∃r,gI c t j r)(l:aU.gp≠ .cnt):∃r,gI c (t++MemOp.ofEvents j fn pos es) j r:=by
 cases h with
 |book h d ht hg=>
  have o:ph.gp≠ .cnt:=fun e=>l (hg.2 e);obtain ⟨r,k⟩:=k o;refine ⟨r,k.app fun idx x hi p n=>?_⟩;obtain ⟨z,f,b⟩:=touch_of n;have s:(MemOp.ofEvents j fn pos es)[idx - t.size]?=some z:=by rw[Array.getElem?_append_right hi] at f;exact f
  rw[Go.Conc.ofEvents_eq,Array.getElem?_map] at s;obtain ⟨e,he,rfl⟩:=Option.map_eq_some_iff.1 s;have u:idx - t.size<es.size:=(Array.getElem?_eq_some_iff.1 he).1;rcases ht _ e he with q|q
  .simp only at b;rw[q] at b;cases b
  rcases h e (Array.mem_of_getElem? he) with rfl|rfl|⟨a,y,rfl,v⟩
  .simp[c5,MemAct.ofEvent,MemAct.touch?] at b
  .simp[c5,MemAct.ofEvent,MemAct.touch?] at b
  .have:x=⟨.cell a,y,.atomic⟩:=by cases y<;>simp[MemAct.ofEvent,MemAct.touch?] at b<;>rw[<-b]
   subst this;refine ⟨rfl,?_,a,rfl,v.resolve_right fun z=>o z.2⟩;rintro ⟨g,hg,w⟩;have A:g=j:=by rw[p] at hg;exact (Option.some.inj hg).symm
   subst A;have e1:idx=t.size+(idx - t.size):=aa;rw[e1,Lj ph.deaf es (idx - t.size) (Nat.le_of_lt u) t hd] at w;omega
 |word m he hm d hg=>exact absurd hg.1 l
 |store he d hg=>exact absurd hg.1 l
 |rel he d hg=>
  refine ⟨t.size,?_⟩;have B:MemOp.ofEvents j fn pos es=#[{g:=j,fn:=fn,pos:=pos,act:=.mark (.releaseMerge (stA c.Wg))}]:=by rw[Go.Conc.ofEvents_eq,he];simp[c5,MemAct.ofEvent]
  rw[B];have C:(t++#[({g:=j,fn:=fn,pos:=pos,act:=.mark (.releaseMerge (stA c.Wg))}:MemOp)])[t.size]?=some {g:=j,fn:=fn,pos:=pos,act:=.mark (.releaseMerge (stA c.Wg))}:=by
   rw[Array.getElem?_append_right (Nat.le_refl _)];simp
  refine ⟨hlen,act?_of C,by simp[Trace.g?],⟨j,by simp[Trace.g?],by rw[deaf_old (Nat.le_refl _)];exact hd.trans d.1⟩,fun idx x hi p n=>?_⟩;obtain ⟨z,f,_⟩:=touch_of n;have:=lt_size_of_getElem? f;simp at this;omega
end
section
variable {c:Cy}{B0:Nat}{bJ:Loc->Prop}{p0:P0}{d0 k:Nat}{g:Goroutine}{Fr:Nat->af}{gs:Array Goroutine}{w:World}{t u:Trace}{ρ:Nat->Rk}{φ:Nat->Ph}{s:Sh}
theorem dV.at_ (F:af)(w:World)(d:Nat):dV c B0 F F w (w.at d):=⟨.refl _,rfl,rfl,Nat.le_refl _,fun _ _ _ _=>rfl,fun _ h=>.inl h,fun _ h=>.inl h⟩
structure Lm (c:Cy)(B0:Nat)(bJ:Loc->Prop)(p0:P0)(d0 k:Nat)(g:Goroutine)(Fr:Nat->af)(gs:Array Goroutine)(w:World)(t:Trace)(ρ:Nat->Rk)(m:Machine)(ops:Array MemOp)(sl:Option (Nat×Nat)):Prop where
 ex:∃(ck:Array Goroutine) (w':World) (ρ':Nat->Rk) (φ':Nat->Ph) (dz:Nat->af) (s':Sh),m=crowd ck w' sl/\ee c B0 bJ p0 d0 k g dz ck w' (t++ops) ρ' φ' s'/\
  ck.size=gs.size/\dz 0=Fr 0/\dV c B0 (Fr 0) (Fr 0) w w'/\AG gs.size (ρ',runs ck) (ρ,runs gs)
def mM (ρ:Nat->Rk)(j:Nat)(r:Rk)(a:Nat):Rk:=if a=j then r else ρ a
theorem qa (ρ:Nat->Rk)(j:Nat)(r:Rk):mM ρ j r j=r:=if_pos rfl
theorem ot (ρ:Nat->Rk)(r:Rk){a j:Nat}(h:a≠j):mM ρ j r a=ρ a:=if_neg h
theorem vu {n j:Nat}{ρ:Nat->Rk}{r:Rk}(a:j<n)(h:(ρ j).kids r):sS n (mM ρ j r) ρ:=⟨j,a,by rw[qa];exact h,fun _ aL=>ot _ _ aL⟩
theorem ee.other (h:ee c B0 bJ p0 d0 k g Fr gs w t ρ φ s){j:Nat}{x:Goroutine}(K:0<j)(B:gs[j]?=some x)(F:x.status= .running)(sl:Option (Nat×Nat)):
  ∃m ops,runT c.P (crowd gs w sl) j=(.next m,ops)/\Lm c B0 bJ p0 d0 k g Fr gs w t ρ m ops sl:=by
 have O:j<gs.size:=(Array.getElem?_eq_some_iff.1 B).1
 have L:(j==0)=false:=by simp;omega
 rcases Nat.lt_or_ge j c.base with ad|ad
 ·
  obtain ⟨q,J,M⟩:=h.old j x K ad B
  cases q with
  |zero=>rw[M.1] at F;cases F
  |succ q=>
   rcases M with ⟨T,_⟩|⟨_,U,es,hm,G,V⟩
   .rw[T] at F;cases F
   have E:=runT_crowd_go (P:=c.P) (gs:=gs) (w:=w) (sl:=sl) (i:=j) B (by rw[L];exact G w)
   refine ⟨_,_,E,⟨_,w,mM ρ j (Rk.nat q),φ,Fr,s,rfl,?_,au,rfl,.refl _ _ _ _,.inl (vu O (by rw[J];exact Rk.AE q))⟩⟩
   refine h.kL K B (.inr ⟨Int.le_refl _,Int.le_refl _⟩) (fun W aL=>ot _ _ aL) (fun _ _=>rfl) (fun _ _=>rfl) rfl (fun _=>⟨q,qa _ _ _,by rw[Deaf_own];exact V⟩) (fun i e _=>aa) h.parts h.sh h.inv (h.iw.mute hm) (Nat.le_refl _)
 ·
  have bo:=h.size
  obtain ⟨i,rfl⟩:∃i,j=c.base+i:=⟨j - c.base,aa⟩
  have C:i<k:=aa
  have ae:i<c.n:=Nat.lt_of_lt_of_le C h.inv.i.kn
  obtain ⟨u,al,hW⟩:=h.wk i C
  obtain rfl:u=x:=by rw[B] at al;exact (Option.some.inj al).symm
  have aL:∀d,c.base+d≠c.base+i->d≠i:=fun d D e=>D (by rw[e])
  rcases hW with ⟨hg,q,J,M⟩|⟨hg,hK,ao,_⟩
  .cases q with
   |zero=>rw[M.1] at F;cases F
   |succ q=>
    rcases M with ⟨T,_⟩|⟨_,U,es,hm,G,V⟩
    .rw[T] at F;cases F
    have E:=runT_crowd_go (P:=c.P) (gs:=gs) (w:=w) (sl:=sl) (i:=c.base+i) B (by rw[L];exact G w)
    refine ⟨_,_,E,⟨_,w,mM ρ (c.base+i) (Rk.nat q),upd φ i {φ i with deaf:=deafBehind (φ i).deaf es},Fr,s,rfl,?_,au,rfl,.refl _ _ _ _,.inl (vu O (by rw[J];exact Rk.AE q))⟩⟩
    have hd:=h.deaf i C
    refine h.kL K B (.inr ⟨Int.le_refl _,Int.le_refl _⟩) (fun W aL=>ot _ _ aL) (fun d D=>upd_ne _ _ (aL d D)) (fun _ _=>rfl) rfl (fun D=>aa) (fun d e Q=>?_) h.parts h.sh (h.inv.deaf ae (by rw[hg];simp) _) (h.iw.mute hm) (Nat.le_refl _)
    obtain rfl:d=i:=aa
    rw[qa,upd_same]
    refine ⟨.inl ⟨hg,q,rfl,V⟩,by rw[Deaf_own,hd],fun hc=>?_,h.jU d C⟩
    obtain ⟨r,E⟩:=h.rel d C (by rw[hg];simp)
    refine ⟨r,E.app fun idx y hi br a5=>?_⟩
    obtain ⟨z,N,ar⟩:=touch_of a5
    rcases getElem?_append_cases N with ⟨Q,_⟩|⟨_,a6⟩
    .omega
    .obtain ⟨e,he,rfl⟩:=Go.Conc.mem_ofEvents a6
     rw[touch_mute (hm e he)] at ar;cases ar
  .have ex:({u with status:=.running}:Goroutine)=u:=by cases u;simp_all
   rw[ex] at hK
   cases R:ρ (c.base+i) with
   |mk ι f=>
    rw[R] at hK
    rcases hK with ⟨a7,_⟩|⟨_,_,a8,a9⟩|⟨_,_,_,a0⟩
    .exact absurd a7 hg
    ·
     obtain ⟨y,U,w',es,F',G,hu,ba,I,X⟩:=a9 w (h.parts.has (i+1) aa)
     have E:=runT_crowd_go (P:=c.P) (gs:=gs) (w:=w) (sl:=sl) (i:=c.base+i) B (by rw[L];exact G)
     have S:=h.parts.has (i+1) aa
     obtain ⟨Y,a2,a3⟩:=X.zw s
     have a4:∀b,b<w.heap.size->b∉keys (Fr (i+1)).own->w'.heap[b]?=w.heap[b]?:=hu.frame
     refine ⟨_,_,E,⟨_,w',mM ρ (c.base+i) (f y),φ,upd Fr (i+1) F',s,rfl,?_,au,upd_ne _ _ aa,?_,.inl (vu O (by rw[R];exact ⟨y,rfl⟩))⟩⟩
     .have bb:Deaf (t++MemOp.ofEvents (c.base+i) u.frame.fn u.frame.place es) (c.base+i)=(φ i).deaf:=by
       rw[Deaf_own,deafBehind_still (fun e he=>(mL (c:=c) S hu.size (I e he) 0).2.2.2)]
       exact h.deaf i C
      refine h.kL K B (.inr ⟨Int.le_refl _,Int.le_refl _⟩) (fun W aL=>ot _ _ aL) (fun _ _=>rfl) (fun d D=>upd_ne _ _ (by have:=aL d D;omega)) (upd_ne _ _ aa) (fun D=>aa) (fun d e Q=>?_) (h.parts.walk aa hu ba)
       (h.sh.keep fun b hb=>a4 b (h.parts.g6 b hb) (fun hm=>h.parts.iu (i+1) aa b hm hb)) h.inv ?_ hu.size
      .obtain rfl:d=i:=aa
       rw[qa,upd_same]
       refine ⟨Y,bb,fun hc=>absurd a8 hc,fun b hb=>?_⟩
       rcases hu.own b hb with z|z
       .exact h.jU d C b z
       .exact Nat.le_trans h.jV z
      .refine eO.app h.base ⟨h.ne.2.1,h.ne.2.2⟩ h.parts h.iw (p:=i+1) aa hu.size (fun op v=>?_) (fun op v z N=>?_) (fun op v=>?_) (fun op v=>?_) (fun q J=>upd_ne _ _ J) (fun l A=>?_) (fun l A=>?_)
       .obtain ⟨e,_,rfl⟩:=Go.Conc.mem_ofEvents v;rfl
       .obtain ⟨e,he,rfl⟩:=Go.Conc.mem_ofEvents v;exact (mL (c:=c) S hu.size (I e he) (i+1)).1 z N
       .obtain ⟨e,he,rfl⟩:=Go.Conc.mem_ofEvents v;exact (mL (c:=c) S hu.size (I e he) (i+1)).2.1
       .obtain ⟨e,he,rfl⟩:=Go.Conc.mem_ofEvents v;exact (mL (c:=c) S hu.size (I e he) (i+1)).2.2.1
       .rw[upd_same] at A
        cases l with
        |cell a=>exact hu.own _ A
        |obj r=>exact hu.own _ A
        |_=>exact A.elim
       .rw[upd_same] at A
        obtain ⟨a,rfl,Z⟩:=A
        rcases hu.ro a Z with z|z|z
        .exact .inl ⟨a,rfl,z⟩
        .exact .inr (.inl z)
        .exact .inr (.inr z)
     .exact ⟨by rw[hu.os];exact .refl _,hu.tape,hu.output,hu.size,fun b hb _ _=>a4 b (Nat.lt_of_lt_of_le hb h.jV) (fun hm=>by have:=h.jU i C b hm;omega),fun _ h=>.inl h,fun _ h=>.inl h⟩
    ·
     rcases a0 w s k φ p0 (h.parts.has (i+1) aa) h.sh ae rfl h.inv with ⟨bc,bd,G⟩|⟨y,U,w',es,s',aU,F',G,bj,H,hinv,I,bk,hle,X⟩
     ·
      have E:=runT_crowd_go (P:=c.P) (gs:=gs) (w:=w) (sl:=sl) (i:=c.base+i) B (by rw[L];exact G)
      have bl:gs.map (woken c.P u {u with status:=.blocked} w)=gs:=by
       have:woken c.P u {u with status:=.blocked} w=id:=by funext o;unfold Go.Conc.woken;simp
       rw[this,Array.map_id]
      refine ⟨_,_,E,⟨_,w,ρ,φ,Fr,s,rfl,?_,au,rfl,.refl _ _ _ _,.inr ⟨rfl,?_⟩⟩⟩
      .have he:t++MemOp.ofEvents (c.base+i) u.frame.fn u.frame.place #[]=t:=by simp[MemOp.ofEvents]
       refine h.kL K B (.inr ⟨Int.le_refl _,Int.le_refl _⟩) (fun _ _=>rfl) (fun _ _=>rfl) (fun _ _=>rfl) rfl (fun D=>aa) (fun d e Q=>?_) h.parts h.sh h.inv (by rw[he];exact h.iw) (Nat.le_refl _)
       obtain rfl:d=i:=aa
       rw[he]
       refine ⟨.inr ⟨hg,?_,ao,.inr ⟨rfl,bc,bd⟩⟩,h.deaf d C,fun hc=>h.rel d C hc,h.jU d C⟩
       have e2:({({u with status:=.blocked}:Goroutine) with status:=.running}:Goroutine)=u:=by cases u;simp_all
       rw[e2,R]
       exact .inr (.inr ⟨F,ao,hg,a0⟩)
      .rw[bl];exact DY B F au
     .have E:=runT_crowd_go (P:=c.P) (gs:=gs) (w:=w) (sl:=sl) (i:=c.base+i) B (by rw[L];exact G)
      obtain ⟨Y,a2,a3⟩:=X.zw s'
      have hd:=h.deaf i C
      have ab:=Lh I (Fr (i+1)) w.heap.size h.parts.g6
      refine ⟨_,_,E,⟨_,w',mM ρ (c.base+i) (f y),upd φ i aU,upd Fr (i+1) F',s',rfl,?_,au,upd_ne _ _ aa,?_,.inl (vu O (by rw[R];exact ⟨y,rfl⟩))⟩⟩
      .refine h.kL K B (bk.imp (fun z=>⟨z,a2,a3⟩) id) (fun W aL=>ot _ _ aL) (fun d D=>upd_ne _ _ (aL d D)) (fun d D=>upd_ne _ _ (by have:=aL d D;omega)) (upd_ne _ _ aa) (fun D=>aa) (fun d e Q=>?_) (h.parts.act aa H hle) bj hinv ?_ (by rw[H.size];exact Nat.le_refl _)
       .obtain rfl:d=i:=aa
        rw[qa,upd_same,upd_same]
        exact ⟨Y,by rw[Deaf_own,hd];exact Li I,fun hc=>Ll h.iw.len I hd (fun bm=>h.rel d C bm) hc,fun b hb=>h.jU d C b (hle.own b hb)⟩
       .refine eO.app h.base ⟨h.ne.2.1,h.ne.2.2⟩ h.parts h.iw (p:=i+1) aa (by rw[H.size];exact Nat.le_refl _) (fun op v=>?_) (fun op v z N=>?_) (fun op v=>?_) (fun op v=>?_) (fun q J=>upd_ne _ _ J) (fun l A=>?_) (fun l A=>?_)
        .obtain ⟨e,_,rfl⟩:=Go.Conc.mem_ofEvents v;rfl
        .obtain ⟨e,he,rfl⟩:=Go.Conc.mem_ofEvents v;exact (ab e he).1 z N
        .obtain ⟨e,he,rfl⟩:=Go.Conc.mem_ofEvents v;rw[H.size];exact (ab e he).2.1
        .obtain ⟨e,he,rfl⟩:=Go.Conc.mem_ofEvents v;exact (ab e he).2.2
        .rw[upd_same] at A
         refine .inl ?_
         cases l with
         |cell a=>exact hle.own _ A
         |obj r=>exact hle.own _ A
         |_=>exact A.elim
        .rw[upd_same] at A
         obtain ⟨a,rfl,Z⟩:=A
         rcases hle.ro a Z with z|z
         .exact .inl ⟨a,rfl,z⟩
         .exact .inr (.inl z)
      .exact ⟨H.os,H.tape,H.output,by rw[H.size];exact Nat.le_refl _,fun b _ _ hs=>H.block b hs,fun _ h=>.inl h,fun _ h=>.inl h⟩
theorem ee.awake (h:ee c B0 bJ p0 d0 k g Fr gs w t ρ φ s):∀x∈gs,awake x:=by
 intro x b;obtain ⟨j,l,rfl⟩:=Array.mem_iff_getElem.1 b;have b:=Array.getElem?_eq_getElem l;rcases Nat.eq_zero_or_pos j with rfl|m
 .obtain ⟨z,a,_,d⟩:=h.g0;obtain rfl:z=gs[0]:=by rw[b] at a;exact (Option.some.inj a).symm
  exact awake_of (d.imp id fun y=>.inl y.1)
 .rcases Nat.lt_or_ge j c.base with i|i
  .obtain ⟨q,_,f⟩:=h.old j _ m i b;exact awake_of (f.status.elim .inl fun y=>.inr (.inr y))
  .have n:=h.size;obtain ⟨z,a,hW⟩:=h.wk (j - c.base) aa;have e:c.base+(j - c.base)=j:=aa;rw[e] at a;obtain rfl:z=gs[j]:=by rw[b] at a;exact (Option.some.inj a).symm
   rcases hW with ⟨_,q,_,f⟩|⟨_,_,_,d⟩
   .exact awake_of (f.status.elim .inl fun y=>.inr (.inr y))
   .exact awake_of (d.imp id fun y=>.inl y.1)
theorem ee.pick (h:ee c B0 bJ p0 d0 k g Fr gs w t ρ φ s)(R:p0= .reg->k=c.n)(sl:Option (Nat×Nat))(S:p0= .reg->∀w s,cQ c w s->s.ws=0->stepG c.P true g w= .go {g with status:=.blocked} w #[]):
  ∃(N:Nat) (ck:Array Goroutine) (w':World) (a B:Option (Nat×Nat)) (e:Trace) (ρ':Nat->Rk) (φ':Nat->Ph) (dz:Nat->af) (s':Sh),
   runNT c.P N (crowd gs w sl) t=(.next (crowd ck w' a),e)/\(∃d,stepT c.P (crowd ck w' a)=runT c.P (crowd ck (w'.at d) B) 0)/\ee c B0 bJ p0 d0 k g dz ck w' e ρ' φ' s'/\ck[0]?=some g/\dz 0=Fr 0/\
   dV c B0 (Fr 0) (Fr 0) w w'/\(p0= .reg->s'.ws≠0):=by
 have key:∀(y:(Nat->Rk)×Nat),∀gs w t ρ φ s l sl,y=(ρ,runs gs)->l 0=Fr 0->ee c B0 bJ p0 d0 k g l gs w t ρ φ s->∀n,gs.size=n->n=c.base+k->
   ∃(N:Nat) (ck:Array Goroutine) (w':World) (a B:Option (Nat×Nat)) (e:Trace) (ρ':Nat->Rk) (φ':Nat->Ph) (dz:Nat->af) (s':Sh),
   runNT c.P N (crowd gs w sl) t=(.next (crowd ck w' a),e)/\(∃d,stepT c.P (crowd ck w' a)=runT c.P (crowd ck (w'.at d) B) 0)/\ee c B0 bJ p0 d0 k g dz ck w' e ρ' φ' s'/\ck[0]?=some g/\dz 0=Fr 0/\
   dV c B0 (Fr 0) (Fr 0) w w'/\(p0= .reg->s'.ws≠0):=by
  intro y
  induction (AH (c.base+k)).apply y with
  |intro y _ ih=>
   intro gs w t ρ φ s l sl p r h n C D
   subst p
   have T:∃(j:Nat) (x:Goroutine),gs[j]?=some x/\x.status= .running:=by
    obtain ⟨z,u,_,f⟩:=h.g0
    rcases f with q|⟨_,v,U⟩
    .exact ⟨0,z,u,q⟩
    .have V:=R v
     have hinv:=h.inv
     rw[v,V] at hinv
     obtain ⟨i,hi,hg,W⟩:=live hinv U
     obtain ⟨x,b,hW⟩:=h.wk i aa
     rcases hW with ⟨X,_⟩|⟨_,_,_,f⟩
     .exact absurd X hg
     .rcases f with q|⟨_,Y,Z⟩
      .exact ⟨_,x,b,q⟩
      .exact absurd Z (W Y)
   obtain ⟨j,x,d,a,b,q,f⟩:=crowd_pick (P:=c.P) (w:=w) (sl:=sl) h.awake T
   have hd:=h.at d
   rcases Nat.eq_zero_or_pos j with rfl|ab
   .obtain ⟨z,u,he,bc⟩:=h.g0
    obtain rfl:z=x:=by rw[b] at u;exact (Option.some.inj u).symm
    have M:z=g:=by rw[<-he];cases z;simp_all
    by_cases A:p0= .reg/\s.ws=0
    ·
     have ad:=S A.1 (w.at d) s h.sh A.2
     have ae:=runT_crowd_go (P:=c.P) (gs:=gs) (w:=w.at d) (sl:=a) (i:=0) b (by rw[M];exact ad)
     have al:gs.map (woken c.P z {g with status:=.blocked} (w.at d))=gs:=by
      have:woken c.P z {g with status:=.blocked} (w.at d)=id:=by funext o;unfold Go.Conc.woken;simp
      rw[this,Array.map_id]
     have ao:0<gs.size:=(Array.getElem?_eq_some_iff.1 b).1
     have ar:t++MemOp.ofEvents 0 z.frame.fn z.frame.place #[]=t:=by simp[MemOp.ofEvents]
     have a0:ee c B0 bJ p0 d0 k g l (gs.setIfInBounds 0 {g with status:=.blocked}) (w.at d) t ρ φ s:=by
      refine ⟨by simpa using hd.size,hd.base,hd.run,hd.off,⟨{g with status:=.blocked},Array.getElem?_setIfInBounds_self_of_lt ao,by have:=h.run;cases g;simp_all,.inr ⟨rfl,A⟩⟩,fun j y a2 hb p=>?_,fun i hi=>?_,hd.deaf,fun j a3=>hd.above j (by simpa using a3),hd.deaf0,hd.parts,hd.sh,hd.inv,hd.iw,hd.rel,hd.apart,hd.low,hd.jU,hd.jV,hd.ne⟩
      .rw[Array.getElem?_setIfInBounds_ne aa] at p
       exact hd.old j y a2 hb p
      .obtain ⟨y,p,hW⟩:=hd.wk i hi
       exact ⟨y,by rw[Array.getElem?_setIfInBounds_ne (by have:=h.base;omega)];exact p,hW⟩
     obtain ⟨N,ck,w',E,F,e,ρ',φ',dz,s',k1,G,H,I,J,K,L⟩:=ih (ρ,runs (gs.setIfInBounds 0 {g with status:=.blocked})) (.inr ⟨rfl,DY b q au⟩) _ _ _ _ _ _ l a rfl r a0 n (by simpa using C) D
     refine ⟨N+1,ck,w',E,F,e,ρ',φ',dz,s',?_,G,H,I,J,(dV.at_ _ _ _).trans K,L⟩
     simp only[runNT,f,ae]
     rw[al,ar]
     exact k1
    .refine ⟨0,gs,w,sl,a,t,ρ,φ,l,s,rfl,⟨d,f⟩,h,by rw[b,M],r,.refl _ _ _ _,fun v hs=>A ⟨v,hs⟩⟩
   .obtain ⟨m,ops,a4,⟨ck,w',ρ',φ',dz,s',rfl,a5,a6,a7,O,Q⟩⟩:=hd.other ab b q a
    rw[C,D] at Q
    obtain ⟨N,a8,w2,E,F,t2,a9,ba,bb,s2,k1,G,H,I,J,K,L⟩:=ih (ρ',runs ck) Q _ _ _ _ _ _ dz a rfl (a7.trans r) a5 n (a6.trans C) D
    refine ⟨N+1,a8,w2,E,F,t2,a9,ba,bb,s2,?_,G,H,I,J,?_,L⟩
    .simp only[runNT,f,a4]
     exact k1
    .rw[r] at O
     exact ((dV.at_ _ _ _).trans O).trans K
 exact key (ρ,runs gs) gs w t ρ φ s Fr sl rfl rfl h gs.size rfl h.size
theorem ee.sR (h:ee c B0 bJ p0 d0 k g Fr gs w t ρ φ s)(D:p0= .reg->k=c.n)(sl:Option (Nat×Nat)):
  ∃(N:Nat) (ck:Array Goroutine) (w':World) (a q:Option (Nat×Nat)) (e:Trace) (ρ':Nat->Rk) (φ':Nat->Ph) (dz:Nat->af) (s':Sh),
   runNT c.P N (crowd gs w sl) t=(.next (crowd ck w' a),e)/\(∃d,stepT c.P (crowd ck w' a)=runT c.P (crowd ck (w'.at d) q) 0)/\ee c B0 bJ p0 d0 k g dz ck w' e ρ' φ' s'/\ck[0]?=some g/\dz 0=Fr 0/\
   dV c B0 (Fr 0) (Fr 0) w w':=by
 have key:∀(y:(Nat->Rk)×Nat),∀gs w t ρ φ s o sl,y=(ρ,runs gs)->o 0=Fr 0->ee c B0 bJ p0 d0 k g o gs w t ρ φ s->∀n,gs.size=n->n=c.base+k->
   ∃(N:Nat) (ck:Array Goroutine) (w':World) (a q:Option (Nat×Nat)) (e:Trace) (ρ':Nat->Rk) (φ':Nat->Ph) (dz:Nat->af) (s':Sh),
   runNT c.P N (crowd gs w sl) t=(.next (crowd ck w' a),e)/\(∃d,stepT c.P (crowd ck w' a)=runT c.P (crowd ck (w'.at d) q) 0)/\ee c B0 bJ p0 d0 k g dz ck w' e ρ' φ' s'/\ck[0]?=some g/\dz 0=Fr 0/\
   dV c B0 (Fr 0) (Fr 0) w w':=by
  intro y
  induction (AH (c.base+k)).apply y with
  |intro y _ ih=>
   intro gs w t ρ φ s o sl E r h n u v
   subst E
   have F:∃(j:Nat) (x:Goroutine),gs[j]?=some x/\x.status= .running:=by
    obtain ⟨z,p,_,b⟩:=h.g0
    rcases b with f|⟨_,A,G⟩
    .exact ⟨0,z,p,f⟩
    .have H:=D A
     have hinv:=h.inv
     rw[A,H] at hinv
     obtain ⟨i,hi,hg,I⟩:=live hinv G
     obtain ⟨x,l,hW⟩:=h.wk i aa
     rcases hW with ⟨J,_⟩|⟨_,_,_,b⟩
     .exact absurd J hg
     .rcases b with f|⟨_,K,L⟩
      .exact ⟨_,x,l,f⟩
      .exact absurd L (I K)
   obtain ⟨j,x,d,a,l,f,b⟩:=crowd_pick (P:=c.P) (w:=w) (sl:=sl) h.awake F
   have hd:=h.at d
   rcases Nat.eq_zero_or_pos j with rfl|M
   .obtain ⟨z,p,he,ar⟩:=h.g0
    obtain rfl:z=x:=by rw[l] at p;exact (Option.some.inj p).symm
    have O:z=g:=by rw[<-he];cases z;simp_all
    exact ⟨0,gs,w,sl,a,t,ρ,φ,o,s,rfl,⟨d,b⟩,h,by rw[l,O],r,.refl _ _ _ _⟩
   .obtain ⟨m,ops,Q,⟨ck,w',ρ',φ',dz,s',rfl,R,S,T,B,C⟩⟩:=hd.other M l f a
    rw[u,v] at C
    obtain ⟨N,U,w2,V,W,t2,X,Y,Z,s2,k1,ab,ad,ae,al,ao⟩:=ih (ρ',runs ck) C _ _ _ _ _ _ dz a rfl (T.trans r) R n (S.trans u) v
    refine ⟨N+1,U,w2,V,W,t2,X,Y,Z,s2,?_,ab,ad,ae,al,?_⟩
    .simp only[runNT,b,Q]
     exact k1
    .rw[r] at B
     exact ((dV.at_ _ _ _).trans B).trans ao
 exact key (ρ,runs gs) gs w t ρ φ s Fr sl rfl rfl h gs.size rfl h.size
end
def eP (c:Cy)(B0:Nat)(Φ:Goroutine->af->Prop)(k:Nat)(p0:P0)(d0:Nat)(g:Goroutine)(F:af):Prop:=
 g.status= .running/\g.offers=none/\∀(bJ:Loc->Prop) (gs:Array Goroutine) (w:World) (sl:Option (Nat×Nat)) (t:Trace) (Fr:Nat->af) (ρ:Nat->Rk) (φ:Nat->Ph) (s:Sh),Fr 0=F->ee c B0 bJ p0 d0 k g Fr gs w t ρ φ s->
  (∀a,bJ (.cell a)->¬c.shared a.block)->(∀r,bJ (.obj r)->¬c.shared r)->
  ∃(N:Nat) (ck:Array Goroutine) (w':World) (e:Option (Nat×Nat)) (b:Trace) (f:Nat->Nat) (g':Goroutine) (F':af) (d:Loc->Prop),
   runNT c.P N (crowd gs w sl) t=(.next (crowd ck w' e),b)/\j3 c.P d g' F' ck w' b f/\dV c B0 F F' w w'/\(∀l,d l->bJ l\/∃a,l= .cell a/\a.block=c.Wg)/\Φ g' F'
structure Ev0 (c:Cy)(d0 fR:Nat)(es:Array Event):Prop where
 all:∀e∈es,e=c5 .disable\/e=c5 .enable\/∃a,a.block=c.Wg/\((∃x,e=⟨.cell a,x,true⟩)\/e=c5 (.read a)\/e=c5 (.write a))
 deaf:deafBehind d0 es=fR
theorem DZ {c:Cy}{d0 fR:Nat}{es:Array Event}(h:Ev0 c d0 fR es)(F:af)(B:Nat)(f:c.Wg<B):∀e∈es,
  (∀x,(MemAct.ofEvent e).touch?=some x->vr c F B 0 x)/\(MemAct.ofEvent e).low B/\MemAct.ofEvent e≠ .mark (.release (stA c.Wg)):=by
 intro e he
 rcases h.all e he with rfl|rfl|⟨a,d,⟨x,rfl⟩|rfl|rfl⟩
 .exact ⟨fun x g=>by simp[c5,MemAct.ofEvent,MemAct.touch?] at g,trivial,by simp[c5,MemAct.ofEvent]⟩
 .exact ⟨fun x g=>by simp[c5,MemAct.ofEvent,MemAct.touch?] at g,trivial,by simp[c5,MemAct.ofEvent]⟩
 .have hb:a.block<B:=d▸f
  refine ⟨fun y b=>?_,by cases x<;>exact hb,by cases x<;>simp[MemAct.ofEvent]⟩
  have:y=⟨.cell a,x,.atomic⟩:=by cases x<;>simp[MemAct.ofEvent,MemAct.touch?] at b<;>rw[<-b]
  subst this
  exact .inr (.inr (.inr (.inl ⟨⟨a,rfl,.inr d⟩,au,au⟩)))
 .have hb:a.block<B:=d▸f
  refine ⟨fun y b=>?_,hb,by simp[c5,MemAct.ofEvent]⟩
  have:y=⟨.cell a,false,.said⟩:=by simp[c5,MemAct.ofEvent,MemAct.touch?] at b;rw[<-b]
  subst this
  exact .inr (.inr (.inr (.inl ⟨⟨a,rfl,.inr d⟩,au,fun _=>rfl⟩)))
 .have hb:a.block<B:=d▸f
  refine ⟨fun y b=>?_,hb,by simp[c5,MemAct.ofEvent]⟩
  have:y=⟨.cell a,true,.said⟩:=by simp[c5,MemAct.ofEvent,MemAct.touch?] at b;rw[<-b]
  subst this
  exact .inr (.inr (.inr (.inl ⟨⟨a,rfl,.inr d⟩,au,fun _=>rfl⟩)))
section
variable {c:Cy}{B0:Nat}{bJ:Loc->Prop}{p0:P0}{d0 k:Nat}{g:Goroutine}{Fr:Nat->af}{gs:Array Goroutine}{w:World}{t u:Trace}{ρ:Nat->Rk}{φ:Nat->Ph}{s:Sh}{Φ:Goroutine->af->Prop}
theorem ee.zero (h:ee c B0 bJ p0 d0 k g Fr gs w t ρ φ s){g':Goroutine}{w':World}{es:Array Event}{fn:FuncId}{pos:String}{s':Sh}{g7:P0}{fR:Nat}{F':af}(p:gs[0]?=some g)(f:g'.status= .running)(u:g'.offers=none)
  (v:mayWake c.P g=true\/(s'.ms<=s.ms/\s'.ws<=s.ws)) (hd:deafBehind d0 es=fR) (x:dZ c k (upd Fr 0 F') w') (A:cQ c w' s') (hinv:Inv c.n c.bs k φ g7 s') (B:eO c bJ k (upd Fr 0 F') w'.heap.size (t++MemOp.ofEvents 0 fn pos es))
  (C:w.heap.size<=w'.heap.size) (D:∀l,bJ l->¬F'.g8 l):
  ee c B0 bJ g7 fR k g' (upd Fr 0 F') ((gs.map (woken c.P g g' w')).setIfInBounds 0 g') w' (t++MemOp.ofEvents 0 fn pos es) ρ φ s':=by
 have E:0<gs.size:=(Array.getElem?_eq_some_iff.1 p).1
 have hu:∀op∈MemOp.ofEvents 0 fn pos es,op.g=0:=fun op F=>by obtain ⟨e,_,rfl⟩:=Go.Conc.mem_ofEvents F;rfl
 have other:∀a,a≠0->∀y,((gs.map (woken c.P g g' w')).setIfInBounds 0 g')[a]?=some y->∃z,gs[a]?=some z/\y=woken c.P g g' w' z:=fun a aL y j=>by
  rw[Array.getElem?_setIfInBounds_ne (Ne.symm aL),Array.getElem?_map] at j
  obtain ⟨z,d,rfl⟩:=Option.map_eq_some_iff.1 j
  exact ⟨z,d,rfl⟩
 have m:∀a,a≠0->Deaf (t++MemOp.ofEvents 0 fn pos es) a=Deaf t a:=fun a aL=>Deaf_other t (Ne.symm aL) _ hu
 have G:(mayWake c.P g=true/\g'.status≠ .blocked/\g'.status≠ .waiting)\/s'.ms<=s.ms:=v.imp (fun z=>⟨z,by rw[f];simp,by rw[f];simp⟩) And.left
 refine ⟨by simpa using h.size,h.base,f,u,⟨g',Array.getElem?_setIfInBounds_self_of_lt (by simpa using E),by cases g';simp_all,.inl f⟩,fun a y H hb j=>?_,fun i hi=>?_,fun i hi=>?_,fun a I=>?_,?_,x,A,hinv,B,fun i hi hg=>?_,fun l J=>by rw[upd_same];exact D l J,h.low,fun i hi b hb=>?_,Nat.le_trans h.jV C,h.ne⟩
 .obtain ⟨z,d,rfl⟩:=other a aa y j
  obtain ⟨q,K,o⟩:=h.old a z H hb d
  exact ⟨q,K,by rw[woken_quitsD o,m a aa];exact o⟩
 .have hb:=h.base
  obtain ⟨z,d,hW⟩:=h.wk i hi
  refine ⟨woken c.P g g' w' z,by rw[Array.getElem?_setIfInBounds_ne aa,Array.getElem?_map,d];rfl,?_⟩
  rw[upd_ne _ _ aa]
  exact hW.woken hinv.DX G
 .have hb:=h.base
  rw[m _ aa];exact h.deaf i hi
 .have:gs.size<=a:=by simpa using I
  rw[m a aa]
  exact h.above a this
 .rw[Deaf_own,h.deaf0];exact hd
 .obtain ⟨r,L⟩:=h.rel i hi hg
  have hb:=h.base
  exact ⟨r,L.other aa hu⟩
 .rw[upd_ne _ _ aa] at hb;exact h.jU i hi b hb
theorem ee.le (h:ee c B0 bJ p0 d0 k g Fr gs w t ρ φ s){F:af}(hle:Le F (Fr 0)):ee c B0 bJ p0 d0 k g (upd Fr 0 F) gs w t ρ φ s:=by
 have ht:eO c bJ k (upd Fr 0 F) w.heap.size t:=by
  have:=eO.app (u:=#[]) h.base ⟨h.ne.2.1,h.ne.2.2⟩ h.parts h.iw (p:=0) (Nat.zero_le _) (dz:=upd Fr 0 F) (Nat.le_refl _) au au au au (fun q f=>upd_ne _ _ f) (fun l d=>?_) (fun l d=>?_)
  .simpa using this
  .rw[upd_same] at d;refine .inl ?_;cases l with
   |cell a=>exact hle.own _ d
   |obj r=>exact hle.own _ d
   |_=>exact d.elim
  .rw[upd_same] at d;obtain ⟨a,rfl,j⟩:=d;rcases hle.ro a j with z|z
   .exact .inl ⟨a,rfl,z⟩
   .exact .inr (.inl z)
 refine ⟨h.size,h.base,h.run,h.off,h.g0,h.old,fun i hi=>?_,h.deaf,h.above,h.deaf0,h.parts.act (Nat.zero_le _) (.refl _ _) hle,h.sh,h.inv,ht,h.rel,fun l d e=>?_,h.low,fun i hi b hb=>?_,h.jV,h.ne⟩
 .rw[upd_ne _ _ aa];exact h.wk i hi
 .rw[upd_same] at e;exact h.apart l d (hle.g8 e)
 .rw[upd_ne _ _ aa] at hb;exact h.jU i hi b hb
theorem dV.qt {F F':af}{w w':World}(h:eA F F' w w')(d:B0<=w.heap.size):dV c B0 F F' w w':=
 ⟨by rw[h.os];exact .refl _,h.tape,h.output,h.size,fun b hb e _=>h.frame b (Nat.lt_of_lt_of_le hb d) e,fun a f=>(h.ro a f).imp id fun x=>x.imp id fun y=>.inl (Nat.le_trans d y),fun b hb=>(h.own b hb).imp id fun y=>.inl (Nat.le_trans d y)⟩
theorem dV.D1 {F:af}{w w':World}(h:iV c w w'):dV c B0 F F w w':=
 ⟨h.os,h.tape,h.output,by rw[h.size];exact Nat.le_refl _,fun b _ _ hs=>h.block b hs,fun _ h=>.inl h,fun _ h=>.inl h⟩
theorem eP.mono {F F':af}(hle:Le F F')(h:eP c B0 Φ k p0 d0 g F):eP c B0 Φ k p0 d0 g F':=by
 refine ⟨h.1,h.2.1,fun bJ gs w sl t Fr ρ φ s a b d e=>?_⟩;obtain ⟨N,ck,w',f,i,j,g',l,m,n,o,p,q,r⟩:=h.2.2 bJ gs w sl t (upd Fr 0 F) ρ φ s (upd_same _ _ _) (b.le (by rw[a];exact hle)) d e;exact ⟨N,ck,w',f,i,j,g',l,m,n,o,p.le hle,q,r⟩
theorem eP.closed (c:Cy)(B0:Nat)(Φ:Goroutine->af->Prop)(k:Nat)(p0:P0)(d0:Nat)(D:p0≠ .reg):Closed c.P true (eP c B0 Φ k p0 d0) where
 mono hle h:=h.mono hle
 step {fr cs F} h:=by
  refine ⟨rfl,rfl,fun bJ gs w sl t Fr ρ φ s A L M O=>?_⟩
  obtain ⟨N,E,w1,a5,B,t1,a6,a7,H,s1,Q,⟨d,R⟩,f,I,J,K,_⟩:=L.pick (fun e=>absurd e D) sl (fun e=>absurd e D)
  have o:Has F (w1.at d):=by have:=f.parts.has 0 (Nat.zero_le _);rw[J,A] at this;exact this.at d
  obtain ⟨g',w',es,F',hgo,hu,S,v,hJ⟩:=h (w1.at d) o
  have y:=f.at d
  have T:=runT_crowd_go (P:=c.P) (gs:=E) (w:=w1.at d) (sl:=B) (i:=0) I (show stepG c.P (0==0) (G fr cs) (w1.at d)=_ from hgo)
  have n:H 0=F:=J.trans A
  have U:∀b,b<w1.heap.size->b∉keys (H 0).own->w'.heap[b]?=w1.heap[b]?:=by rw[n];exact hu.frame
  have V:=y.zero (g':=g') (w':=w') (es:=es) (fn:=fr.fn) (pos:=fr.place) (s':=s1) (g7:=p0) (fR:=d0) (F':=F') I hJ.1 hJ.2.1 (.inr ⟨Int.le_refl _,Int.le_refl _⟩)
   (deafBehind_still (fun e he=>(mL (c:=c) o hu.size (v e he) 0).2.2.2) _) (y.parts.walk (Nat.zero_le _) (by rw[n];exact hu) S)
   (y.sh.keep fun b hb=>U b (f.parts.g6 b hb) (fun hm=>f.parts.iu 0 (Nat.zero_le _) b hm hb)) y.inv
   (eO.app f.base ⟨f.ne.2.1,f.ne.2.2⟩ f.parts f.iw (p:=0) (Nat.zero_le _) hu.size (fun op j=>by obtain ⟨e,_,rfl⟩:=Go.Conc.mem_ofEvents j;rfl)
    (fun op j z W=>by obtain ⟨e,he,rfl⟩:=Go.Conc.mem_ofEvents j;rw[n];exact (mL (c:=c) o hu.size (v e he) 0).1 z W)
    (fun op j=>by obtain ⟨e,he,rfl⟩:=Go.Conc.mem_ofEvents j;exact (mL (c:=c) o hu.size (v e he) 0).2.1)
    (fun op j=>by obtain ⟨e,he,rfl⟩:=Go.Conc.mem_ofEvents j;exact (mL (c:=c) o hu.size (v e he) 0).2.2.1) (fun q X=>upd_ne _ _ X)
    (fun l g=>by
     rw[upd_same] at g
     rw[n]
     cases l with
     |cell a=>exact hu.own _ g
     |obj r=>exact hu.own _ g
     |_=>exact g.elim)
    (fun l g=>by
     rw[upd_same] at g
     rw[n]
     obtain ⟨a,rfl,Y⟩:=g
     rcases hu.ro a Y with z|z|z
     .exact .inl ⟨a,rfl,z⟩
     .exact .inr (.inl z)
     .exact .inr (.inr z)))
   hu.size (fun l g m=>by
    have u:=f.apart l g
    have C:=Loc.low_mono f.jV (f.low l g)
    rw[n] at u
    cases l with
    |cell a=>
     rcases m with m|m
     .rcases hu.own _ m with x|x
      .exact u (.inl x)
      .exact absurd C (Nat.not_lt.2 x)
     .rcases hu.ro _ m with x|x|x
      .exact u (.inr x)
      .exact u (.inl x)
      .exact absurd C (Nat.not_lt.2 x)
    |obj r=>
     rcases hu.own _ m with x|x
     .exact u x
     .exact absurd C (Nat.not_lt.2 x)
    |_=>exact m)
  obtain ⟨Z,ab,w2,ad,t2,ae,al,ao,ar,k1,a0,a2,a3,a4⟩:=hJ.2.2 bJ _ w' B _ _ _ _ _ (upd_same _ _ _) V M O
  refine ⟨N+1+Z,ab,w2,ad,t2,ae,al,ao,ar,?_,a0,?_,a3,a4⟩
  .have:runNT c.P (N+1) (crowd gs w sl) t=(.next (crowd ((E.map (woken c.P (G fr cs) g' w')).setIfInBounds 0 g') w' B),t1++MemOp.ofEvents 0 fr.fn fr.place es):=by
    rw[runNT_add,Q]
    simp only[runNT,R,T]
    rfl
   rw[j4 this]
   exact k1
  .rw[A] at K
   exact (K.trans (dV.at_ _ _ _)).trans ((dV.qt (w:=w1.at d) hu f.jV).trans a2)
end
section
variable {c:Cy}{B0:Nat}{bJ:Loc->Prop}{p0:P0}{d0 k:Nat}{g:Goroutine}{F:af}{Fr:Nat->af}{gs:Array Goroutine}{w:World}{t u:Trace}{ρ:Nat->Rk}{φ:Nat->Ph}{s:Sh}{Φ:Goroutine->af->Prop}
theorem eP.act (G:g.status= .running)(H:g.offers=none)(x:p0= .reg->k=c.n/\∀w s,cQ c w s->s.ws=0->stepG c.P true g w= .go {g with status:=.blocked} w #[])
  (h:∀(w:World) (s:Sh) (φ:Nat->Ph),Has F w->cQ c w s->Inv c.n c.bs k φ p0 s->(p0= .reg->s.ws≠0)->∃(g':Goroutine) (w':World) (es:Array Event) (s':Sh) (g7:P0) (fR:Nat),
   stepG c.P true g w= .go g' w' es/\cQ c w' s'/\iV c w w'/\Inv c.n c.bs k φ g7 s'/\Ev0 c d0 fR es/\(mayWake c.P g=true\/(s'.ms<=s.ms/\s'.ws<=s.ws))/\eP c B0 Φ k g7 fR g' F):eP c B0 Φ k p0 d0 g F:=by
 refine ⟨G,H,fun bJ gs w sl t Fr ρ φ s y I J K=>?_⟩
 obtain ⟨N,A,w1,a5,m,t1,a6,L,o,s1,M,⟨d,O⟩,a,B,Q,C,R⟩:=I.pick (fun e=>(x e).1) sl (fun e=>(x e).2)
 have D:o 0=F:=Q.trans y
 have S:Has F (w1.at d):=by have:=a.parts.has 0 (Nat.zero_le _);rw[D] at this;exact this.at d
 have j:=a.at d
 obtain ⟨g',w',es,s',g7,fR,hgo,T,r,hinv,E,U,hJ⟩:=h (w1.at d) s1 L S j.sh j.inv R
 have V:=runT_crowd_go (P:=c.P) (gs:=A) (w:=w1.at d) (sl:=m) (i:=0) B (show stepG c.P (0==0) g (w1.at d)=_ from hgo)
 have u:=DZ E (o 0) w1.heap.size (a.parts.g6 _ (.inr (.inl rfl)))
 have v:w'.heap.size=w1.heap.size:=r.size
 have W:=j.zero (g':=g') (w':=w') (es:=es) (fn:=g.frame.fn) (pos:=g.frame.place) (s':=s') (g7:=g7) (fR:=fR) (F':=o 0) B hJ.1 hJ.2.1 U E.deaf (j.parts.act (Nat.zero_le _) r (.refl _)) T hinv
  (eO.app a.base ⟨a.ne.2.1,a.ne.2.2⟩ a.parts a.iw (p:=0) (Nat.zero_le _) (by rw[v];exact Nat.le_refl _) (fun op b=>by obtain ⟨e,_,rfl⟩:=Go.Conc.mem_ofEvents b;rfl)
   (fun op b z X=>by obtain ⟨e,he,rfl⟩:=Go.Conc.mem_ofEvents b;exact (u e he).1 z X)
   (fun op b=>by obtain ⟨e,he,rfl⟩:=Go.Conc.mem_ofEvents b;rw[v];exact (u e he).2.1)
   (fun op b=>by obtain ⟨e,he,rfl⟩:=Go.Conc.mem_ofEvents b;exact (u e he).2.2) (fun q Y=>upd_ne _ _ Y)
   (fun l f=>by rw[upd_same] at f;exact .inl f) (fun l f=>by rw[upd_same] at f;exact .inl f))
  (by rw[v];exact Nat.le_refl _) (fun l f=>a.apart l f)
 obtain ⟨Z,ab,w2,ad,t2,ae,al,ao,ar,k1,a0,a2,a3,a4⟩:=hJ.2.2 bJ _ w' m _ _ _ _ _ (by rw[upd_same];exact D) W J K
 refine ⟨N+1+Z,ab,w2,ad,t2,ae,al,ao,ar,?_,a0,?_,a3,a4⟩
 .have:runNT c.P (N+1) (crowd gs w sl) t=(.next (crowd ((A.map (woken c.P g g' w')).setIfInBounds 0 g') w' m),t1++MemOp.ofEvents 0 g.frame.fn g.frame.place es):=by
   rw[runNT_add,M]
   simp only[runNT,O,V]
  rw[j4 this]
  exact k1
 .rw[y] at C
  exact (C.trans (dV.at_ _ _ _)).trans ((dV.D1 r).trans a2)
theorem eP.zx (E:g.status= .running)(G:g.offers=none)(H:p0= .reg->k=c.n)
  (h:∀(w:World) (s:Sh) (φ:Nat->Ph),Has F w->cQ c w s->Inv c.n c.bs k φ p0 s->∃(g':Goroutine) (w':World) (es:Array Event) (s':Sh) (g7:P0) (fR:Nat),
   stepG c.P true g w= .go g' w' es/\cQ c w' s'/\iV c w w'/\Inv c.n c.bs k φ g7 s'/\Ev0 c d0 fR es/\(mayWake c.P g=true\/(s'.ms<=s.ms/\s'.ws<=s.ws))/\eP c B0 Φ k g7 fR g' F):eP c B0 Φ k p0 d0 g F:=by
 refine ⟨E,G,fun bJ gs w sl t Fr ρ φ s x I J K=>?_⟩
 obtain ⟨N,y,w1,a4,m,t1,a5,L,o,s1,M,⟨d,O⟩,a,A,Q,B⟩:=I.sR H sl
 have C:o 0=F:=Q.trans x
 have R:Has F (w1.at d):=by have:=a.parts.has 0 (Nat.zero_le _);rw[C] at this;exact this.at d
 have j:=a.at d
 obtain ⟨g',w',es,s',g7,fR,hgo,S,r,hinv,D,T,hJ⟩:=h (w1.at d) s1 L R j.sh j.inv
 have U:=runT_crowd_go (P:=c.P) (gs:=y) (w:=w1.at d) (sl:=m) (i:=0) A (show stepG c.P (0==0) g (w1.at d)=_ from hgo)
 have u:=DZ D (o 0) w1.heap.size (a.parts.g6 _ (.inr (.inl rfl)))
 have v:w'.heap.size=w1.heap.size:=r.size
 have V:=j.zero (g':=g') (w':=w') (es:=es) (fn:=g.frame.fn) (pos:=g.frame.place) (s':=s') (g7:=g7) (fR:=fR) (F':=o 0) A hJ.1 hJ.2.1 T D.deaf (j.parts.act (Nat.zero_le _) r (.refl _)) S hinv
  (eO.app a.base ⟨a.ne.2.1,a.ne.2.2⟩ a.parts a.iw (p:=0) (Nat.zero_le _) (by rw[v];exact Nat.le_refl _) (fun op b=>by obtain ⟨e,_,rfl⟩:=Go.Conc.mem_ofEvents b;rfl)
   (fun op b z W=>by obtain ⟨e,he,rfl⟩:=Go.Conc.mem_ofEvents b;exact (u e he).1 z W)
   (fun op b=>by obtain ⟨e,he,rfl⟩:=Go.Conc.mem_ofEvents b;rw[v];exact (u e he).2.1)
   (fun op b=>by obtain ⟨e,he,rfl⟩:=Go.Conc.mem_ofEvents b;exact (u e he).2.2) (fun q X=>upd_ne _ _ X)
   (fun l f=>by rw[upd_same] at f;exact .inl f) (fun l f=>by rw[upd_same] at f;exact .inl f))
  (by rw[v];exact Nat.le_refl _) (fun l f=>a.apart l f)
 obtain ⟨Y,Z,w2,ab,t2,ad,ae,al,ao,k1,ar,a0,a2,a3⟩:=hJ.2.2 bJ _ w' m _ _ _ _ _ (by rw[upd_same];exact C) V J K
 refine ⟨N+1+Y,Z,w2,ab,t2,ad,ae,al,ao,?_,ar,?_,a2,a3⟩
 .have:runNT c.P (N+1) (crowd gs w sl) t=(.next (crowd ((y.map (woken c.P g g' w')).setIfInBounds 0 g') w' m),t1++MemOp.ofEvents 0 g.frame.fn g.frame.place es):=by
   rw[runNT_add,M]
   simp only[runNT,O,U]
  rw[j4 this]
  exact k1
 .rw[x] at B
  exact (B.trans (dV.at_ _ _ _)).trans ((dV.D1 r).trans a0)
theorem eP.spawn (E:g.status= .running)(a9:g.offers=none)(T:k<c.n)
  (h:∀w,Has F w->∃g' child,stepG c.P true g w= .spawn g' child w #[]/\Wk c k {mp:=.idle,gp:=.cnt,stored:=false,deaf:=0} child ⟨F.ro,[]⟩/\child.status= .running/\child.offers=none/\eP c B0 Φ (k+1) (.opn 0) 0 g' F):
  eP c B0 Φ k (.opn 1) 0 g F:=by
 refine ⟨E,a9,fun bJ gs w sl t Fr ρ φ s a0 ba bb bc=>?_⟩
 obtain ⟨N,I,w1,dv,al,t1,bd,X,Y,s1,bj,⟨d,bk⟩,f,a2,bl,a3,_⟩:=ba.pick (fun e=>by cases e) sl (fun e=>by cases e)
 have ao:Y 0=F:=bl.trans a0
 have a4:Has F (w1.at d):=by have:=f.parts.has 0 (Nat.zero_le _);rw[ao] at this;exact this.at d
 have U:=f.at d
 obtain ⟨g',child,hgo,⟨Q,r,hle,hW⟩,dC,dE,hJ⟩:=h (w1.at d) a4
 have bm:=runT_crowd_spawn (P:=c.P) (gs:=I) (w:=w1.at d) (sl:=al) (i:=0) a2 (show stepG c.P (0==0) g (w1.at d)=_ from hgo)
 have a5:=f.size
 have bo:0<I.size:=(Array.getElem?_eq_some_iff.1 a2).1
 let K:Ph:={mp:=.idle,gp:=.cnt,stored:=false,deaf:=0}
 have M:keys Q.own=[]:=by
  cases br:keys Q.own with
  |nil=>rfl
  |cons b l=>exact absurd (hle.own b (by rw[br];simp)) (by simp[keys])
 have Z:∀a,(Q.ro a).isSome=true->((Y 0).ro a).isSome=true:=fun a p=>by
  rw[ao]
  rcases hle.ro a p with x|x
  .exact x
  .simp[keys] at x
 have bz:Has Q (w1.at d):=hle.has _ ⟨a4.ro,fun b o hb=>(by cases hb),List.nodup_nil,fun a v E hm=>(by cases hm)⟩
 have J:=U.inv.i
 have a6:(X k).gp= .new:=by
  have:=(J.born k T)
  rcases Classical.em ((X k).gp= .new) with x|x
  .exact x
  .exact absurd (this.2 x) (Nat.lt_irrefl _)
 obtain ⟨bS,b0,dT⟩:=J.new k T a6
 let R:Nat->af:=upd Y (k+1) Q
 have e1:∀q,q<=k->R q=Y q:=fun q A=>upd_ne _ _ aa
 have e2:R (k+1)=Q:=upd_same _ _ _
 have b1:dZ c (k+1) R (w1.at d):=by
  have H:=U.parts
  have cs:∀q,q<=k+1->q<=k\/q=k+1:=fun q A=>aa
  refine ⟨fun q A=>?_,fun q r A E aL b hb B=>?_,fun q r A E aL a p hb=>?_,fun q A b hb=>?_,fun q A a p=>?_,H.g6⟩
  .rcases cs q A with x|rfl
   .rw[e1 q x];exact H.has q x
   .rw[e2];exact bz
  .rcases cs q A with x|rfl
   .rcases cs r E with y|rfl
    .rw[e1 q x] at hb;rw[e1 r y] at B;exact H.own q r x y aL b hb B
    .rw[e2,M] at B;cases B
   .rw[e2,M] at hb;cases hb
  .rcases cs r E with y|rfl
   .rw[e1 r y] at hb
    rcases cs q A with x|rfl
    .rw[e1 q x] at p;exact H.ro q r x y aL a p hb
    .rw[e2] at p
     rcases Nat.eq_zero_or_pos r with rfl|ea
     .obtain ⟨v,b2⟩:=Option.isSome_iff_exists.1 (Z a p)
      exact (H.has 0 (Nat.zero_le _)).apart a v b2 hb
     .exact H.ro 0 r (Nat.zero_le _) y aa a (Z a p) hb
   .rw[e2,M] at hb;cases hb
  .rcases cs q A with x|rfl
   .rw[e1 q x] at hb;exact H.iu q x b hb
   .rw[e2,M] at hb;cases hb
  .rcases cs q A with x|rfl
   .rw[e1 q x] at p;exact H.jT q x a p
   .rw[e2] at p;exact H.jT 0 (Nat.zero_le _) a (Z a p)
 have hinv:Inv c.n c.bs (k+1) (upd X k K) (.opn 0) s1:=by
  obtain ⟨C,S,W,L,m,hm⟩:=U.inv.m
  refine ⟨⟨C,S,W,L,m,oq hm T K (.inl b0.symm)⟩,KY U.inv.w T K a6 rfl,J.len,T,fun j G=>?_,fun j G=>?_,fun j G ab=>?_,fun j G ad a7=>?_⟩<;>by_cases e:j=k
  .subst e;rw[upd_same,J.all j G,bS]
  .rw[upd_ne _ _ e];exact J.all j G
  .subst e;rw[upd_same];exact ⟨fun _=>by simp[K],fun _=>aa⟩
  .rw[upd_ne _ _ e,<-J.born j G];omega
  .subst e;rw[upd_same] at ab;simp[K] at ab
  .rw[upd_ne _ _ e] at ab ⊢;exact J.new j G ab
  .subst e;rw[upd_same] at ad;simp[K] at ad
  .rw[upd_ne _ _ e] at ad a7 ⊢;exact J.done j G ad a7
 let u:Array MemOp:=#[{g:=0,fn:=g.frame.fn,pos:=g.frame.place,act:=.go I.size},{g:=I.size,fn:=child.frame.fn,pos:=g.frame.place,act:=.start}]
 have b3:((MemOp.ofEvents 0 g.frame.fn g.frame.place #[]).push {g:=0,fn:=g.frame.fn,pos:=g.frame.place,act:=.go I.size}|>.push {g:=I.size,fn:=child.frame.fn,pos:=g.frame.place,act:=.start})=u:=by simp[MemOp.ofEvents,u]
 have b4:eO c bJ (k+1) R w1.heap.size (t1++u):=f.iw.fork f.base f.parts ⟨rfl,by rw[a5]⟩ ⟨by rw[a5],rfl⟩ f.deaf0 (f.above _ aa) e1 (fun l D=>by
  rw[e2] at D
  cases l with
  |cell a=>simp only[fK,M] at D;cases D
  |obj r=>simp only[fK,M] at D;cases D
  |_=>exact D) (fun l D=>by
  rw[e2] at D
  obtain ⟨a,rfl,p⟩:=D
  exact ⟨a,rfl,Z a p⟩)
 have V:∀j,Deaf (t1++u) j=Deaf t1 j:=fun j=>by
  have:=Deaf_append t1 j u.toList
  simp only[Array.toArray_toList] at this
  rw[this]
  rfl
 have b5:∀j r,gI c t1 j r->gI c (t1++u) j r:=fun j r E=>E.app fun idx x hi hg ca=>by
  obtain ⟨z,cb,cd⟩:=touch_of ca
  rcases getElem?_append_cases cb with ⟨eb,_⟩|⟨_,a8⟩
  .omega
  .simp only[u,List.mem_toArray,List.mem_cons,List.not_mem_nil,or_false] at a8
   rcases a8 with rfl|rfl<;>cases cd
 have cf:ee c B0 bJ (.opn 0) 0 (k+1) g' R ((I.setIfInBounds 0 g').push child) (w1.at d) (t1++u) (mM bd (c.base+k) r) (upd X k K) s1:=by
  have hb:=f.base
  refine ⟨by simp;omega,hb,hJ.1,hJ.2.1,⟨g',by rw[Array.getElem?_push,if_neg (by simp;omega)];exact Array.getElem?_setIfInBounds_self_of_lt bo,by have:=hJ.1;cases g';simp_all,.inl hJ.1⟩,fun j y cl B ae=>?_,fun i hi=>?_,fun i hi=>?_,fun j G=>?_,?_,b1,U.sh,hinv,b4,fun i hi hg=>?_,fun l D=>by rw[e1 0 (Nat.zero_le _)];exact f.apart l D,f.low,fun i hi b B=>?_,f.jV,f.ne⟩
  .rw[Array.getElem?_push,if_neg (by simp;omega),Array.getElem?_setIfInBounds_ne aa] at ae
   obtain ⟨q,A,cy⟩:=f.old j y cl B ae
   exact ⟨q,by rw[ot _ _ aa];exact A,by rw[V];exact cy⟩
  .rcases Nat.lt_or_ge i k with O|ar
   .obtain ⟨y,ae,cS⟩:=f.wk i O
    refine ⟨y,by rw[Array.getElem?_push,if_neg (by simp;omega),Array.getElem?_setIfInBounds_ne aa];exact ae,?_⟩
    rw[ot _ _ aa,upd_ne _ _ aa,e1 (i+1) aa]
    exact cS
   .obtain rfl:i=k:=aa
    refine ⟨child,by rw[Array.getElem?_push,if_pos (by simp;omega)],?_⟩
    rw[qa,upd_same,e2]
    exact (hW.zw s1).1
  .rcases Nat.lt_or_ge i k with O|ar
   .rw[V,upd_ne _ _ aa];exact f.deaf i O
   .obtain rfl:i=k:=aa
    rw[V,upd_same];exact f.above _ aa
  .rw[V];exact f.above j (by simp at G;omega)
  .rw[V];exact f.deaf0
  .rcases Nat.lt_or_ge i k with O|ar
   .rw[upd_ne _ _ aa] at hg
    obtain ⟨r,E⟩:=f.rel i O hg
    exact ⟨r,b5 _ _ E⟩
   .obtain rfl:i=k:=aa
    rw[upd_same] at hg
    exact absurd rfl hg
  .rcases Nat.lt_or_ge i k with O|ar
   .rw[e1 (i+1) aa] at B;exact f.jU i O b B
   .obtain rfl:i=k:=aa
    rw[e2,M] at B;cases B
 obtain ⟨c0,da,w2,db,t2,dd,df,dk,dp,k1,dq,ds,dt,du⟩:=hJ.2.2 bJ _ (w1.at d) al _ R _ _ _ (by rw[e1 0 (Nat.zero_le _)];exact ao) cf bb bc
 refine ⟨N+1+c0,da,w2,db,t2,dd,df,dk,dp,?_,dq,?_,dt,du⟩
 .have:runNT c.P (N+1) (crowd gs w sl) t=(.next (crowd ((I.setIfInBounds 0 g').push child) (w1.at d) al),t1++u):=by
   rw[runNT_add,bj]
   simp only[runNT,bk,bm,b3]
  rw[j4 this]
  exact k1
 .rw[a0] at a3
  exact (a3.trans (dV.at_ _ _ _)).trans ds
def Cy.fin (c:Cy):Obj:=.cells ((List.range c.n).map fun i=>Value.bool (c.bs i)).toArray c.tI
theorem eP.join (I:g.status= .running)(V:g.offers=none)
  (h:∀w,Has F w->∃g',stepG c.P true g w= .go g' w #[c5 (.acquire (stA c.Wg))]/\g'.status= .running/\Φ g' ⟨F.ro,(c.Is,c.fin)::F.own⟩):eP c B0 Φ c.n .fC 0 g F:=by
 refine ⟨I,V,fun bJ gs w sl t Fr ρ φ s M W X Y=>?_⟩
 obtain ⟨N,p,w1,bj,O,t1,bk,Z,ab,s1,ad,⟨d,ae⟩,f,Q,al,R,_⟩:=W.pick (fun e=>by cases e) sl (fun e=>by cases e)
 have A:ab 0=F:=al.trans M
 have ao:Has F w1:=by have:=f.parts.has 0 (Nat.zero_le _);rw[A] at this;exact this
 have C:Has F (w1.at d):=ao.at d
 obtain ⟨g',hgo,bl,ar⟩:=h (w1.at d) C
 have a0:=runT_crowd_go (P:=c.P) (gs:=p) (w:=w1.at d) (sl:=O) (i:=0) Q (show stepG c.P (0==0) g (w1.at d)=_ from hgo)
 have a2:0<p.size:=(Array.getElem?_eq_some_iff.1 Q).1
 obtain ⟨_,a3,a4,a5⟩:=DN f.inv.w
 have J:∀i,i<c.n->(Z i).gp= .gone:=fun i hi=>(K4 a3 a4 a5 hi).resolve_right fun e=>((f.inv.i.born i hi).1 hi) e
 have a6:∀i,i<c.n->∃r,gI c t1 (c.base+i) r:=fun i hi=>f.rel i hi (by rw[J i hi];simp)
 have a7:=f.iw.gq a6 (y:={g:=0,fn:=g.frame.fn,pos:=g.frame.place,act:=.mark (.acquire (stA c.Wg))}) ⟨rfl,rfl⟩ f.deaf0 (f.parts.g6 _ (.inr (.inl rfl)))
 have a8:MemOp.ofEvents 0 g.frame.fn g.frame.place #[c5 (.acquire (stA c.Wg))]=#[{g:=0,fn:=g.frame.fn,pos:=g.frame.place,act:=.mark (.acquire (stA c.Wg))}]:=by rw[Go.Conc.ofEvents_eq];simp[c5,MemAct.ofEvent]
 have a9:s1.is=(List.range c.n).map c.bs:=by
  refine List.ext_getElem? fun i=>?_
  by_cases hi:i<c.n
  .rw[f.inv.i.all i hi,(f.inv.i.done i hi (by rw[J i hi];simp) (by rw[J i hi];simp)).1]
   simp[hi]
  .have D:s1.is.length=c.n:=f.inv.i.len
   rw[List.getElem?_eq_none aa,List.getElem?_eq_none (by simp;omega)]
 have ba:w1.heap[c.Is]?=some c.fin:=by
  have:=f.sh.2.2
  rw[a9,List.map_map] at this
  exact this
 have S:∀j,∃q,∀x,0<j->p[j]?=some x->QuitsD c.P q (Deaf t1 j) x:=fun j=>by
  by_cases K:∃x,0<j/\p[j]?=some x
  .obtain ⟨x,E,G⟩:=K
   rcases Nat.lt_or_ge j c.base with T|T
   .obtain ⟨q,_,B⟩:=f.old j x E T G
    exact ⟨q,fun y _ u=>by rw[G] at u;cases u;exact B⟩
   .have k:j<p.size:=(Array.getElem?_eq_some_iff.1 G).1
    have bm:=f.size
    obtain ⟨i,rfl⟩:∃i,j=c.base+i:=⟨j - c.base,aa⟩
    obtain ⟨y,u,hW⟩:=f.wk i aa
    rcases hW with ⟨_,q,_,B⟩|⟨bb,_⟩
    .exact ⟨q,fun z _ L=>by rw[u] at L;cases L;rw[f.deaf i aa];exact B⟩
    .exact absurd (J i aa) bb
  .exact ⟨0,fun x E G=>absurd ⟨x,E,G⟩ K⟩
 let q:Nat->Nat:=fun j=>Classical.choose (S j)
 have bc:∀j x,0<j->p[j]?=some x->QuitsD c.P (q j) (Deaf t1 j) x:=fun j=>Classical.choose_spec (S j)
 have U:∀j,j≠0->Deaf (t1++#[({g:=0,fn:=g.frame.fn,pos:=g.frame.place,act:=.mark (.acquire (stA c.Wg))}:MemOp)]) j=Deaf t1 j:=fun j aL=>Deaf_other t1 (g':=0) (Ne.symm aL) _ au
 refine ⟨N+1,(p.map (woken c.P g g' (w1.at d))).setIfInBounds 0 g',w1.at d,O,t1++#[{g:=0,fn:=g.frame.fn,pos:=g.frame.place,act:=.mark (.acquire (stA c.Wg))}],q,g',⟨F.ro,(c.Is,c.fin)::F.own⟩,_,?_,⟨?_,⟨fun j y E u=>?_,fun j K=>?_⟩,a7,?_,fun l k m=>?_,fun l k=>?_⟩,?_,fun l k=>k,ar⟩
 .rw[runNT_add,ad]
  simp only[runNT,ae,a0,a8]
 .exact Array.getElem?_setIfInBounds_self_of_lt (by simpa using a2)
 .rw[Array.getElem?_setIfInBounds_ne aa,Array.getElem?_map] at u
  obtain ⟨z,L,rfl⟩:=Option.map_eq_some_iff.1 u
  have B:=bc j z E L
  rw[woken_quitsD B,U j aa];exact B
 .have:p.size<=j:=by simpa using K
  rw[U j aa]
  exact f.above j this
 .have bd:c.Is∉keys F.own:=fun hm=>f.parts.iu 0 (Nat.zero_le _) _ (by rw[A];exact hm) (.inr (.inr rfl))
  refine ⟨C.ro,fun b o hb=>?_,?_,fun a v I hm=>?_⟩
  .rcases List.mem_cons.1 hb with x|x
   .cases x;exact ba
   .exact C.own b o x
  .exact List.nodup_cons.2 ⟨bd,C.nodup⟩
  .rcases List.mem_cons.1 hm with x|x
   .exact f.parts.jT 0 (Nat.zero_le _) a (by rw[A,I];rfl) (.inr (.inr x))
   .exact C.apart a v I x
 .rcases k with k|⟨a,rfl,H⟩
  .have D:=f.apart l k
   rw[A] at D
   cases l with
   |cell a=>
    rcases m with m|m
    .rcases List.mem_cons.1 m with x|x
     .exact X a k (.inr (.inr x))
     .exact D (.inl x)
    .exact D (.inr m)
   |obj r=>
    rcases List.mem_cons.1 m with x|x
    .exact Y r k (.inr (.inr x))
    .exact D x
   |_=>exact m
  .rcases m with m|m
   .rcases List.mem_cons.1 m with x|x
    .exact f.ne.2.2 (H▸x)
    .exact f.parts.iu 0 (Nat.zero_le _) a.block (by rw[A];exact x) (.inr (.inl H))
   .exact f.parts.jT 0 (Nat.zero_le _) a (by rw[A];exact m) (.inr (.inl H))
 .rcases k with k|⟨a,rfl,H⟩
  .exact Loc.low_mono f.jV (f.low l k)
  .show a.block<_;rw[H];exact f.parts.g6 _ (.inr (.inl rfl))
 .rw[M] at R
  refine (R.trans (dV.at_ _ _ _)).trans ⟨.refl _,rfl,rfl,Nat.le_refl _,fun _ _ _ _=>rfl,fun _ h=>.inl h,fun b hb=>?_⟩
  rcases List.mem_cons.1 hb with x|x
  .exact .inr (.inr (.inr (.inr x)))
  .exact .inl x
end
def jr (P:Program)(Φ:Goroutine->af->Prop)(g:Goroutine)(F:af):Prop:=
 g.status= .running/\g.offers=none/\∀(bJ:Loc->Prop) (gs:Array Goroutine) (w:World) (sl:Option (Nat×Nat)) (t:Trace) (q:Nat->Nat),j3 P bJ g F gs w t q->
  ∃(N:Nat) (ck:Array Goroutine) (w':World) (c:Option (Nat×Nat)) (a:Trace) (d:Nat->Nat) (g':Goroutine) (F':af) (b:Loc->Prop),
   runNT P N (crowd gs w sl) t=(.next (crowd ck w' c),a)/\j3 P b g' F' ck w' a d/\fT F F' w w'/\(∀l,b l->bJ l\/¬l.low w.heap.size\/fK F l)/\Φ g' F'
theorem jr.done {P:Program}{Φ:Goroutine->af->Prop}{g:Goroutine}{F:af}(a:g.status= .running)(b:g.offers=none)(h:Φ g F):jr P Φ g F:=
 ⟨a,b,fun bJ gs w sl t q c=>⟨0,gs,w,sl,t,q,g,F,bJ,rfl,c,.refl _ _,fun _ h=>.inl h,h⟩⟩
theorem Le.Ln {F F':af}(h:Le F F'){l:Loc}(b:fK F l):fK F' l:=by
 cases l with
 |cell a=>exact h.own _ b
 |obj r=>exact h.own _ b
 |_=>exact b
theorem D2 (P:Program)(Φ:Goroutine->af->Prop):Closed P true (jr P Φ) where
 mono hle h:=by
  refine ⟨h.1,h.2.1,fun bJ gs w sl t q b=>?_⟩
  obtain ⟨N,ck,w',C,D,E,g',F',H,k,I,hu,J,K⟩:=h.2.2 bJ gs w sl t q ⟨b.g0,b.lv,b.gq,hle.has w b.has,fun l hs L=>b.apart l hs (hle.g8 L),b.low⟩
  exact ⟨N,ck,w',C,D,E,g',F',H,k,I,hu.le hle,fun l m=>(J l m).imp id fun x=>x.imp id hle.Ln,K⟩
 step {fr cs F} h:=by
  refine ⟨rfl,rfl,fun bJ gs w sl t q b=>?_⟩
  obtain ⟨N,n,d,o,a3,p,t1,M,k,a4,u,v,O,Q⟩:=sR (P:=P) (a:=G fr cs) rfl _ gs w sl t q (Nat.le_refl _) b.g0 b.lv b.gq
  obtain ⟨g',w',es,F',hgo,hu,R,S,hJ⟩:=h (w.at o) (b.has.at o)
  have c:eA F F' w w':=⟨hu.os,hu.tape,hu.output,hu.size,hu.frame,hu.ro,hu.own⟩
  have T:=runT_crowd_go (P:=P) (sl:=p) (i:=0) u (show stepG P (0==0) (G fr cs) (w.at o)=_ from hgo)
  have U:0<n.size:=(Array.getElem?_eq_some_iff.1 u).1
  have z:=j3.next (P:=P) b.apart b.low c
  obtain ⟨V,W,w2,X,t2,Y,Z,ab,ad,ae,al,ao,ar,a0⟩:=hJ.2.2 bJ ((n.map (woken P (G fr cs) g' w')).setIfInBounds 0 g') w' p (t1++MemOp.ofEvents 0 (G fr cs).frame.fn (G fr cs).frame.place es) M
   {g0:=by simp[U]
    lv:=⟨fun j x g A=>by
     have aL:0≠j:=aa
     rw[Array.getElem?_setIfInBounds_ne aL,Array.getElem?_map] at A
     obtain ⟨y,a2,rfl⟩:=Option.map_eq_some_iff.1 A
     have B:=v.old j y g a2
     rw[woken_quitsD B,Deaf_other t1 aa _ (fun op s=>by obtain ⟨e,_,rfl⟩:=Go.Conc.mem_ofEvents s;rfl)]
     exact B,fun j g=>by
     rw[Deaf_other t1 (g':=0) (by simp at g;omega) _ (fun op s=>by obtain ⟨e,_,rfl⟩:=Go.Conc.mem_ofEvents s;rfl)]
     exact v.above j (by simpa using g)⟩
    gq:=(O.mono c.size).own fun e he=>AB b.has c.size b.apart b.low (S e he)
    has:=R
    apart:=z.1
    low:=z.2}
  refine ⟨N+1+V,W,w2,X,t2,Y,Z,ab,ad,?_,al,(fT.qt c).trans ao,fun l m=>?_,a0⟩
  .have:runNT P (N+1) (crowd gs w sl) t=(.next (crowd ((n.map (woken P (G fr cs) g' w')).setIfInBounds 0 g') w' p),t1++MemOp.ofEvents 0 (G fr cs).frame.fn (G fr cs).frame.place es):=by
    rw[runNT_add,k]
    simp only[runNT,Q,T]
   rw[j4 this]
   exact ae
  .rcases ar l m with x|x|x
   .exact .inl x
   .exact .inr (.inl fun f=>x (Loc.low_mono c.size f))
   .cases l with
    |cell a=>
     rcases c.own _ x with y|y
     .exact .inr (.inr y)
     .exact .inr (.inl fun f=>absurd f (Nat.not_lt.2 y))
    |obj r=>
     rcases c.own _ x with y|y
     .exact .inr (.inr y)
     .exact .inr (.inl fun f=>absurd f (Nat.not_lt.2 y))
    |_=>exact x.elim
theorem gv.Lo {P:Program}{f:FuncId}{args:Array Value}{ro:Addr->Option Value}{R:Value->af->Prop}(h:∀Φ,dn P (jr P Φ) f args ⟨ro,[]⟩ R):gv P f args ⟨ro,[]⟩ R:=by
 intro Φ c cs hK bJ gs w sl t q b;obtain ⟨N,ck,w',d,e,g,g',F',i,j,k,hu,m,v,rfl,a⟩:=(h (fun g' F'=>∃v,g'=G (c.finish v) cs/\R v F') c cs (fun v F' a=>jr.done rfl rfl ⟨v,rfl,a⟩)).2.2 bJ gs w sl t q b;obtain ⟨n,o,w2,p,t2,r,s,u,z,A,B,C,D,E⟩:=hK v F' a i ck w' d e g k;refine ⟨N+n,o,w2,p,t2,r,s,u,z,by rw[j4 j];exact A,B,hu.trans C,fun l F=>?_,E⟩;rcases D l F with x|x
 .rcases m l x with y|y|y
  .exact .inl y
  .exact .inr y
  .cases l<;>first|(simp only[fK,keys,List.map_nil] at y;cases y)|exact y.elim
 .exact .inr fun H=>x (Loc.low_mono hu.size H)
theorem jr.found {P:Program}{Φ:Goroutine->af->Prop}{g:Goroutine}{F C:af}{Mu Wg Is:Nat}{tM tW tI:TypeId}{n:Nat}(bs:Nat->Bool)(I:g.status= .running)(Q:g.offers=none)
  (hle:Le ⟨C.ro,(Mu,muBlock tM 0 0)::(Wg,wgBlock tW 0 0)::(Is,.cells (List.replicate n (Value.bool false)).toArray tI)::C.own⟩ F)
  (h:∀base B0 T0,0<base->(Mu≠Wg/\Mu≠Is/\Wg≠Is)->eP ⟨P,Mu,Wg,Is,tM,tW,tI,n,bs,base,T0⟩ B0 (jr P Φ) 0 (.opn 0) 0 g C):jr P Φ g F:=by
 refine ⟨I,Q,fun bJ gs w sl t q k=>?_⟩
 have A:=hle.has w k.has
 have R:0<gs.size:=(Array.getElem?_eq_some_iff.1 k.g0).1
 let c:Cy:=⟨P,Mu,Wg,Is,tM,tW,tI,n,bs,gs.size,t.size⟩
 have S:=A.nodup
 simp only[keys,List.map_cons,List.nodup_cons,List.mem_cons,not_or] at S
 obtain ⟨⟨n1,n2,n3⟩,⟨T,U⟩,V,W⟩:=S
 have u:∀b,c.shared b->b∈keys F.own:=fun b hb=>by
  rcases hb with rfl|rfl|rfl<;>exact hle.own _ (by simp[keys,c])
 have D:∀b,b∈keys C.own->b∈keys F.own:=fun b hb=>hle.own b (by simp only[keys,List.map_cons,List.mem_cons];exact .inr (.inr (.inr hb)))
 have M:∀a,(C.ro a).isSome=true->(F.ro a).isSome=true\/a.block∈keys F.own:=fun a d=>hle.ro a d
 have X:Has C w:=⟨A.ro,fun b o hb=>A.own b o (List.mem_cons_of_mem _ (List.mem_cons_of_mem _ (List.mem_cons_of_mem _ hb))),W,fun a v I hm=>A.apart a v I (by simp only[keys,List.map_cons,List.mem_cons];exact .inr (.inr (.inr hm)))⟩
 have K:∀l,F.g8 l->∀i a,touchAt t i=some a->a.loc=l->l.isMemory=true->Go.Conc.Knows t 0 i:=fun l m i a d e hm=>by
  rcases k.gq.known i a d (by rw[e];exact hm) with x|⟨x,_⟩
  .exact x
  .exact absurd m (k.apart l (e▸x))
 let φ:Nat->Ph:=fun _=>{mp:=.idle,gp:=.new,stored:=false,deaf:=0}
 let s:Sh:=⟨0,0,0,0,List.replicate n false⟩
 have Y:ee c w.heap.size bJ (.opn 0) 0 0 g (fun _=>C) gs w t (fun j=>Rk.nat (q j)) φ s:=by
  refine ⟨rfl,R,I,Q,⟨g,k.g0,by cases g;simp_all,.inl I⟩,fun j x Z _ ab=>⟨q j,rfl,k.lv.old j x Z ab⟩,fun i hi=>aa,fun i hi=>aa,k.lv.above,k.gq.hears,⟨fun p E=>X,fun p q E ad aL=>aa,fun p q E ad aL=>aa,fun p E b hb hs=>?_,fun p E a d hs=>?_,fun b hb=>k.has.lt (u b hb)⟩,
   ⟨?_,?_,?_⟩,⟨⟨0,0,0,0,0,⟨⟨rfl,aa,aa,aa⟩,rfl,?_,fun _=>?_,fun e=>aa,fun i hi o G ae=>by simp[φ,Mp.seen] at ae⟩⟩,⟨?_⟩,⟨by simp[s,c],Nat.zero_le _,fun i hi=>?_,fun i hi=>?_,fun i hi _=>⟨rfl,rfl,rfl⟩,fun i hi _ L=>by simp[φ] at L⟩⟩,
   ⟨Nat.le_refl _,fun i a d hs=>.inr fun p E=>?_,k.gq.clean,fun p E l m=>?_,fun p E l m=>?_,fun i hi=>aa,fun i hi l m=>?_,k.gq.seen,fun i hi e=>?_,fun i a d hm=>?_,fun i g hg al hc=>.inl (k.gq.over i g hg al hc)⟩,
   fun i hi=>aa,fun l m H=>?_,k.low,fun i hi=>aa,Nat.le_refl _,⟨n1,n2,T⟩⟩
  .rcases hs with e|e|e
   .exact n3 (by rw[<-show b=Mu from e];exact hb)
   .exact U (by rw[<-show b=Wg from e];exact hb)
   .exact V (by rw[<-show b=Is from e];exact hb)
  .obtain ⟨v,ao⟩:=Option.isSome_iff_exists.1 d
   refine A.apart a v ao ?_
   rcases hs with e|e|e
   .rw[show a.block=Mu from e];simp[keys]
   .rw[show a.block=Wg from e];simp[keys]
   .rw[show a.block=Is from e];simp[keys]
  .exact A.own Mu (muBlock tM 0 0) (.head _)
  .exact A.own Wg (wgBlock tW 0 0) (.tail _ (.head _))
  .have:=A.own Is (.cells (List.replicate n (Value.bool false)).toArray tI) (.tail _ (.tail _ (.head _)))
   rw[show (s.is.map Value.bool)=List.replicate n (Value.bool false) from by simp[s]]
   exact this
  .exact (zq fun i hi=>rfl).symm
  .have z:∀f:Mp->Nat,f .idle=0->sm n φ f=0:=fun f H=>zq fun i hi=>H
   have a1:=z Mp.nI rfl;have a2:=z Mp.nY rfl;have a3:=z Mp.nA rfl;have a4:=z Mp.nK rfl;have a5:=z Mp.nT rfl;have b1:=z Mp.nQ rfl
   refine ⟨a1,a2,?_,?_,fun e=>absurd e (Nat.lt_irrefl _)⟩
   .show 0=sm n φ Mp.nA+0+sm n φ Mp.nK+sm n φ Mp.nT;omega
   .show 0+0+sm n φ Mp.nT=sm n φ Mp.nQ;omega
  .have z:∀f:Gp->Nat,f .new=0->sg n φ f=0:=fun f H=>vn fun i hi=>H
   refine ⟨aa,?_,rfl,z _ rfl,z _ rfl⟩
   show (0:Int)=((sg n φ Gp.nV+0:Nat):Int)*dy
   rw[z _ rfl];rfl
  .simp[s,φ,show i<n from hi]
  .exact ⟨fun e=>aa,fun e=>by simp[φ] at e⟩
  .obtain rfl:p=0:=aa
   obtain ⟨b,e,hb⟩:=hs
   exact K a.loc (by rw[e];exact .inl (u _ (hb.elim .inl fun x=>.inr (.inl x)))) i a d rfl (by rw[e];rfl)
  .obtain rfl:p=0:=aa
   intro i a d e
   refine K l ?_ i a d e ?_
   .cases l with
    |cell a=>exact .inl (D _ m)
    |obj r=>exact D _ m
    |_=>exact m.elim
   .cases l<;>first|rfl|exact m.elim
  .obtain rfl:p=0:=aa
   obtain ⟨b,rfl,hb⟩:=m
   exact fun i a d e _=>K (.cell b) ((M b hb).elim (fun x=>Or.inr x) (fun x=>Or.inl x)) i a d e rfl
  .intro j a d e
   rw[show l=_ from m] at e
   exact K (.cell ⟨Is,i,none⟩) (Or.inl (u Is (.inr (.inr rfl)))) j a d e rfl
  .exact absurd (lt_of_act? e) (Nat.not_lt.2 hi)
  .rcases k.gq.known i a d hm with x|x
   .exact .inl x
   .exact .inr (.inl x)
  .refine k.apart l m ?_
   cases l with
   |cell a=>exact H.elim (fun x=>.inl (D _ x)) fun x=>(M a x).elim .inr .inl
   |obj r=>exact D _ H
   |_=>exact H
 obtain ⟨N,ck,w',ar,a0,a6,g',F',a7,k1,a8,B,a9,ba⟩:=(h gs.size w.heap.size t.size R ⟨n1,n2,T⟩).2.2 bJ gs w sl t _ _ _ _ rfl Y (fun a hs hb=>k.apart _ hs (.inl (u _ hb))) (fun r hs hb=>k.apart _ hs (u _ hb))
 obtain ⟨bb,bc,w2,bd,t2,bj,bk,bl,bm,bo,br,bz,bS,b0⟩:=ba.2.2 a7 ck w' ar a0 a6 a8
 have O:fT F F' w w':=⟨B.os,B.tape,B.output,B.size,fun b hb L=>B.frame b hb (fun x=>L (D b x)) (fun x=>L (u b x)),fun a d=>by
  rcases B.ro a d with x|x|x|x
  .exact (M a x).imp id .inl
  .exact .inr (.inl (D _ x))
  .exact .inr (.inr x)
  .exact .inr (.inl (u _ x)),fun b hb=>by
  rcases B.own b hb with x|x|x
  .exact .inl (D b x)
  .exact .inr x
  .exact .inl (u b x)⟩
 refine ⟨N+bb,bc,w2,bd,t2,bj,bk,bl,bm,by rw[j4 k1];exact bo,br,O.trans bz,fun l m=>?_,b0⟩
 rcases bS l m with x|x|x
 .rcases a9 l x with y|⟨a,rfl,d⟩
  .exact .inl y
  .exact .inr (.inr (show a.block∈keys F.own from u _ (.inr (.inl d))))
 .exact .inr (.inl fun J=>x (Loc.low_mono B.size J))
 .cases l with
  |cell a=>
   rcases O.own _ x with y|y
   .exact .inr (.inr y)
   .exact .inr (.inl fun J=>absurd J (Nat.not_lt.2 y))
  |obj r=>
   rcases O.own _ x with y|y
   .exact .inr (.inr y)
   .exact .inr (.inl fun J=>absurd J (Nat.not_lt.2 y))
  |_=>exact x.elim
end Go.Sep
end

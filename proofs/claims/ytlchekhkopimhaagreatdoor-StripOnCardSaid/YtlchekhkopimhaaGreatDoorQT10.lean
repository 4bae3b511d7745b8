/- A part of the proof: QT10. -/
import Derived.Test.YtlchekhkopimhaaGreatDoorQT9
import Derived.Conc.CrowdComm
set_option linter.all false
section
namespace Go.Sep
open Go Go.Conc
open Go.ConcN (sumTo upd sumTo_upd upd_ne upd_same le_sumTo sumTo_le sumTo_congr)
open Go.ConcM (OsLater)
open Go.ConcR (WgAt wgBlock stA smA)
abbrev hO:=(Addr->Option Value)->Value->Prop
structure Gy where
 P:Program
 Wg:Nat
 C:Nat
 tW:TypeId
 z:Value
 n:Nat
 pay:Nat->Option hO
 mono:∀i R ro aF v,pay i=some R->Ext ro aF->R ro v->R aF v
 base:Nat
 T0:Nat
 F1:af
 w1:World
abbrev Gy.cy (c:Gy):Cy:=⟨c.P,c.C,c.Wg,c.C,c.tW,c.tW,c.tW,c.n,fun _=>false,c.base,c.T0⟩
def Gy.sy (c:Gy)(l:Loc):Prop:=(∃a,l= .cell a/\a.block=c.Wg)\/l= .obj c.C
inductive Cl where
 |none (pend:Nat)
 |on (p:P0) (d:Nat) (acq:Bool)
 |shut (d:Nat)
namespace Cl
def p0:Cl->P0
 |none m=>.opn m
 |on p _ _=>p
 |shut _=>.cZ
def ek:Cl->Bool
 |shut _=>true
 |_=>false
def born:Cl->Bool
 |none _=>false
 |_=>true
def emp (k:Nat):Cl->Nat
 |none _=>k
 |_=>k+1
def deaf:Cl->Nat
 |none _=>0
 |on _ d _=>d
 |shut d=>d
end Cl
def Gy.jy (c:Gy):Cl->Nat
 | .none _=>0
 |_=>c.base+c.n
structure Sg where
 wg:Int
 ws:Int
 got:List Nat
def c5 (c:Gy)(w:World)(s:Sg)(cl:Cl):Prop:=WgAt c.tW c.Wg w s.wg s.ws/\w.heap[c.C]?=some (.chan 0 #[] cl.ek s.got.length s.got.length false)
structure cW (c:Gy)(k:Nat)(φ:Nat->Ph)(cl:Cl)(s:Sg):Prop where
 w:c9 c.n φ cl.p0 s.wg s.ws
 kn:k<=c.n
 all:cl.born=true->k=c.n
 born:∀i,i<c.n->(i<k↔(φ i).gp≠ .new)
 new:∀i,i<c.n->(φ i).gp= .new->(φ i).stored=false/\(φ i).deaf=0
 got:∀i,i∈s.got↔i<c.n/\(φ i).stored=true
 nodup:s.got.Nodup
 pay:∀i,i∈s.got->(c.pay i).isSome=true
 done:∀i,i<c.n->(φ i).gp≠ .cnt->(φ i).gp≠ .new->(c.pay i).isSome=true->(φ i).stored=true
theorem cW.wY {c:Gy}{k:Nat}{φ:Nat->Ph}{cl:Cl}{s:Sg}(h:cW c k φ cl s):0<=s.ws:=by
 have:=h.w.inv;generalize cl.p0=p at this;cases p<;>simp only at this<;>omega
theorem cW.gone {c:Gy}{k:Nat}{φ:Nat->Ph}{cl:Cl}{s:Sg}(h:cW c k φ cl s)(a:cl.p0= .cZ){i:Nat}(hi:i<c.n)(hb:cl.born=true):(φ i).gp= .gone:=by
 have hw:=h.w;rw[a] at hw;obtain ⟨_,b,d,f⟩:=Bv hw;exact (Ih b d f hi).resolve_right fun e=>(h.born i hi).1 (by rw[h.all hb];exact hi) e
theorem cW.gL {c:Gy}{k:Nat}{φ:Nat->Ph}{cl:Cl}{s:Sg}(h:cW c k φ cl s){i:Nat}(hi:i<c.n){ph:Ph}{s':Sg}(he:φ i=ph){aX:Ph}(hg:ph.gp≠ .new)(g:aX.gp≠ .new)(hs:aX.stored=ph.stored)(d:s'.got=s.got)
  (hw:c9 c.n (upd φ i aX) cl.p0 s'.wg s'.ws) (hd:aX.gp≠ .cnt->(c.pay i).isSome=true->aX.stored=true):cW c k (upd φ i aX) cl s':=by
 refine ⟨hw,h.kn,h.all,fun j a=>?_,fun j a hn=>?_,fun j=>?_,by rw[d];exact h.nodup,fun j a=>h.pay j (by rw[<-d];exact a),fun j a b f l=>?_⟩
 .by_cases e:j=i
  .subst e;rw[upd_same,h.born j a,he];exact ⟨fun _=>g,fun _=>hg⟩
  .rw[upd_ne _ _ e];exact h.born j a
 .by_cases e:j=i
  .subst e;rw[upd_same] at hn;exact absurd hn g
  .rw[upd_ne _ _ e] at hn ⊢;exact h.new j a hn
 .rw[d,h.got j]
  by_cases e:j=i
  .subst e;rw[upd_same,hs,he]
  .rw[upd_ne _ _ e]
 .by_cases e:j=i
  .subst e;rw[upd_same] at b f ⊢;exact hd b l
  .rw[upd_ne _ _ e] at b f ⊢;exact h.done j a b f l
theorem cW.group {c:Gy}{k:Nat}{φ:Nat->Ph}{cl cl':Cl}{s s':Sg}(h:cW c k φ cl s)(hw:c9 c.n φ cl'.p0 s'.wg s'.ws)(hb:cl'.born=cl.born)(a:s'.got=s.got):cW c k φ cl' s':=
 ⟨hw,h.kn,fun e=>h.all (hb▸e),h.born,h.new,by rw[a];exact h.got,by rw[a];exact h.nodup,by rw[a];exact h.pay,h.done⟩
theorem cW.pass {c:Gy}{k:Nat}{φ:Nat->Ph}{cl:Cl}{s:Sg}(h:cW c k φ cl s){i:Nat}(hi:i<c.n)(hg:(φ i).gp= .cnt)(hs:(φ i).stored=false)(m:(c.pay i).isSome=true):
  i∉s.got/\cW c k (upd φ i {φ i with stored:=true}) cl {s with got:=s.got++[i]}:=by
 have hn:i∉s.got:=fun hm=>by have:=((h.got i).1 hm).2;rw[hs] at this;cases this
 refine ⟨hn,q3 h.w hi _ (.inl rfl),h.kn,h.all,fun j d=>?_,fun j d f=>?_,fun j=>?_,?_,fun j d=>?_,fun j d g l o=>?_⟩
 .by_cases e:j=i
  .subst e;rw[upd_same];exact h.born j d
  .rw[upd_ne _ _ e];exact h.born j d
 .by_cases e:j=i
  .subst e;rw[upd_same] at f;rw[hg] at f;cases f
  .rw[upd_ne _ _ e] at f ⊢;exact h.new j d f
 .simp only[List.mem_append,List.mem_singleton]
  rw[h.got j]
  by_cases e:j=i
  .subst e;rw[upd_same];simp[hi]
  .rw[upd_ne _ _ e];simp[e]
 .exact List.nodup_append.2 ⟨h.nodup,an,fun a p b hb e=>by simp at hb;subst hb;subst e;exact hn p⟩
 .simp only[List.mem_append,List.mem_singleton] at d
  rcases d with d|rfl
  .exact h.pay j d
  .exact m
 .by_cases e:j=i
  .subst e;rw[upd_same] at g ⊢
  .rw[upd_ne _ _ e] at g l ⊢;exact h.done j d g l o
end Go.Sep
end
section
namespace Go.Sep
open Go Go.Conc
open Go.ConcN (PermW fork_knows)
open Go.ConcR (WgAt wgBlock stA smA)
structure dN (c:Gy)(bl:Loc->Prop)(K eU:Nat)(Fr:Nat->af)(B:Nat)(t:Trace):Prop where
 len:c.T0<=t.size
 quiet:∀i a,touchAt t i=some a->c.sy a.loc->(a.kind≠ .plain/\(a.kind= .said->Go.Conc.Knows t eU i))\/∀p,p<=K->Go.Conc.Knows t (c.cy.gid p) i
 nr:∀said,¬Race said t
 own:∀p,p<=K->∀l,ei (Fr p) l->Perm t (c.cy.gid p) l
 ro:∀p,p<=K->∀l,fR (Fr p) l->PermW t (c.cy.gid p) l
 low:∀op∈t,op.act.low B
 norel:∀i,c.T0<=i->t.act? i≠some (.mark (.release (stA c.Wg)))
 known:∀i a,touchAt t i=some a->a.loc.isMemory=true->Go.Conc.Knows t 0 i\/(bl a.loc/\a.kind= .atomic)\/∃j,j<K/\t.g? i=some (c.base+j)
 over:∀i g,t.g? i=some g->g≠0->t.counts i->(∃j,t.g? j=some 0/\HappensBefore t i j)\/∃j,j<K/\g=c.base+j
def OkG (c:Gy)(F:af)(B p eU:Nat)(x:Touch):Prop:=
 ei F x.loc\/k9 B x.loc\/(fR F x.loc/\x.write=false)\/(c.sy x.loc/\x.kind≠ .plain/\(x.kind= .said->c.cy.gid p=eU))\/x.loc.isMemory=false
section
variable {c:Gy}{bl:Loc->Prop}{K eU:Nat}{Fr:Nat->af}{w:World}{t u:Trace}
theorem dS.Cn (h:dS c.cy K Fr w){p:Nat}(d:p<=K){l:Loc}(e:ei (Fr p) l)(b:c.sy l):False:=by
 rcases b with ⟨a,rfl,b⟩|rfl
 .exact h.gJ p d _ e (.inr (.inl b))
 .exact h.gJ p d _ e (.inl rfl)
theorem dS.Co (h:dS c.cy K Fr w){p:Nat}(f:p<=K){l:Loc}(b:fR (Fr p) l)(d:c.sy l):False:=by
 obtain ⟨a,rfl,b⟩:=b;rcases d with ⟨g,e,d⟩|e
 .cases e;exact h.iS p f _ b (.inr (.inl d))
 .cases e
theorem dS.Ji (h:dS c.cy K Fr w){l:Loc}(d:k9 w.heap.size l)(b:c.sy l):False:=by
 rcases b with ⟨a,rfl,b⟩|rfl
 .exact absurd (h.fS _ (.inr (.inl b))) (Nat.not_lt.2 d)
 .exact absurd (h.fS _ (.inl rfl)) (Nat.not_lt.2 d)
theorem xV {said:Bool}(h:¬Race said t)(hn:∀op∈u,op.act.touch?=none):¬Race said (t++u):=by
 rintro ⟨i,j,e,⟨a,b,f,hb,g⟩,n1,k⟩;obtain ⟨x,l,c⟩:=touch_of f;obtain ⟨y,m,d⟩:=touch_of hb;rcases getElem?_append_cases m with ⟨r,n⟩|⟨_,o⟩
 .rcases getElem?_append_cases l with ⟨hi,p⟩|⟨_,q⟩
  .exact h ⟨i,j,e,⟨a,b,(touchAt_of p).trans c,(touchAt_of n).trans d,g⟩,fun z=>n1 (hb_app u z),fun z=>k (hb_app u z)⟩
  .rw[hn x q] at c;cases c
 .rw[hn y o] at d;cases d
theorem tK {i j:Nat}(y:HappensBefore t i j)(a:t.g? j=some 0):(t++u).g? j=some 0/\HappensBefore (t++u) i j:=by
 have b:j<t.size:=by
  unfold Trace.g? at a;obtain ⟨z,c,_⟩:=Option.map_eq_some_iff.1 a;exact lt_size_of_getElem? c
 exact ⟨by rw[g?_old b];exact a,hb_app u y⟩
theorem dN.app (hb:0<c.base)(n:dS c.cy K Fr w)(h:dN c bl K eU Fr w.heap.size t){p:Nat}(A:p<=K){b6:Nat->af}{G:Nat}(N:w.heap.size<=G)
  (hu:∀op∈u,op.g=c.cy.gid p) (E:∀op∈u,∀x,op.act.touch?=some x->OkG c (Fr p) w.heap.size p eU x)
  (O:∀op∈u,op.act.low G) (P:∀op∈u,op.act≠ .mark (.release (stA c.Wg)))
  (I:∀q,q≠p->b6 q=Fr q) (Q:∀l,ei (b6 p) l->ei (Fr p) l\/k9 w.heap.size l) (R:∀l,fR (b6 p) l->fR (Fr p) l\/ei (Fr p) l\/k9 w.heap.size l):
  dN c bl K eU b6 G (t++u):=by
 have S:∀{F:af} {l:Loc},ei F l->l.isMemory=true:=fun {F l} d=>by cases l<;>first|rfl|exact d.elim
 have T:∀{F:af} {l:Loc},fR F l->l.isMemory=true:=fun {F l} d=>by obtain ⟨a,rfl,_⟩:=d;rfl
 have U:∀q,q<=K->q≠p->∀l,ei (Fr q) l->∀op∈u,∀b,op.act.touch?=some b->b.loc≠l:=by
  intro q f m l d op k b s e
  rcases E op k b s with x|x|⟨x,_⟩|⟨x,_⟩|x<;>rw[e] at x
  .exact n.sep f A m d x
  .exact Il (n.has q f) d x
  .exact n.By A f (Ne.symm m) x d
  .exact n.Cn f d x
  .rw[S d] at x;cases x
 have V:∀q,q<=K->q≠p->∀l,fR (Fr q) l->∀op∈u,∀b,op.act.touch?=some b->b.loc=l->b.write=true->False:=by
  intro q f m l d op k b s e hw
  rcases E op k b s with x|x|⟨x,x'⟩|⟨x,_⟩|x
  .rw[e] at x;exact n.By f A m d x
  .rw[e] at x;exact Im (n.has q f) d x
  .rw[x'] at hw;cases hw
  .rw[e] at x;exact n.Co f d x
  .rw[e,T d] at x;cases x
 have fresh:∀l,k9 w.heap.size l->Perm (t++u) (c.cy.gid p) l:=by
  intro l d i a o e
  obtain ⟨x,v,C⟩:=touch_of o
  rcases getElem?_append_cases v with ⟨hi,D⟩|⟨_,B⟩
  .have:=Bx h.low (show touchAt t i=some a by rw[touchAt_of D];exact C)
   rw[e] at this
   exact (Bw this d).elim
  .have:=knows_own v
   rwa [hu x B] at this
 refine ⟨by have:=h.len;simp;omega,fun i a o hs=>?_,fun said=>?_,fun q f l d=>?_,fun q f l d=>?_,fun op k=>?_,s7 h.norel P,fun i a o hm=>?_,fun i g hg J r=>?_⟩
 .obtain ⟨x,v,C⟩:=touch_of o
  rcases getElem?_append_cases v with ⟨hi,D⟩|⟨_,B⟩
  .rcases h.quiet i a (by rw[touchAt_of D];exact C) hs with ⟨y,z⟩|y
   .exact .inl ⟨y,fun e=>(z e).app u⟩
   .exact .inr fun q f=>(y q f).app u
  .rcases E x B a C with y|y|⟨y,_⟩|⟨_,y,z⟩|y
   .exact (n.Cn A y hs).elim
   .exact (n.Ji y hs).elim
   .exact (n.Co A y hs).elim
   .refine .inl ⟨y,fun e=>?_⟩
    have:=knows_own v
    rwa [hu x B,z e] at this
   .rcases hs with ⟨b,e,_⟩|e<;>rw[e] at y<;>cases y
 .refine noRace_append (h.nr said) hu fun i a o op k b s r=>?_
  rcases E op k b s with y|y|⟨y,z⟩|⟨y,W,z⟩|y
  .exact h.own p A _ y i a o r.1
  .have:=Bx h.low o
   rw[r.1] at this
   exact (Bw this y).elim
  .exact h.ro p A _ y i a o r.1 (r.2.2.1.resolve_right (by rw[z];simp))
  .rcases h.quiet i a o (by rw[r.1];exact y) with ⟨X,Y⟩|q
   .obtain ⟨_,_,_,Z⟩:=r
    rcases Z with e|e|⟨_,e,ab⟩
    .exact absurd e X
    .exact absurd e W
    .rw[z ab];exact Y e
   .exact q p A
  .rw[<-r.1,r.2.1] at y;cases y
 .by_cases m:q=p
  .subst m
   rcases Q l d with y|y
   .exact (h.own q f l y).app fun op k _ _ _=>hu op k
   .exact fresh l y
  .rw[I q m] at d
   exact (h.own q f l d).app fun op k b s e=>absurd e (U q f m l d op k b s)
 .by_cases m:q=p
  .subst m
   rcases R l d with y|y|y
   .exact (h.ro q f l y).app fun op k _ _ _ _=>hu op k
   .exact .of ((h.own q f l y).app fun op k _ _ _=>hu op k)
   .exact .of (fresh l y)
  .rw[I q m] at d
   exact (h.ro q f l d).app fun op k b s e hw=>(V q f m l d op k b s e hw).elim
 .exact (Array.mem_append.1 k).elim (fun x=>MemAct.low_mono N (h.low op x)) (O op)
 .obtain ⟨x,v,C⟩:=touch_of o
  rcases getElem?_append_cases v with ⟨hi,D⟩|⟨_,B⟩
  .rcases h.known i a (by rw[touchAt_of D];exact C) hm with y|y|⟨j,H,y⟩
   .exact .inl (y.app u)
   .exact .inr (.inl y)
   .exact .inr (.inr ⟨j,H,by rw[g?_old hi];exact y⟩)
  .cases p with
   |zero=>have:=knows_own v;rw[hu x B] at this;exact .inl this
   |succ j=>exact .inr (.inr ⟨j,aa,by simp[Trace.g?,v,hu x B,Cy.gid]⟩)
 .by_cases hi:i<t.size
  .rcases h.over i g (by rw[<-g?_old (u:=u) hi];exact hg) J ((counts_old hi).1 r) with ⟨j,H,y⟩|y
   .exact .inl ⟨j,tK y H⟩
   .exact .inr y
  .unfold Trace.g? at hg
   obtain ⟨z,ad,L⟩:=Option.map_eq_some_iff.1 hg
   rcases getElem?_append_cases ad with ⟨ae,_⟩|⟨_,M⟩
   .exact absurd ae hi
   .cases p with
    |zero=>exact absurd (L▸(hu z M)) J
    |succ j=>exact .inr ⟨j,aa,by rw[<-L,hu z M];rfl⟩
theorem old_touch (hn:∀op∈u,op.act.touch?=none){i:Nat}{a:Touch}(c:touchAt (t++u) i=some a):touchAt t i=some a/\i<t.size:=by
 obtain ⟨z,d,b⟩:=touch_of c;rcases getElem?_append_cases d with ⟨hi,e⟩|⟨_,f⟩
 .exact ⟨by rw[touchAt_of e];exact b,hi⟩
 .rw[hn z f] at b;cases b
theorem dN.still {B:Nat}(h:dN c bl K eU Fr B t)(hn:∀op∈u,op.act.touch?=none)(d:∀op∈u,op.act.low B)(r:∀op∈u,op.act≠ .mark (.release (stA c.Wg))):dN c bl K eU Fr B (t++u):=by
 refine ⟨by have:=h.len;simp;omega,fun i a m hs=>?_,fun said=>xV (h.nr said) hn,fun q f l d=>(h.own q f l d).app fun op k b hb _=>(by rw[hn op k] at hb;cases hb),fun q f l d=>(h.ro q f l d).app fun op k b hb _ _=>(by rw[hn op k] at hb;cases hb),
  fun op k=>(Array.mem_append.1 k).elim (h.low op) (d op),s7 h.norel r,fun i a m hm=>?_,fun i g hg s p=>?_⟩
 .rcases h.quiet i a (old_touch hn m).1 hs with ⟨y,z⟩|y
  .exact .inl ⟨y,fun e=>(z e).app u⟩
  .exact .inr fun q f=>(y q f).app u
 .obtain ⟨v,hi⟩:=old_touch hn m;rcases h.known i a v hm with z|z|⟨j,n,z⟩
  .exact .inl (z.app _)
  .exact .inr (.inl z)
  .exact .inr (.inr ⟨j,n,by rw[g?_old hi];exact z⟩)
 .have w:=p;obtain ⟨z,x,_⟩:=p;obtain ⟨_,hi⟩:=old_touch hn (show touchAt _ i=some z from x);rcases h.over i g (by rw[<-g?_old (u:=u) hi];exact hg) s ((counts_old hi).1 w) with ⟨j,n,o⟩|o
  .exact .inl ⟨j,tK o n⟩
  .exact .inr o
theorem dN.mute {B:Nat}(h:dN c bl K eU Fr B t){j:Nat}{fn:FuncId}{pos:String}{es:Array Event}(hm:∀e∈es,e.mute=true):dN c bl K eU Fr B (t++MemOp.ofEvents j fn pos es):=by
 refine h.still (fun op a=>?_) (fun op a=>?_) (fun op a=>?_)<;>obtain ⟨e,he,rfl⟩:=Go.Conc.mem_ofEvents a
 .exact touch_mute (hm e he)
 .exact low_mute (hm e he) B
 .have:=hm e he;obtain ⟨loc,wr,sy⟩:=e;cases loc with
  |mark m=>cases m<;>simp_all [Event.mute,MemAct.ofEvent]
  |_=>simp_all [Event.mute]
theorem dN.Cp {B:Nat}(h:dN c bl K eU Fr B t){b6:Nat->af}(d:∀p,p<=K->∀l,ei (b6 p) l->ei (Fr p) l)(e:∀p,p<=K->∀l,fR (b6 p) l->fR (Fr p) l\/ei (Fr p) l):dN c bl K eU b6 B t:=
 ⟨h.len,h.quiet,h.nr,fun p a l b=>h.own p a l (d p a l b),fun p a l b=>(e p a l b).elim (h.ro p a l) fun y=>.of (h.own p a l y),h.low,h.norel,h.known,h.over⟩
theorem dN.fork (h:dN c bl K 0 Fr w.heap.size t){x y:MemOp}(m:x.g=0/\x.act= .go (c.base+K))(n:y.g=c.base+K/\y.act= .start)(r:Deaf t 0=0)(s:Deaf t (c.base+K)=0){v:Nat}(H:v=0\/v=c.base+K)
  {b6:Nat->af} (C:∀q,q<=K->b6 q=Fr q) (I:∀l,¬ei (b6 (K+1)) l) (J:∀l,fR (b6 (K+1)) l->fR (Fr 0) l):dN c bl (K+1) v b6 w.heap.size (t++#[x,y]):=by
 have hn:∀op∈#[x,y],op.act.touch?=none:=by
  intro op d
  simp only[List.mem_toArray,List.mem_cons,List.not_mem_nil,or_false] at d
  rcases d with rfl|rfl
  .rw[m.2];rfl
  .rw[n.2];rfl
 have D:∀op∈#[x,y],∀b,op.act.touch?=some b->False:=fun op d b hb=>by rw[hn op d] at hb;cases hb
 refine ⟨by have:=h.len;simp;omega,fun i a o hs=>?_,fun said=>xV (h.nr said) hn,fun q L l f=>?_,fun q L l f=>?_,fun op d=>?_,s7 h.norel fun op d=>?_,fun i a o hm=>?_,fun i g hg M E=>?_⟩
 .rcases h.quiet i a (old_touch hn o).1 hs with ⟨N,F⟩|q
  .refine .inl ⟨N,fun e=>?_⟩
   rcases H with rfl|rfl
   .exact (F e).app _
   .exact fork_knows m n r s (F e)
  .refine .inr fun p R=>?_
   rcases Nat.lt_or_ge K p with G|k
   .obtain rfl:p=K+1:=aa
    exact fork_knows m n r s (q 0 (Nat.zero_le _))
   .exact (q p k).app _
 .rcases Nat.lt_or_ge K q with G|k
  .obtain rfl:q=K+1:=aa
   exact (I l f).elim
  .rw[C q k] at f
   exact (h.own q k l f).app fun op d b hb _=>(D op d b hb).elim
 .rcases Nat.lt_or_ge K q with G|k
  .obtain rfl:q=K+1:=aa
   exact fun i a o e hw=>fork_knows m n r s (h.ro 0 (Nat.zero_le _) l (J l f) i a (old_touch hn o).1 e hw)
  .rw[C q k] at f
   exact (h.ro q k l f).app fun op d b hb _ _=>(D op d b hb).elim
 .rcases Array.mem_append.1 d with z|z
  .exact h.low op z
  .simp only[List.mem_toArray,List.mem_cons,List.not_mem_nil,or_false] at z
   rcases z with rfl|rfl
   .rw[m.2];trivial
   .rw[n.2];trivial
 .simp only[List.mem_toArray,List.mem_cons,List.not_mem_nil,or_false] at d
  rcases d with rfl|rfl
  .rw[m.2];simp
  .rw[n.2];simp
 .obtain ⟨O,hi⟩:=old_touch hn o
  rcases h.known i a O hm with z|z|⟨j,A,z⟩
  .exact .inl (z.app _)
  .exact .inr (.inl z)
  .exact .inr (.inr ⟨j,aa,by rw[g?_old hi];exact z⟩)
 .have P:=E
  obtain ⟨z,Q,_⟩:=E
  obtain ⟨_,hi⟩:=old_touch hn (show touchAt _ i=some z from Q)
  rcases h.over i g (by rw[<-g?_old (u:=#[x,y]) hi];exact hg) M ((counts_old hi).1 P) with ⟨j,A,B⟩|⟨j,A,B⟩
  .exact .inl ⟨j,tK B A⟩
  .exact .inr ⟨j,aa,B⟩
structure pz (c:Gy)(s j:Nat)(u:Trace):Prop where
 ex:∃x0 x1 x2 x3:MemOp,u=#[x0,x1,x2,x3]/\(x0.g=j/\x0.act= .send c.C s)/\(x1.g=0/\x1.act= .recv c.C s 0)/\(x2.g=j/\x2.act= .sendDone c.C s)/\(x3.g=0/\x3.act= .recvDone c.C s)
theorem pz.touch {s j:Nat}(h:pz c s j u):∀op∈u,op.act.touch?=none/\(∀B,c.C<B->op.act.low B)/\op.act≠ .mark (.release (stA c.Wg))/\op.act≠ .mark .disable/\op.act≠ .mark .enable:=by
 obtain ⟨x0,x1,x2,x3,rfl,d,e,f,g⟩:=h;intro op b;simp only[List.mem_toArray,List.mem_cons,List.not_mem_nil,or_false] at b;rcases b with rfl|rfl|rfl|rfl
 .rw[d.2];exact ⟨rfl,fun B a=>a,an,an,an⟩
 .rw[e.2];exact ⟨rfl,fun B a=>a,an,an,an⟩
 .rw[f.2];exact ⟨rfl,fun B a=>a,an,an,an⟩
 .rw[g.2];exact ⟨rfl,fun B a=>a,an,an,an⟩
theorem Deaf_still (hn:∀op∈u,op.act≠ .mark .disable/\op.act≠ .mark .enable)(j:Nat):Deaf (t++u) j=Deaf t j:=by
 obtain ⟨l⟩:=u;rw[Deaf_append]
 induction l generalizing t with
 |nil=>rfl
 |cons y l ih=>
  have b:=hn y an;have e1:deafStep j (Deaf t j) y=Deaf t j:=by
   unfold deafStep;split<;>simp_all
  rw[List.foldl_cons,e1];exact ih (t:=t) fun op a=>hn op (by simp at a ⊢;exact .inr a)
theorem pz.knows {s j:Nat}(h:pz c s j u)(a:Deaf t 0=0)(b:Deaf t j=0){i:Nat}(d:Go.Conc.Knows t j i):Go.Conc.Knows (t++u) 0 i:=by
 have ht:=h.touch;obtain ⟨x0,x1,x2,x3,rfl,e0,e1,e2,e3⟩:=h;have p0:(t++#[x0,x1,x2,x3])[t.size]?=some x0:=by rw[Array.getElem?_append_right (Nat.le_refl _)];simp
 have p3:(t++#[x0,x1,x2,x3])[t.size+3]?=some x3:=by rw[Array.getElem?_append_right aa];simp
 have a1:HappensBefore (t++#[x0,x1,x2,x3]) i t.size:=d.hb_new (Nat.le_refl _) p0 e0.1;have v0:(t++#[x0,x1,x2,x3]).heard t.size:=⟨j,by simp[Trace.g?,e0.1],by rw[deaf_old (Nat.le_refl _)];exact b⟩
 have e:(t++#[x0,x1,x2,x3]).heard (t.size+3):=by
  refine ⟨0,by simp[Trace.g?,e3.1],?_⟩;have f:(t++#[x0,x1,x2,x3])[t.size+1]?=some x1:=by rw[Array.getElem?_append_right aa];simp
  have g:(t++#[x0,x1,x2,x3])[t.size+2]?=some x2:=by rw[Array.getElem?_append_right aa];simp
  rw[show t.size+3=t.size+2+1 from rfl,deaf_succ g,show t.size+2=t.size+1+1 from rfl,deaf_succ f,deaf_succ p0,deaf_old (Nat.le_refl _)];simp only[deafStep,e0.2,e1.2,e2.2];exact a
 exact ⟨t.size+3,x3,p3,e3.1,.inr (a1.trans (.single (.inr ⟨.handOver (c:=c.C) (k:=s) (by rw[act?_of p0,e0.2]) (by rw[act?_of p3,e3.2]),v0,e⟩)))⟩
theorem dN.meet (h:dN c bl K eU Fr w.heap.size t){s i:Nat}(hm:pz c s (c.base+i) u)(hi:i+1<=K)(hC:c.C<w.heap.size)(k:Deaf t 0=0)(m:Deaf t (c.base+i)=0)
  {b6:Nat->af} (j:∀q,q≠0->b6 q=Fr q) (n:∀l,ei (b6 0) l->ei (Fr 0) l) (o:∀l,fR (b6 0) l->fR (Fr 0) l\/fR (Fr (i+1)) l):dN c bl K eU b6 w.heap.size (t++u):=by
 have ht:=hm.touch
 have b:=h.still (u:=u) (fun op d=>(ht op d).1) (fun op d=>(ht op d).2.1 _ hC) (fun op d=>(ht op d).2.2.1)
 refine ⟨b.len,b.quiet,b.nr,fun p g l f=>?_,fun p g l f=>?_,b.low,b.norel,b.known,b.over⟩
 .by_cases e:p=0
  .subst e;exact b.own 0 g l (n l f)
  .rw[j p e] at f;exact b.own p g l f
 .by_cases e:p=0
  .subst e
   rcases o l f with y|y
   .exact b.ro 0 g l y
   .exact fun q a r el hw=>hm.knows k m (h.ro (i+1) hi l y q a (old_touch (fun op d=>(ht op d).1) r).1 el hw)
  .rw[j p e] at f;exact b.ro p g l f
structure mZ (c:Gy)(t:Trace)(m:Nat):Prop where
 act:t.act? m=some (.close c.C)
 q4:t.g? m=some (c.base+c.n)
 heard:t.heard m
 rel:∀i,i<c.n->∃r,dx c.cy t (c.base+i) r/\HappensBefore t r m
 after:∀i x,m<i->t.g? i=some (c.base+c.n)->touchAt t i=some x->False
theorem dN.past (h:dN c bl (c.n+1) eU Fr w.heap.size t){m:Nat}(f:mZ c t m){y:MemOp}(d:y.g=0/\y.act= .recvClosed c.C)(H:Deaf t 0=0)(hC:c.C<w.heap.size):
  Past (fun l=>bl l\/∃a,l= .cell a/\a.block=c.Wg) w.heap.size (t++#[y]):=by
 have hyp:(t++#[y])[t.size]?=some y:=by rw[Array.getElem?_append_right (Nat.le_refl _)];simp
 have hn:∀op∈#[y],op.act.touch?=none:=by
  intro op s
  simp only[List.mem_toArray,List.mem_cons,List.not_mem_nil,or_false] at s
  rw[s,d.2];rfl
 have heard:(t++#[y]).heard t.size:=⟨0,by simp[Trace.g?,d.1],by rw[deaf_old (Nat.le_refl _)];exact H⟩
 have v:=lt_of_act? f.act
 have A:HappensBefore (t++#[y]) m t.size:=.single (.inr ⟨.closed (c:=c.C) (by rw[act?_old v];exact f.act) (by rw[act?_of hyp,d.2]),(heard_old v).2 f.heard,heard⟩)
 have upto:∀g r i,dx c.cy t g r->HappensBefore t r m->t.g? i=some g->i<=r->HappensBefore (t++#[y]) i t.size:=fun g r i k o hg hle=>by
  have I:=lt_of_act? k.act
  have e2:=(hb_app #[y] o).trans A
  rcases Nat.lt_or_ge i r with b|e
  .exact .trans (.single (.inl ⟨b,g,by rw[g?_old (Nat.lt_trans b I)];exact hg,by rw[g?_old I];exact k.q4⟩)) e2
  .obtain rfl:i=r:=aa
   exact e2
 have J:∀i,t.g? i=some (c.base+c.n)->i<=m->HappensBefore (t++#[y]) i t.size:=fun i hg hle=>by
  rcases Nat.lt_or_ge i m with b|e
  .exact .trans (.single (.inl ⟨b,c.base+c.n,by rw[g?_old (Nat.lt_trans b v)];exact hg,by rw[g?_old v];exact f.q4⟩)) A
  .obtain rfl:i=m:=aa
   exact A
 refine ⟨fun said=>xV (h.nr said) hn,fun i a M hm=>?_,fun i g hg N K=>?_,?_,fun op s=>?_⟩
 .obtain ⟨B,hi⟩:=old_touch hn M
  rcases h.known i a B hm with z|z|⟨j,D,z⟩
  .exact .inl (z.app _)
  .exact .inr ⟨.inl z.1,z.2⟩
  .rcases Nat.lt_or_ge j c.n with p|p
   .obtain ⟨r,k,o⟩:=f.rel j p
    rcases Nat.lt_or_ge r i with b|e
    .obtain ⟨E,_,F⟩:=k.after i a b z B
     exact .inr ⟨.inr F,E⟩
    .exact .inl ⟨t.size,y,hyp,d.1,.inr (upto _ r i k o z e)⟩
   .obtain rfl:j=c.n:=aa
    rcases Nat.lt_or_ge m i with b|e
    .exact (f.after i a b z B).elim
    .exact .inl ⟨t.size,y,hyp,d.1,.inr (J i z e)⟩
 .have O:=K
  obtain ⟨z,P,R,Q⟩:=K
  obtain ⟨L,hi⟩:=old_touch hn (show touchAt _ i=some z from P)
  rcases h.over i g (by rw[<-g?_old (u:=#[y]) hi];exact hg) N ((counts_old hi).1 O) with ⟨j,D,G⟩|⟨j,D,G⟩
  .exact ⟨j,tK G D⟩
  .have x:t.g? i=some (c.base+j):=by rw[<-g?_old (u:=#[y]) hi,hg,G]
   rcases Nat.lt_or_ge j c.n with p|p
   .obtain ⟨r,k,o⟩:=f.rel j p
    rcases Nat.lt_or_ge r i with b|e
    .obtain ⟨E,F,_⟩:=k.after i z b x L
     rcases Q with q|q
     .exact absurd E q
     .exact absurd ((heard_old hi).1 q) F
    .exact ⟨t.size,by simp[Trace.g?,d.1],upto _ r i k o x e⟩
   .obtain rfl:j=c.n:=aa
    rcases Nat.lt_or_ge m i with b|e
    .exact (f.after i z b x L).elim
    .exact ⟨t.size,by simp[Trace.g?,d.1],J i x e⟩
 .rw[Deaf_push]
  simp only[deafStep,d.2]
  exact H
 .rcases Array.mem_append.1 s with z|z
  .exact h.low op z
  .simp only[List.mem_toArray,List.mem_cons,List.not_mem_nil,or_false] at z
   rw[z,d.2];exact hC
theorem mZ.app {m:Nat}(h:mZ c t m)(d:∀i r,i<c.n->dx c.cy t (c.base+i) r->dx c.cy (t++u) (c.base+i) r)(hu:∀op∈u,op.g=c.base+c.n->op.act.touch?=none):mZ c (t++u) m:=by
 have hm:=lt_of_act? h.act;refine ⟨by rw[act?_old hm];exact h.act,by rw[g?_old hm];exact h.q4,(heard_old hm).2 h.heard,fun i hi=>?_,fun i x e hg f=>?_⟩
 .obtain ⟨r,j,k⟩:=h.rel i hi;exact ⟨r,d i r hi j,hb_app u k⟩
 .obtain ⟨z,b,a⟩:=touch_of f;rcases getElem?_append_cases b with ⟨hi,l⟩|⟨_,o⟩
  .exact h.after i x e (by rw[<-g?_old (u:=u) hi];exact hg) (by rw[touchAt_of l];exact a)
  .have:z.g=c.base+c.n:=by
    unfold Trace.g? at hg;rw[b] at hg;exact Option.some.inj hg
   rw[hu z o this] at a;cases a
end
end Go.Sep
end
section
namespace Go.Sep
open Go Go.Conc
open Go.ConcN (sumTo upd upd_ne upd_same sumTo_congr)
open Go.ConcM (OsLater)
open Go.ConcR (WgAt wgBlock stA smA)
inductive iH (c:Gy)(ph aX:Ph)(es:Array Event):Prop
 |book (h:∀e∈es,e=cA .disable\/e=cA .enable\/∃a x,e=⟨.cell a,x,true⟩/\a.block=c.Wg) (hd:deafBehind ph.deaf es=aX.deaf)
   (ht:∀j e,es[j]?=some e->(MemAct.ofEvent e).touch?=none\/0<deafBehind ph.deaf (es.extract 0 j)) (hg:aX.gp= .cnt↔ph.gp= .cnt)
 |rel (he:es=#[cA (.releaseMerge (stA c.Wg))]) (hd:ph.deaf=0/\aX.deaf=0) (hg:ph.gp= .cnt)
def hU (c:Gy)(i:Nat):Rk->Goroutine->af->Ph->Prop
 | .mk ι f,g,F,ph=>
  (ph.gp= .gone/\∃q,Rk.mk ι f=Rk.nat q/\QuitsD c.P q ph.deaf g)\/
  (g.status= .running/\g.offers=none/\ph.gp= .cnt/\∀w,Has F w->∃(x:ι) (g':Goroutine) (w':World) (es:Array Event) (F':af),
   stepG c.P false g w= .go g' w' es/\dO F F' w w'/\Has F' w'/\(∀e∈es,gN F.ro (gr F w.heap.size w'.heap.size) e)/\hU c i (f x) g' F' ph)\/
  (g.status= .running/\g.offers=none/\ph.gp≠ .gone/\∀(w:World) (s:Sg) (k:Nat) (φ:Nat->Ph) (cl:Cl),Has F w->c5 c w s cl->i<c.n->φ i=ph->cW c k φ cl s->
   ∃(x:ι) (g':Goroutine) (w':World) (es:Array Event) (s':Sg) (aX:Ph) (F':af),stepG c.P false g w= .go g' w' es/\c5 c w' s' cl/\fq c.cy w w'/\cW c k (upd φ i aX) cl s'/\s'.got=s.got/\iH c ph aX es/\
    (mayWake c.P g=true\/s'.ws<=s.ws)/\Le F' F/\hU c i (f x) g' F' aX)\/
  (g.status= .running/\g.offers=none/\ph.gp= .cnt/\ph.stored=false/\ph.deaf=0/\∃(v z:Value) (R:hO) (x:ι) (F':af),c.pay i=some R/\R F.ro v/\(∀w,stepG c.P false g w= .comm g #[scase c.C v z] true .send w #[])/\
   Le F' F/\hU c i (f x) (Go.Conc.served g undef) F' {ph with stored:=true})
def eA (c:Gy)(i:Nat)(ph:Ph)(g:Goroutine)(F:af):Prop:=∃F0 r,Le F0 F/\hU c i r g F0 ph
theorem eA.mono {c:Gy}{i:Nat}{ph:Ph}{g:Goroutine}{F F':af}(hle:Le F F')(h:eA c i ph g F):eA c i ph g F':=
 let ⟨F0,r,a,b⟩:=h;⟨F0,r,a.trans hle,b⟩
theorem eA.closed (c:Gy)(i:Nat)(ph:Ph)(hg:ph.gp= .cnt):Closed c.P false (fun g F=>eA c i ph g F) where
 mono hle h:=h.mono hle
 step {fr cs F} h:=by
  classical
  let Q:World->Rk->Prop:=fun w r=>∃(g':Goroutine) (w':World) (es:Array Event) (F':af),
   stepG c.P false (G fr cs) w= .go g' w' es/\dO F F' w w'/\Has F' w'/\(∀e∈es,gN F.ro (gr F w.heap.size w'.heap.size) e)/\hU c i r g' F' ph
  refine ⟨F,.mk World fun w=>if f:∃r,Q w r then Classical.choose f else Rk.nat 0,.refl F,?_⟩
  refine .inr (.inl ⟨rfl,rfl,hg,fun w hw=>?_⟩)
  obtain ⟨g',w',es,F',k,d,l,m,F0,r,j,n⟩:=h w hw
  have f:∃r,Q w r:=⟨r,g',w',es,F0,k,⟨d.os,d.tape,d.output,d.size,d.frame,fun a o=>(j.ro a o).elim (d.ro a) fun x=>.inr (d.own _ x),fun b hb=>d.own b (j.own b hb)⟩,j.has _ l,m,n⟩
  obtain ⟨g',w',es,F',k1,p,q,s,t⟩:=Classical.choose_spec f
  exact ⟨w,g',w',es,F',k1,p,q,s,by simp only[dif_pos f];exact t⟩
theorem eA.act {c:Gy}{i:Nat}{ph:Ph}{g:Goroutine}{F:af}(hs:g.status= .running)(ho:g.offers=none)(hg:ph.gp≠ .gone)
  (h:∀(w:World) (s:Sg) (k:Nat) (φ:Nat->Ph) (cl:Cl),Has F w->c5 c w s cl->i<c.n->φ i=ph->cW c k φ cl s->
   ∃(g':Goroutine) (w':World) (es:Array Event) (s':Sg) (aX:Ph),stepG c.P false g w= .go g' w' es/\c5 c w' s' cl/\fq c.cy w w'/\cW c k (upd φ i aX) cl s'/\s'.got=s.got/\iH c ph aX es/\
    (mayWake c.P g=true\/s'.ws<=s.ws)/\eA c i aX g' F):eA c i ph g F:=by
 classical
 let Q:World×Sg×Nat×(Nat->Ph)×Cl->Rk->Prop:=fun y r=>∃(g':Goroutine) (w':World) (es:Array Event) (s':Sg) (aX:Ph) (F':af),stepG c.P false g y.1= .go g' w' es/\c5 c w' s' y.2.2.2.2/\fq c.cy y.1 w'/\cW c y.2.2.1 (upd y.2.2.2.1 i aX) y.2.2.2.2 s'/\s'.got=y.2.1.got/\iH c ph aX es/\
    (mayWake c.P g=true\/s'.ws<=y.2.1.ws)/\Le F' F/\hU c i r g' F' aX
 refine ⟨F,.mk (World×Sg×Nat×(Nat->Ph)×Cl) fun y=>if a:∃r,Q y r then Classical.choose a else Rk.nat 0,.refl F,?_⟩
 refine .inr (.inr (.inl ⟨hs,ho,hg,fun w s k φ cl p q t u v=>?_⟩))
 obtain ⟨g',w',es,s',aX,k1,b,d,e,f,j,l,F',r,m,o⟩:=h w s k φ cl p q t u v
 have a:∃r,Q (w,s,k,φ,cl) r:=⟨r,g',w',es,s',aX,F',k1,b,d,e,f,j,l,m,o⟩
 obtain ⟨g',w',es,s',aX,F',k1,b,d,e,f,j,l,m,o⟩:=Classical.choose_spec a
 exact ⟨(w,s,k,φ,cl),g',w',es,s',aX,F',k1,b,d,e,f,j,l,m,by simp only[dif_pos a];exact o⟩
theorem eA.send {c:Gy}{i:Nat}{ph:Ph}{g:Goroutine}{F:af}(hs:g.status= .running)(ho:g.offers=none)(hg:ph.gp= .cnt)(a:ph.stored=false)(hd:ph.deaf=0){v z:Value}{R:hO}(hR:c.pay i=some R)(hv:R F.ro v)
  (b:∀w,stepG c.P false g w= .comm g #[scase c.C v z] true .send w #[]) (h:eA c i {ph with stored:=true} (Go.Conc.served g undef) F):eA c i ph g F:=by
 obtain ⟨F0,r,hle,hW⟩:=h
 exact ⟨F,.mk Unit fun _=>r,.refl F,.inr (.inr (.inr ⟨hs,ho,hg,a,hd,v,z,R,(),F0,hR,hv,b,hle,hW⟩))⟩
theorem eA.gone {c:Gy}{i:Nat}{ph:Ph}{g:Goroutine}{F:af}{q:Nat}(hg:ph.gp= .gone)(h:QuitsD c.P q ph.deaf g):eA c i ph g F:=by
 refine ⟨F,Rk.nat q,.refl F,?_⟩;cases q with
 |zero=>exact .inl ⟨hg,0,rfl,h⟩
 |succ q=>exact .inl ⟨hg,q+1,rfl,h⟩
inductive EvC (c:Gy)(cl cl':Cl)(es:Array Event):Prop
 |book (p p':P0) (d d':Nat) (e1:cl= .on p d false) (e2:cl'= .on p' d' false)
   (h:∀e∈es,e=cA .disable\/e=cA .enable\/∃a,a.block=c.Wg/\((∃x,e=⟨.cell a,x,true⟩)\/e=cA (.read a)\/e=cA (.write a))) (hd:deafBehind d es=d')
 |acq (he:es=#[cA (.acquire (stA c.Wg))]) (e1:cl= .on .cZ 0 false) (e2:cl'= .on .cZ 0 true)
 |close (he:es=#[⟨.obj c.C,false,true⟩,⟨.obj c.C,true,true⟩]) (e1:cl= .on .cZ 0 true) (e2:cl'= .shut 0)
def jX (c:Gy):Rk->Goroutine->af->Cl->Prop
 | .mk ι f,g,F,cl=>
  (∃d q,cl= .shut d/\Rk.mk ι f=Rk.nat q/\QuitsD c.P q d g)\/
  (g.status= .running/\g.offers=none/\(∃p d a,cl= .on p d a/\p≠ .reg)/\∀w,Has F w->∃(x:ι) (g':Goroutine) (w':World) (es:Array Event) (F':af),
   stepG c.P false g w= .go g' w' es/\dO F F' w w'/\Has F' w'/\(∀e∈es,gN F.ro (gr F w.heap.size w'.heap.size) e)/\jX c (f x) g' F' cl)\/
  (g.status= .running/\g.offers=none/\(∃p d a,cl= .on p d a)/\∀(w:World) (s:Sg) (φ:Nat->Ph),Has F w->c5 c w s cl->cW c c.n φ cl s->
   (∃d a,cl= .on .reg d a/\s.ws=0/\stepG c.P false g w= .go {g with status:=.blocked} w #[])\/
   (∃(x:ι) (g':Goroutine) (w':World) (es:Array Event) (s':Sg) (cl':Cl) (F':af),stepG c.P false g w= .go g' w' es/\c5 c w' s' cl'/\fq c.cy w w'/\cW c c.n φ cl' s'/\s'.got=s.got/\EvC c cl cl' es/\
    (mayWake c.P g=true\/(s'.ws<=s.ws/\cl'.ek=false))/\Le F' F/\jX c (f x) g' F' cl'))
def eG (c:Gy)(cl:Cl)(g:Goroutine)(F:af):Prop:=∃F0 r,Le F0 F/\jX c r g F0 cl
theorem eG.mono {c:Gy}{cl:Cl}{g:Goroutine}{F F':af}(hle:Le F F')(h:eG c cl g F):eG c cl g F':=
 let ⟨F0,r,a,b⟩:=h;⟨F0,r,a.trans hle,b⟩
theorem eG.closed (c:Gy){p:P0}{d:Nat}{a:Bool}(k:p≠ .reg):Closed c.P false (fun g F=>eG c (.on p d a) g F) where
 mono hle h:=h.mono hle
 step {fr cs F} h:=by
  classical
  let Q:World->Rk->Prop:=fun w r=>∃(g':Goroutine) (w':World) (es:Array Event) (F':af),
   stepG c.P false (G fr cs) w= .go g' w' es/\dO F F' w w'/\Has F' w'/\(∀e∈es,gN F.ro (gr F w.heap.size w'.heap.size) e)/\jX c r g' F' (.on p d a)
  refine ⟨F,.mk World fun w=>if i:∃r,Q w r then Classical.choose i else Rk.nat 0,.refl F,?_⟩
  refine .inr (.inl ⟨rfl,rfl,⟨p,d,a,rfl,k⟩,fun w hw=>?_⟩)
  obtain ⟨g',w',es,F',l,f,m,n,F0,r,j,o⟩:=h w hw
  have i:∃r,Q w r:=⟨r,g',w',es,F0,l,⟨f.os,f.tape,f.output,f.size,f.frame,fun a q=>(j.ro a q).elim (f.ro a) fun x=>.inr (f.own _ x),fun b hb=>f.own b (j.own b hb)⟩,j.has _ m,n,o⟩
  obtain ⟨g',w',es,F',k1,s,t,u,v⟩:=Classical.choose_spec i
  exact ⟨w,g',w',es,F',k1,s,t,u,by simp only[dif_pos i];exact v⟩
theorem eG.act {c:Gy}{p:P0}{d:Nat}{a:Bool}{g:Goroutine}{F:af}(hs:g.status= .running)(ho:g.offers=none)
  (h:∀(w:World) (s:Sg) (φ:Nat->Ph),Has F w->c5 c w s (.on p d a)->cW c c.n φ (.on p d a) s->
   (p= .reg/\s.ws=0/\stepG c.P false g w= .go {g with status:=.blocked} w #[])\/
   (∃(g':Goroutine) (w':World) (es:Array Event) (s':Sg) (cl':Cl),stepG c.P false g w= .go g' w' es/\c5 c w' s' cl'/\fq c.cy w w'/\cW c c.n φ cl' s'/\s'.got=s.got/\EvC c (.on p d a) cl' es/\
    (mayWake c.P g=true\/(s'.ws<=s.ws/\cl'.ek=false))/\eG c cl' g' F)):eG c (.on p d a) g F:=by
 classical
 let Q:World×Sg×(Nat->Ph)->Rk->Prop:=fun y r=>∃(g':Goroutine) (w':World) (es:Array Event) (s':Sg) (cl':Cl) (F':af),stepG c.P false g y.1= .go g' w' es/\c5 c w' s' cl'/\fq c.cy y.1 w'/\cW c c.n y.2.2 cl' s'/\s'.got=y.2.1.got/\EvC c (.on p d a) cl' es/\
    (mayWake c.P g=true\/(s'.ws<=y.2.1.ws/\cl'.ek=false))/\Le F' F/\jX c r g' F' cl'
 refine ⟨F,.mk (World×Sg×(Nat->Ph)) fun y=>if b:∃r,Q y r then Classical.choose b else Rk.nat 0,.refl F,?_⟩
 refine .inr (.inr ⟨hs,ho,⟨p,d,a,rfl⟩,fun w s φ t u v=>?_⟩)
 rcases h w s φ t u v with ⟨e,x⟩|⟨g',w',es,s',cl',k1,f,i,j,k,l,m,F',r,o,q⟩
 .exact .inl ⟨d,a,by rw[e],x⟩
 .have b:∃r,Q (w,s,φ) r:=⟨r,g',w',es,s',cl',F',k1,f,i,j,k,l,m,o,q⟩
  obtain ⟨g',w',es,s',cl',F',k1,f,i,j,k,l,m,o,q⟩:=Classical.choose_spec b
  exact .inr ⟨(w,s,φ),g',w',es,s',cl',F',k1,f,i,j,k,l,m,o,by simp only[dif_pos b];exact q⟩
theorem eG.gone {c:Gy}{d:Nat}{g:Goroutine}{F:af}{q:Nat}(h:QuitsD c.P q d g):eG c (.shut d) g F:=by
 refine ⟨F,Rk.nat q,.refl F,?_⟩;cases q with
 |zero=>exact .inl ⟨d,0,rfl,rfl,h⟩
 |succ q=>exact .inl ⟨d,q+1,rfl,rfl,h⟩
def pE (c:Gy)(i:Nat)(r:Rk)(x:Goroutine)(F:af)(ph:Ph):Prop:=
 (ph.gp= .gone/\∃q,r=Rk.nat q/\QuitsD c.P q ph.deaf x)\/
 (ph.gp≠ .gone/\x.status= .running/\hU c i r x F ph)\/
 (ph.gp= .cnt/\ph.stored=false/\ph.deaf=0/\∃(g:Goroutine) (v z:Value) (R:hO) (a:Rk) (F':af),x=parked g #[scase c.C v z] .send/\c.pay i=some R/\R F.ro v/\r.kids a/\Le F' F/\hU c i a (Go.Conc.served g undef) F' {ph with stored:=true})
def pF (c:Gy)(r:Rk)(x:Goroutine)(F:af)(cl:Cl)(s:Sg):Prop:=
 (∃d q,cl= .shut d/\r=Rk.nat q/\QuitsD c.P q d x)\/
 (∃p d a,cl= .on p d a/\jX c r {x with status:=.running} F cl/\x.offers=none/\(x.status= .running\/(x.status= .blocked/\p= .reg/\s.ws=0)))
def xW (c:Gy)(cl:Cl)(k:Nat)(x0:Goroutine)(gs:Array Goroutine):Prop:=
 ∃g,x0=parked g #[rcase c.C c.z] (.recv true)/\g.status= .running/\g.offers=none/\cl.ek=false/\cl.born=true/\∀i,i<k->∀x,gs[c.base+i]?=some x->x.status≠ .blocked
structure fe (c:Gy)(bl:Loc->Prop)(K:Nat)(Fr:Nat->af)(w:World):Prop where
 os:jE c.w1.os w.os
 tape:w.tape=c.w1.tape
 output:w.output=c.w1.output
 size:c.w1.heap.size<=w.heap.size
 frame:∀b,b<c.w1.heap.size->b∉keys c.F1.own->¬c.cy.shared b->w.heap[b]?=c.w1.heap[b]?
 ia:∀p,p<=K->∀b∈keys (Fr p).own,b∈keys c.F1.own\/c.w1.heap.size<=b
 iX:∀p,p<=K->∀a,((Fr p).ro a).isSome=true->(c.F1.ro a).isSome=true\/a.block∈keys c.F1.own\/c.w1.heap.size<=a.block
 apart:∀l,bl l->¬c.F1.iq l
 rq:(∀a,bl (.cell a)->¬c.cy.shared a.block)/\∀r,bl (.obj r)->¬c.cy.shared r
 low:∀l,bl l->l.low c.w1.heap.size
structure cU (c:Gy)(bl:Loc->Prop)(cl:Cl)(d0 k:Nat)(x0:Goroutine)(Fr:Nat->af)(gs:Array Goroutine)(w:World)(t:Trace)(ρ:Nat->Rk)(φ:Nat->Ph)(s:Sg):Prop where
 size:gs.size=c.base+cl.emp k
 base:0<c.base
 g0:gs[0]?=some x0
 pG:x0.status= .running\/(d0=0/\xW c cl k x0 gs)
 old:∀j x,0<j->j<c.base->gs[j]?=some x->∃q,ρ j=Rk.nat q/\QuitsD c.P q (Deaf t j) x
 wk:∀i,i<k->∃x,gs[c.base+i]?=some x/\pE c i (ρ (c.base+i)) x (Fr (i+1)) (φ i)
 ck:cl.born=true->∃x,gs[c.base+c.n]?=some x/\pF c (ρ (c.base+c.n)) x (Fr (c.n+1)) cl s
 deaf:∀i,i<k->Deaf t (c.base+i)=(φ i).deaf
 kD:cl.born=true->Deaf t (c.base+c.n)=cl.deaf
 above:∀j,gs.size<=j->Deaf t j=0
 deaf0:Deaf t 0=d0
 parts:dS c.cy (cl.emp k) Fr w
 sh:c5 c w s cl
 inv:cW c k φ cl s
 gm:dN c bl (cl.emp k) (c.jy cl) Fr w.heap.size t
 rel:∀i,i<k->(φ i).gp≠ .cnt->∃r,dx c.cy t (c.base+i) r
 acq:∀p d,cl= .on p d true->p= .cZ/\∀i,i<c.n->∃r,dx c.cy t (c.base+i) r/\Go.Conc.Knows t (c.base+c.n) r
 jY:cl.ek=true->∃m,mZ c t m
 env:fe c bl (cl.emp k) Fr w
 ne:c.Wg≠c.C
section
variable {c:Gy}{bl:Loc->Prop}{cl cl':Cl}{d0 k K:Nat}{x0:Goroutine}{Fr b6:Nat->af}{gs:Array Goroutine}{w w':World}{t u:Trace}{ρ:Nat->Rk}{φ:Nat->Ph}{s:Sg}
theorem Cl.Cq (h:cl'.born=cl.born)(k:Nat):cl'.emp k=cl.emp k:=by cases cl<;>cases cl'<;>simp[Cl.born] at h<;>rfl
theorem Gy.Cr (c:Gy)(h:cl'.born=cl.born):c.jy cl'=c.jy cl:=by cases cl<;>cases cl'<;>simp[Cl.born] at h<;>rfl
theorem Cl.tL (h:cl.born=true)(k:Nat):cl.emp k=k+1:=by cases cl<;>simp[Cl.born] at h<;>rfl
theorem Cl.xX (h:cl.born=false)(k:Nat):cl.emp k=k:=by cases cl<;>simp[Cl.born] at h<;>rfl
theorem Cl.pH (h:cl.ek=true):cl.born=true:=by cases cl<;>simp[Cl.ek] at h<;>rfl
theorem Cl.lF (h:cl.ek=true):cl.p0= .cZ:=by cases cl<;>simp[Cl.ek] at h<;>rfl
theorem Cl.xY (cl:Cl)(k:Nat):k<=cl.emp k:=by cases cl<;>simp[Cl.emp]
theorem fe.walk (h:fe c bl K Fr w)(j:dS c.cy K Fr w){p:Nat}(i:p<=K){F':af}(hu:dO (Fr p) F' w w'):fe c bl K (upd Fr p F') w':=by
 have g:∀q,q≠p->upd Fr p F' q=Fr q:=fun q d=>upd_ne _ _ d;have self:upd Fr p F' p=F':=upd_same _ _ _;refine ⟨by rw[hu.os];exact h.os,hu.tape.trans h.tape,hu.output.trans h.output,Nat.le_trans h.size hu.size,fun b hb hn hs=>?_,fun q d b hb=>?_,fun q d a f=>?_,h.apart,h.rq,h.low⟩
 .rw[hu.frame b (Nat.lt_of_lt_of_le hb h.size) (fun hm=>(h.ia p i b hm).elim hn fun x=>absurd hb aa)];exact h.frame b hb hn hs
 .by_cases e:q=p
  .subst e;rw[self] at hb;exact (hu.own b hb).elim (h.ia q d b) fun x=>.inr (Nat.le_trans h.size x)
  .rw[g q e] at hb;exact h.ia q d b hb
 .by_cases e:q=p
  .subst e;rw[self] at f;rcases hu.ro a f with x|x|x
   .exact h.iX q d a x
   .exact .inr (h.ia q d _ x)
   .exact .inr (.inr (Nat.le_trans h.size x))
  .rw[g q e] at f;exact h.iX q d a f
theorem fe.act (h:fe c bl K Fr w){p:Nat}(i:p<=K){F':af}(he:fq c.cy w w')(hle:Le F' (Fr p)):fe c bl K (upd Fr p F') w':=by
 have g:∀q,q≠p->upd Fr p F' q=Fr q:=fun q d=>upd_ne _ _ d;have self:upd Fr p F' p=F':=upd_same _ _ _;refine ⟨h.os.trans he.os,he.tape.trans h.tape,he.output.trans h.output,by rw[he.size];exact h.size,fun b hb hn hs=>?_,fun q d b hb=>?_,fun q d a f=>?_,h.apart,h.rq,h.low⟩
 .rw[he.block b hs];exact h.frame b hb hn hs
 .by_cases e:q=p
  .subst e;rw[self] at hb;exact h.ia q d b (hle.own b hb)
  .rw[g q e] at hb;exact h.ia q d b hb
 .by_cases e:q=p
  .subst e;rw[self] at f;exact (hle.ro a f).elim (h.iX q d a) fun x=>.inr (h.ia q d _ x)
  .rw[g q e] at f;exact h.iX q d a f
theorem fe.Jj (h:fe c bl K Fr w):∀l,bl l->¬(Fr 0).iq l:=by
 intro l f b;have d:=h.apart l f;have e:=h.low l f;cases l with
 |cell a=>
  rcases b with b|b
  .rcases h.ia 0 (Nat.zero_le _) _ b with x|x
   .exact d (.inl x)
   .exact absurd e (Nat.not_lt.2 x)
  .rcases h.iX 0 (Nat.zero_le _) _ b with x|x|x
   .exact d (.inr x)
   .exact d (.inl x)
   .exact absurd e (Nat.not_lt.2 x)
 |obj r=>
  rcases h.ia 0 (Nat.zero_le _) _ b with x|x
  .exact d x
  .exact absurd e (Nat.not_lt.2 x)
 |_=>exact b
theorem fe.at (h:fe c bl K Fr w)(d:Nat):fe c bl K Fr (w.at d):=⟨h.os,h.tape,h.output,h.size,h.frame,h.ia,h.iX,h.apart,h.rq,h.low⟩
theorem cU.at (h:cU c bl cl d0 k x0 Fr gs w t ρ φ s)(d:Nat):cU c bl cl d0 k x0 Fr gs (w.at d) t ρ φ s:=
 ⟨h.size,h.base,h.g0,h.pG,h.old,h.wk,h.ck,h.deaf,h.kD,h.above,h.deaf0,h.parts.at d,h.sh,h.inv,h.gm,h.rel,h.acq,h.jY,h.env.at d,h.ne⟩
theorem Jk {y a z:Goroutine}(h:z.status≠ .blocked):(Go.Conc.woken c.P y a w' z).status≠ .blocked:=by
 unfold Go.Conc.woken;split
 .unfold Goroutine.again;cases hs:z.status<;>cases z.offers<;>simp_all
 .exact h
theorem pE.woken {i:Nat}{r:Rk}{x:Goroutine}{F:af}{ph:Ph}(h:pE c i r x F ph){y a:Goroutine}(ho:ph.gp= .gone\/∃m,w'.heap[c.C]?=some (.chan 0 #[] false m m false)):pE c i r (Go.Conc.woken c.P y a w' x) F ph:=by
 rcases h with ⟨hg,q,e,b⟩|⟨hg,hs,f⟩|⟨d,j,k,g,v,z,R,l,F',rfl,n⟩
 .exact .inl ⟨hg,q,e,by rw[woken_quitsD b];exact b⟩
 .rw[woken_run hs];exact .inr (.inl ⟨hg,hs,f⟩)
 .rcases ho with ho|⟨m,ho⟩
  .rw[d] at ho;cases ho
  .rw[woken_send_open y a ho];exact .inr (.inr ⟨d,j,k,g,v,z,R,l,F',rfl,n⟩)
theorem pF.woken {r:Rk}{x:Goroutine}{F:af}{s':Sg}(h:pF c r x F cl s){y f:Goroutine}(u:0<=s'.ws)(hw:(mayWake c.P y=true/\f.status≠ .blocked/\f.status≠ .waiting)\/s'.ws<=s.ws):pF c r (Go.Conc.woken c.P y f w' x) F cl s':=by
 rcases h with ⟨d,q,g,i,k⟩|⟨p,d,a,g,i,ho,n⟩
 .exact .inl ⟨d,q,g,i,by rw[woken_quitsD k];exact k⟩
 .rcases n with l|⟨m,o,v⟩
  .rw[woken_run l];exact .inr ⟨p,d,a,g,i,ho,.inl l⟩
  .have t:x.again w'={x with status:=.running}:=by
    unfold Goroutine.again;simp only[m,ho]
   by_cases j:(mayWake c.P y&&f.status != .blocked&&f.status != .waiting)=true
   .have:Go.Conc.woken c.P y f w' x={x with status:=.running}:=by unfold Go.Conc.woken;rw[if_pos j,t]
    rw[this];exact .inr ⟨p,d,a,g,i,ho,.inl rfl⟩
   .have:Go.Conc.woken c.P y f w' x=x:=by unfold Go.Conc.woken;rw[if_neg j]
    rw[this];refine .inr ⟨p,d,a,g,i,ho,.inr ⟨m,o,?_⟩⟩;rcases hw with ⟨a,b,e⟩|hw
    .simp[a,b,e] at j
    .omega
inductive tN (c:Gy)(cl':Cl)(x0 cX:Goroutine):Prop
 |same (h:cX=x0)
 |pI (g:Goroutine) (h:x0=parked g #[rcase c.C c.z] (.recv true)) (hs:cl'.ek=true) (h':cX={x0 with status:=.running})
theorem cU.gL (h:cU c bl cl d0 k x0 Fr gs w t ρ φ s){j:Nat}{x x':Goroutine}{es:Array Event}{fn:FuncId}{pos:String}{ρ':Nat->Rk}{φ':Nat->Ph}{s':Sg}(a9:0<j)(S:gs[j]?=some x)
  (u:cl'.born=cl.born) (F:j≠c.base+c.n->cl'=cl)
  (N:(mayWake c.P x=true/\x'.status≠ .blocked/\x'.status≠ .waiting)\/(s'.ws<=s.ws/\cl'.ek=cl.ek))
  (K:∀b,b≠j->ρ' b=ρ b) (G:∀i,c.base+i≠j->φ' i=φ i) (hF:∀p,c.cy.gid p≠j->b6 p=Fr p)
  (hold:j<c.base->∃q,ρ' j=Rk.nat q/\QuitsD c.P q (Deaf (t++MemOp.ofEvents j fn pos es) j) x')
  (A:∀i,j=c.base+i->i<k->pE c i (ρ' j) x' (b6 (i+1)) (φ' i)/\Deaf (t++MemOp.ofEvents j fn pos es) j=(φ' i).deaf/\((φ' i).gp≠ .cnt->∃r,dx c.cy (t++MemOp.ofEvents j fn pos es) j r)/\((φ i).gp≠ .cnt->∀r,dx c.cy t j r->dx c.cy (t++MemOp.ofEvents j fn pos es) j r)/\x'.status≠ .blocked)
  (H:j=c.base+c.n->cl.born=true->pF c (ρ' j) x' (b6 (c.n+1)) cl' s'/\Deaf (t++MemOp.ofEvents j fn pos es) j=cl'.deaf/\(∀p d,cl'= .on p d true->p= .cZ/\∀i,i<c.n->∃r,dx c.cy (t++MemOp.ofEvents j fn pos es) (c.base+i) r/\Go.Conc.Knows (t++MemOp.ofEvents j fn pos es) j r)/\(cl'.ek=true->∃m,mZ c (t++MemOp.ofEvents j fn pos es) m))
  (T:dS c.cy (cl.emp k) b6 w') (I:c5 c w' s' cl') (hinv:cW c k φ' cl' s') (U:dN c bl (cl.emp k) (c.jy cl) b6 w'.heap.size (t++MemOp.ofEvents j fn pos es)) (V:fe c bl (cl.emp k) b6 w'):
  ∃cX,cU c bl cl' d0 k cX b6 ((gs.map (woken c.P x x' w')).setIfInBounds j x') w' (t++MemOp.ofEvents j fn pos es) ρ' φ' s'/\tN c cl' x0 cX:=by
 have W:j<gs.size:=(Array.getElem?_eq_some_iff.1 S).1
 have hu:∀op∈MemOp.ofEvents j fn pos es,op.g=j:=fun op L=>by obtain ⟨e,_,rfl⟩:=Go.Conc.mem_ofEvents L;rfl
 have other:∀b,b≠j->∀y,((gs.map (woken c.P x x' w')).setIfInBounds j x')[b]?=some y->∃z,gs[b]?=some z/\y=woken c.P x x' w' z:=fun b a y o=>by
  rw[Array.getElem?_setIfInBounds_ne (Ne.symm a),Array.getElem?_map] at o
  obtain ⟨z,f,rfl⟩:=Option.map_eq_some_iff.1 o
  exact ⟨z,f,rfl⟩
 have at_:∀b z,b≠j->gs[b]?=some z->((gs.map (woken c.P x x' w')).setIfInBounds j x')[b]?=some (woken c.P x x' w' z):=fun b z a f=>by
  rw[Array.getElem?_setIfInBounds_ne (Ne.symm a),Array.getElem?_map,f];rfl
 have self:((gs.map (woken c.P x x' w')).setIfInBounds j x')[j]?=some x':=Array.getElem?_setIfInBounds_self_of_lt (by simpa using W)
 have B:∀b,b≠j->Deaf (t++MemOp.ofEvents j fn pos es) b=Deaf t b:=fun b a=>Deaf_other t (Ne.symm a) _ hu
 have X:(mayWake c.P x=true/\x'.status≠ .blocked/\x'.status≠ .waiting)\/s'.ws<=s.ws:=N.imp id And.left
 have J:=Cl.Cq u k
 have Y:=h.size
 have O:∀i,i<k->(φ i).gp= .gone->∀r,dx c.cy t (c.base+i) r->dx c.cy (t++MemOp.ofEvents j fn pos es) (c.base+i) r:=fun i hi hg r l=>by
  by_cases e:c.base+i=j
  .subst e;exact (A i rfl hi).2.2.2.1 (by rw[hg];simp) r l
  .exact l.other (Ne.symm e) hu
 have M:cl'.born=true->k=c.n:=hinv.all
 have opn:∀i,i<k->c.base+i≠j->(φ i).gp= .gone\/∃m,w'.heap[c.C]?=some (.chan 0 #[] false m m false):=fun i hi a=>by
  cases hs:cl'.ek with
  |false=>have:=I.2;rw[hs] at this;exact .inr ⟨_,this⟩
  |true=>
   have hb:=Cl.pH hs
   refine .inl ?_
   rw[<-G i a]
   exact hinv.gone (Cl.lF hs) (by rw[<-M hb];exact hi) hb
 have Z:∃cX,woken c.P x x' w' x0=cX/\tN c cl' x0 cX/\(cX.status= .running\/(d0=0/\xW c cl' k cX ((gs.map (woken c.P x x' w')).setIfInBounds j x'))):=by
  rcases h.pG with l|⟨ab,g,hg,ad,ae,al,ao,ar⟩
  .exact ⟨x0,woken_run l,.same rfl,.inl l⟩
  .cases hs:cl'.ek with
   |false=>
    have D:=I.2
    rw[hs] at D
    refine ⟨x0,by rw[hg];exact woken_recv_open _ _ D,.same rfl,.inr ⟨ab,g,hg,ad,ae,hs,u.trans ao,fun i hi y o=>?_⟩⟩
    by_cases e:c.base+i=j
    .subst e;rw[self] at o;cases o;exact (A i rfl hi).2.2.2.2
    .obtain ⟨z,f,rfl⟩:=other _ e y o
     exact Jk (ar i hi z f)
   |true=>
    have D:=I.2
    rw[hs] at D
    rcases N with ⟨a0,m2,a2⟩|⟨_,m2⟩
    .have e1:woken c.P x x' w' x0={x0 with status:=.running}:=by
      unfold Go.Conc.woken
      rw[if_pos (by simp[a0,m2,a2]),hg]
      exact again_recv_closed D
     exact ⟨_,e1,.pI g hg hs rfl,.inl rfl⟩
    .rw[hs,al] at m2;cases m2
 obtain ⟨cX,e0,t0,a3⟩:=Z
 refine ⟨cX,⟨by rw[J];simpa using Y,h.base,by rw[<-e0];exact at_ 0 x0 aa h.g0,a3,fun b y a4 hb o=>?_,fun i hi=>?_,fun hb=>?_,fun i hi=>?_,fun hb=>?_,fun b a5=>?_,?_,by rw[J];exact T,I,hinv,by rw[J,c.Cr u];exact U,fun i hi hg=>?_,fun p d e=>?_,fun hs=>?_,by rw[J];exact V,h.ne⟩,t0⟩
 .by_cases a:b=j
  .subst a
   rw[self] at o
   cases o
   exact hold hb
  .obtain ⟨z,f,rfl⟩:=other b a y o
   obtain ⟨q,a6,Q⟩:=h.old b z a4 hb f
   exact ⟨q,by rw[K b a];exact a6,by rw[woken_quitsD Q,B b a];exact Q⟩
 .by_cases a:c.base+i=j
  .subst a
   exact ⟨x',self,(A i rfl hi).1⟩
  .obtain ⟨z,f,hW⟩:=h.wk i hi
   refine ⟨_,at_ _ z a f,?_⟩
   rw[K _ a,G i a,hF (i+1) a]
   exact hW.woken (opn i hi a)
 .have E:=u▸hb
  by_cases a:c.base+c.n=j
  .subst a
   exact ⟨x',self,(H rfl E).1⟩
  .have v:=F (Ne.symm a)
   subst v
   obtain ⟨z,f,hW⟩:=h.ck E
   refine ⟨_,at_ _ z a f,?_⟩
   rw[K _ a,hF (c.n+1) a]
   exact hW.woken hinv.wY X
 .by_cases a:c.base+i=j
  .subst a;exact (A i rfl hi).2.1
  .rw[B _ a,G i a];exact h.deaf i hi
 .have E:=u▸hb
  by_cases a:c.base+c.n=j
  .subst a;exact (H rfl E).2.1
  .have v:=F (Ne.symm a)
   subst v
   rw[B _ a];exact h.kD E
 .have:gs.size<=b:=by simpa using a5
  rw[B b aa]
  exact h.above b this
 .rw[B 0 aa];exact h.deaf0
 .by_cases a:c.base+i=j
  .subst a;exact (A i rfl hi).2.2.1 hg
  .rw[G i a] at hg
   obtain ⟨r,l⟩:=h.rel i hi hg
   exact ⟨r,l.other (Ne.symm a) hu⟩
 .have hb:cl'.born=true:=by rw[e];rfl
  by_cases a:c.base+c.n=j
  .subst a;exact (H rfl (u▸hb)).2.2.1 p d e
  .have v:=F (Ne.symm a)
   subst v
   obtain ⟨R,a7⟩:=h.acq p d e
   refine ⟨R,fun i hi=>?_⟩
   obtain ⟨r,l,a8⟩:=a7 i hi
   exact ⟨r,O i (by rw[M hb];exact hi) (h.inv.gone (by rw[e];exact R) hi hb) r l,a8.app _⟩
 .have hb:=Cl.pH hs
  by_cases a:c.base+c.n=j
  .subst a;exact (H rfl (u▸hb)).2.2.2 hs
  .have v:=F (Ne.symm a)
   subst v
   obtain ⟨m,hm⟩:=h.jY hs
   exact ⟨m,hm.app (fun i r hi l=>O i (by rw[M hb];exact hi) (h.inv.gone (Cl.lF hs) hi hb) r l) fun op L hg=>absurd (hg.symm.trans (hu op L)) a⟩
end
end Go.Sep
end

/- A part of the proof: QT7. -/
import Derived.Test.YtlchekhkopimhaaGreatDoorQT6
import Derived.Conc.CrowdTrace
set_option linter.all false
section
namespace Go.Sep
open Go Go.Conc
open Go.ConcN (PermW fork_knows)
open Go.ConcM (MuAt muA msA muBlock)
open Go.ConcR (WgAt wgBlock stA smA)
structure Cy where
 P:Program
 Mu:Nat
 Wg:Nat
 Is:Nat
 tM:TypeId
 tW:TypeId
 tI:TypeId
 n:Nat
 bs:Nat->Bool
 base:Nat
 T0:Nat
def Cy.shared (c:Cy)(b:Nat):Prop:=b=c.Mu\/b=c.Wg\/b=c.Is
def Cy.sy (c:Cy)(l:Loc):Prop:=∃a,l= .cell a/\(a.block=c.Mu\/a.block=c.Wg)
def Cy.gid (c:Cy):Nat->Nat
 |0=>0
 |i+1=>c.base+i
def ei (F:af):Loc->Prop
 | .cell a=>a.block∈keys F.own
 | .obj r=>r∈keys F.own
 |_=>False
def fR (F:af)(l:Loc):Prop:=∃a,l= .cell a/\(F.ro a).isSome=true
def k9 (B:Nat):Loc->Prop
 | .cell a=>B<=a.block
 | .obj r=>B<=r
 |_=>False
structure dS (c:Cy)(k:Nat)(Fr:Nat->af)(w:World):Prop where
 has:∀p,p<=k->Has (Fr p) w
 own:∀p q,p<=k->q<=k->p≠q->∀b∈keys (Fr p).own,b∉keys (Fr q).own
 ro:∀p q,p<=k->q<=k->p≠q->∀a,((Fr p).ro a).isSome=true->a.block∉keys (Fr q).own
 gJ:∀p,p<=k->∀b∈keys (Fr p).own,¬c.shared b
 iS:∀p,p<=k->∀a,((Fr p).ro a).isSome=true->¬c.shared a.block
 fS:∀b,c.shared b->b<w.heap.size
structure dx (c:Cy)(t:Trace)(g r:Nat):Prop where
 late:c.T0<=r
 act:t.act? r=some (.mark (.releaseMerge (stA c.Wg)))
 q4:t.g? r=some g
 heard:t.heard r
 after:∀i x,r<i->t.g? i=some g->touchAt t i=some x->x.kind= .atomic/\¬t.heard i/\∃a,x.loc= .cell a/\a.block=c.Wg
theorem Bw {B:Nat}{l:Loc}(h:l.low B)(h':k9 B l):False:=by
 cases l with
 |cell a=>exact absurd h (Nat.not_lt.2 h')
 |obj r=>exact absurd h (Nat.not_lt.2 h')
 |_=>exact h'
theorem Bx {B:Nat}{t:Trace}(h:∀op∈t,op.act.low B){i:Nat}{a:Touch}(c:touchAt t i=some a):a.loc.low B:=by
 obtain ⟨x,d,b⟩:=touch_of c;have hm:=h x (Array.mem_of_getElem? d);obtain ⟨g,fn,pos,act⟩:=x;cases act with
 |access e=>simp only[MemAct.touch?,Option.some.injEq] at b;subst b;exact hm
 |mark m=>cases m<;>simp only[MemAct.touch?,Option.some.injEq] at b<;>first|(subst b;exact hm)|cases b
 |_=>cases b
theorem Il {F:af}{w:World}(h:Has F w){l:Loc}(b:ei F l):¬k9 w.heap.size l:=by
 cases l with
 |cell a=>exact fun x=>absurd (h.lt b) (Nat.not_lt.2 x)
 |obj r=>exact fun x=>absurd (h.lt b) (Nat.not_lt.2 x)
 |_=>exact b.elim
theorem Im {F:af}{w:World}(h:Has F w){l:Loc}(b:fR F l):¬k9 w.heap.size l:=by
 obtain ⟨a,rfl,c⟩:=b;exact fun x=>absurd (h.ij c) (Nat.not_lt.2 x)
section
variable {c:Cy}{bl:Loc->Prop}{k:Nat}{Fr:Nat->af}{w:World}{t u:Trace}
theorem dS.sep (h:dS c k Fr w){p q:Nat}(d:p<=k)(e:q<=k)(f:p≠q){l:Loc}(b:ei (Fr p) l)(g:ei (Fr q) l):False:=by
 cases l with
 |cell a=>exact h.own p q d e f _ b g
 |obj r=>exact h.own p q d e f _ b g
 |_=>exact b
theorem dS.By (h:dS c k Fr w){p q:Nat}(b:p<=k)(d:q<=k)(e:p≠q){l:Loc}(f:fR (Fr p) l)(g:ei (Fr q) l):False:=by
 obtain ⟨a,rfl,i⟩:=f;exact h.ro p q b d e a i g
theorem s7 {a:Addr}{T:Nat}(h:∀i,T<=i->t.act? i≠some (.mark (.release a)))(hu:∀op∈u,op.act≠ .mark (.release a)):∀i,T<=i->(t++u).act? i≠some (.mark (.release a)):=by
 intro i c hi;obtain ⟨op,ho,b⟩:=Option.map_eq_some_iff.1 hi;rcases getElem?_append_cases ho with ⟨_,d⟩|⟨_,e⟩
 .exact h i c (by rw[act?_of d,b])
 .exact hu op e b
theorem dx.app {g r:Nat}(h:dx c t g r)(hu:∀i x,t.size<=i->(t++u).g? i=some g->touchAt (t++u) i=some x->x.kind= .atomic/\¬(t++u).heard i/\∃a,x.loc= .cell a/\a.block=c.Wg):dx c (t++u) g r:=by
 have b:r<t.size:=lt_of_act? h.act;refine ⟨h.late,by rw[act?_old b];exact h.act,by rw[g?_old b];exact h.q4,(heard_old b).2 h.heard,fun i x hi hg e=>?_⟩;rcases Nat.lt_or_ge i t.size with d|f
 .rw[heard_old d];exact h.after i x hi (by rw[<-g?_old (u:=u) d];exact hg) (by rw[<-touchAt_old (u:=u) d];exact e)
 .exact hu i x f hg e
theorem dx.other {g r g':Nat}(h:dx c t g r)(a:g'≠g)(hu:∀op∈u,op.g=g'):dx c (t++u) g r:=by
 refine h.app fun i x hi hg f=>?_;unfold Trace.g? at hg;obtain ⟨z,b,d⟩:=Option.map_eq_some_iff.1 hg;rcases getElem?_append_cases b with ⟨j,_⟩|⟨_,e⟩
 .omega
 .exact absurd (hu z e▸d) a
end
end Go.Sep
end
section
namespace Go.Sep
open Go Go.Conc
open Go.ConcN (sumTo upd upd_ne upd_same sumTo_congr)
open Go.ConcM (MuAt muA msA muBlock OsLater)
open Go.ConcR (WgAt wgBlock stA smA)
def cA (m:Mark):Event:=⟨.mark m,false,true⟩
structure fq (c:Cy)(w w':World):Prop where
 tape:w'.tape=w.tape
 output:w'.output=w.output
 size:w'.heap.size=w.heap.size
 os:jE w.os w'.os
 block:∀k,¬c.shared k->w'.heap[k]?=w.heap[k]?
theorem fq.refl (c:Cy)(w:World):fq c w w:=⟨rfl,rfl,rfl,.refl _,fun _ _=>rfl⟩
section
variable {c:Cy}{B0:Nat}{bl:Loc->Prop}{p0:P0}{d0 k:Nat}{g:Goroutine}{Fr:Nat->af}{gs:Array Goroutine}{w:World}{t:Trace}{ρ:Nat->Rk}{φ:Nat->Ph}{s:Sh}
theorem Inv.wY (h:Inv c.n c.bs k φ p0 s):0<=s.ws:=by
 have:=h.w.inv;cases p0<;>simp only at this<;>omega
end
end Go.Sep
end
section
namespace Go.Sep
open Go Go.Conc
open Go.ConcN (sumTo upd upd_ne upd_same sumTo_congr sumTo_upd)
open Go.ConcM (MuAt muA msA muBlock OsLater)
open Go.ConcR (WgAt wgBlock stA smA)
def lf (x:Option Goroutine):Nat:=match x with
 |some x=>if x.status= .running then 1 else 0
 |none=>0
def runs (gs:Array Goroutine):Nat:=sumTo gs.size fun j=>lf gs[j]?
theorem wZ {gs:Array Goroutine}{j:Nat}{x y:Goroutine}(c:gs[j]?=some x)(f:x.status= .running)(g:y.status≠ .running):runs (gs.setIfInBounds j y)<runs gs:=by
 have d:j<gs.size:=(Array.getElem?_eq_some_iff.1 c).1;have h:=sumTo_upd (fun a=>lf gs[a]?) (0:Nat) id d;simp only[id] at h;have e:runs (gs.setIfInBounds j y)=sumTo gs.size (upd (fun a=>lf gs[a]?) j 0):=by
  unfold runs;rw[Array.size_setIfInBounds];refine sumTo_congr fun a k=>?_;by_cases b:a=j
  .subst b;rw[upd_same,Array.getElem?_setIfInBounds_self_of_lt d];simp[lf,g]
  .rw[upd_ne _ _ b,Array.getElem?_setIfInBounds_ne (Ne.symm b)]
 have i:lf gs[j]?=1:=by rw[c];simp[lf,f]
 rw[e];unfold runs;simp only[i] at h;have:sumTo gs.size (fun a=>upd (fun a=>lf gs[a]?) j 0 a)=sumTo gs.size (upd (fun a=>lf gs[a]?) j 0):=rfl;omega
section
variable {c:Cy}{B0:Nat}{bl:Loc->Prop}{p0:P0}{d0 k:Nat}{g:Goroutine}{Fr:Nat->af}{gs:Array Goroutine}{w:World}{t u:Trace}{ρ:Nat->Rk}{φ:Nat->Ph}{s:Sh}
theorem Inv.deaf {n:Nat}{bs:Nat->Bool}(h:Inv n bs k φ p0 s){i:Nat}(hi:i<n)(hg:(φ i).gp≠ .new)(d:Nat):Inv n bs k (upd φ i {φ i with deaf:=d}) p0 s:=by
 obtain ⟨C,S,W,L,m,hm⟩:=h.m;refine ⟨⟨C,S,W,L,m,Br hm hi _ (.inl rfl)⟩,q3 h.w hi _ (.inl rfl),h.i.len,h.i.kn,fun j a=>?_,fun j a=>?_,fun j a hn=>?_,fun j a b c=>?_⟩<;>by_cases e:j=i
 .subst e;rw[upd_same];exact h.i.all j a
 .rw[upd_ne _ _ e];exact h.i.all j a
 .subst e;rw[upd_same];exact h.i.born j a
 .rw[upd_ne _ _ e];exact h.i.born j a
 .subst e;rw[upd_same] at hn;exact absurd hn hg
 .rw[upd_ne _ _ e] at hn ⊢;exact h.i.new j a hn
 .subst e;rw[upd_same] at b c ⊢;exact h.i.done j a b c
 .rw[upd_ne _ _ e] at b c ⊢;exact h.i.done j a b c
theorem dS.walk (h:dS c k Fr w){p:Nat}(s:p<=k){F':af}{w':World}(hu:dO (Fr p) F' w w')(t:Has F' w'):dS c k (upd Fr p F') w':=by
 have keep:∀b,b<w.heap.size->b∉keys (Fr p).own->w'.heap[b]?=w.heap[b]?:=hu.frame;have j:∀q,q≠p->(upd Fr p F') q=Fr q:=fun q d=>upd_ne _ _ d;have self:(upd Fr p F') p=F':=upd_same _ _ _;refine ⟨fun q d=>?_,fun q r d f i b hb l=>?_,fun q r d f i a g hb=>?_,fun q d b hb hs=>?_,fun q d a g hs=>?_,fun b hb=>Nat.lt_of_lt_of_le (h.fS b hb) hu.size⟩
 .by_cases e:q=p
  .subst e;rw[self];exact t
  .rw[j q e];have m:=h.has q d
   exact ⟨fun a v f=>by
    have:=m.ro a v f;unfold World.cell? at this ⊢;rw[keep _ (m.ij (a:=a) (by rw[f];rfl)) (fun hm=>h.ro q p d s e a (by rw[f];rfl) hm)]
    exact this,fun b o hb=>by rw[keep b (m.lt (fA hb)) (fun hm=>h.own q p d s e b (fA hb) hm)];exact m.own b o hb,m.nodup,m.apart⟩
 .by_cases eq:q=p
  .subst eq;rw[self] at hb;rw[j r (Ne.symm i)] at l;rcases hu.own b hb with x|x
   .exact h.own q r d f i b x l
   .have:=(h.has r f).lt l;omega
  .rw[j q eq] at hb;by_cases n:r=p
   .subst n;rw[self] at l;rcases hu.own b l with x|x
    .exact h.own q r d f i b hb x
    .have:=(h.has q d).lt hb;omega
   .rw[j r n] at l;exact h.own q r d f i b hb l
 .by_cases eq:q=p
  .subst eq;rw[self] at g;rw[j r (Ne.symm i)] at hb;rcases hu.ro a g with x|x|x
   .exact h.ro q r d f i a x hb
   .exact h.own q r d f i _ x hb
   .have:=(h.has r f).lt hb;omega
  .rw[j q eq] at g;by_cases n:r=p
   .subst n;rw[self] at hb;rcases hu.own _ hb with x|x
    .exact h.ro q r d f i a g x
    .have:=(h.has q d).ij g;omega
   .rw[j r n] at hb;exact h.ro q r d f i a g hb
 .by_cases e:q=p
  .subst e;rw[self] at hb;rcases hu.own b hb with x|x
   .exact h.gJ q d b x hs
   .have:=h.fS b hs;omega
  .rw[j q e] at hb;exact h.gJ q d b hb hs
 .by_cases e:q=p
  .subst e;rw[self] at g;rcases hu.ro a g with x|x|x
   .exact h.iS q d a x hs
   .exact h.gJ q d _ x hs
   .have:=h.fS _ hs;omega
  .rw[j q e] at g;exact h.iS q d a g hs
theorem dS.act (h:dS c k Fr w){p:Nat}(u:p<=k){F':af}{w':World}(he:fq c w w')(hle:Le F' (Fr p)):dS c k (upd Fr p F') w':=by
 have n:∀q,q<=k->Has (Fr q) w':=fun q d=>by
  have j:=h.has q d
  exact ⟨fun a v g=>by
   have:=j.ro a v g;unfold World.cell? at this ⊢;rw[he.block _ (h.iS q d a (by rw[g];rfl))]
   exact this,fun b o hb=>by rw[he.block b (h.gJ q d b (fA hb))];exact j.own b o hb,j.nodup,j.apart⟩
 have m:∀q,q≠p->(upd Fr p F') q=Fr q:=fun q d=>upd_ne _ _ d;have self:(upd Fr p F') p=F':=upd_same _ _ _;have i:∀q b,b∈keys ((upd Fr p F') q).own->b∈keys (Fr q).own:=fun q b hb=>by
  by_cases e:q=p
  .subst e;rw[self] at hb;exact hle.own b hb
  .rw[m q e] at hb;exact hb
 have s:∀q a,(((upd Fr p F') q).ro a).isSome=true->((Fr q).ro a).isSome=true\/a.block∈keys (Fr q).own:=fun q a f=>by
  by_cases e:q=p
  .subst e;rw[self] at f;exact hle.ro a f
  .rw[m q e] at f;exact .inl f
 refine ⟨fun q d=>?_,fun q r d g l b hb t=>h.own q r d g l b (i q b hb) (i r b t),fun q r d g l a f hb=>(s q a f).elim (fun x=>h.ro q r d g l a x (i r _ hb)) (fun x=>h.own q r d g l _ x (i r _ hb)),
  fun q d b hb hs=>h.gJ q d b (i q b hb) hs,fun q d a f hs=>(s q a f).elim (fun x=>h.iS q d a x hs) (fun x=>h.gJ q d _ x hs),fun b hb=>by rw[he.size];exact h.fS b hb⟩
 by_cases e:q=p
 .subst e;rw[self];exact hle.has _ (n q d)
 .rw[m q e];exact n q d
theorem dS.at (h:dS c k Fr w)(d:Nat):dS c k Fr (w.at d):=⟨fun p a=>(h.has p a).at d,h.own,h.ro,h.gJ,h.iS,h.fS⟩
theorem Io (d:Nat)(es:Array Event)(n:Nat)(h:n<=es.size){fn:FuncId}{pos:String}{j:Nat}(t:Trace)(hd:Deaf t j=d):(t++MemOp.ofEvents j fn pos es).deaf j (t.size+n)=deafBehind d (es.extract 0 n):=by
 have e1:es=es.extract 0 n++es.extract n es.size:=by simp[Array.extract_append_extract,h]
 have e2:MemOp.ofEvents j fn pos es=MemOp.ofEvents j fn pos (es.extract 0 n)++MemOp.ofEvents j fn pos (es.extract n es.size):=by
  rw[Go.Conc.ofEvents_eq,Go.Conc.ofEvents_eq,Go.Conc.ofEvents_eq,<-Array.map_append,<-e1]
 rw[e2,<-Array.append_assoc];have hs:(t++MemOp.ofEvents j fn pos (es.extract 0 n)).size=t.size+n:=by rw[Go.Conc.ofEvents_eq];simp;omega
 rw[<-hs,deaf_old (Nat.le_refl _)];have:=Deaf_own t j fn pos (es.extract 0 n);unfold Deaf at this;rw[this];exact congrArg (fun d=>deafBehind d _) hd
end
section
variable {c:Cy}{B0:Nat}{bl:Loc->Prop}{p0:P0}{d0 k:Nat}{g:Goroutine}{Fr:Nat->af}{gs:Array Goroutine}{w:World}{t u:Trace}{ρ:Nat->Rk}{φ:Nat->Ph}{s:Sh}
def iD (ρ:Nat->Rk)(j:Nat)(r:Rk)(a:Nat):Rk:=if a=j then r else ρ a
theorem jv (ρ:Nat->Rk)(j:Nat)(r:Rk):iD ρ j r j=r:=if_pos rfl
theorem gK (ρ:Nat->Rk)(r:Rk){a j:Nat}(h:a≠j):iD ρ j r a=ρ a:=if_neg h
theorem lg {n j:Nat}{ρ:Nat->Rk}{r:Rk}(a:j<n)(h:(ρ j).kids r):pU n (iD ρ j r) ρ:=⟨j,a,by rw[jv];exact h,fun _ b=>gK _ _ b⟩
end
structure Ev0 (c:Cy)(d0 iE:Nat)(es:Array Event):Prop where
 all:∀e∈es,e=cA .disable\/e=cA .enable\/∃a,a.block=c.Wg/\((∃x,e=⟨.cell a,x,true⟩)\/e=cA (.read a)\/e=cA (.write a))
 deaf:deafBehind d0 es=iE
section
variable {c:Cy}{B0:Nat}{bl:Loc->Prop}{p0:P0}{d0 k:Nat}{g:Goroutine}{F:af}{Fr:Nat->af}{gs:Array Goroutine}{w:World}{t u:Trace}{ρ:Nat->Rk}{φ:Nat->Ph}{s:Sh}{Φ:Goroutine->af->Prop}
def Cy.fin (c:Cy):Obj:=.cells ((List.range c.n).map fun i=>Value.bool (c.bs i)).toArray c.tI
end
def iT (P:Program)(Φ:Goroutine->af->Prop)(g:Goroutine)(F:af):Prop:=
 g.status= .running/\g.offers=none/\∀(bl:Loc->Prop) (gs:Array Goroutine) (w:World) (sl:Option (Nat×Nat)) (t:Trace) (q:Nat->Nat),ja P bl g F gs w t q->
  ∃(N:Nat) (gs':Array Goroutine) (w':World) (c:Option (Nat×Nat)) (a:Trace) (d:Nat->Nat) (g':Goroutine) (F':af) (b:Loc->Prop),
   runNT P N (crowd gs w sl) t=(.next (crowd gs' w' c),a)/\ja P b g' F' gs' w' a d/\fL F F' w w'/\(∀l,b l->bl l\/¬l.low w.heap.size\/ei F l)/\Φ g' F'
theorem iT.done {P:Program}{Φ:Goroutine->af->Prop}{g:Goroutine}{F:af}(a:g.status= .running)(ho:g.offers=none)(h:Φ g F):iT P Φ g F:=
 ⟨a,ho,fun bl gs w sl t q b=>⟨0,gs,w,sl,t,q,g,F,bl,rfl,b,.refl _ _,fun _ h=>.inl h,h⟩⟩
theorem Le.s8 {F F':af}(h:Le F F'){l:Loc}(b:ei F l):ei F' l:=by
 cases l with
 |cell a=>exact h.own _ b
 |obj r=>exact h.own _ b
 |_=>exact b
theorem Ip (P:Program)(Φ:Goroutine->af->Prop):Closed P true (iT P Φ) where
 mono hle h:=by
  refine ⟨h.1,h.2.1,fun bl gs w sl t q b=>?_⟩
  obtain ⟨N,gs',w',B,C,D,g',F',E,k,H,hu,I,J⟩:=h.2.2 bl gs w sl t q ⟨b.g0,b.lv,b.past,hle.has w b.has,fun l hs K=>b.apart l hs (hle.iq K),b.low⟩
  exact ⟨N,gs',w',B,C,D,g',F',E,k,H,hu.le hle,fun l m=>(I l m).imp id fun x=>x.imp id hle.s8,J⟩
 step {fr cs F} h:=by
  refine ⟨rfl,rfl,fun bl gs w sl t q b=>?_⟩
  obtain ⟨N,n,d,d',a3,o,t1,L,k,a4,s,u,M,O⟩:=zn (P:=P) (a:=G fr cs) rfl _ gs w sl t q (Nat.le_refl _) b.g0 b.lv b.past
  obtain ⟨g',w',es,F',hgo,hu,Q,R,hJ⟩:=h (w.at d') (b.has.at d')
  have c:dO F F' w w':=⟨hu.os,hu.tape,hu.output,hu.size,hu.frame,hu.ro,hu.own⟩
  have S:=runT_crowd_go (P:=P) (sl:=o) (i:=0) s (show stepG P (0==0) (G fr cs) (w.at d')=_ from hgo)
  have T:0<n.size:=(Array.getElem?_eq_some_iff.1 s).1
  have v:=ja.next (P:=P) b.apart b.low c
  obtain ⟨U,V,w2,W,t2,X,Y,Z,ab,ad,ae,al,ao,ar⟩:=hJ.2.2 bl ((n.map (woken P (G fr cs) g' w')).setIfInBounds 0 g') w' o (t1++MemOp.ofEvents 0 (G fr cs).frame.fn (G fr cs).frame.place es) L
   {g0:=by simp[T]
    lv:=⟨fun j x g z=>by
     have a0:0≠j:=aa
     rw[Array.getElem?_setIfInBounds_ne a0,Array.getElem?_map] at z
     obtain ⟨y,a2,rfl⟩:=Option.map_eq_some_iff.1 z
     have A:=u.old j y g a2
     rw[woken_quitsD A,Deaf_other t1 aa _ (fun op p=>by obtain ⟨e,_,rfl⟩:=Go.Conc.mem_ofEvents p;rfl)]
     exact A,fun j g=>by
     rw[Deaf_other t1 (g':=0) (by simp at g;omega) _ (fun op p=>by obtain ⟨e,_,rfl⟩:=Go.Conc.mem_ofEvents p;rfl)]
     exact u.above j (by simpa using g)⟩
    past:=(M.mono c.size).own fun e he=>zo b.has c.size b.apart b.low (R e he)
    has:=Q
    apart:=v.1
    low:=v.2}
  refine ⟨N+1+U,V,w2,W,t2,X,Y,Z,ab,?_,ae,(fL.uJ c).trans al,fun l m=>?_,ar⟩
  .have:runNT P (N+1) (crowd gs w sl) t=(.next (crowd ((n.map (woken P (G fr cs) g' w')).setIfInBounds 0 g') w' o),t1++MemOp.ofEvents 0 (G fr cs).frame.fn (G fr cs).frame.place es):=by
    rw[runNT_add,k]
    simp only[runNT,O,S]
   rw[kK this]
   exact ad
  .rcases ao l m with x|x|x
   .exact .inl x
   .exact .inr (.inl fun f=>x (Loc.low_mono c.size f))
   .cases l with
    |cell a=>
     rcases c.own _ x with y|y
     .exact .inr (.inr y)
     .exact .inr (.inl fun f=>absurd f (Nat.not_lt.2 y))
    |obj r=>
     rcases c.own _ x with y|y
     .exact .inr (.inr y)
     .exact .inr (.inl fun f=>absurd f (Nat.not_lt.2 y))
    |_=>exact x.elim
theorem gd.Iq {P:Program}{f:FuncId}{args:Array Value}{ro:Addr->Option Value}{R:Value->af->Prop}(h:∀Φ,dh P (iT P Φ) f args ⟨ro,[]⟩ R):gd P f args ⟨ro,[]⟩ R:=by
 intro Φ c cs hK bl gs w sl t q a;obtain ⟨N,gs',w',b,d,e,g',F',g,i,j,hu,k,v,rfl,hR⟩:=(h (fun g' F'=>∃v,g'=G (c.finish v) cs/\R v F') c cs (fun v F' hR=>iT.done rfl rfl ⟨v,rfl,hR⟩)).2.2 bl gs w sl t q a;obtain ⟨m,n,w2,o,t2,p,r,s,u,z,A,B,C,D⟩:=hK v F' hR g gs' w' b d e j;refine ⟨N+m,n,w2,o,t2,p,r,s,u,by rw[kK i];exact z,A,hu.trans B,fun l E=>?_,D⟩;rcases C l E with x|x
 .rcases k l x with y|y|y
  .exact .inl y
  .exact .inr y
  .cases l<;>first|(simp only[ei,keys,List.map_nil] at y;cases y)|exact y.elim
 .exact .inr fun F=>x (Loc.low_mono hu.size F)
end Go.Sep
end

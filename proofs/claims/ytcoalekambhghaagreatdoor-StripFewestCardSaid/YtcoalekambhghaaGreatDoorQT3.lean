/- A part of the proof: QT3. -/
import Derived.Test.YtcoalekambhghaaGreatDoorQT2
set_option linter.all false
section
namespace Go.Sep
open Go Go.Conc
def nD (ops:Array Oper)(bZ:List Nat)(i:Nat):Bool:=bZ.all fun j=>match ops[j]? with
 |some o=>o.after.any fun e=>Region.binds .any e&&e.on==i
 |none=>true
section
variable {P:Program}{main:Bool}{J:Goroutine->ag->Prop}{ops:Array Oper}{Q:Act->ag->Prop}{S:ag->Prop}{bZ:List Nat}
def dM (P:Program)(J:Goroutine->ag->Prop)(ops:Array Oper)(Q:Act->ag->Prop)(S:ag->Prop)(bZ:List Nat):Nat->Array Bool->Act->ag->Prop
 |0,listed,a,F=>Region.ready .any ops listed=[]/\Q a F
 |fuel+1,listed,a,F=>(Region.ready .any ops listed=[]->Q a F)/\
  ∀i∈Region.ready .any ops listed,dD P J ops i (fun b F'=>(¬i∈bZ->S F->S F')/\dM P J ops Q S bZ fuel (listed.setIfInBounds i true) b F') a F
theorem CP:∀(fuel t:Nat) (listed:Array Bool) (a:Act) (F:ag),dM P J ops Q S bZ fuel listed a F->
  eD P J ops Q (Region.linearise.go .any ops fuel t listed []) a F:=by
 intro fuel
 induction fuel with
 |zero=>intro t listed a F h;simpa [Region.linearise.go,eD] using h.2
 |succ fuel ih=>
  intro t listed a F h
  obtain ⟨b,c⟩:=h
  simp only[Region.linearise.go]
  change eD P J ops Q (match (Region.ready .any ops listed)[t % (Region.ready .any ops listed).length]? with
   |some i=>Region.linearise.go .any ops fuel (t/(Region.ready .any ops listed).length) (listed.setIfInBounds i true) [i]
   |none=>[].reverse) a F
  cases hi:(Region.ready .any ops listed)[t % (Region.ready .any ops listed).length]? with
  |none=>
   have d:Region.ready .any ops listed=[]:=by
    cases e:Region.ready .any ops listed with
    |nil=>rfl
    |cons x xs=>
     rw[e] at hi
     have f:t % (x::xs).length<(x::xs).length:=Nat.mod_lt _ aB
     simp at hi
     simp at f
     omega
   simpa [eD] using b d
  |some i=>
   simp only[]
   rw[linearise_go_acc,List.reverse_singleton,List.singleton_append]
   exact mW (fun a F h=>ih _ _ a F h.2) (c i (List.mem_of_getElem? hi))
theorem CQ {i:Nat}{l:Oper}{v:Value}(hi:ops[i]?=some l)(m:nD ops bZ i=true)(u:∀(j:Nat) (o:Oper) cs b,ops[j]?=some o->o.op≠ .select cs b):
  ∀(fuel:Nat) (listed:Array Bool) (a:Act) (F:ag),
   (∀j f,ops[j]?=some f->j≠i->listed.getD j true=false->(∀e∈f.after,Region.binds .any e=true->e.on≠i)->l.apart ops f=true)->
   i∈Region.ready .any ops listed->eZ P J ops S l v a->S F->
   dM P J ops Q S bZ fuel (listed.setIfInBounds i true) (a.put l.dst v) F->dM P J ops Q S bZ (fuel+1) listed a F:=by
 intro fuel
 induction fuel with
 |zero=>
  intro listed a F _ g n p H
  refine ⟨fun h=>(by rw[h] at g;cases g),fun j q=>?_⟩
  by_cases d:j=i
  .subst d;exact n.k6 hi p ⟨fun _ h=>h,H⟩
  .have:=ready_mono q d
   rw[H.1] at this
   cases this
 |succ fuel ih=>
  intro listed a F w g n p H
  refine ⟨fun h=>(by rw[h] at g;cases g),fun j q=>?_⟩
  by_cases d:j=i
  .subst d;exact n.k6 hi p ⟨fun _ h=>h,H⟩
  .have c:=H.2 j (ready_mono q d)
   obtain ⟨y,f,r,D⟩:=mem_ready.1 q
   have z:∀e∈f.after,Region.binds .any e=true->e.on≠i:=fun e he hb heq=>by
    have c:=D e he hb
    have A:=(mem_ready.1 g).1
    rw[heq] at c
    rcases Nat.lt_or_ge i listed.size with h'|h'
    .simp[h'] at A c;rw[A] at c;cases c
    .simp[Array.getElem?_eq_none h'] at c
   have E:¬j∈bZ:=fun e=>by
    have m:=List.all_eq_true.1 m j e
    simp only[r,Array.any_eq_true,Bool.and_eq_true,beq_iff_eq] at m
    obtain ⟨x,G,c,t⟩:=m
    exact z _ (Array.getElem_mem G) c t
   have t:=rN r (w j f r d y z) (fun cs b=>u i l cs b hi) (fun cs b=>u j f cs b r) n c
   have I:∀k ok,ops[k]?=some ok->k≠i->(listed.setIfInBounds j true).getD k true=false->
     (∀e∈ok.after,Region.binds .any e=true->e.on≠i)->l.apart ops ok=true:=fun k ok K L B M=>by
    refine w k ok K L ?_ M
    by_cases C:j=k
    .subst C;exact y
    .rw[getD_set_ne true C] at B;exact B
   refine mW (fun N F' s=>⟨s.2.1,ih (listed.setIfInBounds j true) N F' I (ready_mono g (Ne.symm d)) s.1 (s.2.1 E p) ?_⟩) t
   rw[Array.setIfInBounds_comm _ _ d]
   exact s.2.2
theorem CR {i:Nat}{l:Oper}{v:Value}(hi:ops[i]?=some l)(r:∀(j:Nat) (o:Oper) cs b,ops[j]?=some o->o.op≠ .select cs b):
  ∀(fuel:Nat) (listed:Array Bool) (a:Act) (F:ag),
   (∀j d,ops[j]?=some d->j≠i->listed.getD j true=false->(∀e∈d.after,Region.binds .any e=true->e.on≠i)->l.apart ops d=true)->
   i∈Region.ready .any ops listed->eZ P J ops (fun _=>True) l v a->
   dM P J ops Q S bZ fuel (listed.setIfInBounds i true) (a.put l.dst v) F->dM P J ops Q S bZ (fuel+1) listed a F:=by
 intro fuel
 induction fuel with
 |zero=>
  intro listed a F _ f m H
  refine ⟨fun h=>(by rw[h] at f;cases f),fun j n=>?_⟩
  by_cases c:j=i
  .subst c;exact m.k6 hi trivial ⟨fun _ h=>h,H⟩
  .have:=ready_mono n c
   rw[H.1] at this
   cases this
 |succ fuel ih=>
  intro listed a F s f m H
  refine ⟨fun h=>(by rw[h] at f;cases f),fun j n=>?_⟩
  by_cases c:j=i
  .subst c;exact m.k6 hi trivial ⟨fun _ h=>h,H⟩
  .have g:=H.2 j (ready_mono n c)
   obtain ⟨t,d,p,y⟩:=mem_ready.1 n
   have z:∀e∈d.after,Region.binds .any e=true->e.on≠i:=fun e he hb heq=>by
    have g:=y e he hb
    have u:=(mem_ready.1 f).1
    rw[heq] at g
    rcases Nat.lt_or_ge i listed.size with h'|h'
    .simp[h'] at u g;rw[u] at g;cases g
    .simp[Array.getElem?_eq_none h'] at g
   have A:=rN p (s j d p c t z) (fun cs b=>r i l cs b hi) (fun cs b=>r j d cs b p) m g
   have B:∀k ok,ops[k]?=some ok->k≠i->(listed.setIfInBounds j true).getD k true=false->
     (∀e∈ok.after,Region.binds .any e=true->e.on≠i)->l.apart ops ok=true:=fun k ok C D w E=>by
    refine s k ok C D ?_ E
    by_cases x:j=k
    .subst x;exact t
    .rw[getD_set_ne true x] at w;exact w
   refine mW (fun G F' q=>⟨q.2.1,ih (listed.setIfInBounds j true) G F' B (ready_mono f (Ne.symm c)) q.1 ?_⟩) A
   rw[Array.setIfInBounds_comm _ _ c]
   exact q.2.2
theorem yu (i:Nat){c:Oper}(v:Value){fuel:Nat}{listed:Array Bool}{a:Act}{F:ag}(hi:ops[i]?=some c)
  (b:(Region.noSelect ops&&Region.free .any ops listed i&&(Region.ready .any ops listed).contains i)=true)
  (d:nD ops bZ i=true) (e:eZ P J ops S c v a) (f:S F)
  (h:dM P J ops Q S bZ fuel (listed.setIfInBounds i true) (a.put c.dst v) F):dM P J ops Q S bZ (fuel+1) listed a F:=by
 simp only[Bool.and_eq_true] at b
 exact CQ hi d (Region.noSelect_spec b.1.1) fuel listed a F (Region.free_spec hi b.1.2) (by simpa using b.2) e f h
theorem sR {rs:List Nat}{fuel:Nat}{listed:Array Bool}{a:Act}{F:ag}(b:Region.ready .any ops listed=rs)(c:rs≠[])
  (h:∀i∈rs,dD P J ops i (fun d F'=>(¬i∈bZ->S F->S F')/\dM P J ops Q S bZ fuel (listed.setIfInBounds i true) d F') a F):dM P J ops Q S bZ (fuel+1) listed a F:=
 ⟨fun e=>absurd (b▸e) c,b▸h⟩
theorem yw (i:Nat){fuel:Nat}{listed:Array Bool}{a:Act}{F:ag}(b:Region.ready .any ops listed=[i])
  (h:dD P J ops i (fun c F'=>(¬i∈bZ->S F->S F')/\dM P J ops Q S bZ fuel (listed.setIfInBounds i true) c F') a F):dM P J ops Q S bZ (fuel+1) listed a F:=
 sR b aB (by simpa using h)
theorem yx {listed:Array Bool}{a:Act}{F:ag}(b:Region.ready .any ops listed=[])(h:Q a F):∀fuel,dM P J ops Q S bZ fuel listed a F
 |0=>⟨b,h⟩
 |_+1=>⟨fun _=>h,by rw[b];simp⟩
end
theorem sS {P:Program}{J:Goroutine->ag->Prop}{ops:Array Oper}{Q:Act->ag->Prop}{S:ag->Prop}{bZ:List Nat}(i:Nat){b:Oper}(v:Value){fuel:Nat}{listed:Array Bool}{a:Act}{F:ag}(hi:ops[i]?=some b)
  (d:(Region.noSelect ops&&Region.free .any ops listed i&&(Region.ready .any ops listed).contains i)=true)
  (e:nD ops bZ i=true) (hg:cx ops b a=some true) (f:∀F R,S F->R v F->cT P J b R a F) (c:S F)
  (h:dM P J ops Q S bZ fuel (listed.setIfInBounds i true) (bB a b.dst v) F):dM P J ops Q S bZ (fuel+1) listed a F:=
 yu i v hi d e (.inl ⟨cr hg,fun F R c hR=>jf (f F R c hR)⟩) c h
theorem CS {P:Program}{J:Goroutine->ag->Prop}{ops:Array Oper}{Q:Act->ag->Prop}{S:ag->Prop}{bZ:List Nat}(i:Nat){b:Oper}{fuel:Nat}{listed:Array Bool}{a:Act}{F:ag}(hi:ops[i]?=some b)
  (c:(Region.noSelect ops&&Region.free .any ops listed i&&(Region.ready .any ops listed).contains i)=true)
  (d:nD ops bZ i=true) (hg:cx ops b a=some false) (e:S F)
  (h:dM P J ops Q S bZ fuel (listed.setIfInBounds i true) (bB a b.dst undef) F):dM P J ops Q S bZ (fuel+1) listed a F:=
 yu i undef hi c d (.inr ⟨cr hg,rfl⟩) e h
theorem yy {P:Program}{J:Goroutine->ag->Prop}{ops:Array Oper}{Q:Act->ag->Prop}{S:ag->Prop}{bZ:List Nat}(i:Nat){c:Oper}(v:Value){fuel:Nat}{listed:Array Bool}{a:Act}{F:ag}(hi:ops[i]?=some c)
  (b:(Region.noSelect ops&&Region.free .any ops listed i&&(Region.ready .any ops listed).contains i)=true)
  (d:eZ P J ops (fun _=>True) c v a)
  (h:dM P J ops Q S bZ fuel (listed.setIfInBounds i true) (bB a c.dst v) F):dM P J ops Q S bZ (fuel+1) listed a F:=by
 simp only[Bool.and_eq_true] at b
 exact CR hi (Region.noSelect_spec b.1.1) fuel listed a F (Region.free_spec hi b.1.2) (by simpa using b.2) d h
inductive b9 where
 |done
 |rd (i:Nat) (p:b9)
 |one (i:Nat) (p:b9)
 |two (i:Nat) (p:b9) (j:Nat) (q:b9)
 |three (i:Nat) (p:b9) (j:Nat) (q:b9) (k:Nat) (r:b9)
 |last (i:Nat) (p:b9)
 |pure (i:Nat) (p:b9)
inductive fe where
 |done
 |rd (o:Oper) (p:fe)
 |one (o:Oper) (p:fe)
 |two (o:Oper) (p:fe) (o':Oper) (q:fe)
 |three (o:Oper) (p:fe) (o':Oper) (q:fe) (iK:Oper) (r:fe)
 |last (o:Oper) (p:fe)
 |pure (o:Oper) (p:fe)
 |bad
def b9.opers (ops:Array Oper):b9->fe
 | .done=>.done
 | .rd i p=>match ops[i]? with
  |some o=>.rd o (p.opers ops)
  |none=>.bad
 | .one i p=>match ops[i]? with
  |some o=>.one o (p.opers ops)
  |none=>.bad
 | .two i p j q=>match ops[i]?,ops[j]? with
  |some o,some o'=>.two o (p.opers ops) o' (q.opers ops)
  |_,_=>.bad
 | .three i p j q k r=>match ops[i]?,ops[j]?,ops[k]? with
  |some o,some o',some iK=>.three o (p.opers ops) o' (q.opers ops) iK (r.opers ops)
  |_,_,_=>.bad
 | .last i p=>match ops[i]? with
  |some o=>.last o (p.opers ops)
  |none=>.bad
 | .pure i p=>match ops[i]? with
  |some o=>.pure o (p.opers ops)
  |none=>.bad
def b9.tl:b9->Bool
 | .done=>true
 | .last _ p=>p.tl
 | .pure _ p=>p.tl
 |_=>false
def b9.ok (ops:Array Oper)(bZ:List Nat):b9->Array Bool->Bool
 | .done,L=>decide (Region.ready .any ops L=[])
 | .rd i p,L=>Region.free .any ops L i&&(Region.ready .any ops L).contains i&&(ops[i]?).isSome&&nD ops bZ i&&p.ok ops bZ (L.setIfInBounds i true)
 | .one i p,L=>decide (Region.ready .any ops L=[i])&&(ops[i]?).isSome&&p.ok ops bZ (L.setIfInBounds i true)
 | .two i p j q,L=>decide (Region.ready .any ops L=[i,j])&&(ops[i]?).isSome&&(ops[j]?).isSome&&p.ok ops bZ (L.setIfInBounds i true)&&q.ok ops bZ (L.setIfInBounds j true)
 | .three i p j q k r,L=>decide (Region.ready .any ops L=[i,j,k])&&(ops[i]?).isSome&&(ops[j]?).isSome&&(ops[k]?).isSome&&p.ok ops bZ (L.setIfInBounds i true)&&q.ok ops bZ (L.setIfInBounds j true)&&r.ok ops bZ (L.setIfInBounds k true)
 | .pure i p,L=>Region.free .any ops L i&&(Region.ready .any ops L).contains i&&(ops[i]?).isSome&&p.ok ops bZ (L.setIfInBounds i true)
 | .last i p,L=>bZ.contains i&&decide (Region.ready .any ops L=[i])&&p.tl&&(ops[i]?).isSome&&p.ok ops bZ (L.setIfInBounds i true)
def b9.len:b9->Nat
 | .done=>0
 | .rd _ p=>p.len+1
 | .one _ p=>p.len+1
 | .two _ p _ q=>max p.len q.len+1
 | .three _ p _ q _ r=>max p.len (max q.len r.len)+1
 | .last _ p=>p.len+1
 | .pure _ p=>p.len+1
def b6 (P:Program)(J:Goroutine->ag->Prop)(ops:Array Oper)(F0:ag)(Q:Act->ag->Prop):fe->Bool->Act->ag->Prop
 | .done,_,a,F=>Q a F
 | .bad,_,_,_=>False
 | .rd o p,_,a,F=>match cx ops o a with
  |some false=>b6 P J ops F0 Q p true (bB a o.dst undef) F
  |some true=>match o.op with
   | .load t x=>match ev a x with
    | .pointer (some ad)=>match e5 P F0 t ad with
     |some v=>b6 P J ops F0 Q p true (bB a o.dst v) F
     |none=>False
    |_=>False
   | .call {callee:=.value x,args, ..}=>match ev a x with
    | .func (.func fn) first captured=>aO P fn=true/\∃v,Plain P J F0 fn (first++args.map (ev a)++captured) v/\b6 P J ops F0 Q p false (bB a o.dst v) F
    |_=>False
   |_=>match g6 P o a with
    |some v=>b6 P J ops F0 Q p true (bB a o.dst v) F
    |none=>False
  |none=>False
 | .one o p,_,a,F=>match cx ops o a with
  |some true=>cT P J o (fun v F'=>Knows F0 F'/\b6 P J ops F0 Q p (!Oper.calls o) (bB a o.dst v) F') a F
  |some false=>b6 P J ops F0 Q p true (bB a o.dst undef) F
  |none=>False
 | .two o p o' q,_,a,F=>(match cx ops o a with
  |some true=>cT P J o (fun v F'=>Knows F0 F'/\b6 P J ops F0 Q p (!Oper.calls o) (bB a o.dst v) F') a F
  |some false=>b6 P J ops F0 Q p true (bB a o.dst undef) F
  |none=>False)/\(match cx ops o' a with
  |some true=>cT P J o' (fun v F'=>Knows F0 F'/\b6 P J ops F0 Q q (!Oper.calls o') (bB a o'.dst v) F') a F
  |some false=>b6 P J ops F0 Q q true (bB a o'.dst undef) F
  |none=>False)
 | .three o p o' q iK r,_,a,F=>(match cx ops o a with
  |some true=>cT P J o (fun v F'=>Knows F0 F'/\b6 P J ops F0 Q p (!Oper.calls o) (bB a o.dst v) F') a F
  |some false=>b6 P J ops F0 Q p true (bB a o.dst undef) F
  |none=>False)/\(match cx ops o' a with
  |some true=>cT P J o' (fun v F'=>Knows F0 F'/\b6 P J ops F0 Q q (!Oper.calls o') (bB a o'.dst v) F') a F
  |some false=>b6 P J ops F0 Q q true (bB a o'.dst undef) F
  |none=>False)/\(match cx ops iK a with
  |some true=>cT P J iK (fun v F'=>Knows F0 F'/\b6 P J ops F0 Q r (!Oper.calls iK) (bB a iK.dst v) F') a F
  |some false=>b6 P J ops F0 Q r true (bB a iK.dst undef) F
  |none=>False)
 | .pure o p,_,a,F=>match cx ops o a with
  |some false=>b6 P J ops F0 Q p true (bB a o.dst undef) F
  |some true=>match g6 P o a with
   |some v=>b6 P J ops F0 Q p true (bB a o.dst v) F
   |none=>False
  |none=>False
 | .last o p,_,a,F=>match cx ops o a with
  |some true=>cT P J o (fun v F'=>b6 P J ops F0 Q p (!Oper.calls o) (bB a o.dst v) F') a F
  |_=>False
section
variable {P:Program}{main:Bool}{J:Goroutine->ag->Prop}{ops:Array Oper}{Q:Act->ag->Prop}{F0:ag}{bZ:List Nat}
theorem lE {p:b9}{i:Nat}{o:Oper}{fuel:Nat}{L:Array Bool}{a:Act}{F:ag}(ho:ops[i]?=some o)(hF:Knows F0 F)
  (ih:∀go a F,Knows F0 F->b6 P J ops F0 Q (p.opers ops) go a F->dM P J ops Q (Knows F0) bZ fuel (L.setIfInBounds i true) a F)
  (h:match cx ops o a with
   |some true=>cT P J o (fun v F'=>Knows F0 F'/\b6 P J ops F0 Q (p.opers ops) (!Oper.calls o) (bB a o.dst v) F') a F
   |some false=>b6 P J ops F0 Q (p.opers ops) true (bB a o.dst undef) F
   |none=>False):dD P J ops i (fun c F'=>(¬i∈bZ->Knows F0 F->Knows F0 F')/\dM P J ops Q (Knows F0) bZ fuel (L.setIfInBounds i true) c F') a F:=by
 split at h
 .rename_i hg
  unfold dD
  simp only[ho]
  rw[if_pos (cr hg)]
  refine jf (nu.pz ?_ h)
  rintro v F' ⟨b,d⟩
  exact ⟨fun _ _=>b,ih _ _ F' b d⟩
 .rename_i hg
  unfold dD
  simp only[ho]
  rw[if_neg (by rw[cr hg];exact Bool.false_ne_true)]
  exact ⟨fun _ e=>e,ih _ _ F hF h⟩
 .exact h.elim
theorem yz {p:b9}{i:Nat}{fuel:Nat}{L:Array Bool}{go:Bool}{a:Act}{F:ag}(d:Region.noSelect ops=true)(b:(b9.pure i p).ok ops bZ L=true)
  (ih:∀go v a,p.ok ops bZ (L.setIfInBounds i true)=true->b6 P J ops F0 Q (p.opers ops) go (bB a ((ops[i]?).bind (·.dst)) v) F->dM P J ops Q (Knows F0) bZ fuel (L.setIfInBounds i true) (bB a ((ops[i]?).bind (·.dst)) v) F)
  (h:b6 P J ops F0 Q ((b9.pure i p).opers ops) go a F):dM P J ops Q (Knows F0) bZ (fuel+1) L a F:=by
 simp only[b9.ok,Bool.and_eq_true] at b
 obtain ⟨⟨⟨c1,c2⟩,c3⟩,c4⟩:=b
 obtain ⟨o,ho⟩:=Option.isSome_iff_exists.1 c3
 have c:(Region.noSelect ops&&Region.free .any ops L i&&(Region.ready .any ops L).contains i)=true:=by rw[d,c1,c2];rfl
 have e:b9.opers ops (.pure i p)= .pure o (p.opers ops):=by simp only[b9.opers,ho]
 rw[e] at h
 have hd:(ops[i]?).bind (·.dst)=o.dst:=by rw[ho];rfl
 rw[hd] at ih
 unfold b6 at h
 split at h
 .rename_i hg
  exact yy i undef ho c (.inr ⟨cr hg,rfl⟩) (ih _ _ _ c4 h)
 .rename_i hg
  split at h
  .rename_i v hv
   exact yy i v ho c (.inl ⟨cr hg,fun F R _ hR=>jf (sD hv hR)⟩) (ih _ _ _ c4 h)
  .exact h.elim
 .exact h.elim
theorem sU (d:Region.noSelect ops=true):∀(p:b9) (fuel:Nat) (L:Array Bool) (go:Bool) (a:Act) (F:ag),p.tl=true->p.len<=fuel->p.ok ops bZ L=true->b6 P J ops F0 Q (p.opers ops) go a F->dM P J ops Q (Knows F0) bZ fuel L a F
 | .done,fuel,L,go,a,F,_,c,b,h=>by
  simp only[b9.ok,decide_eq_true_eq] at b
  unfold b9.opers b6 at h
  exact yx b h _
 | .last i p,fuel,L,go,a,F,ht,c,b,h=>by
  simp only[b9.ok,Bool.and_eq_true,decide_eq_true_eq] at b
  obtain ⟨⟨⟨⟨c1,c2⟩,c3⟩,c4⟩,e⟩:=b
  obtain ⟨o,ho⟩:=Option.isSome_iff_exists.1 c4
  have g:b9.opers ops (.last i p)= .last o (p.opers ops):=by simp only[b9.opers,ho]
  rw[g] at h
  simp only[b9.len] at c
  obtain ⟨fuel,rfl⟩:∃f,fuel=f+1:=⟨fuel - 1,ai⟩
  unfold b6 at h
  refine yw i c2 ?_
  split at h
  .rename_i hg
   unfold dD
   simp only[ho]
   rw[if_pos (cr hg)]
   refine jf (nu.pz ?_ h)
   exact fun v F' j=>⟨fun k _=>absurd (by simpa using c1) k,sU d p fuel _ _ _ F' c3 ai e j⟩
  .exact h.elim
 | .pure i p,fuel,L,go,a,F,ht,c,b,h=>by
  simp only[b9.len] at c
  obtain ⟨fuel,rfl⟩:∃f,fuel=f+1:=⟨fuel - 1,ai⟩
  exact yz d b (fun go v a c4 hv=>sU d p fuel _ go _ F ht ai c4 hv) h
 | .rd _ _,_,_,_,_,_,ht,_,_,_=>by cases ht
 | .one _ _,_,_,_,_,_,ht,_,_,_=>by cases ht
 | .two ..,_,_,_,_,_,ht,_,_,_=>by cases ht
 | .three ..,_,_,_,_,_,ht,_,_,_=>by cases ht
theorem jk (d:Region.noSelect ops=true):∀(p:b9) (fuel:Nat) (L:Array Bool) (go:Bool) (a:Act) (F:ag),Knows F0 F->p.len<=fuel->p.ok ops bZ L=true->b6 P J ops F0 Q (p.opers ops) go a F->dM P J ops Q (Knows F0) bZ fuel L a F
 | .done,fuel,L,go,a,F,hF,c,b,h=>by
  simp only[b9.ok,decide_eq_true_eq] at b
  unfold b9.opers b6 at h
  exact yx b h _
 | .rd i p,fuel,L,go,a,F,hF,c,b,h=>by
  simp only[b9.ok,Bool.and_eq_true] at b
  obtain ⟨⟨⟨⟨c1,c2⟩,c3⟩,e⟩,c4⟩:=b
  obtain ⟨o,ho⟩:=Option.isSome_iff_exists.1 c3
  have n:(Region.noSelect ops&&Region.free .any ops L i&&(Region.ready .any ops L).contains i)=true:=by rw[d,c1,c2];rfl
  have g:b9.opers ops (.rd i p)= .rd o (p.opers ops):=by simp only[b9.opers,ho]
  rw[g] at h
  simp only[b9.len] at c
  obtain ⟨fuel,rfl⟩:∃f,fuel=f+1:=⟨fuel - 1,ai⟩
  have next:∀go v,b6 P J ops F0 Q (p.opers ops) go (bB a o.dst v) F->dM P J ops Q (Knows F0) bZ fuel (L.setIfInBounds i true) (bB a o.dst v) F:=fun go v hv=>
   jk d p fuel _ go _ F hF ai c4 hv
  unfold b6 at h
  split at h
  .rename_i hg
   exact CS i ho n e hg hF (next true undef h)
  .rename_i hg
   split at h
   .rename_i t x u
    split at h
    case h_2=>exact h.elim
    rename_i ad y
    split at h
    case h_2=>exact h.elim
    rename_i v hv
    refine sS i v ho n e hg (fun F R s hR=>?_) hF (next _ v h)
    unfold cT
    simp only[u,y,s.e5 hv]
    exact hR
   .rename_i x args argTypes u
    split at h
    case h_2=>exact h.elim
    rename_i fn first captured l
    obtain ⟨z,v,A,h⟩:=h
    refine sS i v ho n e hg (fun F R s hR=>?_) hF (next _ v h)
    unfold cT
    simp only[u,l]
    exact ⟨z,(A F s).mono fun E F' B=>by obtain ⟨rfl,rfl⟩:=B;exact hR⟩
   .split at h
    case h_2=>exact h.elim
    rename_i v hv
    exact sS i v ho n e hg (fun F R s hR=>sD hv hR) hF (next _ v h)
  .exact h.elim
 | .one i p,fuel,L,go,a,F,hF,c,b,h=>by
  simp only[b9.ok,Bool.and_eq_true,decide_eq_true_eq] at b
  obtain ⟨⟨c1,c3⟩,c4⟩:=b
  obtain ⟨o,ho⟩:=Option.isSome_iff_exists.1 c3
  have g:b9.opers ops (.one i p)= .one o (p.opers ops):=by simp only[b9.opers,ho]
  rw[g] at h
  simp only[b9.len] at c
  obtain ⟨fuel,rfl⟩:∃f,fuel=f+1:=⟨fuel - 1,ai⟩
  unfold b6 at h
  exact yw i c1 (lE ho hF (fun go a F hF h=>jk d p fuel _ go a F hF ai c4 h) h)
 | .two i p j q,fuel,L,go,a,F,hF,c,b,h=>by
  simp only[b9.ok,Bool.and_eq_true,decide_eq_true_eq] at b
  obtain ⟨⟨⟨⟨c1,c2⟩,c3⟩,c4⟩,e⟩:=b
  obtain ⟨o,ho⟩:=Option.isSome_iff_exists.1 c2
  obtain ⟨o',m⟩:=Option.isSome_iff_exists.1 c3
  have g:b9.opers ops (.two i p j q)= .two o (p.opers ops) o' (q.opers ops):=by simp only[b9.opers,ho,m]
  rw[g] at h
  simp only[b9.len] at c
  obtain ⟨fuel,rfl⟩:∃f,fuel=f+1:=⟨fuel - 1,ai⟩
  unfold b6 at h
  refine sR c1 aB fun x l=>?_
  simp only[List.mem_cons,List.not_mem_nil,or_false] at l
  rcases l with rfl|rfl
  .exact lE ho hF (fun go a F hF h=>jk d p fuel _ go a F hF ai c4 h) h.1
  .exact lE m hF (fun go a F hF h=>jk d q fuel _ go a F hF ai e h) h.2
 | .three i p j q k r,fuel,L,go,a,F,hF,c,b,h=>by
  simp only[b9.ok,Bool.and_eq_true,decide_eq_true_eq] at b
  obtain ⟨⟨⟨⟨⟨⟨c1,c2⟩,c3⟩,c4⟩,e⟩,C⟩,D⟩:=b
  obtain ⟨o,ho⟩:=Option.isSome_iff_exists.1 c2
  obtain ⟨o',m⟩:=Option.isSome_iff_exists.1 c3
  obtain ⟨iK,w⟩:=Option.isSome_iff_exists.1 c4
  have g:b9.opers ops (.three i p j q k r)= .three o (p.opers ops) o' (q.opers ops) iK (r.opers ops):=by simp only[b9.opers,ho,m,w]
  rw[g] at h
  simp only[b9.len] at c
  obtain ⟨fuel,rfl⟩:∃f,fuel=f+1:=⟨fuel - 1,ai⟩
  unfold b6 at h
  refine sR c1 aB fun x l=>?_
  simp only[List.mem_cons,List.not_mem_nil,or_false] at l
  rcases l with rfl|rfl|rfl
  .exact lE ho hF (fun go a F hF h=>jk d p fuel _ go a F hF ai e h) h.1
  .exact lE m hF (fun go a F hF h=>jk d q fuel _ go a F hF ai C h) h.2.1
  .exact lE w hF (fun go a F hF h=>jk d r fuel _ go a F hF ai D h) h.2.2
 | .last i p,fuel,L,go,a,F,hF,c,b,h=>sU d (.last i p) fuel L go a F (by simp only[b9.ok,Bool.and_eq_true] at b;exact b.1.1.2) c b h
 | .pure i p,fuel,L,go,a,F,hF,c,b,h=>by
  simp only[b9.len] at c
  obtain ⟨fuel,rfl⟩:∃f,fuel=f+1:=⟨fuel - 1,ai⟩
  exact yz d b (fun go v a c4 hv=>jk d p fuel _ go _ F hF ai c4 hv) h
theorem eG {Q:Ex->Act->ag->Prop}(hJ:Closed P main J)(d:P.follows .mixedOrders=true)(bZ:List Nat)(p:b9){id:Nat}{a:Act}{F:ag}(F0:ag)(hF:Knows F0 F)
  (c:(Region.noSelect ops&&decide (p.len<=ops.size)&&p.ok ops bZ (Array.replicate ops.size false))=true)
  (h:b6 P J ops F0 (Q .normal) (p.opers ops) true a F):Wp J (.region id ops true) Q a F:=by
 simp only[Bool.and_eq_true,decide_eq_true_eq] at c
 obtain ⟨⟨e,f⟩,g⟩:=c
 intro b k cs hb i
 refine hJ.step fun w hw=>?_
 refine ⟨_,_,_,F,rG,.drawn _ _ _,hw.drawn _,aB,?_⟩
 refine oS (K:=Q .normal) hJ (rP hb) (fun j F' h'=>i .normal j F' h') _ _ _ ?_
 simp only[Region.schedule,d,Bool.true_or,if_true]
 exact CP ops.size _ _ a F (jk (bZ:=bZ) e p ops.size _ true a F hF f g h)
end
theorem CU {P:Program}{J:Goroutine->ag->Prop}{ops:Array Oper}{F0:ag}{Q:Act->ag->Prop}{go:Bool}{a:Act}{F:ag}:b6 P J ops F0 Q .done go a F=Q a F:=rfl
theorem CV {P:Program}{J:Goroutine->ag->Prop}{ops:Array Oper}{F0:ag}{Q:Act->ag->Prop}{o:Oper}{p:fe}{a:Act}{F:ag}:b6 P J ops F0 Q (.rd o p) true a F=match cx ops o a with
  |some false=>b6 P J ops F0 Q p true (bB a o.dst undef) F
  |some true=>match o.op with
   | .load t x=>match ev a x with
    | .pointer (some ad)=>match e5 P F0 t ad with
     |some v=>b6 P J ops F0 Q p true (bB a o.dst v) F
     |none=>False
    |_=>False
   | .call {callee:=.value x,args, ..}=>match ev a x with
    | .func (.func fn) first captured=>aO P fn=true/\∃v,Plain P J F0 fn (first++args.map (ev a)++captured) v/\b6 P J ops F0 Q p false (bB a o.dst v) F
    |_=>False
   |_=>match g6 P o a with
    |some v=>b6 P J ops F0 Q p true (bB a o.dst v) F
    |none=>False
  |none=>False:=(Eq.refl _).trans (Eq.refl _)
theorem yA {P:Program}{J:Goroutine->ag->Prop}{ops:Array Oper}{F0:ag}{Q:Act->ag->Prop}{o:Oper}{p:fe}{a:Act}{F:ag}:b6 P J ops F0 Q (.one o p) true a F=match cx ops o a with
  |some true=>cT P J o (fun v F'=>Knows F0 F'/\b6 P J ops F0 Q p (!Oper.calls o) (bB a o.dst v) F') a F
  |some false=>b6 P J ops F0 Q p true (bB a o.dst undef) F
  |none=>False:=(Eq.refl _).trans (Eq.refl _)
theorem sV {P:Program}{J:Goroutine->ag->Prop}{ops:Array Oper}{F0:ag}{Q:Act->ag->Prop}{o o':Oper}{p q:fe}{go:Bool}{a:Act}{F:ag}(b:b6 P J ops F0 Q (.one o p) true a F)(c:b6 P J ops F0 Q (.one o' q) true a F):b6 P J ops F0 Q (.two o p o' q) go a F:=by
 rw[yA] at b c;unfold b6;exact ⟨b,c⟩
theorem CW {P:Program}{J:Goroutine->ag->Prop}{ops:Array Oper}{F0:ag}{Q:Act->ag->Prop}{o:Oper}{p:fe}{a:Act}{F:ag}:b6 P J ops F0 Q (.last o p) true a F=match cx ops o a with
  |some true=>cT P J o (fun v F'=>b6 P J ops F0 Q p (!Oper.calls o) (bB a o.dst v) F') a F
  |_=>False:=(Eq.refl _).trans (Eq.refl _)
theorem CX {P:Program}{J:Goroutine->ag->Prop}{ops:Array Oper}{F0:ag}{Q:Act->ag->Prop}{o:Oper}{p:fe}{a:Act}{F:ag}:b6 P J ops F0 Q (.pure o p) true a F=match cx ops o a with
  |some false=>b6 P J ops F0 Q p true (bB a o.dst undef) F
  |some true=>match g6 P o a with
   |some v=>b6 P J ops F0 Q p true (bB a o.dst v) F
   |none=>False
  |none=>False:=(Eq.refl _).trans (Eq.refl _)
theorem gb {P:Program}{J:Goroutine->ag->Prop}{ops:Array Oper}{F0:ag}{Q:Act->ag->Prop}:∀{p:fe} {go:Bool} {a:Act} {F:ag},b6 P J ops F0 Q p true a F->b6 P J ops F0 Q p go a F
 | .done,_,_,_,h=>h
 | .bad,_,_,_,h=>h
 | .rd ..,_,_,_,h=>h
 | .one ..,_,_,_,h=>h
 | .two ..,_,_,_,h=>h
 | .three ..,_,_,_,h=>h
 | .last ..,_,_,_,h=>h
 | .pure ..,_,_,_,h=>h
attribute [irreducible] b6
attribute [go_sem] CU CV yA CW CX b9.opers
theorem fD {ro aK:Addr->Option Value}{l:List (Nat×Obj)}(a:Ext ro aK)(hn:aP aK l)(own:List (Nat×Obj)):Knows ⟨ro,l⟩ ⟨aK,own⟩=jg l own:=
 propext ⟨fun h=>h.2.2,Cd a hn⟩
section
variable {P:Program}{main:Bool}{J:Goroutine->ag->Prop}{a:Act}{F:ag}
def lF (l:Nat)(R:Value->ag->Prop)(st:LoopState)(jump:Option Code)(F:ag):Prop:=
 ∃lo,F.cY l=some (.loop lo)/\R (.bool jump.isNone) (F.put l (.loop {lo with state:=st,pending:=jump}))
def sW (l:Nat)(R:Value->ag->Prop):Ex->Act->ag->Prop
 | .normal,_,F=>lF l R .ready none F
 | .exit id,_,F=>lF l R .done (some (.exit id)) F
 | .ret,_,F=>lF l R .done (some .ret) F
def pL (J:Goroutine->ag->Prop)(l:Nat)(body:Code)(R:Value->ag->Prop):Ex->Act->ag->Prop
 | .normal,a,F=>∃lo,F.cY l=some (.loop lo)/\lo.state= .ready/\Wp J body (sW l R) a (F.put l (.loop {lo with state:=.busy}))
 |_,_,_=>False
theorem sX {l:Nat}{R:Value->ag->Prop}{st:LoopState}{jump:Option Code}(c:st=if jump.isNone then .ready else .done)(h:lF l R st jump F):bA P (Instr.endRound l jump) R F:=by
 obtain ⟨lo,a,b⟩:=h;simp only[Instr.endRound,Instr.getLoop,bE,gL];refine ⟨_,a,?_⟩;simp only[bF,bE,iC,a,Option.isSome_some,Obj.isChan,true_and];rw[c] at b;exact b
theorem sY (hJ:Closed P main J){l:Nat}{b:Frame}{a:Act}{todo:List Item}{jump:Option Code}{c:Frame}{cs:List Frame}(f:b.kind= .normal)
  (hs:∀w,stepG P main (G (on b a todo) (c::cs)) w=GStep.after (seen P b.fn ((Instr.endRound l jump).runT P w #[]).2) (match ((Instr.endRound l jump).runT P w #[]).1 with
    | .ok v w=>doReturn P main (on b a todo) (c::cs) none v w
    | .halt _ w=>.ended (.stuck "range over a function: no such loop" ((on b a todo).pos P)) w))
  (h:bA P (Instr.endRound l jump) (fun v F'=>J (G (c.finish v) cs) F') F):J (G (on b a todo) (c::cs)) F:=by
 refine hJ.step fun w hw=>?_
 obtain ⟨v,w',F',es,H⟩:=jB _ F w #[] h hw
 have d:=H.run
 rw[Array.empty_append] at d
 refine ⟨G (c.finish v) cs,w',seen P b.fn es,F',?_,H.upd,H.has,fun e he=>H.gJ e (mem_seen he),H.post⟩
 rw[hs w,d]
 have g:(on b a todo).kind= .normal:=f
 simp only[doReturn,g,GStep.after,G]
 simp
theorem iz.of_wp (hJ:Closed P main J){l:Nat}{f:FuncId}{tmps:Array Value}{assign body:Code}{R:Value->ag->Prop}(hd:e4 assign=true)(p:e4 body=true)
  (h:Wp J assign (pL J l body R) {tmps:=tmps,defers:=[]} F):iz J l f tmps assign body F R:=by
 intro c cs hR
 let b:Frame:={(default:Frame) with fn:=f,kind:=.normal,roundOf:=some l}
 have he:Frame.round l f tmps assign body .normal=on b {tmps:=tmps,defers:=[]} (.code assign::[.beginRound,.code body]):=rfl
 rw[he]
 refine h b [.beginRound,.code body] (c::cs) ⟨by simp[b],.inr hd⟩ fun e k F' d=>?_
 cases e with
 |exit i=>exact d.elim
 |ret=>exact d.elim
 |normal=>
  obtain ⟨lo,a,g,q⟩:=d
  show J (G (on b k [.beginRound,.code body]) (c::cs)) F'
  have r:bA P (do Instr.beginRound l;pure Next.skip:Sem Next) (fun n j=>n= .skip/\j=F'.put l (.loop {lo with state:=.busy})) F':=by
   simp only[Instr.beginRound,Instr.getLoop,bE,gL]
   refine ⟨_,a,?_⟩
   simp only[bF,bE,iC,a,Option.isSome_some,Obj.isChan,true_and,g]
   all_goals first|trivial|exact ⟨rfl,rfl⟩
  refine hJ.step fun w hw=>?_
  obtain ⟨n,w',j,es,H⟩:=jB _ F' w #[] r hw
  have m:=H.run
  rw[Array.empty_append] at m
  obtain ⟨rfl,rfl⟩:=H.post
  refine ⟨G (on b k [.code body]) (c::cs),w',seen P b.fn es,_,?_,H.upd,H.has,fun e he=>H.gJ e (mem_seen he),?_⟩
  .have s:b.roundOf=some l:=rfl
   simp only[G,stepG,stepG.exec,on,s,Option.elim,stepG.apply,if_true]
   have t:(b.kind==CallKind.early)=false:=rfl
   simp only[m,t,Bool.false_eq_true,if_false,GStep.after]
   simp[Frame.finish,undef]
  .refine q b [] (c::cs) ⟨by simp[b],.inr p⟩ fun e x j d=>?_
   cases e with
   |normal=>
    refine sY hJ (l:=l) (jump:=none) rfl (fun w=>?_) (sX rfl (R:=fun v F'=>J (G (c.finish v) cs) F') ?_)
    .simp only[G,stepG,stepG.exec,on]
     rfl
    .obtain ⟨lo,a,g⟩:=d
     exact ⟨lo,a,hR _ _ g⟩
   |exit i=>
    intro o u
    refine sY hJ (l:=l) (jump:=some (.exit i)) rfl (fun w=>?_) (sX rfl (R:=fun v F'=>J (G (c.finish v) cs) F') ?_)
    .have hn:exitTo i o=none:=u
     simp only[G,stepG,stepG.exec,on,hn,Option.elim]
     rfl
    .obtain ⟨lo,a,g⟩:=d
     exact ⟨lo,a,hR _ _ g⟩
   |ret=>
    intro o
    refine sY hJ (l:=l) (jump:=some .ret) rfl (fun w=>?_) (sX rfl (R:=fun v F'=>J (G (c.finish v) cs) F') ?_)
    .simp only[G,stepG,stepG.exec,on]
     rfl
    .obtain ⟨lo,a,g⟩:=d
     exact ⟨lo,a,hR _ _ g⟩
def pM (Q:Ex->Act->ag->Prop)(a:Act)(F:ag):Option Code->Prop
 |none=>Q .normal a F
 |some (.exit id)=>Q (.exit id) a F
 |some .ret=>Q .ret a F
 |_=>False
def lG (b:FuncId)(a:Act)(params:Array Tmp)(assign body:Code)(d:Nat):Loop:={state:=.ready,pending:=none,fn:=b,tmps:=a.tmps,params:=params,assign:=assign,body:=body,defers:=d}
theorem CY (hJ:Closed P main J){x:Operand}{params:Array Tmp}{assign body:Code}{Q:Ex->Act->ag->Prop}{fn:FuncId}{first captured:Array Value}
  (E:ev a x= .func (.func fn) first captured) (I:aO P fn=true)
  (L:∀M d l,dP F d->dP (F.push d (.deferred (some []))) l->
   c8 P J fn (first++#[.func (.yield l) #[] #[]]++captured) ((F.push d (.deferred (some []))).push l (.loop (lG M a params assign body d)))
    (fun _ F'=>∃lo,F'.cY l=some (.loop lo)/\lo.state≠ .busy/\pM Q {a with defers:=⟨.collected d,#[]⟩::a.defers} (F'.put l (.loop {lo with state:=.exhausted})) lo.pending)):
  Wp J (.rangeFunc x params assign body) Q a F:=by
 intro b k cs hb p
 have t:b.roundOf=none:=hb.round.elim id fun h=>by simp[e4] at h
 obtain ⟨u,N,O,R,S,q,a4⟩:=b
 simp only at t
 subst t
 let b:Frame:=⟨u,N,O,R,S,q,none⟩
 have T:a.eval x= .func (.func fn) first captured:=E
 have i:=I
 unfold aO at i
 split at i
 case h_2=>cases i
 rename_i a5 U
 simp only[Bool.not_eq_true',Bool.or_eq_false_iff] at i
 let K:Nat×List Deferred->ag->Prop:=fun r F'=>∃d l,r=(l,[⟨.collected d,#[]⟩])/\dP F d/\dP (F.push d (.deferred (some []))) l/\F'=(F.push d (.deferred (some []))).push l (.loop (lG b.fn a params assign body d))
 have V:bA P (Instr.enterLoop b.fn a.tmps params assign body none) K F:=by
  simp only[Instr.enterLoop,bE,mY,bF]
  exact ⟨rfl,fun d hd=>⟨rfl,fun l s=>⟨d,l,rfl,hd,s,rfl⟩⟩⟩
 refine hJ.step fun w hw=>?_
 obtain ⟨r,w1,F1,z,H1⟩:=jB _ F w #[] V hw
 have A:=H1.run
 rw[Array.empty_append] at A
 obtain ⟨d,l,rfl,hd,s,rfl⟩:=H1.post
 let fr':Frame:={on b a (.inRangeFunc l::k) with defers:=[⟨.collected d,#[]⟩]++a.defers}
 have W:fr'=on b {a with defers:=⟨.collected d,#[]⟩::a.defers} (.inRangeFunc l::k):=rfl
 have X:fr'.eval x= .func (.func fn) first captured:=by rw[W,rF];exact T
 have Y:bA P (do let m<-resolve fr'.eval {callee:=.value x,args:=#[.const (.func (.yield l) #[] #[])],argTypes:=#[]} 0;invoke m.target m.args:Sem Next)
   (fun n o=>n= .enter fn (first++#[.func (.yield l) #[] #[]]++captured)/\o=(F.push d (.deferred (some []))).push l (.loop (lG b.fn a params assign body d))) ((F.push d (.deferred (some []))).push l (.loop (lG b.fn a params assign body d))):=by
  have Z:fr'.eval (.const (.func (.yield l) #[] #[]))= .func (.yield l) #[] #[]:=rfl
  simp only[resolve,X,Deferred.ofValue,bE,bF,invoke,callFunc,jd,U,i.1,i.2,Bool.false_eq_true,if_false,List.map_toArray,List.map_cons,List.map_nil,Z]
  simp
 obtain ⟨n,w2,o,ab,g⟩:=jB _ _ w1 #[] Y H1.has
 have B:=g.run
 rw[Array.empty_append] at B
 obtain ⟨rfl,rfl⟩:=g.post
 refine ⟨G (Frame.enter P fn (first++#[.func (.yield l) #[] #[]]++captured) .normal) (fr'::cs),w2,seen P b.fn z++seen P b.fn ab,_,?_,H1.upd.trans g.upd,g.has,fun e he=>?_,?_⟩
 .have ad:(q==CallKind.early)=false:=by have:=hb.kind;cases q<;>simp_all
  have hs:∀e:Array Event,stepG P main (G (on b a (.code (.rangeFunc x params assign body)::k)) cs) w=GStep.after (seen P u z) (stepG.apply P true fr' cs none (do let m<-resolve fr'.eval {callee:=.value x,args:=#[.const (.func (.yield l) #[] #[])],argTypes:=#[]} 0;invoke m.target m.args) w1):=fun _=>by
   simp only[G,stepG,stepG.exec,on,b]
   rw[A]
   rfl
  show stepG P main (G (on b a (.code (.rangeFunc x params assign body)::k)) cs) w=_
  rw[hs #[]]
  unfold stepG.apply
  simp only[if_true,B]
  have ae:(fr'.kind==CallKind.early)=false:=ad
  simp only[ae,Bool.false_eq_true,if_false,GStep.after]
  rfl
 .rcases Array.mem_append.1 he with h|h
  .refine (H1.gJ e (mem_seen h)).mono (fun _ x=>x) fun b hb=>hb.imp id fun y=>⟨y.1,Nat.lt_of_lt_of_le y.2 g.upd.size⟩
  .refine (g.gJ e (mem_seen h)).mono (fun a al=>al) fun b hb=>?_
   rcases hb with hb|hb
   .rcases H1.upd.own b hb with x|x
    .exact .inl x
    .exact .inr ⟨x,Nat.lt_of_lt_of_le (H1.has.lt hb) g.upd.size⟩
   .exact .inr ⟨Nat.le_trans H1.upd.size hb.1,hb.2⟩
 .refine L b.fn d l hd s fr' cs fun v F' ao=>?_
  obtain ⟨lo,C,ar,f⟩:=ao
  have a0:fr'.finish v=on b {a with defers:=⟨.collected d,#[]⟩::a.defers} (.endRangeFunc l::k):=rfl
  rw[a0]
  have a2:bA P (Instr.endLoop l) (fun j o=>j=lo.pending/\o=F'.put l (.loop {lo with state:=.exhausted})) F':=by
   simp only[Instr.endLoop,Instr.getLoop,bE,gL]
   refine ⟨_,C,?_⟩
   have a3:¬(lo.state== .busy)=true:=by simpa using ar
   simp only[bF,bE,iC,C,Option.isSome_some,Obj.isChan,true_and,dn,a3]
   all_goals first|trivial|exact ⟨rfl,rfl⟩
  refine hJ.step fun w hw=>?_
  obtain ⟨j,w',a6,es,H⟩:=jB _ F' w #[] a2 hw
  have D:=H.run
  rw[Array.empty_append] at D
  obtain ⟨rfl,rfl⟩:=H.post
  refine ⟨G (on b {a with defers:=⟨.collected d,#[]⟩::a.defers} ((lo.pending.map Item.code).toList++k)) cs,w',seen P b.fn es,_,?_,H.upd,H.has,fun e he=>H.gJ e (mem_seen he),?_⟩
  .simp only[G,stepG,stepG.exec,on,D,GStep.after]
   simp
  .revert f
   cases lo.pending with
   |none=>exact fun f=>p .normal _ _ f
   |some c=>
    intro f
    cases c<;>simp only[pM] at f<;>first
     |exact f.elim
     |exact p (.exit _) _ _ f k rfl
     |exact p .ret _ _ f k
end
def de {H σ:Type}(step:σ->H->Option (Bool×σ)):List (Option H)->σ->Option (Bool×σ)
 |[],s=>some (true,s)
 |none::_,_=>none
 |some x::l,s=>match step s x with
  |some (true,s')=>de step l s'
  |some (false,s')=>some (false,s')
  |none=>none
theorem yB {H σ:Type}(step:σ->H->Option (Bool×σ)):∀(l l':List (Option H)) (s:σ),de step (l++l') s=match de step l s with
  |some (true,s')=>de step l' s'
  |some (false,s')=>some (false,s')
  |none=>none
 |[],l',s=>rfl
 |none::l,l',s=>rfl
 |some x::l,l',s=>by
  simp only[List.cons_append,de]
  split<;>first|rfl|exact yB step l l' _
def jl {H σ ρ:Type}(f:H->σ->Option (Fl σ ρ)):List (Option H)->σ->Option (Fl σ ρ)
 |[],s=>some (.nx s)
 |none::_,_=>none
 |some x::l,s=>ax (f x s) fun o=>match o with
  | .nx s'=>jl f l s'
  | .bk s'=>some (.nx s')
  | .br k s'=>some (.br k s')
  | .rt _=>none
def sZ {H σ:Type}(P:Program)(y:Value)(enc:H->Value)(step:σ->H->Option (Bool×σ))(ro:Addr->Option Value)(I:σ->List (Nat×Obj)->Prop):Prop:=
 ∀s x b s',step s x=some (b,s')->∀(main:Bool) (J:Goroutine->ag->Prop),Closed P main J->∀own,I s own->
  fX P J y #[enc x] ⟨ro,own⟩ (fun v F'=>∃a,Le ⟨ro,a⟩ F'/\v= .bool b/\I s' a)
def kH {H:Type}(P:Program)(f:FuncId)(first cap:Array Value)(enc:H->Value)(L:List (Option H))(ro:Addr->Option Value):Prop:=
 aO P f=true/\∀(aK:Addr->Option Value),Ext ro aK->∀(σ:Type) (step:σ->H->Option (Bool×σ)) (I:σ->List (Nat×Obj)->Prop) (a:Fn) (c d:Array Value),sZ P (.func a c d) enc step aK I->
  ∀s b s',de step L s=some (b,s')->∀(main:Bool) (J:Goroutine->ag->Prop),Closed P main J->∀own,I s own->
   c8 P J f (first++#[.func a c d]++cap) ⟨aK,own⟩ (fun _ F'=>∃e,Le ⟨aK,e⟩ F'/\I s' e)
theorem kH.mono {H:Type}{P:Program}{f:FuncId}{first cap:Array Value}{enc:H->Value}{L:List (Option H)}{ro a:Addr->Option Value}(h:kH P f first cap enc L ro)(b:Ext ro a):kH P f first cap enc L a:=
 ⟨h.1,fun aK c=>h.2 aK (b.trans c)⟩
def pN:Nat:=1000000000
def kI (k:Nat):Code:=if k=pN then .ret else .exit k
def s0 (Q:Ex->Act->ag->Prop)(k:Nat):Act->ag->Prop:=if k=pN then Q .ret else Q (.exit k)
def yC {σ ρ:Type}(c:Nat)(ro:Addr->Option Value)(l d:Nat)(S:σ->List (Nat×Obj)->Prop)(lo:Loop)(b:Fl σ ρ)(v:Value)(F:ag):Prop:=
 ∃a,Le ⟨ro,(l,.loop {lo with state:=(match b with| .nx _=>.ready|_=>.done),pending:=(match b with| .nx _=>none| .bk _=>some (kI c)| .br k _=>some (kI k)| .rt _=>none)})::(d,.deferred (some []))::a⟩ F/\
  match b with
  | .nx s'=>v= .bool true/\S s' a
  | .bk s'=>v= .bool false/\S s' a
  | .br _ s'=>v= .bool false/\S s' a
  | .rt _=>False
section
variable {P:Program}{main:Bool}{J:Goroutine->ag->Prop}{a:Act}
theorem yD {H σ ρ:Type}{f:H->σ->Option (Fl σ ρ)}(a:Nat):∀(L:List (Option H)) (s:σ) (o:Fl σ ρ),jl f L s=some o->
  ∃b s' pend,de (σ:=σ×Option Nat) (fun st x=>match st with
   |(s,none)=>match f x s with
    |some (.nx s')=>some (true,(s',none))
    |some (.bk s')=>some (false,(s',some a))
    |some (.br k s')=>some (false,(s',some k))
    |_=>none
   |_=>none) L (s,none)=some (b,(s',pend))/\((o= .nx s'/\(pend=none\/pend=some a))\/∃k,o= .br k s'/\pend=some k)
 |[],s,o,h=>by
  cases h
  exact ⟨true,s,none,rfl,.inl ⟨rfl,.inl rfl⟩⟩
 |none::L,s,o,h=>by cases h
 |some x::L,s,o,h=>by
  unfold jl at h
  obtain ⟨e,d,c⟩:=an h
  cases e with
  |nx s'=>
   obtain ⟨b,s2,pend,g,i⟩:=yD a L s' o c
   refine ⟨b,s2,pend,?_,i⟩
   unfold de
   simp only[d]
   exact g
  |bk s'=>
   cases c
   refine ⟨false,s',some a,?_,.inl ⟨rfl,.inr rfl⟩⟩
   unfold de
   simp only[d]
  |br k s'=>
   cases c
   refine ⟨false,s',some k,?_,.inr ⟨k,rfl,rfl⟩⟩
   unfold de
   simp only[d]
  |rt r=>cases c
theorem yE {ro:Addr->Option Value}{l:Nat}{o:Obj}{own:List (Nat×Obj)}(a:Obj.mV o=false)(b:o.isChan=false):ag.cY ⟨ro,(l,o)::own⟩ l=some o:=by
 simp[ag.cY,lk,a,b]
def nE (a:Act)(d:Nat):Act:={a with defers:=⟨.collected d,#[]⟩::a.defers}
theorem CZ (a:Act)(d i:Nat):slot (nE a d) i=slot a i:=rfl
theorem C0 (a:Act)(d:Nat):sz (nE a d)=sz a:=rfl
theorem C1 (a:Act)(d:Nat):(nE a d).defers=⟨.collected d,#[]⟩::a.defers:=rfl
def lH (a:Act)(p:Tmp)(v:Value):Act:={tmps:=a.tmps.setIfInBounds p v,defers:=[]}
theorem pO (a:Act)(p:Tmp)(v:Value)(i:Nat):slot (lH a p v) i=slot (bB a (some p) v) i:=rfl
theorem yF (a:Act)(p:Tmp)(v:Value):sz (lH a p v)=sz a:=by simp[sz,lH]
theorem yG {H σ ρ:Type}(hJ:Closed P main J){x:Operand}{p:Tmp}{assign body:Code}{Q:Ex->Act->ag->Prop}{fn:FuncId}{first captured:Array Value}{ro:Addr->Option Value}{own:List (Nat×Obj)}{g:Nat}
  (enc:H->Value) {L:List (Option H)} (T:ev a x= .func (.func fn) first captured) (G:kH P fn first captured enc L ro)
  (U:e4 assign=true) (V:e4 body=true)
  (S:σ->List (Nat×Obj)->Prop) {f:H->σ->Option (Fl σ ρ)} {z:σ} {o:Fl σ ρ} (ho:jl f L z=some o) (W:S z own)
  (X:∀(d l:Nat) (lo:Loop),lo.state= .ready->∀(s:σ) (y:H) (q:Fl σ ρ),f y s=some q->∀(main:Bool) (J:Goroutine->ag->Prop),Closed P main J->∀own,S s own->
   Wp J assign (pL J l body (yC g ro l d S lo q)) (lH a p (enc y)) ⟨ro,(l,.loop lo)::(d,.deferred (some []))::own⟩)
  (Y:¬g=pN)
  (Z:∀d l lo j s',S s' j->bP (keys ((l,.loop lo)::(d,.deferred (some []))::j))->aP ro ((l,.loop lo)::(d,.deferred (some []))::j)->(o= .nx s'->Q .normal (nE a d) ⟨ro,(l,.loop lo)::(d,.deferred (some []))::j⟩)/\
   (∀k,o= .br k s'->s0 Q k (nE a d) ⟨ro,(l,.loop lo)::(d,.deferred (some []))::j⟩))
  (ab:∀k s',o= .br k s'->¬k=g):Wp J (.block g (.rangeFunc x #[p] assign body)) Q a ⟨ro,own⟩:=by
 refine aY hJ (Wp.mono (Q:=fun e A F'=>match e with| .exit i=>if i=g then Q .normal A F' else Q (.exit i) A F'|e=>Q e A F') ?_ fun e a F h=>by cases e<;>exact h)
 obtain ⟨b,s',pend,ad,ae⟩:=yD g L z o ho
 refine CY hJ T G.1 fun B d l hd a8=>?_
 let lo:Loop:=lG B a #[p] assign body d
 let n:Option Nat->Loop:=fun pend=>{lo with state:=(match pend with|none=>.ready|some _=>.done),pending:=pend.map kI}
 let I:σ×Option Nat->List (Nat×Obj)->Prop:=fun st al=>∃bz,al=(l,.loop (n st.2))::(d,.deferred (some []))::bz/\S st.1 bz
 have ao:sZ P (.func (.yield l) #[] #[]) enc (fun (st:σ×Option Nat) x=>match st with
   |(s,none)=>match f x s with
    |some (.nx s')=>some (true,(s',none))
    |some (.bk s')=>some (false,(s',some g))
    |some (.br k s')=>some (false,(s',some k))
    |_=>none
   |_=>none) ro I:=by
  rintro ⟨s,pend⟩ y a9 ⟨s1,ba⟩ m ar K M a0 ⟨bz,rfl,a2⟩
  cases pend with
  |some k=>cases m
  |none=>
   simp only at m
   refine ⟨rfl,rfl,lo,yE rfl rfl,rfl,?_⟩
   cases C:f y s with
   |none=>rw[C] at m;cases m
   |some q=>
    have D:=iz.of_wp M (R:=yC g ro l d S lo q) (f:=B) U V (X d l lo rfl s y q C ar K M bz a2)
    rw[C] at m
    have a3:(lo.params.zip #[enc y]).foldl (fun tmps (t,a)=>tmps.setIfInBounds t a) lo.tmps=a.tmps.setIfInBounds p (enc y):=by simp[lo,lG]
    show iz K l B ((lo.params.zip #[enc y]).foldl (fun tmps (t,a)=>tmps.setIfInBounds t a) lo.tmps) assign body _ _
    rw[a3]
    refine D.mono fun v F' hv=>?_
    obtain ⟨j,hle,hm⟩:=hv
    cases q with
    |nx s2=>
     simp only[Option.some.injEq,Prod.mk.injEq] at m
     obtain ⟨rfl,rfl,rfl⟩:=m
     exact ⟨_,hle,hm.1,j,rfl,hm.2⟩
    |bk s2=>
     simp only[Option.some.injEq,Prod.mk.injEq] at m
     obtain ⟨rfl,rfl,rfl⟩:=m
     exact ⟨_,hle,hm.1,j,rfl,hm.2⟩
    |br k s2=>
     simp only[Option.some.injEq,Prod.mk.injEq] at m
     obtain ⟨rfl,rfl,rfl⟩:=m
     exact ⟨_,hle,hm.1,j,rfl,hm.2⟩
    |rt r=>exact hm.elim
 have a4:=G.2 ro (Ext.refl ro) _ _ I _ _ _ ao (z,none) b (s',pend) ad main J hJ ((l,.loop lo)::(d,.deferred (some []))::own) ⟨own,rfl,W⟩
 intro c cs hK
 refine a4 c cs fun v F' hv=>?_
 obtain ⟨a0,hle,j,rfl,a5⟩:=hv
 by_cases hw:∃w,Has F' w
 case neg=>exact hJ.step fun w hF=>absurd ⟨w,hF⟩ hw
 obtain ⟨w,hw⟩:=hw
 have N:=hle.has w hw
 refine hJ.mono hle (hK v _ ⟨n pend,yE rfl rfl,?_,?_⟩)
 .cases pend<;>simp[n]
 .obtain ⟨O,a6⟩:=Z d l {n pend with state:=.exhausted} j s' a5 ⟨N.nodup⟩ (fun b hb off sp=>by
   cases D:ro ⟨b,off,sp⟩ with
   |none=>rfl
   |some v=>exact absurd hb (N.apart _ v D))
  have a7:ag.put ⟨ro,(l,.loop (n pend))::(d,.deferred (some []))::j⟩ l (.loop {n pend with state:=.exhausted})=⟨ro,(l,.loop {n pend with state:=.exhausted})::(d,.deferred (some []))::j⟩:=by simp[ag.put,eM]
  rw[a7]
  rcases ae with ⟨rfl,rfl|rfl⟩|⟨k,rfl,rfl⟩
  .exact O rfl
  .show pM _ _ _ (some (kI g))
   have:kI g= .exit g:=if_neg Y
   rw[this]
   show (if g=g then Q .normal _ _ else Q (.exit g) _ _)
   rw[if_pos rfl]
   exact O rfl
  .have u:=a6 k rfl
   show pM _ _ _ (some (kI k))
   unfold s0 at u
   unfold kI
   split
   .rename_i E
    rw[if_pos E] at u
    exact u
   .rename_i E
    rw[if_neg E] at u
    show (if k=g then Q .normal _ _ else Q (.exit k) _ _)
    rw[if_neg (ab k s' rfl)]
    exact u
theorem C2 {R:List Deferred->ag->Prop}{r:Nat}{F:ag}:bA P (Instr.takeDeferred r) R F=match F.cY r with
  |some (.deferred (some a))=>R a (F.put r (.deferred none))
  |_=>False:=by
 unfold Instr.takeDeferred
 rw[bE,gL]
 refine propext ⟨fun ⟨o,d,b⟩=>?_,fun h=>?_⟩
 .rw[d]
  cases o<;>first|exact (show False from b).elim|skip
  rename_i a
  cases a with
  |none=>exact (show False from b).elim
  |some a=>
   simp only[bE,iC,bF] at b
   exact b.2.2
 .split at h
  .rename_i a c
   refine ⟨_,c,?_⟩
   simp only[bE,iC,bF]
   exact ⟨rfl,by rw[c];rfl,h⟩
  .exact h.elim
theorem C3 (hJ:Closed P main J){y:Value}{args:Array Value}{ro:Addr->Option Value}{own:List (Nat×Obj)}{R:Value->List (Nat×Obj)->Prop}(pre:List (Nat×Obj))
  (h:∀(main:Bool) (J:Goroutine->ag->Prop),Closed P main J->fX P J y args ⟨ro,own⟩ (fun v F'=>∃a,Le ⟨ro,a⟩ F'/\R v a)) (n:bP (keys (pre++own))) {K:Value->ag->Prop}
  (p:∀v a,R v a->bP (keys (pre++a))->K v ⟨ro,pre++a⟩):fX P J y args ⟨ro,pre++own⟩ K:=by
 have key:∀iI:Frame,(∀(main:Bool) (J:Goroutine->ag->Prop),Closed P main J->pK J iI ⟨ro,own⟩ (fun v F'=>∃a,Le ⟨ro,a⟩ F'/\R v a))->pK J iI ⟨ro,pre++own⟩ K:=fun iI d=>
  yt hJ pre [] aB R (fun m e f c cs hK=>d m e f c cs fun v F' hv=>hK v F' (by obtain ⟨o,b,g⟩:=hv;exact ⟨o,g,b⟩)) fun v s hR a j hn=>by
   rw[List.append_nil] at j
   subst j
   exact ⟨_,Le.refl _,p v s hR hn⟩
 have d:=h main J hJ
 unfold fX at d ⊢
 split at d
 .rename_i fn first captured
  refine ⟨d.1,key _ fun m e f=>?_⟩
  have:=h m e f
  unfold fX at this
  exact this.2
 .rename_i l first captured
  obtain ⟨e1,e2,r,b,g,_⟩:=d
  refine ⟨e1,e2,r,?_,g,key _ fun m e f=>?_⟩
  .have hm:l∈keys own:=by
    unfold ag.cY at b
    split at b
    .rename_i o ho;exact eC (gI ho)
    .cases b
   have hn:l∉keys pre:=fun t=>by
    have:=n.nd
    rw[b8] at this
    exact (List.nodup_append.1 this).2.2 l t l hm rfl
   have u:∀(pre:List (Nat×Obj)),l∉keys pre->lk (pre++own) l=lk own l:=fun pre=>by
    induction pre with
    |nil=>intro _;rfl
    |cons q pre ih=>
     intro i
     simp only[keys,List.map_cons,List.mem_cons,not_or] at i
     simp only[List.cons_append,lk,if_neg (Ne.symm i.1)]
     exact ih i.2
   unfold ag.cY at b ⊢
   simp only at b ⊢
   rw[u pre hn]
   exact b
  .have:=h m e f
   unfold fX at this
   obtain ⟨_,_,x,k,z,w⟩:=this
   rw[b] at k
   cases k
   exact w
 .exact d.elim
theorem c8.less (hJ:Closed P main J){f:FuncId}{args:Array Value}{F:ag}{R:Value->ag->Prop}(h:c8 P J f args F (fun v F'=>∃F0,Le F0 F'/\R v F0)):c8 P J f args F R:=
 fun c cs hK=>h c cs fun v F' ⟨F0,hle,a⟩=>hJ.mono hle (hK v F0 a)
def yH (P:Program)(rs:List ResultVar)(R:Value->ag->Prop):Ex->Act->ag->Prop
 | .exit _,_,_=>False
 |_,a,F=>gK P a.defers (fun F=>match ku P F a rs with|some v=>R v F|none=>False) F
theorem yI {K b:ag->Prop}(h:∀F,K F->b F):∀(a:List Deferred) (F:ag),gK P a K F->gK P a b F
 |[],F,x=>h F x
 |d::a,F,⟨r,e,f⟩=>⟨r,e,fW (fun calls F' c=>⟨c.1,yI h a F' c.2⟩) _ _ f⟩
theorem aF.yJ {f:FuncId}{fn:Func}{c:Code}{n:Nat}{rs:List ResultVar}{args:Array Value}{F:ag}{R:Value->ag->Prop}(d:P.funcs[f]?=some fn)(hb:fn.body=some c)(hn:fn.ntmps=n)(g:fn.results=rs.toArray)(j:args.size<=n)
  (h:∀main J,Closed P main J->∀A:Act,sz A=n->A.defers=[]->(∀i,slot A i=args.getD i undef)->Wp J c (yH P rs R) A F):aF P f args F R:=
 aF.start d hb hn j fun main J hJ A k l m=>(h main J hJ A k l m).mono fun e a F b=>by
  have key:gK P a.defers (fun F=>match ku P F a rs with|some v=>R v F|none=>False) F->gK P a.defers (fun F=>bA P (results fn a.tmps) R F) F:=yI (fun F hv=>by
   split at hv
   .rename_i v o;exact pe g o hv
   .exact hv.elim) _ _
  cases e with
  |exit i=>exact b
  |normal=>exact key b
  |ret=>exact key b
theorem c8.go (hJ:Closed P main J){f:FuncId}{fn:Func}{c:Code}{n:Nat}{rs:List ResultVar}{args:Array Value}{F:ag}{R:Value->ag->Prop}(d:P.funcs[f]?=some fn)(hb:fn.body=some c)(hn:fn.ntmps=n)(g:fn.results=rs.toArray)(k:args.size<=n)
  (h:∀A:Act,sz A=n->A.defers=[]->(∀i,slot A i=args.getD i undef)->Wp J c (g5 P rs R) A F):c8 P J f args F R:=by
 refine c8.of_wp hJ d hb ?_
 refine (h _ (by simp[sz,hn];omega) rfl fun i=>?_).mono fun e a F b=>?_
 .simp only[slot,hn,Array.getD_eq_getD_getElem?]
  rcases Nat.lt_or_ge i args.size with hi|hi
  .rw[Array.getElem?_append_left hi]
  .rw[Array.getElem?_append_right hi,Array.getElem?_replicate,Array.getElem?_eq_none hi]
   split<;>rfl
 .cases e with
  |exit i=>exact b
  |_=>
   obtain ⟨hd,hv⟩:=b
   split at hv
   .rename_i v j
    show gK P a.defers _ F
    rw[hd]
    exact pe g j hv
   .exact hv.elim
theorem C4 {d:Nat}{X:Nat->Prop}:(∃r,Target.collected d=Target.collected r/\X r)=X d:=propext ⟨fun ⟨r,a,b⟩=>by cases a;exact b,fun h=>⟨d,rfl,h⟩⟩
attribute [go_sem] C4 CZ C0 C1 yH C2 ag.cY Obj.mV Obj.isChan
end
section
variable {P:Program}
theorem C5 (z:Value)(n:Nat):(Builtin.zeroCells #[z] n).toList=List.replicate n z:=by
 simp only[Builtin.zeroCells,List.size_toArray,List.length_cons,List.length_nil,Nat.zero_add,Nat.mul_one,Nat.mod_one];rw[Array.toList_map,Array.toList_range];apply List.ext_getElem
 .simp
 .intro i a b;simp
theorem C6 {ro:Addr->Option Value}{pre bC:List (Nat×Obj)}{argTypes:Array TypeId}{t e ty:TypeId}{R:Value->ag->Prop}{b off n c:Nat}{arr:Array Value}{z zc:Value}(ht:argTypes[0]?=some t)(hu:P.underlying t=some (.slice e))(a:zeroOf P e=some z)(d:z.cells=#[zc])(f:eX zc=true)
  (hn:0<n) (g:aQ pre b) (i:off+n<=arr.size)
  (h:R (.tuple #[]) ⟨ro,pre++((b,.cells (bS arr off (List.replicate n zc)) e)::bC)⟩):
  cE P (Builtin.clear_ argTypes ty #[.slice (some ⟨b,off,none⟩) n c]) R ⟨ro,pre++((b,.cells arr e)::bC)⟩:=by
 unfold cE
 have j:n≠0:=ai
 obtain ⟨k,rfl⟩:∃k,n=k+1:=⟨n - 1,ai⟩
 simp only[Builtin.clear_,ht,List.getElem?_toArray,List.getElem?_cons_zero,bE,cW,hu,k7,a,d]
 refine mZ _ _ 0 _ ⟨ro,pre++((b,.cells (bS arr off (List.replicate (k+1) zc)) e)::bC)⟩ ?_ ?_
 .rw[C5]
  have:=pJ (ro:=ro) (bC:=bC) (e:=e) g off (List.replicate (k+1) zc) arr 0 (fun v hv=>by rw[List.eq_of_mem_replicate hv];exact f) (by simpa using i)
  simpa using this
 .simp only[bF]
  exact h
end
theorem bx.fM {T:Type}{r:cg T}{ro:Addr->Option Value}{e:TypeId}{v:Value}{l:List T}{bz:List (Nat×Obj)}(h:bx r ro e v l bz){own:List (Nat×Obj)}(pre bC:List (Nat×Obj))(f:own=pre++(bz++bC))(g:bP (keys own)):aI r (ag.dz ⟨ro,own⟩).ro v l:=by
 subst f;obtain ⟨ls,hg,c,hm,k⟩:=h;rcases hg with ⟨rfl,rfl,rfl⟩|⟨b,arr,cap,rfl,rfl,hs,hle,ht,d,m⟩
 .have:l=[]:=List.eq_nil_of_length_eq_zero (by simpa using c.symm);subst this;exact aI.nil r _
 .have o:aQ pre b:=Nd.fresh g.nd b (by simp[keys]);refine ⟨some ⟨b,0,none⟩,cap,by rw[c],ai,ai,fun i x hi=>?_⟩;obtain ⟨cs,p,q⟩:=k i x hi;refine ⟨_,cs,rfl,r.mono aZ q,fun j v hv=>?_⟩;have a:=lA ls i cs d p j v hv;rw[jH,iD,Nat.zero_add];have s:i*r.n+j<ls.length*r.n:=by
   have:=(List.getElem?_eq_some_iff.1 a).1;rw[gM d] at this;exact this
  rw[<-ht,List.getElem?_take_of_lt s] at a;show ag.get ⟨ro,pre++([(b,Obj.cells arr e)]++bC)⟩ ⟨b,i*r.n+j,none⟩=some v;simp only[ag.get,m,if_true,List.cons_append,List.nil_append,pI o,Option.bind_some,cellOf];simpa using a
theorem aI.two {T:Type}{r:cg T}{ro:Addr->Option Value}{own:List (Nat×Obj)}{b:Nat}{x y:T}{v u:Value}{e:TypeId}(a:∀off sp,ro ⟨b,off,sp⟩=none)(d:lk own b=some (.cells #[v,u] e))(c:r.n=1)(h:r.rel ro x [v])(k:r.rel ro y [u]):
  aI r (bY ro b (.cells #[v,u] e)) (.slice (some ⟨b,0,none⟩) 2 2) [x,y]:=by
 refine ⟨some ⟨b,0,none⟩,2,rfl,Nat.le_refl _,aB,fun i z hi=>?_⟩
 have:(i=0/\z=x)\/(i=1/\z=y):=by
  cases i with
  |zero=>simp at hi;exact .inl ⟨rfl,hi.symm⟩
  |succ i=>cases i with
   |zero=>simp at hi;exact .inr ⟨rfl,hi.symm⟩
   |succ i=>simp at hi
 rcases this with ⟨rfl,rfl⟩|⟨rfl,rfl⟩
 .refine ⟨_,_,rfl,r.mono (fY _ _ _) h,fun j w hv=>?_⟩
  cases j with
  |zero=>
   rw[Nat.zero_mul,add_zero',iD,Nat.zero_add,ep a]
   simpa [cellOf] using hv
  |succ j=>simp at hv
 .refine ⟨_,_,rfl,r.mono (fY _ _ _) k,fun j w hv=>?_⟩
  cases j with
  |zero=>
   rw[c,jH,iD,ep a]
   simpa [cellOf] using hv
  |succ j=>simp at hv
theorem bx.clear {ro:Addr->Option Value}{e:TypeId}{b n cap k:Nat}{x:List Int}{arr:Array Value}(h:bx rI ro e (.slice (some ⟨b,0,none⟩) n cap) x [(b,.cells arr e)])(r:k<=x.length):
  bx rI ro e (.slice (some ⟨b,0,none⟩) k cap) (x.take k) [(b,.cells (bS arr k (List.replicate (n - k) (.int .i64 0))) e)]:=by
 obtain ⟨ls,hg,s,hm,g⟩:=h
 rcases hg with ⟨hv,_,_⟩|⟨t,u,j,hv,l,hs,hle,ht,d,m⟩
 .cases hv
 .cases l
  obtain ⟨rfl,rfl⟩:n=ls.length/\cap=j:=by cases hv;exact ⟨rfl,rfl⟩
  have c:rI.n=1:=rfl
  rw[c] at hs ht d
  simp only[Nat.mul_one] at hs ht
  have a:(ls.take k).length=k:=by rw[List.length_take];omega
  refine ⟨ls.take k,.inr ⟨b,_,cap,by rw[a],rfl,by rw[o3];rw[c,Nat.mul_one];exact hs,by rw[a];omega,?_,?_,m⟩,by rw[a,List.length_take];omega,by rw[List.length_take];omega,?_⟩
  .rw[o4 _ _ _ (by simp;omega),a,c,Nat.mul_one,List.append_assoc,List.take_append_of_le_length (by rw[List.length_take,Array.length_toList];omega),List.take_take,Nat.min_self]
   have e1:arr.toList.take k=(arr.toList.take ls.length).take k:=by rw[List.take_take,Nat.min_eq_left ai]
   rw[e1,ht]
   have e2:ls.flatten=(ls.take k).flatten++(ls.drop k).flatten:=by rw[<-List.flatten_append,List.take_append_drop]
   have e3:(ls.take k).flatten.length=k:=by rw[gM (size:=1) (fun z f=>d z (List.mem_of_mem_take f)),a,Nat.mul_one]
   rw[e2,List.take_append_of_le_length (Nat.le_of_eq e3.symm),List.take_of_length_le (Nat.le_of_eq e3)]
  .intro z f
   rw[c];exact d z (List.mem_of_mem_take f)
  .intro i v hv
   obtain ⟨hi,o⟩:i<k/\x[i]?=some v:=by
    rw[List.getElem?_take] at hv
    split at hv
    .exact ⟨‹_›,hv⟩
    .cases hv
   obtain ⟨cs,p,q⟩:=g i v o
   exact ⟨cs,by rw[List.getElem?_take,if_pos hi];exact p,q⟩
section
variable {P:Program}
theorem C7 {t:TypeId}{R:Value->ag->Prop}{F:ag}(h:∀b,dP F b->R (.map (some b)) (F.push b (.map #[] 0))):cE P (Instr.makeMap t none) R F:=by
 unfold cE;simp only[Instr.makeMap,bE,mY,bF];exact ⟨rfl,h⟩
end
def cp {K V:Type}(fk:K->Value)(fv:V->Value):Nat->List (K×V)->List MapEntry
 |_,[]=>[]
 |i,e::l=>{key:=fk e.1,val:=fv e.2,born:=i}::cp fk fv (i+1) l
def dg {K V:Type}(fk:K->Value)(fv:V->Value)(l:List (K×V)):Obj:=.map (cp fk fv 0 l).toArray l.length
def cA {K V:Type}[BEq K]:List (K×V)->K->Option V
 |[],_=>none
 |e::l,k=>if k==e.1 then some e.2 else cA l k
def cw {K V:Type}[BEq K]:List (K×V)->K->V->List (K×V)
 |[],k,v=>[(k,v)]
 |e::l,k,v=>if k==e.1 then (k,v)::l else e::cw l k v
structure lI {K:Type}[BEq K](kt:TypeDesc)(fk:K->Value):Prop where
 now:∀a b,Instr.sameNow kt (fk a) (fk b)=some (a==b)
 bits:∀a b,(a==b)=true->Instr.sameBits 10000 (fk b) (fk a)=true/\fk b=fk a
 plain:∀(P:Program) (t:TypeId) (e:Bool) (k:K) (Q:Unit->ag->Prop) (F:ag),P.underlying t=some kt->Q () F->bA P (Instr.checkKey e 10000 t (fk k)) Q F
theorem yK (a b:List UInt8):((⟨⟨a⟩⟩:ByteArray)==⟨⟨b⟩⟩)=(a==b):=by
 show ((⟨a⟩:Array UInt8)==⟨b⟩)=(a==b);simp
theorem pP:lI (K:=List UInt8) .string (fun k=>.string ⟨⟨k⟩⟩) where
 now a b:=by
  simp only[Instr.sameNow,yK]
 bits a b h:=by
  obtain rfl:a=b:=by simpa using h
  exact ⟨by simp[Instr.sameBits,yK],rfl⟩
 plain P t e k Q F hu h:=by
  unfold Instr.checkKey
  simp only[bE,cW,hu]
  exact h
theorem yL:lI (K:=Int) (.int .i64) (fun k=>.int .i64 k) where
 now a b:=by simp[Instr.sameNow]
 bits a b h:=by
  obtain rfl:a=b:=by simpa using h
  exact ⟨by simp[Instr.sameBits],rfl⟩
 plain P t e k Q F hu h:=by
  unfold Instr.checkKey
  simp only[bE,cW,hu]
  exact h
section
variable {K V:Type}[BEq K]{fk:K->Value}{fv:V->Value}{kd:TypeDesc}{P:Program}
theorem yM (a:lI kd fk)(k:K):∀(l:List (K×V)) (i j:Nat),∃r,Instr.findNow kd (fk k) (cp fk fv i l) j=some r/\r.map (·.2)=(cA l k).map fv/\(∀n v,r=some (n,v)->j<=n/\n<j+l.length)
 |[],i,j=>⟨none,rfl,rfl,fun n v h=>by cases h⟩
 |e::l,i,j=>by
  obtain ⟨r,b,c,d⟩:=yM a k l (i+1) (j+1)
  simp only[cp,Instr.findNow,a.now,cA]
  cases h:k==e.1 with
  |true=>exact ⟨some (j,fv e.2),aB,aB,fun n v h=>by cases h;simp⟩
  |false=>exact ⟨r,by simpa using b,by simpa using c,fun n v h=>by have:=d n v h;simp only[List.length_cons];omega⟩
theorem s3 {t kt c:TypeId}{b:Nat}{l:List (K×V)}{k:K}{z:V}{own:List (Nat×Obj)}{ro:Addr->Option Value}{R:Value->ag->Prop}{ok:Bool}(d:lI kd fk)(hu:P.underlying t=some (.map kt c))(e:P.underlying kt=some kd)(f:zeroOf P c=some (fv z))(g:lk own b=some (dg fk fv l))
  (h:R (if ok then .tuple #[fv ((cA l k).getD z),.bool (cA l k).isSome] else fv ((cA l k).getD z)) ⟨ro,own⟩):cE P (Instr.lookup t (.map (some b)) (fk k) ok) R ⟨ro,own⟩:=by
 unfold cE
 have ho:ag.cY ⟨ro,own⟩ b=some (dg fk fv l):=by
  unfold ag.cY
  rw[g]
  rfl
 simp only[Instr.lookup,bE,cW,hu,gL,bF]
 refine ⟨_,ho,?_⟩
 simp only[dg,bE,bF]
 refine d.plain P kt _ k _ _ e ?_
 obtain ⟨r,i,a,-⟩:=yM (fv:=fv) d k l 0 0
 simp only[Instr.findKey,bE,cW,e,i,bF]
 cases hg:cA l k with
 |none=>
  rw[hg] at h a
  cases r with
  |none=>
   simp only[bE,k7,f,bF]
   simpa using h
  |some x=>simp at a
 |some v=>
  rw[hg] at h a
  cases r with
  |none=>simp at a
  |some x=>
   obtain ⟨n,y⟩:=x
   simp only[Option.map_some,Option.some.injEq] at a
   subst a
   simp only[bE,bF,Option.getD_some,Option.isSome_some] at h ⊢
   exact h
theorem s4 (fk:K->Value)(fv:V->Value)(e:K×V):∀(l:List (K×V)) (i:Nat),cp fk fv i (l++[e])=cp fk fv i l++[{key:=fk e.1,val:=fv e.2,born:=i+l.length}]
 |[],i=>by simp[cp]
 |x::l,i=>by
  have:=s4 fk fv e l (i+1)
  simp only[List.cons_append,cp,this,List.length_cons]
  rw[show i+1+l.length=i+(l.length+1) by omega]
theorem yN (a:lI kd fk)(k:K)(v:V):∀(l:List (K×V)) (i j:Nat),∃r,Instr.findNow kd (fk k) (cp fk fv i l) j=some r/\
  ((r=none/\cw l k v=l++[(k,v)])\/(∃n y old,r=some (j+n,y)/\((cp fk fv i l)[n]?).map (·.key)=some (fk old)/\(k==old)=true/\cp fk fv i (cw l k v)=(cp fk fv i l).modify n (fun e=>{e with key:=fk k,val:=fv v})/\(cw l k v).length=l.length))
 |[],i,j=>⟨none,rfl,.inl ⟨rfl,rfl⟩⟩
 |e::l,i,j=>by
  obtain ⟨r,b,c⟩:=yN a k v l (i+1) (j+1)
  simp only[cp,Instr.findNow,a.now,cw]
  cases h:k==e.1 with
  |true=>exact ⟨some (j,fv e.2),aB,.inr ⟨0,fv e.2,e.1,aB,aB,h,by simp[cp],aB⟩⟩
  |false=>
   refine ⟨r,by simpa using b,?_⟩
   rcases c with ⟨e1,e2⟩|⟨n,y,old,e1,e2,e3,d,f⟩
   .exact .inl ⟨e1,by simp[e2]⟩
   .exact .inr ⟨n+1,y,old,by rw[e1];congr 2;omega,by simpa using e2,e3,by simp[cp,d],by simp[f]⟩
theorem s5 {t kt f:TypeId}{b:Nat}{l:List (K×V)}{k:K}{v:V}{own:List (Nat×Obj)}{ro:Addr->Option Value}{R:Value->ag->Prop}(a:lI kd fk)(hu:P.underlying t=some (.map kt f))(c:P.underlying kt=some kd)(g:lk own b=some (dg fk fv l))
  (h:R undef ⟨ro,eM own b (dg fk fv (cw l k v))⟩):cE P (Instr.mapUpdate t (.map (some b)) (fk k) (fv v)>>= fun _=>pure undef) R ⟨ro,own⟩:=by
 unfold cE
 have ho:ag.cY ⟨ro,own⟩ b=some (dg fk fv l):=by
  unfold ag.cY
  rw[g]
  rfl
 have d:(ag.cY ⟨ro,own⟩ b).isSome=true:=by rw[ho];rfl
 simp only[Instr.mapUpdate,bE,cW,hu,gL]
 refine ⟨_,ho,?_⟩
 simp only[dg,bE]
 refine a.plain P kt _ k _ _ c ?_
 obtain ⟨r,i,j⟩:=yN (fv:=fv) a k v l 0 0
 simp only[Instr.findKey,bE,cW,c,i,bF]
 rcases j with ⟨rfl,e2⟩|⟨n,y,old,rfl,e2,e3,m,o⟩
 .simp only[iC,bF]
  refine ⟨rfl,d,?_⟩
  have e:dg fk fv (cw l k v)= .map ((cp fk fv 0 l).toArray.push {key:=fk k,val:=fv v,born:=l.length}) (l.length+1):=by
   simp only[dg,e2,s4,List.length_append,List.length_singleton]
   simp
  rw[e] at h
  exact h
 .obtain ⟨p,b2⟩:=a.bits k old e3
  have q:(((cp fk fv 0 l).toArray[0+n]?).map (·.key)).getD (fk k)=fk old:=by
   simp only[Nat.zero_add,List.getElem?_toArray,e2,Option.getD_some]
  simp only[bE,q]
  unfold Instr.keyThatStays
  rw[dn,if_pos p]
  simp only[bF,iC]
  refine ⟨rfl,d,?_⟩
  have e:dg fk fv (cw l k v)= .map ((cp fk fv 0 l).toArray.modify (0+n) fun e=>{e with key:=fk k,val:=fv v}) l.length:=by
   simp only[dg,m,o,Nat.zero_add]
   congr 1
   rw[<-Array.toList_inj]
   simp
  rw[e] at h
  exact h
theorem pQ {K V:Type}(fk:K->Value)(fv:V->Value){t:TypeId}{P:Program}{R:Value->ag->Prop}{F:ag}(h:∀b,dP F b->R (.map (some b)) (F.push b (dg fk fv ([]:List (K×V))))):cE P (Instr.makeMap t none) R F:=C7 h
end
def jL {T:Type}(r:cg T)(ro:Addr->Option Value):List T->List (List Value)->Prop
 |[],[]=>True
 |x::xs,c::cs=>r.rel ro x c/\jL r ro xs cs
 |_,_=>False
theorem jL.get {T:Type}{r:cg T}{ro:Addr->Option Value}:∀{xs:List T} {a:List (List Value)},jL r ro xs a->∀(i:Nat) (x:T),xs[i]?=some x->∃c,a[i]?=some c/\r.rel ro x c
 |[],[],_,i,x,h=>by simp at h
 |[],_::_,h,_,_,_=>h.elim
 |_::_,[],h,_,_,_=>h.elim
 |y::xs,c::cs,h,i,x,hi=>by
  cases i with
  |zero=>simp at hi;subst hi;exact ⟨c,rfl,h.1⟩
  |succ i=>simpa using jL.get h.2 i x (by simpa using hi)
theorem jL.len {T:Type}{r:cg T}{ro:Addr->Option Value}:∀{xs:List T} {b:List (List Value)},jL r ro xs b->∀c∈b,c.length=r.n
 |[],[],_,c,h=>by cases h
 |[],_::_,h,_,_=>h.elim
 |_::_,[],h,_,_=>h.elim
 |y::xs,d::cs,h,c,a=>by
  rcases List.mem_cons.1 a with rfl|a
  .exact r.len h.1
  .exact jL.len h.2 c a
theorem aI.rows {T:Type}{r:cg T}{ro:Addr->Option Value}{b:Nat}{cs:Array Value}{e:TypeId}(xs:List T)(a:List (List Value))(h:jL r ro xs a)(d:∀off sp,ro ⟨b,off,sp⟩=none)(f:cs.toList=a.flatten)(hlen:xs.length<=1000000000000000):
  aI r (bY ro b (.cells cs e)) (.slice (some ⟨b,0,none⟩) xs.length xs.length) xs:=by
 refine ⟨some ⟨b,0,none⟩,xs.length,rfl,Nat.le_refl _,hlen,fun i x hi=>?_⟩
 obtain ⟨c,g,k⟩:=h.get i x hi
 refine ⟨_,c,rfl,r.mono (fY _ _ _) k,fun j v hv=>?_⟩
 have:=lA a i c h.len g j v hv
 rw[iD,iD,Nat.zero_add,ep d]
 rw[<-f] at this
 simpa [cellOf] using this
end Go.Sep
end
section
namespace Go.Proofs.YtcoalekambhghaaGreatDoor
open Go Go.Sep Go.Proofs
set_option maxRecDepth 100000
attribute [go_sem] aI.nil
theorem pR:rI.n=1:=rfl
theorem s6:rB.n=1:=rfl
theorem C8 {T:Type}(r:cg T):(rL r).n=1:=rfl
attribute [go_sem] pR s6 C8
structure bU where
 low:Int
 high:Int
 deriving DecidableEq
def bU.v (x:bU):Value:=.agg #[.int .i64 x.low,.int .i64 x.high]
def bU.cells (x:bU):List Value:=[.int .i64 x.low,.int .i64 x.high]
def C9:cg bU:=kA 2 bU.cells (fun _=>rfl) (fun _ v hv=>by simp only[bU.cells,List.mem_cons,List.not_mem_nil,or_false] at hv;rcases hv with rfl|rfl<;>rfl)
theorem Da:C9.n=2:=rfl
attribute [go_sem] bU.v bU.cells Da
structure bu where
 bN:(List UInt8)
 dY:Int
 row:Int
 deriving DecidableEq
def bu.v (x:bu):Value:=.agg #[.string ⟨⟨x.bN⟩⟩,.int .i64 x.dY,.int .i64 x.row]
def bu.cells (x:bu):List Value:=[.string ⟨⟨x.bN⟩⟩,.int .i64 x.dY,.int .i64 x.row]
def dJ:cg bu:=kA 3 bu.cells (fun _=>rfl) (fun _ v hv=>by simp only[bu.cells,List.mem_cons,List.not_mem_nil,or_false] at hv;rcases hv with rfl|rfl|rfl<;>rfl)
theorem Db:dJ.n=3:=rfl
attribute [go_sem] bu.v bu.cells Db
structure bf where
 name:(List UInt8)
 from_:bU
 wide:Int
 aC:bU
 marks:(List bu)
 deriving DecidableEq
def bf.rel (ro:Addr->Option Value)(x:bf)(cs:List Value):Prop:=∃a,cs=[.string ⟨⟨x.name⟩⟩,.int .i64 x.from_.low,.int .i64 x.from_.high,.int .i64 x.wide,.int .i64 x.aC.low,.int .i64 x.aC.high,a]/\aI dJ ro a x.marks
theorem bf.kJ {ro:Addr->Option Value}{x:bf}{cs:List Value}(h:bf.rel ro x cs):∀v∈cs,eX v=true:=by
 obtain ⟨a,rfl,⟨_,_,rfl,_⟩⟩:=h;intro v hv;simp only[List.mem_cons,List.not_mem_nil,or_false] at hv;rcases hv with rfl|rfl|rfl|rfl|rfl|rfl|rfl<;>rfl
def bK:cg bf:=⟨7,bf.rel,fun b ⟨a,e,c⟩=>⟨a,e,c.mono b⟩,fun ⟨a,e,_⟩=>by rw[e];rfl,bf.kJ⟩
theorem Dc:bK.n=7:=rfl
attribute [go_sem] Dc
structure aL where
 steps:Int
 au:Int
 aj:(List bf)
 deriving DecidableEq
def aL.rel (ro:Addr->Option Value)(x:aL)(cs:List Value):Prop:=∃s2,cs=[.int .i64 x.steps,.int .i64 x.au,s2]/\aI bK ro s2 x.aj
theorem aL.kJ {ro:Addr->Option Value}{x:aL}{cs:List Value}(h:aL.rel ro x cs):∀v∈cs,eX v=true:=by
 obtain ⟨s2,rfl,⟨_,_,rfl,_⟩⟩:=h;intro v hv;simp only[List.mem_cons,List.not_mem_nil,or_false] at hv;rcases hv with rfl|rfl|rfl<;>rfl
def Dd:cg aL:=⟨3,aL.rel,fun a ⟨s2,e,b⟩=>⟨s2,e,b.mono a⟩,fun ⟨s2,e,_⟩=>by rw[e];rfl,aL.kJ⟩
theorem De:Dd.n=3:=rfl
attribute [go_sem] De
structure dW where
 az:(List Int)
 aA:(List Int)
 au:(List Int)
 deriving DecidableEq
def dW.rel (ro:Addr->Option Value)(x:dW)(cs:List Value):Prop:=∃a s1 s2,cs=[a,s1,s2]/\aI rI ro a x.az/\aI rI ro s1 x.aA/\aI rI ro s2 x.au
theorem dW.kJ {ro:Addr->Option Value}{x:dW}{cs:List Value}(h:dW.rel ro x cs):∀v∈cs,eX v=true:=by
 obtain ⟨a,s1,s2,rfl,⟨_,_,rfl,_⟩,⟨_,_,rfl,_⟩,⟨_,_,rfl,_⟩⟩:=h;intro v hv;simp only[List.mem_cons,List.not_mem_nil,or_false] at hv;rcases hv with rfl|rfl|rfl<;>rfl
def Df:cg dW:=⟨3,dW.rel,fun a ⟨b,s1,s2,e,c,d,f⟩=>⟨b,s1,s2,e,c.mono a,d.mono a,f.mono a⟩,fun ⟨b,s1,s2,e,_⟩=>by rw[e];rfl,dW.kJ⟩
theorem Dg:Df.n=3:=rfl
attribute [go_sem] Dg
structure aU where
 step:Int
 cB:Int
 deriving DecidableEq
def aU.v (x:aU):Value:=.agg #[.int .i64 x.step,.int .i64 x.cB]
def aU.cells (x:aU):List Value:=[.int .i64 x.step,.int .i64 x.cB]
def eH:cg aU:=kA 2 aU.cells (fun _=>rfl) (fun _ v hv=>by simp only[aU.cells,List.mem_cons,List.not_mem_nil,or_false] at hv;rcases hv with rfl|rfl<;>rfl)
theorem Dh:eH.n=2:=rfl
attribute [go_sem] aU.v aU.cells Dh
structure bl where
 e0:Int
 e1:Int
 e2:Int
 e3:Int
 deriving DecidableEq
def bl.cells (x:bl):List Value:=[.int .i64 x.e0,.int .i64 x.e1,.int .i64 x.e2,.int .i64 x.e3]
def Di:cg bl:=kA 4 bl.cells (fun _=>rfl) (fun _ v hv=>by simp only[bl.cells,List.mem_cons,List.not_mem_nil,or_false] at hv;rcases hv with rfl|rfl|rfl|rfl<;>rfl)
theorem Dj:Di.n=4:=rfl
attribute [go_sem] bl.cells Dj
def bl.get (x:bl)(i:Int):Option Int:=if i=0 then some x.e0 else if i=1 then some x.e1 else if i=2 then some x.e2 else if i=3 then some x.e3 else none
theorem bl.get_some {x:bl}{i:Int}{y:Int}(h:bl.get x i=some y):0<=i/\i<((4:Nat):Int)/\([.int .i64 x.e0,.int .i64 x.e1,.int .i64 x.e2,.int .i64 x.e3]:List Value)[i.toNat]?=some (.int .i64 y):=by
 unfold bl.get at h;by_cases a:i=0
 .subst a;simp at h;subst h;exact ⟨by omega,by omega,rfl⟩
 by_cases b:i=1
 .subst b;simp at h;subst h;exact ⟨by omega,by omega,rfl⟩
 by_cases c:i=2
 .subst c;simp at h;subst h;exact ⟨by omega,by omega,rfl⟩
 by_cases d:i=3
 .subst d;simp at h;subst h;exact ⟨by omega,by omega,rfl⟩
 simp[a,b,c,d] at h
theorem bl.nF {x:bl}{i:Int}{y:Int}(post:List Value)(h:bl.get x i=some y):(([.int .i64 x.e0,.int .i64 x.e1,.int .i64 x.e2,.int .i64 x.e3]:List Value)++post)[i.toNat]?=some (.int .i64 y):=by
 obtain ⟨b,c,a⟩:=bl.get_some h;rw[List.getElem?_append_left (by simp only[List.length_cons,List.length_nil];omega)];exact a
theorem bl.pS {x:bl}{i:Int}{y:Int}(pre post:List Value)(h:bl.get x i=some y):(pre++(([.int .i64 x.e0,.int .i64 x.e1,.int .i64 x.e2,.int .i64 x.e3]:List Value)++post))[pre.length+i.toNat]?=some (.int .i64 y):=by
 rw[List.getElem?_append_right (by omega),Nat.add_sub_cancel_left];exact bl.nF post h
structure bw where
 az:bl
 aA:bl
 au:Int
 deriving DecidableEq
def bw.v (x:bw):Value:=.agg #[.int .i64 x.az.e0,.int .i64 x.az.e1,.int .i64 x.az.e2,.int .i64 x.az.e3,.int .i64 x.aA.e0,.int .i64 x.aA.e1,.int .i64 x.aA.e2,.int .i64 x.aA.e3,.int .u64 x.au]
def bw.cells (x:bw):List Value:=[.int .i64 x.az.e0,.int .i64 x.az.e1,.int .i64 x.az.e2,.int .i64 x.az.e3,.int .i64 x.aA.e0,.int .i64 x.aA.e1,.int .i64 x.aA.e2,.int .i64 x.aA.e3,.int .u64 x.au]
def gN:cg bw:=kA 9 bw.cells (fun _=>rfl) (fun _ v hv=>by simp only[bw.cells,List.mem_cons,List.not_mem_nil,or_false] at hv;rcases hv with rfl|rfl|rfl|rfl|rfl|rfl|rfl|rfl|rfl<;>rfl)
theorem Dk:gN.n=9:=rfl
attribute [go_sem] bw.v bw.cells Dk
structure dQ where
 round:aL
 bJ:(List bw)
 deriving DecidableEq
def dQ.rel (ro:Addr->Option Value)(x:dQ)(cs:List Value):Prop:=∃s2 a,cs=[.int .i64 x.round.steps,.int .i64 x.round.au,s2,a]/\aI bK ro s2 x.round.aj/\aI gN ro a x.bJ
theorem dQ.kJ {ro:Addr->Option Value}{x:dQ}{cs:List Value}(h:dQ.rel ro x cs):∀v∈cs,eX v=true:=by
 obtain ⟨s2,a,rfl,⟨_,_,rfl,_⟩,⟨_,_,rfl,_⟩⟩:=h;intro v hv;simp only[List.mem_cons,List.not_mem_nil,or_false] at hv;rcases hv with rfl|rfl|rfl|rfl<;>rfl
def Dl:cg dQ:=⟨4,dQ.rel,fun a ⟨s2,b,e,c,d⟩=>⟨s2,b,e,c.mono a,d.mono a⟩,fun ⟨s2,b,e,_⟩=>by rw[e];rfl,dQ.kJ⟩
theorem Dm:Dl.n=4:=rfl
attribute [go_sem] Dm
def nG (l:(List (Int×Int))):Obj:=dg (fun k:Int=>.int .i64 k) (fun v:Int=>.int .i64 v) l
theorem Dn {R:Value->ag->Prop}{F:ag}(h:∀b,dP F b->R (.map (some b)) (F.push b (nG []))):cE Tryz.prog (Instr.makeMap 140 none) R F:=pQ (fun k:Int=>.int .i64 k) (fun v:Int=>.int .i64 v) h
theorem yO {own:List (Nat×Obj)}{ro:Addr->Option Value}{b:Nat}{l:(List (Int×Int))}{k:Int}{R:Value->ag->Prop}(a:lk own b=some (nG l))(h:R (.int .i64 ((cA l k).getD 0)) ⟨ro,own⟩):cE Tryz.prog (Instr.lookup 140 (.map (some b)) (.int .i64 k) false) R ⟨ro,own⟩:=s3 (fk:=(fun k:Int=>.int .i64 k)) (fv:=(fun v:Int=>.int .i64 v)) (k:=k) (z:=0) yL (show Tryz.prog.underlying 140=some (.map 3 3) by kernel_rfl) (by kernel_rfl) jJ a h
theorem Dp {own:List (Nat×Obj)}{ro:Addr->Option Value}{b:Nat}{l:(List (Int×Int))}{k:Int}{v:Int}{R:Value->ag->Prop}(a:lk own b=some (nG l))(h:R undef ⟨ro,eM own b (nG (cw l k v))⟩):cE Tryz.prog (Instr.mapUpdate 140 (.map (some b)) (.int .i64 k) (.int .i64 v)>>= fun _=>pure undef) R ⟨ro,own⟩:=s5 (fk:=(fun k:Int=>.int .i64 k)) (fv:=(fun v:Int=>.int .i64 v)) (k:=k) (v:=v) yL (show Tryz.prog.underlying 140=some (.map 3 3) by kernel_rfl) (by kernel_rfl) a h
def lJ (l:(List ((List UInt8)×aU))):Obj:=dg (fun k:(List UInt8)=>.string ⟨⟨k⟩⟩) (fun v:aU=>v.v) l
theorem Dq {R:Value->ag->Prop}{F:ag}(h:∀b,dP F b->R (.map (some b)) (F.push b (lJ []))):cE Tryz.prog (Instr.makeMap 144 none) R F:=pQ (fun k:(List UInt8)=>.string ⟨⟨k⟩⟩) (fun v:aU=>v.v) h
theorem Dr {own:List (Nat×Obj)}{ro:Addr->Option Value}{b:Nat}{l:(List ((List UInt8)×aU))}{k:(List UInt8)}{R:Value->ag->Prop}(a:lk own b=some (lJ l))(h:R (.tuple #[((cA l k).getD (⟨0,0⟩:aU)).v,.bool (cA l k).isSome]) ⟨ro,own⟩):cE Tryz.prog (Instr.lookup 144 (.map (some b)) (.string ⟨⟨k⟩⟩) true) R ⟨ro,own⟩:=s3 (fk:=(fun k:(List UInt8)=>.string ⟨⟨k⟩⟩)) (fv:=(fun v:aU=>v.v)) (k:=k) (z:=(⟨0,0⟩:aU)) pP (show Tryz.prog.underlying 144=some (.map 9 31) by kernel_rfl) (by kernel_rfl) x7 a h
theorem yP {own:List (Nat×Obj)}{ro:Addr->Option Value}{b:Nat}{l:(List ((List UInt8)×aU))}{k:(List UInt8)}{v:aU}{R:Value->ag->Prop}(a:lk own b=some (lJ l))(h:R undef ⟨ro,eM own b (lJ (cw l k v))⟩):cE Tryz.prog (Instr.mapUpdate 144 (.map (some b)) (.string ⟨⟨k⟩⟩) (v.v)>>= fun _=>pure undef) R ⟨ro,own⟩:=s5 (fk:=(fun k:(List UInt8)=>.string ⟨⟨k⟩⟩)) (fv:=(fun v:aU=>v.v)) (k:=k) (v:=v) pP (show Tryz.prog.underlying 144=some (.map 9 31) by kernel_rfl) (by kernel_rfl) a h
def lK (l:(List ((List UInt8)×Bool))):Obj:=dg (fun k:(List UInt8)=>.string ⟨⟨k⟩⟩) (fun v:Bool=>.bool v) l
theorem Ds {R:Value->ag->Prop}{F:ag}(h:∀b,dP F b->R (.map (some b)) (F.push b (lK []))):cE Tryz.prog (Instr.makeMap 245 none) R F:=pQ (fun k:(List UInt8)=>.string ⟨⟨k⟩⟩) (fun v:Bool=>.bool v) h
theorem Dt {own:List (Nat×Obj)}{ro:Addr->Option Value}{b:Nat}{l:(List ((List UInt8)×Bool))}{k:(List UInt8)}{R:Value->ag->Prop}(a:lk own b=some (lK l))(h:R (.bool ((cA l k).getD false)) ⟨ro,own⟩):cE Tryz.prog (Instr.lookup 245 (.map (some b)) (.string ⟨⟨k⟩⟩) false) R ⟨ro,own⟩:=s3 (fk:=(fun k:(List UInt8)=>.string ⟨⟨k⟩⟩)) (fv:=(fun v:Bool=>.bool v)) (k:=k) (z:=false) pP (show Tryz.prog.underlying 245=some (.map 9 4) by kernel_rfl) (by kernel_rfl) Cu a h
theorem Du {own:List (Nat×Obj)}{ro:Addr->Option Value}{b:Nat}{l:(List ((List UInt8)×Bool))}{k:(List UInt8)}{v:Bool}{R:Value->ag->Prop}(a:lk own b=some (lK l))(h:R undef ⟨ro,eM own b (lK (cw l k v))⟩):cE Tryz.prog (Instr.mapUpdate 245 (.map (some b)) (.string ⟨⟨k⟩⟩) (.bool v)>>= fun _=>pure undef) R ⟨ro,own⟩:=s5 (fk:=(fun k:(List UInt8)=>.string ⟨⟨k⟩⟩)) (fv:=(fun v:Bool=>.bool v)) (k:=k) (v:=v) pP (show Tryz.prog.underlying 245=some (.map 9 4) by kernel_rfl) (by kernel_rfl) a h
end Go.Proofs.YtcoalekambhghaaGreatDoor
end
section
namespace Go.Proofs.YtcoalekambhghaaGreatDoor
open Go Go.Sep Go.Proofs
set_option maxRecDepth 100000
set_option maxHeartbeats 4000000
def ff (u0:Int)(a:Int)(b:Int):Option Bool:=
 cond (decide (a<=u0)) (some (decide (u0<=b))) (some false)
theorem gC {ro:Addr->Option Value}(u0:Int)(b:Int)(c:Int){r:Bool}(h:ff u0 b c=some r):aF Tryz.prog 53 #[.int .i64 u0,.int .i64 b,.int .i64 c] ⟨ro,[]⟩ (fun v _=>v= .bool r):=by
 unfold ff at h;refine aF.go Tryz.func53 rfl Tryz.ntmps53 Tryz.results53 aB fun main J hJ A d hd hs=>?_;have e:=hs 0;have k1:=hs 1;have f:=hs 2;clear hs;refine af hJ ?_;refine ah hJ ?_;apply aa _;refine af hJ ?_;refine ah hJ ?_;have h':=aD h;clear h;rcases h' with ⟨a,h⟩|⟨a,h⟩
 .try simp only[Int.ofNat_lt] at a
  try apply aa _
  have h':=Option.some.inj h;clear h;subst h';refine aG ?_;simp only[*,go_sem]
 try simp only[Int.ofNat_lt] at a
 try apply aa _
 have h':=Option.some.inj h;clear h;subst h';refine aG ?_;simp only[*,go_sem]
def lM (u0:bU)(a:Int)(b:Int)(c:Int):Option Bool:=
 cond (decide (a<=u0.low)) (cond (decide (u0.low<=u0.high)) (cond (decide (u0.high<=b)) (some (decide ((IntKind.i64.wrap (u0.high - u0.low))<c))) (some false)) (some false)) (some false)
theorem yQ {ro:Addr->Option Value}(u0:bU)(d:Int)(e:Int)(f:Int){r:Bool}(h:lM u0 d e f=some r):aF Tryz.prog 220 #[.agg #[.int .i64 u0.low,.int .i64 u0.high],.int .i64 d,.int .i64 e,.int .i64 f] ⟨ro,[]⟩ (fun v _=>v= .bool r):=by
 unfold lM at h;refine aF.go Tryz.func220 rfl Tryz.ntmps220 Tryz.results220 aB fun main J hJ A g hd hs=>?_;have i:=hs 0;have k1:=hs 1;have j:=hs 2;have k:=hs 3;clear hs;refine af hJ ?_;refine ah hJ ?_;apply aa _;intro l f1;have r1:=aV f1;have n1:=aW f1;try simp only[aQ] at n1
 try apply aa _
 refine af hJ ?_;refine ah hJ ?_;have h':=aD h;clear h;rcases h' with ⟨a,h⟩|⟨a,h⟩
 .try simp only[Int.ofNat_lt] at a
  have h':=aD h;clear h;rcases h' with ⟨b,h⟩|⟨b,h⟩
  ·(try simp only[Int.ofNat_lt] at b);have h':=aD h;clear h;rcases h' with ⟨c,h⟩|⟨c,h⟩
   ·(try simp only[Int.ofNat_lt] at c);(try apply aa _);have h':=Option.some.inj h;clear h;subst h';refine aG ?_;simp only[*,go_sem]
   (try simp only[Int.ofNat_lt] at c);(try apply aa _);have h':=Option.some.inj h;clear h;subst h';refine aG ?_;simp only[*,go_sem]
  try simp only[Int.ofNat_lt] at b
  try apply aa _
  have h':=Option.some.inj h;clear h;subst h';refine aG ?_;simp only[*,go_sem]
 try simp only[Int.ofNat_lt] at a
 try apply aa _
 have h':=Option.some.inj h;clear h;subst h';refine aG ?_;simp only[*,go_sem]
def s7 (b:Int)(i10:Nat)(a:Int)(st:(Int×Int)):Option (Fl (Int×Int) Int):=
 ax (ff a 0 (IntKind.i64.wrap (b - 1))) fun c=>cond (!c) (some (.rt 6)) (cond (decide (a<=st.2)) (some (.rt 7)) (some (.nx (st.1,a))))
def s8 (u0:(List Int))(a:Int):Option Int:=
 ax (b7 (s7 a) 0 u0 (0,(-1))) fun o=>aH o (fun b=>some 0) (fun _ _=>none) (fun r=>some r)
theorem Dv {ro:Addr->Option Value}(u0:(List Int)){s1:Value}(t:aI rI ro s1 u0)(c:Int){r:Int}(h:s8 u0 c=some r):aF Tryz.prog 116 #[s1,.int .i64 c] ⟨ro,[]⟩ (fun v _=>v= .int .i64 r):=by
 obtain ⟨d3,c4,rfl,I,u,w⟩:=id t;unfold s8 at h;refine aF.go Tryz.func116 rfl Tryz.ntmps116 Tryz.results116 aB fun main J hJ A y hd hs=>?_;have z:=hs 0;have k1:=hs 1;clear hs;refine af hJ ?_;refine ah hJ ?_;apply aa _;refine af hJ ?_;refine ah hJ ?_;apply aa _;refine af hJ ?_;refine af hJ ?_;refine ah hJ ?_;apply aa _;refine aY hJ ?_;have h':=an h;clear h;obtain ⟨B,a,g⟩:=h';have h:=True.intro;refine bO hJ [4,5,7,10,11,12,13,14,15,16,17,18,19,20,21,22,23,24,25] (fun m i F'=>∃(i10:Nat) (f:Int) (j:Int),m=u0.length - i10/\i10<=u0.length/\b7 (s7 c) i10 (u0.drop i10) (f,j)=some B/\F'=⟨ro,[]⟩/\slot i 10= .int .i64 (i10:Int)/\slot i 4= .int .i64 f/\slot i 5= .int .i64 j) u0.length ?_ ?_
 .refine ⟨0,0,(-1),(Nat.sub_zero _).symm,Nat.zero_le _,a,rfl,?_⟩;simp only[*,go_sem,-h]
 rintro K d F' b ⟨i10,f,j,rfl,L,a,rfl,M,N,O⟩;have h:=True.intro;have P:sz d=26:=by rw[b.size];simp only[*,go_sem,-h]
 have Q:d.defers=[]:=by rw[b.defers];simp only[*,go_sem,-h]
 have R:slot d 1= .int .i64 c:=by rw[b.ay 1 av];simp only[*,go_sem,-h]
 have S:slot d 8= .slice d3 u0.length c4:=by rw[b.ay 8 av];simp only[*,go_sem,-h]
 have T:slot d 9= .int .i64 (u0.length:Int):=by rw[b.ay 9 av];simp only[*,go_sem,-h]
 clear b y hd z k1;refine af hJ ?_;refine ah hJ ?_;apply aa _;refine af hJ ?_;rcases Nat.lt_or_ge i10 u0.length with C|q
 .refine aN hJ ak ?_;refine aR hJ ?_;obtain ⟨k,l⟩:∃x,u0[i10]?=some x:=⟨_,List.getElem?_eq_getElem C⟩
  rw[er l] at a;have h':=an a;clear a h;obtain ⟨U,h,e⟩:=h';unfold s7 at h;try dsimp only at h
  obtain ⟨V,D,E,F,s⟩:=w _ _ l;obtain rfl:D=[.int .i64 k]:=F;cases E;have G:=s 0 _ rfl;simp only[go_sem] at G;clear s l;refine af hJ ?_;refine aY hJ ?_;refine af hJ ?_;refine ah hJ ?_;apply aa _;refine af hJ ?_;refine aY hJ ?_;refine af hJ ?_;refine ah hJ ?_;have h':=an h;clear h;obtain ⟨W,H,h⟩:=h';apply aa _;refine bp hJ _ (gC k 0 (IntKind.i64.wrap (c - 1)) H) (aS ?_);try apply aa _
  have h':=aD h;clear h;rcases h' with ⟨o,h⟩|⟨o,h⟩
  ·(try simp only[Int.ofNat_lt] at o);refine aN hJ ak ?_;refine af hJ ?_;refine ah hJ ?_;apply aa _;have h':=Option.some.inj h;clear h;subst h';have h':=Option.some.inj e;clear e;subst h';have h:=g;dsimp only[aH] at h;have h':=Option.some.inj h;clear h;subst h';refine aG ?_;simp only[*,go_sem]
  try simp only[Int.ofNat_lt] at o
  refine aM hJ ak ?_;refine af hJ ?_;refine ah hJ ?_;apply aa _;have h':=aD h;clear h;rcases h' with ⟨p,h⟩|⟨p,h⟩
  ·(try simp only[Int.ofNat_lt] at p);refine aN hJ ak ?_;refine af hJ ?_;refine ah hJ ?_;apply aa _;have h':=Option.some.inj h;clear h;subst h';have h':=Option.some.inj e;clear e;subst h';have h:=g;dsimp only[aH] at h;have h':=Option.some.inj h;clear h;subst h';refine aG ?_;simp only[*,go_sem]
  try simp only[Int.ofNat_lt] at p
  refine aM hJ ak ?_;refine aR hJ ?_;refine ah hJ ?_;apply aa _;have h':=Option.some.inj h;clear h;subst h';have h:=True.intro;have X:=dF (n:=i10) (by have:=u;omega);refine ah hJ ?_;apply aa _;refine ⟨u0.length - (i10+1),ai,_,Le.sub (List.Sublist.refl _),i10+1,f,k,rfl,ai,e,rfl,?_⟩;simp only[*,go_sem,-h]
 have Y:=Nat.not_lt.2 q;refine aM hJ ak ?_;rw[List.drop_eq_nil_of_le q] at a;have h':=Option.some.inj a;clear a h;subst h';have h:=g;dsimp only[aH] at h;refine bI ?_;simp only[go_sem];refine af hJ ?_;refine ah hJ ?_;apply aa _;have h':=Option.some.inj h;clear h;subst h';refine aG ?_;simp only[*,go_sem]
def s9 (st:(Int×Int)):Option (Fl (Int×Int) Int):=
 cond (decide (0<st.1)) (some (.nx ((e7 st.1 (IntKind.u64.wrap (st.1 - 1))),(IntKind.i64.wrap (st.2+1))))) (some (.bk (st.1,st.2)))
def nJ (u0:Int):Option Int:=
 ax (bg (s9) fu (u0,0)) fun o=>aH o (fun a=>some a.2) (fun _ _=>none) (fun r=>some r)
theorem yR {ro:Addr->Option Value}(u0:Int){r:Int}(h:nJ u0=some r):aF Tryz.prog 58 #[.int .u64 u0] ⟨ro,[]⟩ (fun v _=>v= .int .i64 r):=by
 unfold nJ at h;refine aF.go Tryz.func58 rfl Tryz.ntmps58 Tryz.results58 aB fun main J hJ A i hd hs=>?_;have j:=hs 0;clear hs;refine af hJ ?_;refine ah hJ ?_;apply aa _;refine af hJ ?_;refine ah hJ ?_;apply aa _;refine af hJ ?_;refine aY hJ ?_;have h':=an h;clear h;obtain ⟨k,a,l⟩:=h';have h:=True.intro;refine bO hJ [0,3,4,5,6,7,8,9,10,11] (fun m g F'=>∃(v1:Int) (v2:Int),bg (s9) m (v1,v2)=some k/\F'=⟨ro,[]⟩/\slot g 0= .int .u64 v1/\slot g 3= .int .i64 v2) fu ?_ ?_
 .refine ⟨u0,0,a,rfl,?_⟩;simp only[*,go_sem,-h]
 rintro c d F' b ⟨v1,v2,a,rfl,n,o⟩;have h:=True.intro;have p:sz d=13:=by rw[b.size];simp only[*,go_sem,-h]
 have q:d.defers=[]:=by rw[b.defers];simp only[*,go_sem,-h]
 have s:slot d 2= .int .i64 0:=by rw[b.ay 2 av];simp only[*,go_sem,-h]
 clear b i hd j;obtain _|c:=c
 .exact absurd a (by simp only[bg,reduceCtorEq,not_false_eq_true])
 have h':=an a;clear a h;obtain ⟨t,h,e⟩:=h';unfold s9 at h;try dsimp only at h
 refine af hJ ?_;refine af hJ ?_;refine ah hJ ?_;apply aa _;have h':=aD h;clear h;rcases h' with ⟨f,h⟩|⟨f,h⟩
 .try simp only[Int.ofNat_lt] at f
  refine aN hJ ak ?_;refine aR hJ ?_;refine af hJ ?_;refine aY hJ ?_;refine ah hJ ?_;apply aa _;refine ah hJ ?_;apply aa _;have h':=Option.some.inj h;clear h;subst h';have h:=True.intro;try apply aa _
  refine ⟨c,Nat.lt_succ_self _,_,Le.sub (List.Sublist.refl _),(e7 v1 (IntKind.u64.wrap (v1 - 1))),(IntKind.i64.wrap (v2+1)),e,rfl,?_⟩;simp only[*,go_sem,-h]
 try simp only[Int.ofNat_lt] at f
 refine aM hJ ak ?_;refine bI ?_;simp only[go_sem];have h':=Option.some.inj h;clear h;subst h';have h':=Option.some.inj e;clear e;subst h';have h:=l;dsimp only[aH] at h;refine af hJ ?_;refine ah hJ ?_;apply aa _;have h':=Option.some.inj h;clear h;subst h';refine aG ?_;simp only[*,go_sem]
def tc (i9:Nat)(a:Int)(st:Int):Option (Fl Int Int):=
 ax (ji 1 a) fun b=>some (.nx (sJ st b))
def td (u0:(List Int)):Option Int:=
 ax (b7 (tc) 0 u0 0) fun o=>aH o (fun a=>some a) (fun _ _=>none) (fun r=>some r)
theorem Dw {ro:Addr->Option Value}(u0:(List Int)){s1:Value}(k:aI rI ro s1 u0){r:Int}(h:td u0=some r):aF Tryz.prog 117 #[s1] ⟨ro,[]⟩ (fun v _=>v= .int .u64 r):=by
 obtain ⟨d3,c4,rfl,G,l,o⟩:=id k;unfold td at h;refine aF.go Tryz.func117 rfl Tryz.ntmps117 Tryz.results117 aB fun main J hJ A p hd hs=>?_;have q:=hs 0;clear hs;refine af hJ ?_;refine ah hJ ?_;apply aa _;refine af hJ ?_;refine ah hJ ?_;apply aa _;refine af hJ ?_;refine af hJ ?_;refine ah hJ ?_;apply aa _;refine aY hJ ?_;have h':=an h;clear h;obtain ⟨s,a,t⟩:=h';have h:=True.intro;refine bO hJ [3,5,8,9,10,11,12,13,14,15,16] (fun m f F'=>∃(i9:Nat) (d:Int),m=u0.length - i9/\i9<=u0.length/\b7 (tc) i9 (u0.drop i9) d=some s/\F'=⟨ro,[]⟩/\slot f 8= .int .i64 (i9:Int)/\slot f 3= .int .u64 d) u0.length ?_ ?_
 .refine ⟨0,0,(Nat.sub_zero _).symm,Nat.zero_le _,a,rfl,?_⟩;simp only[*,go_sem,-h]
 rintro H c F' b ⟨i9,d,rfl,I,a,rfl,K,L⟩;have h:=True.intro;have M:sz c=18:=by rw[b.size];simp only[*,go_sem,-h]
 have N:c.defers=[]:=by rw[b.defers];simp only[*,go_sem,-h]
 have O:slot c 2= .int .u64 0:=by rw[b.ay 2 av];simp only[*,go_sem,-h]
 have P:slot c 6= .slice d3 u0.length c4:=by rw[b.ay 6 av];simp only[*,go_sem,-h]
 have Q:slot c 7= .int .i64 (u0.length:Int):=by rw[b.ay 7 av];simp only[*,go_sem,-h]
 clear b p hd q;refine af hJ ?_;refine ah hJ ?_;apply aa _;refine af hJ ?_;rcases Nat.lt_or_ge i9 u0.length with u|g
 .refine aN hJ ak ?_;refine aR hJ ?_;obtain ⟨w,e⟩:∃x,u0[i9]?=some x:=⟨_,List.getElem?_eq_getElem u⟩
  rw[er e] at a;have h':=an a;clear a h;obtain ⟨R,h,y⟩:=h';unfold tc at h;try dsimp only at h
  obtain ⟨S,z,B,C,i⟩:=o _ _ e;obtain rfl:z=[.int .i64 w]:=C;cases B;have D:=i 0 _ rfl;simp only[go_sem] at D;clear i e;refine af hJ ?_;refine aY hJ ?_;refine af hJ ?_;refine ah hJ ?_;apply aa _;refine ah hJ ?_;have h':=an h;clear h;obtain ⟨E,j,h⟩:=h';obtain ⟨T,F⟩:=lq j;clear j;try simp only[go_sem] at F
  try apply aa _
  have h':=Option.some.inj h;clear h;subst h';have h:=True.intro;have U:=dF (n:=i9) (by have:=l;omega);refine ah hJ ?_;apply aa _;refine ⟨u0.length - (i9+1),ai,_,Le.sub (List.Sublist.refl _),i9+1,(sJ d E),rfl,ai,y,rfl,?_⟩;simp only[*,go_sem,-h]
 have V:=Nat.not_lt.2 g;refine aM hJ ak ?_;rw[List.drop_eq_nil_of_le g] at a;have h':=Option.some.inj a;clear a h;subst h';have h:=t;dsimp only[aH] at h;refine bI ?_;simp only[go_sem];refine af hJ ?_;refine ah hJ ?_;apply aa _;have h':=Option.some.inj h;clear h;subst h';refine aG ?_;simp only[*,go_sem]
def pU (u0:Int):Option Bool:=
 cond (decide (97<=u0)) (some (decide (u0<=122))) (some false)
theorem Dx {ro:Addr->Option Value}(u0:Int){r:Bool}(h:pU u0=some r):aF Tryz.prog 223 #[.int .u8 u0] ⟨ro,[]⟩ (fun v _=>v= .bool r):=by
 unfold pU at h;refine aF.go Tryz.func223 rfl Tryz.ntmps223 Tryz.results223 aB fun main J hJ A b hd hs=>?_;have c:=hs 0;clear hs;refine af hJ ?_;refine ah hJ ?_;apply aa _;refine af hJ ?_;refine ah hJ ?_;have h':=aD h;clear h;rcases h' with ⟨a,h⟩|⟨a,h⟩
 .try simp only[Int.ofNat_lt] at a
  try apply aa _
  have h':=Option.some.inj h;clear h;subst h';refine aG ?_;simp only[*,go_sem]
 try simp only[Int.ofNat_lt] at a
 try apply aa _
 have h':=Option.some.inj h;clear h;subst h';refine aG ?_;simp only[*,go_sem]
def lN (u0:(List UInt8))(st:(Bool×Int)):Option (Fl (Bool×Int) Bool):=
 cond (decide (st.2<((u0).length:Int))) (ax (lz u0 st.2) fun a=>ax (pU a) fun b=>cond (!b) (cond ((st.2==0)) (some (.rt false)) (cond (decide (a<48)) (some (.rt false)) (cond (decide (57<a)) (some (.rt false)) (some (.nx (st.1,(IntKind.i64.wrap (st.2+1)))))))) (some (.nx (st.1,(IntKind.i64.wrap (st.2+1)))))) (some (.bk (st.1,st.2)))
def lO (u0:(List UInt8)):Option Bool:=
 ax (bg (lN u0) fu (false,0)) fun o=>aH o (fun b=>ax (ff ((u0).length:Int) 1 12) fun a=>some a) (fun _ _=>none) (fun r=>some r)
theorem yS {ro:Addr->Option Value}(u0:(List UInt8)){r:Bool}(h:lO u0=some r):aF Tryz.prog 219 #[.string ⟨⟨u0⟩⟩] ⟨ro,[]⟩ (fun v _=>v= .bool r):=by
 unfold lO at h;refine aF.go Tryz.func219 rfl Tryz.ntmps219 Tryz.results219 aB fun main J hJ A p hd hs=>?_;have q:=hs 0;clear hs;refine af hJ ?_;refine ah hJ ?_;apply aa _;refine af hJ ?_;refine ah hJ ?_;apply aa _;refine af hJ ?_;refine af hJ ?_;refine ah hJ ?_;apply aa _;refine aY hJ ?_;have h':=an h;clear h;obtain ⟨s,c,e⟩:=h';have h:=True.intro;refine bO hJ [2,4,5,8,9,10,11,12,13,14,15,16,17,18,19,20,21,22,23,24,25,26,27,28,29,30] (fun m n F'=>∃(v1:Bool) (v2:Int),bg (lN u0) m (v1,v2)=some s/\F'=⟨ro,[]⟩/\slot n 2= .bool v1/\slot n 8= .int .i64 v2) fu ?_ ?_
 .refine ⟨false,0,c,rfl,?_⟩;simp only[*,go_sem,-h]
 rintro f d F' b ⟨v1,v2,c,rfl,y,z⟩;have h:=True.intro;have B:sz d=34:=by rw[b.size];simp only[*,go_sem,-h]
 have C:d.defers=[]:=by rw[b.defers];simp only[*,go_sem,-h]
 have D:slot d 0= .string ⟨⟨u0⟩⟩:=by rw[b.ay 0 av];simp only[*,go_sem,-h]
 have E:slot d 3= .func (.func 223) #[] #[]:=by rw[b.ay 3 av];simp only[*,go_sem,-h]
 have F:slot d 7= .int .i64 ((u0).length:Int):=by rw[b.ay 7 av];simp only[*,go_sem,-h]
 clear b p hd q;obtain _|f:=f
 .exact absurd c (by simp only[bg,reduceCtorEq,not_false_eq_true])
 have h':=an c;clear c h;obtain ⟨G,h,a⟩:=h';unfold lN at h;try dsimp only at h
 refine af hJ ?_;refine ah hJ ?_;apply aa _;refine af hJ ?_;have h':=aD h;clear h;rcases h' with ⟨g,h⟩|⟨g,h⟩
 .try simp only[Int.ofNat_lt] at g
  refine aN hJ ak ?_;refine aR hJ ?_;refine af hJ ?_;refine aY hJ ?_;refine af hJ ?_;refine ah hJ ?_;apply aa _;refine af hJ ?_;refine ah hJ ?_;have h':=an h;clear h;obtain ⟨t,o,h⟩:=h';obtain ⟨H,I,u,K⟩:=xZ o;try simp only[go_sem] at u
  clear o;try apply aa _
  refine af hJ ?_;refine ah hJ ?_;have h':=an h;clear h;obtain ⟨L,w,h⟩:=h';apply aa _;refine bp hJ _ (Dx t w) (aS ?_);have h':=aD h;clear h;rcases h' with ⟨i,h⟩|⟨i,h⟩
  ·(try simp only[Int.ofNat_lt] at i);have h':=aD h;clear h;rcases h' with ⟨j,h⟩|⟨j,h⟩
   ·(try simp only[Int.ofNat_lt] at j);(try apply aa _);refine aN hJ ak ?_;refine af hJ ?_;refine ah hJ ?_;apply aa _;have h':=Option.some.inj h;clear h;subst h';have h':=Option.some.inj a;clear a;subst h';have h:=e;dsimp only[aH] at h;have h':=Option.some.inj h;clear h;subst h';refine aG ?_;simp only[*,go_sem]
   (try simp only[Int.ofNat_lt] at j);have h':=aD h;clear h;rcases h' with ⟨k,h⟩|⟨k,h⟩
   ·(try simp only[Int.ofNat_lt] at k);(try apply aa _);refine aN hJ ak ?_;refine af hJ ?_;refine ah hJ ?_;apply aa _;have h':=Option.some.inj h;clear h;subst h';have h':=Option.some.inj a;clear a;subst h';have h:=e;dsimp only[aH] at h;have h':=Option.some.inj h;clear h;subst h';refine aG ?_;simp only[*,go_sem]
   (try simp only[Int.ofNat_lt] at k);(try apply aa _);have h':=aD h;clear h;rcases h' with ⟨l,h⟩|⟨l,h⟩
   ·(try simp only[Int.ofNat_lt] at l);refine aN hJ ak ?_;refine af hJ ?_;refine ah hJ ?_;apply aa _;have h':=Option.some.inj h;clear h;subst h';have h':=Option.some.inj a;clear a;subst h';have h:=e;dsimp only[aH] at h;have h':=Option.some.inj h;clear h;subst h';refine aG ?_;simp only[*,go_sem]
   (try simp only[Int.ofNat_lt] at l);refine aM hJ ak ?_;refine aR hJ ?_;refine ah hJ ?_;apply aa _;have h':=Option.some.inj h;clear h;subst h';have h:=True.intro;(try apply aa _);refine ⟨f,Nat.lt_succ_self _,_,Le.sub (List.Sublist.refl _),v1,(IntKind.i64.wrap (v2+1)),a,rfl,?_⟩;simp only[*,go_sem,-h]
  try simp only[Int.ofNat_lt] at i
  try apply aa _
  refine aM hJ ak ?_;refine aR hJ ?_;refine ah hJ ?_;apply aa _;have h':=Option.some.inj h;clear h;subst h';have h:=True.intro;try apply aa _
  refine ⟨f,Nat.lt_succ_self _,_,Le.sub (List.Sublist.refl _),v1,(IntKind.i64.wrap (v2+1)),a,rfl,?_⟩;simp only[*,go_sem,-h]
 try simp only[Int.ofNat_lt] at g
 refine aM hJ ak ?_;refine bI ?_;simp only[go_sem];have h':=Option.some.inj h;clear h;subst h';have h':=Option.some.inj a;clear a;subst h';have h:=e;dsimp only[aH] at h;refine af hJ ?_;refine ah hJ ?_;have h':=an h;clear h;obtain ⟨M,x,h⟩:=h';apply aa _;refine bp hJ _ (gC ((u0).length:Int) 1 12 x) (aS ?_);try apply aa _
 have h':=Option.some.inj h;clear h;subst h';refine aG ?_;simp only[*,go_sem]
def gD (u0:Int)(a:Int)(b:Int):Option Bool:=
 cond (decide (a<=u0)) (some (decide (u0<=b))) (some false)
theorem iL {ro:Addr->Option Value}(u0:Int)(b:Int)(c:Int){r:Bool}(h:gD u0 b c=some r):aF Tryz.prog 61 #[.int .i64 u0,.int .i64 b,.int .i64 c] ⟨ro,[]⟩ (fun v _=>v= .bool r):=by
 unfold gD at h;refine aF.go Tryz.func61 rfl Tryz.ntmps61 Tryz.results61 aB fun main J hJ A d hd hs=>?_;have e:=hs 0;have k1:=hs 1;have f:=hs 2;clear hs;refine af hJ ?_;refine ah hJ ?_;apply aa _;refine af hJ ?_;refine ah hJ ?_;have h':=aD h;clear h;rcases h' with ⟨a,h⟩|⟨a,h⟩
 .try simp only[Int.ofNat_lt] at a
  try apply aa _
  have h':=Option.some.inj h;clear h;subst h';refine aG ?_;simp only[*,go_sem]
 try simp only[Int.ofNat_lt] at a
 try apply aa _
 have h':=Option.some.inj h;clear h;subst h';refine aG ?_;simp only[*,go_sem]
def lP (u0:(List UInt8))(st:(Bool×Int)):Option (Fl (Bool×Int) Bool):=
 cond (decide (st.2<((u0).length:Int))) (ax (lz u0 st.2) fun a=>ax (gD (IntKind.i64.wrap a) 97 122) fun b=>cond (!b) (cond ((st.2==0)) (some (.rt false)) (ax (gD (IntKind.i64.wrap a) 48 57) fun c=>cond (!c) (some (.rt false)) (some (.nx (st.1,(IntKind.i64.wrap (st.2+1))))))) (some (.nx (st.1,(IntKind.i64.wrap (st.2+1)))))) (some (.bk (st.1,st.2)))
def lQ (u0:(List UInt8)):Option Bool:=
 ax (bg (lP u0) fu (false,0)) fun o=>aH o (fun b=>ax (gD ((u0).length:Int) 1 12) fun a=>some a) (fun _ _=>none) (fun r=>some r)
theorem yT {ro:Addr->Option Value}(u0:(List UInt8)){r:Bool}(h:lQ u0=some r):aF Tryz.prog 62 #[.string ⟨⟨u0⟩⟩] ⟨ro,[]⟩ (fun v _=>v= .bool r):=by
 unfold lQ at h;refine aF.go Tryz.func62 rfl Tryz.ntmps62 Tryz.results62 aB fun main J hJ A p hd hs=>?_;have q:=hs 0;clear hs;refine af hJ ?_;refine ah hJ ?_;apply aa _;refine af hJ ?_;refine af hJ ?_;refine ah hJ ?_;apply aa _;refine aY hJ ?_;have h':=an h;clear h;obtain ⟨s,b,e⟩:=h';have h:=True.intro;refine bO hJ [2,3,4,5,6,7,8,9,10,11,12,13,14,15,16,17,18,19,20,21,22,23,24,25,26,27] (fun m l F'=>∃(v1:Bool) (v2:Int),bg (lP u0) m (v1,v2)=some s/\F'=⟨ro,[]⟩/\slot l 2= .bool v1/\slot l 3= .int .i64 v2) fu ?_ ?_
 .refine ⟨false,0,b,rfl,?_⟩;simp only[*,go_sem,-h]
 rintro c f F' d ⟨v1,v2,b,rfl,y,z⟩;have h:=True.intro;have B:sz f=31:=by rw[d.size];simp only[*,go_sem,-h]
 have C:f.defers=[]:=by rw[d.defers];simp only[*,go_sem,-h]
 have D:slot f 0= .string ⟨⟨u0⟩⟩:=by rw[d.ay 0 av];simp only[*,go_sem,-h]
 clear d p hd q;obtain _|c:=c
 .exact absurd b (by simp only[bg,reduceCtorEq,not_false_eq_true])
 have h':=an b;clear b h;obtain ⟨E,h,a⟩:=h';unfold lP at h;try dsimp only at h
 refine af hJ ?_;refine af hJ ?_;refine ah hJ ?_;apply aa _;have h':=aD h;clear h;rcases h' with ⟨g,h⟩|⟨g,h⟩
 .try simp only[Int.ofNat_lt] at g
  refine aN hJ ak ?_;refine aR hJ ?_;refine af hJ ?_;refine aY hJ ?_;refine af hJ ?_;refine ah hJ ?_;have h':=an h;clear h;obtain ⟨n,o,h⟩:=h';obtain ⟨F,G,t,H⟩:=xZ o;try simp only[go_sem] at t
  clear o;have h':=an h;clear h;obtain ⟨I,u,h⟩:=h';try apply aa _
  refine bp hJ _ (iL (IntKind.i64.wrap n) 97 122 u) (aS ?_);have h':=aD h;clear h;rcases h' with ⟨i,h⟩|⟨i,h⟩
  ·(try simp only[Int.ofNat_lt] at i);have h':=aD h;clear h;rcases h' with ⟨j,h⟩|⟨j,h⟩
   ·(try simp only[Int.ofNat_lt] at j);(try apply aa _);refine aN hJ ak ?_;refine af hJ ?_;refine ah hJ ?_;apply aa _;have h':=Option.some.inj h;clear h;subst h';have h':=Option.some.inj a;clear a;subst h';have h:=e;dsimp only[aH] at h;have h':=Option.some.inj h;clear h;subst h';refine aG ?_;simp only[*,go_sem]
   (try simp only[Int.ofNat_lt] at j);have h':=an h;clear h;obtain ⟨K,w,h⟩:=h';(try apply aa _);refine bp hJ _ (iL (IntKind.i64.wrap n) 48 57 w) (aS ?_);(try apply aa _);have h':=aD h;clear h;rcases h' with ⟨k,h⟩|⟨k,h⟩
   ·(try simp only[Int.ofNat_lt] at k);refine aN hJ ak ?_;refine af hJ ?_;refine ah hJ ?_;apply aa _;have h':=Option.some.inj h;clear h;subst h';have h':=Option.some.inj a;clear a;subst h';have h:=e;dsimp only[aH] at h;have h':=Option.some.inj h;clear h;subst h';refine aG ?_;simp only[*,go_sem]
   (try simp only[Int.ofNat_lt] at k);refine aM hJ ak ?_;refine aR hJ ?_;refine ah hJ ?_;apply aa _;have h':=Option.some.inj h;clear h;subst h';have h:=True.intro;(try apply aa _);refine ⟨c,Nat.lt_succ_self _,_,Le.sub (List.Sublist.refl _),v1,(IntKind.i64.wrap (v2+1)),a,rfl,?_⟩;simp only[*,go_sem,-h]
  try simp only[Int.ofNat_lt] at i
  try apply aa _
  refine aM hJ ak ?_;refine aR hJ ?_;refine ah hJ ?_;apply aa _;have h':=Option.some.inj h;clear h;subst h';have h:=True.intro;try apply aa _
  refine ⟨c,Nat.lt_succ_self _,_,Le.sub (List.Sublist.refl _),v1,(IntKind.i64.wrap (v2+1)),a,rfl,?_⟩;simp only[*,go_sem,-h]
 try simp only[Int.ofNat_lt] at g
 refine aM hJ ak ?_;refine bI ?_;simp only[go_sem];have h':=Option.some.inj h;clear h;subst h';have h':=Option.some.inj a;clear a;subst h';have h:=e;dsimp only[aH] at h;refine af hJ ?_;refine ah hJ ?_;have h':=an h;clear h;obtain ⟨L,x,h⟩:=h';apply aa _;refine bp hJ _ (iL ((u0).length:Int) 1 12 x) (aS ?_);try apply aa _
 have h':=Option.some.inj h;clear h;subst h';refine aG ?_;simp only[*,go_sem]
def lR (u0:bU)(a:Int)(b:Int):Option Bool:=
 cond (decide (a<=u0.low)) (cond (decide (u0.low<=u0.high)) (some (decide (u0.high<=b))) (some false)) (some false)
theorem yU {ro:Addr->Option Value}(u0:bU)(c:Int)(d:Int){r:Bool}(h:lR u0 c d=some r):aF Tryz.prog 63 #[.agg #[.int .i64 u0.low,.int .i64 u0.high],.int .i64 c,.int .i64 d] ⟨ro,[]⟩ (fun v _=>v= .bool r):=by
 unfold lR at h;refine aF.go Tryz.func63 rfl Tryz.ntmps63 Tryz.results63 aB fun main J hJ A e hd hs=>?_;have f:=hs 0;have k1:=hs 1;have g:=hs 2;clear hs;refine af hJ ?_;refine ah hJ ?_;apply aa _;intro i f1;have r1:=aV f1;have n1:=aW f1;try simp only[aQ] at n1
 try apply aa _
 refine af hJ ?_;refine ah hJ ?_;have h':=aD h;clear h;rcases h' with ⟨a,h⟩|⟨a,h⟩
 .try simp only[Int.ofNat_lt] at a
  have h':=aD h;clear h;rcases h' with ⟨b,h⟩|⟨b,h⟩
  ·(try simp only[Int.ofNat_lt] at b);(try apply aa _);have h':=Option.some.inj h;clear h;subst h';refine aG ?_;simp only[*,go_sem]
  try simp only[Int.ofNat_lt] at b
  try apply aa _
  have h':=Option.some.inj h;clear h;subst h';refine aG ?_;simp only[*,go_sem]
 try simp only[Int.ofNat_lt] at a
 try apply aa _
 have h':=Option.some.inj h;clear h;subst h';refine aG ?_;simp only[*,go_sem]
def jM (u0:bU):Option Int:=
 some (IntKind.i64.wrap ((IntKind.i64.wrap (u0.high - u0.low))+1))
theorem pV {ro:Addr->Option Value}(u0:bU){r:Int}(h:jM u0=some r):aF Tryz.prog 64 #[.agg #[.int .i64 u0.low,.int .i64 u0.high]] ⟨ro,[]⟩ (fun v _=>v= .int .i64 r):=by
 unfold jM at h;refine aF.go Tryz.func64 rfl Tryz.ntmps64 Tryz.results64 aB fun main J hJ A a hd hs=>?_;have b:=hs 0;clear hs;refine af hJ ?_;refine ah hJ ?_;apply aa _;intro c f1;have r1:=aV f1;have n1:=aW f1;try simp only[aQ] at n1
 try apply aa _
 refine af hJ ?_;refine ah hJ ?_;apply aa _;have h':=Option.some.inj h;clear h;subst h';refine aG ?_;simp only[*,go_sem]
end Go.Proofs.YtcoalekambhghaaGreatDoor
end
section
namespace Go.Sep
open Go Go.Conc
def bX:Code->Code
 | .seq _ b=>b
 |c=>c
theorem bP.cut {l:List (Nat×Obj)}(h:bP (keys l))(i n:Nat):bP (keys (l.take i++l.drop (i+n))):=
 ⟨(((List.Sublist.append_left (show (l.drop (i+n)).Sublist (l.drop i) by rw[<-List.drop_drop];exact List.drop_sublist _ _) (l.take i)).trans (by rw[List.take_append_drop];exact List.Sublist.refl _)).map _).nodup h.nd⟩
theorem aI.oc {T:Type}{r:cg T}{ro:Addr->Option Value}{s:Value}{l:List T}(h:aI r ro s l):eX s=true:=by
 obtain ⟨_,_,e,_⟩:=h;rw[e];rfl
section
variable {P:Program}{main:Bool}{J:Goroutine->ag->Prop}{Q:Ex->Act->ag->Prop}{a:Act}{F:ag}
theorem cq.pick {ws:List Nat}{A a:Act}(h:cq ws A a)(L:List Nat)(b:(L.all fun i=>!gx ws i)=true):sz A=sz a/\A.defers=a.defers/\∀i∈L,slot A i=slot a i:=
 ⟨h.size,h.defers,fun i hi=>h.ay i fun x=>by
  have c:=List.all_eq_true.1 b i hi
  have d:gx ws i=true:=by
   unfold In at x
   exact x
  simp[d] at c⟩
end
end Go.Sep
end
section
namespace Go.Proofs.YtcoalekambhghaaGreatDoor
open Go Go.Sep Go.Proofs
set_option maxRecDepth 100000
set_option maxHeartbeats 4000000
def lS (u0:Int):Option Bool:=
 some (u0 != u0)
theorem pW {ro:Addr->Option Value}(u0:Int){r:Bool}(h:lS u0=some r):aF Tryz.prog 194 #[.int .i64 u0] ⟨ro,[]⟩ (fun v _=>v= .bool r):=by
 unfold lS at h;refine aF.go Tryz.func194 rfl Tryz.ntmps194 Tryz.results194 aB fun main J hJ A a hd hs=>?_;have b:=hs 0;clear hs;refine af hJ ?_;refine ah hJ ?_;apply aa _;refine af hJ ?_;refine ah hJ ?_;apply aa _;have h':=Option.some.inj h;clear h;subst h';refine aG ?_;simp only[*,go_sem]
def tf (u0:Int)(a:Int):Option Int:=
 ax (lS u0) fun x1=>ax (lS a) fun x3=>cond (x1) (cond (x3) (some 0) (some (-1))) (cond (x3) (some 1) (cond (decide (u0<a)) (some (-1)) (cond (decide (a<u0)) (some 1) (some 0))))
theorem Dy {ro:Addr->Option Value}(u0:Int)(a:Int){r:Int}(h:tf u0 a=some r):aF Tryz.prog 177 #[.int .i64 u0,.int .i64 a] ⟨ro,[]⟩ (fun v _=>v= .int .i64 r):=by
 unfold tf at h;refine aF.go Tryz.func177 rfl Tryz.ntmps177 Tryz.results177 aB fun main J hJ A j hd hs=>?_;have k:=hs 0;have k1:=hs 1;clear hs;refine af hJ ?_;refine ah hJ ?_;apply aa _;refine af hJ ?_;refine ah hJ ?_;have h':=an h;clear h;obtain ⟨x1,g,h⟩:=h';apply aa _;refine bp hJ _ (pW u0 g) (aS ?_);try apply aa _
 refine af hJ ?_;refine ah hJ ?_;have h':=an h;clear h;obtain ⟨x3,i,h⟩:=h';apply aa _;refine bp hJ _ (pW a i) (aS ?_);try apply aa _
 refine af hJ ?_;refine af hJ ?_;refine ah hJ ?_;apply aa _;have h':=aD h;clear h;rcases h' with ⟨b,h⟩|⟨b,h⟩
 .try simp only[Int.ofNat_lt] at b
  refine aN hJ ak ?_;refine af hJ ?_;refine af hJ ?_;refine ah hJ ?_;apply aa _;have h':=aD h;clear h;rcases h' with ⟨c,h⟩|⟨c,h⟩
  ·(try simp only[Int.ofNat_lt] at c);refine aN hJ ak ?_;refine af hJ ?_;refine ah hJ ?_;apply aa _;have h':=Option.some.inj h;clear h;subst h';refine aG ?_;simp only[*,go_sem]
  try simp only[Int.ofNat_lt] at c
  refine aM hJ ak ?_;refine aR hJ ?_;refine af hJ ?_;refine ah hJ ?_;apply aa _;have h':=Option.some.inj h;clear h;subst h';refine aG ?_;simp only[*,go_sem]
 try simp only[Int.ofNat_lt] at b
 refine aM hJ ak ?_;refine aR hJ ?_;refine af hJ ?_;refine af hJ ?_;refine ah hJ ?_;apply aa _;have h':=aD h;clear h;rcases h' with ⟨d,h⟩|⟨d,h⟩
 .try simp only[Int.ofNat_lt] at d
  refine aN hJ ak ?_;refine af hJ ?_;refine ah hJ ?_;apply aa _;have h':=Option.some.inj h;clear h;subst h';refine aG ?_;simp only[*,go_sem]
 try simp only[Int.ofNat_lt] at d
 refine aM hJ ak ?_;refine aR hJ ?_;refine af hJ ?_;refine af hJ ?_;refine ah hJ ?_;apply aa _;have h':=aD h;clear h;rcases h' with ⟨e,h⟩|⟨e,h⟩
 .try simp only[Int.ofNat_lt] at e
  refine aN hJ ak ?_;refine af hJ ?_;refine ah hJ ?_;apply aa _;have h':=Option.some.inj h;clear h;subst h';refine aG ?_;simp only[*,go_sem]
 try simp only[Int.ofNat_lt] at e
 refine aM hJ ak ?_;refine aR hJ ?_;refine af hJ ?_;refine af hJ ?_;refine ah hJ ?_;apply aa _;have h':=aD h;clear h;rcases h' with ⟨f,h⟩|⟨f,h⟩
 .try simp only[Int.ofNat_lt] at f
  refine aN hJ ak ?_;refine af hJ ?_;refine ah hJ ?_;apply aa _;have h':=Option.some.inj h;clear h;subst h';refine aG ?_;simp only[*,go_sem]
 try simp only[Int.ofNat_lt] at f
 refine aM hJ ak ?_;refine aR hJ ?_;refine af hJ ?_;refine ah hJ ?_;apply aa _;have h':=Option.some.inj h;clear h;subst h';refine aG ?_;simp only[*,go_sem]
def tg (a:(List Int))(i16:Nat)(c:Int)(st:Int):Option (Fl Int Int):=
 cond (decide ((a.length:Int)<=(i16:Int))) (some (.rt 1)) (ax (bM a (i16:Int)) fun d=>ax (tf c d) fun b=>cond ((b != 0)) (some (.rt b)) (some (.nx st)))
def th (u0:(List Int))(a:(List Int)):Option Int:=
 ax (b7 (tg a) 0 u0 0) fun o=>aH o (fun b=>cond (decide ((u0.length:Int)<(a.length:Int))) (some (-1)) (some 0)) (fun _ _=>none) (fun r=>some r)
theorem Dz {ro:Addr->Option Value}(u0:(List Int)){s1:Value}(z:aI rI ro s1 u0)(e:(List Int)){o:Value}(B:aI rI ro o e){r:Int}(h:th u0 e=some r):aF Tryz.prog 159 #[s1,o] ⟨ro,[]⟩ (fun v _=>v= .int .i64 r):=by
 obtain ⟨d3,c4,rfl,V,C,D⟩:=id z;obtain ⟨d10,E,rfl,W,X,F⟩:=id B;unfold th at h;refine aF.go Tryz.func159 rfl Tryz.ntmps159 Tryz.results159 aB fun main J hJ A G hd hs=>?_;have H:=hs 0;have k1:=hs 1;clear hs;refine af hJ ?_;refine ah hJ ?_;apply aa _;refine af hJ ?_;refine af hJ ?_;refine ah hJ ?_;apply aa _;refine aY hJ ?_;have h':=an h;clear h;obtain ⟨I,a,g⟩:=h';have h:=True.intro;refine bO hJ [4,5,6,7,8,11,12,13,14,15,16,17,18,19,20,21,22,23,24,25,26,27,28,29,30] (fun m p F'=>∃(i16:Nat) (f:Int),m=u0.length - i16/\i16<=u0.length/\b7 (tg e) i16 (u0.drop i16) f=some I/\F'=⟨ro,[]⟩/\slot p 11= .int .i64 (i16:Int)/\slot p 4= .int .i64 f) u0.length ?_ ?_
 .refine ⟨0,0,(Nat.sub_zero _).symm,Nat.zero_le _,a,rfl,?_⟩;simp only[*,go_sem,-h]
 rintro Y c F' b ⟨i16,f,rfl,Z,a,rfl,ab,ad⟩;have h:=True.intro;have ae:sz c=36:=by rw[b.size];simp only[*,go_sem,-h]
 have al:c.defers=[]:=by rw[b.defers];simp only[*,go_sem,-h]
 have ao:slot c 0= .slice d3 u0.length c4:=by rw[b.ay 0 av];simp only[*,go_sem,-h]
 have ar:slot c 1= .slice d10 e.length E:=by rw[b.ay 1 av];simp only[*,go_sem,-h]
 have a0:slot c 9= .slice d3 u0.length c4:=by rw[b.ay 9 av];simp only[*,go_sem,-h]
 have a2:slot c 10= .int .i64 (u0.length:Int):=by rw[b.ay 10 av];simp only[*,go_sem,-h]
 clear b G hd H k1;refine af hJ ?_;refine ah hJ ?_;apply aa _;refine af hJ ?_;rcases Nat.lt_or_ge i16 u0.length with K|q
 .refine aN hJ ak ?_;refine aR hJ ?_;obtain ⟨s,i⟩:∃x,u0[i16]?=some x:=⟨_,List.getElem?_eq_getElem K⟩
  rw[er i] at a;have h':=an a;clear a h;obtain ⟨a3,h,d⟩:=h';unfold tg at h;try dsimp only at h
  obtain ⟨a4,L,M,N,t⟩:=D _ _ i;obtain rfl:L=[.int .i64 s]:=N;cases M;have O:=t 0 _ rfl;simp only[go_sem] at O;clear t i;refine af hJ ?_;refine aY hJ ?_;refine af hJ ?_;refine ah hJ ?_;apply aa _;refine af hJ ?_;refine af hJ ?_;refine ah hJ ?_;apply aa _;have h':=aD h;clear h;rcases h' with ⟨j,h⟩|⟨j,h⟩
  ·(try simp only[Int.ofNat_lt] at j);refine aN hJ ak ?_;refine af hJ ?_;refine ah hJ ?_;apply aa _;have h':=Option.some.inj h;clear h;subst h';have h':=Option.some.inj d;clear d;subst h';have h:=g;dsimp only[aH] at h;have h':=Option.some.inj h;clear h;subst h';refine aG ?_;simp only[*,go_sem]
  try simp only[Int.ofNat_lt] at j
  refine aM hJ ak ?_;refine aR hJ ?_;refine af hJ ?_;refine ah hJ ?_;have h':=an h;clear h;obtain ⟨u,P,h⟩:=h';obtain ⟨a5,a6,w⟩:=dc P;obtain ⟨a7,Q,R,S,y⟩:=F _ _ w;obtain rfl:Q=[.int .i64 u]:=S;cases R;have T:=y 0 _ rfl;simp only[go_sem] at T;clear y w;try apply aa _
  refine af hJ ?_;refine ah hJ ?_;have h':=an h;clear h;obtain ⟨a8,U,h⟩:=h';apply aa _;refine bp hJ _ (Dy s u U) (aS ?_);try apply aa _
  refine af hJ ?_;refine ah hJ ?_;apply aa _;have h':=aD h;clear h;rcases h' with ⟨k,h⟩|⟨k,h⟩
  ·(try simp only[Int.ofNat_lt] at k);refine aN hJ ak ?_;refine af hJ ?_;refine ah hJ ?_;apply aa _;have h':=Option.some.inj h;clear h;subst h';have h':=Option.some.inj d;clear d;subst h';have h:=g;dsimp only[aH] at h;have h':=Option.some.inj h;clear h;subst h';refine aG ?_;simp only[*,go_sem]
  try simp only[Int.ofNat_lt] at k
  refine aM hJ ak ?_;refine aR hJ ?_;have h':=Option.some.inj h;clear h;subst h';have h:=True.intro;have a9:=dF (n:=i16) (by have:=C;omega);refine ah hJ ?_;apply aa _;refine ⟨u0.length - (i16+1),ai,_,Le.sub (List.Sublist.refl _),i16+1,f,rfl,ai,d,rfl,?_⟩;simp only[*,go_sem,-h]
 have ba:=Nat.not_lt.2 q;refine aM hJ ak ?_;rw[List.drop_eq_nil_of_le q] at a;have h':=Option.some.inj a;clear a h;subst h';have h:=g;dsimp only[aH] at h;refine bI ?_;simp only[go_sem];refine af hJ ?_;refine af hJ ?_;refine ah hJ ?_;apply aa _;have h':=aD h;clear h;rcases h' with ⟨l,h⟩|⟨l,h⟩
 .try simp only[Int.ofNat_lt] at l
  refine aN hJ ak ?_;refine af hJ ?_;refine ah hJ ?_;apply aa _;have h':=Option.some.inj h;clear h;subst h';refine aG ?_;simp only[*,go_sem]
 try simp only[Int.ofNat_lt] at l
 refine aM hJ ak ?_;refine aR hJ ?_;refine af hJ ?_;refine ah hJ ?_;apply aa _;have h':=Option.some.inj h;clear h;subst h';refine aG ?_;simp only[*,go_sem]
def lT (u0:(List Int))(a:(List Int)):Option Bool:=
 cond (((u0.length:Int) != (a.length:Int))) (some (decide ((u0.length:Int)<(a.length:Int)))) (ax (th u0 a) fun b=>some (decide (b<0)))
theorem DC {ro:Addr->Option Value}(u0:(List Int)){s1:Value}(c:aI rI ro s1 u0)(a:(List Int)){d:Value}(e:aI rI ro d a){r:Bool}(h:lT u0 a=some r):aF Tryz.prog 128 #[s1,d] ⟨ro,[]⟩ (fun v _=>v= .bool r):=by
 obtain ⟨d3,c4,rfl,g,i,j⟩:=id c;obtain ⟨d10,k,rfl,l,m,n⟩:=id e;unfold lT at h;refine aF.go Tryz.func128 rfl Tryz.ntmps128 Tryz.results128 aB fun main J hJ A o hd hs=>?_;have p:=hs 0;have k1:=hs 1;clear hs;refine af hJ ?_;refine ah hJ ?_;apply aa _;refine af hJ ?_;refine af hJ ?_;refine ah hJ ?_;apply aa _;have h':=aD h;clear h;rcases h' with ⟨b,h⟩|⟨b,h⟩
 .try simp only[Int.ofNat_lt] at b
  refine aN hJ ak ?_;refine af hJ ?_;refine ah hJ ?_;apply aa _;have h':=Option.some.inj h;clear h;subst h';refine aG ?_;simp only[*,go_sem]
 try simp only[Int.ofNat_lt] at b
 refine aM hJ ak ?_;refine aR hJ ?_;refine af hJ ?_;refine ah hJ ?_;have h':=an h;clear h;obtain ⟨q,f,h⟩:=h';apply aa _;refine bp hJ _ (Dz u0 (c.mono aZ) a (e.mono aZ) f) (aS ?_);try apply aa _
 have h':=Option.some.inj h;clear h;subst h';refine aG ?_;simp only[*,go_sem]
def tj (u0:Int)(st:((List Int)×Int)):Option (Fl ((List Int)×Int) (List Int)):=
 cond (decide (st.2<4)) (ax (lu u0 st.2) fun a=>cond (((e7 a 1)==1)) (ax (fZ st.1 ([st.2])) fun b=>some (.nx (b,(IntKind.i64.wrap (st.2+1))))) (some (.nx (st.1,(IntKind.i64.wrap (st.2+1)))))) (some (.bk (st.1,st.2)))
def nL (u0:Int):Option (List Int):=
 ax (bg (tj u0) fu (([]:List Int),0)) fun o=>aH o (fun a=>some a.1) (fun _ _=>none) (fun r=>some r)
theorem tn {ro:Addr->Option Value}(u0:Int){r:(List Int)}(h:nL u0=some r):ee Tryz.prog 124 #[.int .u64 u0] ro (fun v aK=>∃o,v=o/\aI rI aK o r):=by
 unfold nL at h;refine aF.go Tryz.func124 rfl Tryz.ntmps124 Tryz.results124 aB fun main J hJ A B hd hs=>?_;have C:=hs 0;clear hs;refine af hJ ?_;refine ah hJ ?_;apply aa _;refine af hJ ?_;refine ah hJ ?_;apply aa _;refine af hJ ?_;refine af hJ ?_;refine ah hJ ?_;apply aa _;refine aY hJ ?_;have h':=an h;clear h;obtain ⟨D,b,E⟩:=h';have h:=True.intro;refine bO hJ [3,4,5,6,7,8,9,10,11,12,13,14,15,16,17] (fun m p F'=>∃(d2:Option Addr) (c3:Nat) (d:List (Nat×Obj)) (v1:(List Int)) (a:Int),bg (tj u0) m (v1,a)=some D/\F'=⟨ro,d⟩/\bx rI ro 3 (.slice d2 v1.length c3) v1 d/\v1.length<=c3/\slot p 3= .slice d2 v1.length c3/\slot p 5= .int .i64 a) fu ?_ ?_
 .refine ⟨none,0,[],([]:List Int),0,b,rfl,bx.nil _ _ _,Nat.le_refl _,?_⟩;simp only[*,go_sem,-h]
 rintro e f F' c ⟨d2,c3,d,v1,a,b,rfl,i,G,W,X⟩;have h:=True.intro;have Y:sz f=19:=by rw[c.size];simp only[*,go_sem,-h]
 have Z:f.defers=[]:=by rw[c.defers];simp only[*,go_sem,-h]
 have ab:slot f 0= .int .u64 u0:=by rw[c.ay 0 av];simp only[*,go_sem,-h]
 have ad:slot f 2= .slice none 0 0:=by rw[c.ay 2 av];simp only[*,go_sem,-h]
 clear c B hd C;obtain _|e:=e
 .exact absurd b (by simp only[bg,reduceCtorEq,not_false_eq_true])
 have h':=an b;clear b h;obtain ⟨ae,h,g⟩:=h';unfold tj at h;try dsimp only at h
 refine af hJ ?_;refine aJ hJ fun al=>?_;refine ah hJ ?_;apply aa _;refine af hJ ?_;have h':=aD h;clear h;rcases h' with ⟨j,h⟩|⟨j,h⟩
 .try simp only[Int.ofNat_lt] at j
  refine aN hJ ak ?_;refine aR hJ ?_;refine af hJ ?_;refine aY hJ ?_;refine af hJ ?_;refine aJ hJ fun ao=>?_;refine ah hJ ?_;apply aa _;refine af hJ ?_;refine aJ hJ fun ar=>?_;refine ah hJ ?_;have h':=an h;clear h;obtain ⟨a0,q,h⟩:=h';obtain ⟨a2,H⟩:=sI q;clear q;try simp only[go_sem] at H
  try apply aa _
  have h':=aD h;clear h;rcases h' with ⟨k,h⟩|⟨k,h⟩
  ·(try simp only[Int.ofNat_lt] at k);refine aN hJ ak ?_;refine aJ hJ fun I=>?_;refine ah hJ ?_;have h':=an h;clear h;obtain ⟨K,L,h⟩:=h';obtain ⟨M,s⟩:=iF L;apply aa _;intro t f22;have N:=aV f22;have u:=aW f22;have O:=bP.cons u I;(try simp only[aQ] at u);(try apply aa _);refine iH (r:=rI) (l:=v1) (x:=a) (cs:=#[.int .i64 a]) (e2:=3) [(t,.cells #[.int .i64 a] 3)] [] (by first|rfl|simp only[bh]|(simp only[bh];rfl)) i O M rfl ak N rfl rfl ga ga kF jJ rfl kG av av (fun a3 w n P Q a4=>?_);simp only[bh] at Q;subst P;rw[<-s] at n;clear s;obtain ⟨d30,R,rfl,S⟩:=n.len;refine ⟨⟨ro,(t,.cells #[.int .i64 a] 3)::w⟩,Le.refl _,?_⟩;refine aS ?_;(try apply aa _);refine aJ hJ fun a5=>?_;refine ah hJ ?_;apply aa _;have h':=Option.some.inj h;clear h;subst h';have h:=True.intro;(try apply aa _);refine ⟨e,Nat.lt_succ_self _,_,Le.sub (List.Sublist.cons _ (List.Sublist.refl _)),d30,R,w,K,(IntKind.i64.wrap (a+1)),g,rfl,n,S,?_⟩;simp only[*,go_sem,-h]
  try simp only[Int.ofNat_lt] at k
  refine aM hJ ak ?_;refine aR hJ ?_;refine aJ hJ fun a6=>?_;refine ah hJ ?_;apply aa _;have h':=Option.some.inj h;clear h;subst h';have h:=True.intro;try apply aa _
  refine ⟨e,Nat.lt_succ_self _,_,Le.sub (List.Sublist.refl _),d2,c3,d,v1,(IntKind.i64.wrap (a+1)),g,rfl,i,G,?_⟩;simp only[*,go_sem,-h]
 try simp only[Int.ofNat_lt] at j
 refine aM hJ ak ?_;refine bI ?_;simp only[go_sem];have h':=Option.some.inj h;clear h;subst h';have h':=Option.some.inj g;clear g;subst h';have h:=E;dsimp only[aH] at h;refine af hJ ?_;refine aJ hJ fun a7=>?_;refine ah hJ ?_;apply aa _;have h':=Option.some.inj h;clear h;subst h';refine aJ hJ fun y=>?_;obtain ⟨T,U,a8,z,V⟩:=i.gA ([]) [] [] (by first|rfl|simp only[bh]|(simp only[bh];rfl)) (by first|rfl|simp only[bh]|(simp only[bh];rfl)) y (aP.nil _);clear y;refine cv (F:=⟨T,[]⟩) hJ V ?_;obtain ⟨a9,ba,bb⟩:=z.op;refine aG ?_;apply bt _;exact ⟨_,U,Le.sub (List.nil_sublist _),_,rfl,z⟩
def nM (u0:((List Int)->(List Int)->Option Bool))(i22:Nat)(a:(List Int))(st:(List Int)):Option (Fl (List Int) (List Int)):=
 ax (u0 a st) fun b=>cond (b) (some (.nx a)) (some (.nx st))
def pX (u0:((List Int)->(List Int)->Option Bool))(a:(List Int))(b:(List (List Int))):Option (List Int):=
 ax (b7 (nM u0) 0 b a) fun o=>aH o (fun c=>some c) (fun _ _=>none) (fun r=>some r)
theorem DD {ro:Addr->Option Value}(u0:((List Int)->(List Int)->Option Bool)){nN:FuncId}{pY pZ:Array Value}(G:aO Tryz.prog nN=true/\∀(aK:Addr->Option Value),Ext ro aK->∀(y0:(List Int)) (p:Value) (q:(List Int)) (s:Value) (z:Bool),aI rI aK p y0->aI rI aK s q->u0 y0 q=some z->aF Tryz.prog nN (pY++#[p,s]++pZ) ⟨aK,[]⟩ (fun v _=>v= .bool z))(j:(List Int)){s1:Value}(t:aI rI ro s1 j)(b:(List (List Int))){u:Value}(H:aI (rL rI) ro u b){r:(List Int)}(h:pX u0 j b=some r):ee Tryz.prog 127 #[.func (.func nN) pY pZ,s1,u] ro (fun v aK=>∃w,v=w/\aI rI aK w r):=by
 obtain ⟨d3,c4,rfl,X,Y,Z⟩:=id t;obtain ⟨d10,I,rfl,ab,y,K⟩:=id H;unfold pX at h;refine aF.go Tryz.func127 rfl Tryz.ntmps127 Tryz.results127 aB fun main J hJ A L hd hs=>?_;have M:=hs 0;have k1:=hs 1;have N:=hs 2;clear hs;refine af hJ ?_;refine ah hJ ?_;apply aa _;refine af hJ ?_;refine af hJ ?_;refine ah hJ ?_;apply aa _;refine aY hJ ?_;have h':=an h;clear h;obtain ⟨O,c,P⟩:=h';have h:=True.intro;refine bO hJ [1,8,11,12,13,14,15,16,17,18,19,20] (fun m B F'=>∃(i22:Nat) (d16:Option Addr) (g:Nat) (d:(List Int)),m=b.length - i22/\i22<=b.length/\b7 (nM u0) i22 (b.drop i22) d=some O/\F'=⟨ro,[]⟩/\aI rI ro (.slice d16 d.length g) d/\slot B 11= .int .i64 (i22:Int)/\slot B 1= .slice d16 d.length g) b.length ?_ ?_
 .refine ⟨0,d3,c4,j,(Nat.sub_zero _).symm,Nat.zero_le _,c,rfl,t,?_⟩;simp only[*,go_sem,-h]
 rintro ad f F' e ⟨i22,d16,g,d,rfl,ae,c,rfl,i,al,ao⟩;have h:=True.intro;obtain ⟨ar,a0,a2⟩:=i.op;have a3:sz f=22:=by rw[e.size];simp only[*,go_sem,-h]
 have a4:f.defers=[]:=by rw[e.defers];simp only[*,go_sem,-h]
 have a5:slot f 0= .func (.func nN) pY pZ:=by rw[e.ay 0 av];simp only[*,go_sem,-h]
 have a6:slot f 6= .slice none 0 0:=by rw[e.ay 6 av];simp only[*,go_sem,-h]
 have a7:slot f 9= .slice d10 b.length I:=by rw[e.ay 9 av];simp only[*,go_sem,-h]
 have a8:slot f 10= .int .i64 (b.length:Int):=by rw[e.ay 10 av];simp only[*,go_sem,-h]
 clear e L hd M k1 N;refine af hJ ?_;refine ah hJ ?_;apply aa _;refine af hJ ?_;rcases Nat.lt_or_ge i22 b.length with Q|C
 .refine aN hJ ak ?_;refine aR hJ ?_;obtain ⟨D,k⟩:∃x,b[i22]?=some x:=⟨_,List.getElem?_eq_getElem Q⟩
  rw[er k] at c;have h':=an c;clear c h;obtain ⟨a9,h,E⟩:=h';unfold nM at h;try dsimp only at h
  obtain ⟨ba,bb,R,S,F⟩:=K _ _ k;obtain ⟨bc,rfl,l⟩:=S;obtain ⟨d31,T,rfl,bd,bj,bk⟩:=id l;cases R;have U:=F 0 _ rfl;simp only[go_sem] at U;clear F k;refine af hJ ?_;refine aY hJ ?_;refine af hJ ?_;refine ah hJ ?_;apply aa _;refine af hJ ?_;refine ah hJ ?_;have h':=an h;clear h;obtain ⟨bm,V,h⟩:=h';apply aa _;refine bp hJ _ (G.2 _ (fun a v h=>aZ a v h) D _ d _ _ (l.mono aZ) (i.mono aZ) V) ?_;try apply aa _
  have h':=aD h;clear h;rcases h' with ⟨o,h⟩|⟨o,h⟩
  ·(try simp only[Int.ofNat_lt] at o);refine aN hJ ak ?_;refine ah hJ ?_;apply aa _;have h':=Option.some.inj h;clear h;subst h';have h:=True.intro;have W:=dF (n:=i22) (by have:=y;omega);refine ah hJ ?_;apply aa _;refine ⟨b.length - (i22+1),ai,_,Le.sub (List.Sublist.refl _),i22+1,d31,T,D,rfl,ai,E,rfl,l,?_⟩;simp only[*,go_sem,-h]
  try simp only[Int.ofNat_lt] at o
  refine aM hJ ak ?_;refine aR hJ ?_;have h':=Option.some.inj h;clear h;subst h';have h:=True.intro;have W:=dF (n:=i22) (by have:=y;omega);refine ah hJ ?_;apply aa _;refine ⟨b.length - (i22+1),ai,_,Le.sub (List.Sublist.refl _),i22+1,d16,g,d,rfl,ai,E,rfl,i,?_⟩;simp only[*,go_sem,-h]
 have bo:=Nat.not_lt.2 C;refine aM hJ ak ?_;rw[List.drop_eq_nil_of_le C] at c;have h':=Option.some.inj c;clear c h;subst h';have h:=P;dsimp only[aH] at h;refine bI ?_;simp only[go_sem];refine af hJ ?_;refine ah hJ ?_;apply aa _;have h':=Option.some.inj h;clear h;subst h';refine aG ?_;apply bt _;exact ⟨_,Ext.refl _,Le.sub (List.nil_sublist _),_,rfl,i⟩
def p5 (u0:Int)(a:Int)(w1:Int):Option Bool:=
 ax (ff u0 a w1) fun x1=>some (!x1)
theorem DF {ro:Addr->Option Value}(u0:Int)(a:Int){b:Nat}(e:ro ⟨b,0,none⟩=some (.int .i64 a))(w1:Int){c:Nat}(f:ro ⟨c,0,none⟩=some (.int .i64 w1)){r:Bool}(h:p5 u0 a w1=some r):aF Tryz.prog 114 #[.int .i64 u0,.pointer (some ⟨b,0,none⟩),.pointer (some ⟨c,0,none⟩)] ⟨ro,[]⟩ (fun v _=>v= .bool r):=by
 unfold p5 at h;refine aF.go Tryz.func114 rfl Tryz.ntmps114 Tryz.results114 aB fun main J hJ A g hd hs=>?_;have i:=hs 0;have k1:=hs 1;have j:=hs 2;clear hs;refine af hJ ?_;refine ah hJ ?_;apply aa _;refine af hJ ?_;refine ah hJ ?_;have h':=an h;clear h;obtain ⟨x1,d,h⟩:=h';apply aa _;refine bp hJ _ (gC u0 a w1 d) (aS ?_);try apply aa _
 have h':=Option.some.inj h;clear h;subst h';refine aG ?_;simp only[*,go_sem]
def kK (u0:aL)(a:bw)(b:Int)(c:bu):Option aU:=
 ax (bl.get a.az b) fun d=>ax (ny (IntKind.i64.wrap (d+c.dY)) u0.steps) fun e=>ax (bl.get a.aA b) fun f=>some (⟨e,IntKind.i64.wrap (c.row+f)⟩:aU)
theorem tq {ro:Addr->Option Value}(u0:aL){s1:Value}(g:aI bK ro s1 u0.aj)(a:bw)(c:Int)(b:bu){r:aU}(h:kK u0 a c b=some r):aF Tryz.prog 54 #[.agg #[.int .i64 u0.steps,.int .i64 u0.au,s1],.agg #[.int .i64 a.az.e0,.int .i64 a.az.e1,.int .i64 a.az.e2,.int .i64 a.az.e3,.int .i64 a.aA.e0,.int .i64 a.aA.e1,.int .i64 a.aA.e2,.int .i64 a.aA.e3,.int .u64 a.au],.int .i64 c,.agg #[.string ⟨⟨b.bN⟩⟩,.int .i64 b.dY,.int .i64 b.row]] ⟨ro,[]⟩ (fun v _=>v=r.v):=by
 obtain ⟨d3,c4,rfl,u,w,x⟩:=id g;unfold kK at h;refine aF.go Tryz.func54 rfl Tryz.ntmps54 Tryz.results54 aB fun main J hJ A y hd hs=>?_;have z:=hs 0;have k1:=hs 1;have B:=hs 2;have C:=hs 3;clear hs;refine af hJ ?_;refine ah hJ ?_;apply aa _;intro i f8;have D:=aV f8;have j:=aW f8;try simp only[aQ] at j
 intro k f9;have E:=aV f9;have l:=aW f9;try simp only[aQ] at l
 intro m f10;have F:=aV f10;have n:=aW f10;try simp only[aQ] at n
 intro G f11;have H:=aV f11;have o:=aW f11;try simp only[aQ] at o
 try apply aa _
 refine af hJ ?_;refine cu hJ mixed 19 ⟨ro,[(m,.cells #[.string ⟨⟨b.bN⟩⟩,.int .i64 b.dY,.int .i64 b.row] 92),(k,.cells #[.int .i64 a.az.e0,.int .i64 a.az.e1,.int .i64 a.az.e2,.int .i64 a.az.e3,.int .i64 a.aA.e0,.int .i64 a.aA.e1,.int .i64 a.aA.e2,.int .i64 a.aA.e3,.int .u64 a.au] 84),(i,.cells #[.int .i64 u0.steps,.int .i64 u0.au,.slice d3 u0.aj.length c4] 87)]⟩ ak aT ?_;have h':=an h;clear h;obtain ⟨p,d,h⟩:=h';obtain ⟨I,K,-⟩:=bl.get_some d;have q:([.int .i64 a.az.e0,.int .i64 a.az.e1,.int .i64 a.az.e2,.int .i64 a.az.e3,.int .i64 a.aA.e0,.int .i64 a.aA.e1,.int .i64 a.aA.e2,.int .i64 a.aA.e3,.int .u64 a.au]:List Value)[(c:Int).toNat]?=some (.int .i64 p):=bl.nF [.int .i64 a.aA.e0,.int .i64 a.aA.e1,.int .i64 a.aA.e2,.int .i64 a.aA.e3,.int .u64 a.au] d;try simp only[go_sem] at q
 have h':=an h;clear h;obtain ⟨L,e,h⟩:=h';obtain ⟨M,N⟩:=xX e;clear e;have h':=an h;clear h;obtain ⟨s,f,h⟩:=h';obtain ⟨O,P,-⟩:=bl.get_some f;have t:([.int .i64 a.az.e0,.int .i64 a.az.e1,.int .i64 a.az.e2,.int .i64 a.az.e3,.int .i64 a.aA.e0,.int .i64 a.aA.e1,.int .i64 a.aA.e2,.int .i64 a.aA.e3,.int .u64 a.au]:List Value)[4+(c:Int).toNat]?=some (.int .i64 s):=bl.pS [.int .i64 a.az.e0,.int .i64 a.az.e1,.int .i64 a.az.e2,.int .i64 a.az.e3] [.int .u64 a.au] f;try simp only[go_sem] at t
 try apply aa _
 have h':=Option.some.inj h;clear h;subst h';refine aG ?_;simp only[*,go_sem]
def iM (u0:bw)(a:Int):Option Bool:=
 ax (lu u0.au a) fun x2=>some ((e7 x2 1)==1)
theorem p6 {ro:Addr->Option Value}(u0:bw)(a:Int){r:Bool}(h:iM u0 a=some r):aF Tryz.prog 104 #[.agg #[.int .i64 u0.az.e0,.int .i64 u0.az.e1,.int .i64 u0.az.e2,.int .i64 u0.az.e3,.int .i64 u0.aA.e0,.int .i64 u0.aA.e1,.int .i64 u0.aA.e2,.int .i64 u0.aA.e3,.int .u64 u0.au],.int .i64 a] ⟨ro,[]⟩ (fun v _=>v= .bool r):=by
 unfold iM at h;refine aF.go Tryz.func104 rfl Tryz.ntmps104 Tryz.results104 aB fun main J hJ A d hd hs=>?_;have e:=hs 0;have k1:=hs 1;clear hs;refine af hJ ?_;refine ah hJ ?_;apply aa _;intro f f1;have r1:=aV f1;have n1:=aW f1;try simp only[aQ] at n1
 try apply aa _
 refine af hJ ?_;refine ah hJ ?_;have h':=an h;clear h;obtain ⟨x2,b,h⟩:=h';obtain ⟨g,c⟩:=sI b;clear b;try simp only[go_sem] at c
 try apply aa _
 have h':=Option.some.inj h;clear h;subst h';refine aG ?_;simp only[*,go_sem]
def iN (u0:aL):Option Bool:=
 some true
theorem p7 {ro:Addr->Option Value}(u0:aL){s1:Value}(a:aI bK ro s1 u0.aj){r:Bool}(h:iN u0=some r):aF Tryz.prog 67 #[.agg #[.int .i64 u0.steps,.int .i64 u0.au,s1]] ⟨ro,[]⟩ (fun v _=>v= .bool r):=by
 obtain ⟨d3,c4,rfl,c,d,e⟩:=id a;unfold iN at h;refine aF.go Tryz.func67 rfl Tryz.ntmps67 Tryz.results67 aB fun main J hJ A f hd hs=>?_;have g:=hs 0;clear hs;refine af hJ ?_;refine ah hJ ?_;apply aa _;intro i f8;have j:=aV f8;have b:=aW f8;try simp only[aQ] at b
 try apply aa _
 refine af hJ ?_;refine ah hJ ?_;apply aa _;have h':=Option.some.inj h;clear h;subst h';refine aG ?_;simp only[*,go_sem]
def tr (a:(bw->Option Bool))(i17:Nat)(b:bw)(st:Int):Option (Fl Int Int):=
 ax (a b) fun c=>cond (c) (some (.nx (IntKind.i64.wrap (st+1)))) (some (.nx st))
def nO (u0:dQ)(b:(bw->Option Bool)):Option Int:=
 ax (b7 (tr b) 0 u0.bJ 0) fun o=>aH o (fun a=>cond ((a==(u0.bJ.length:Int))) (some 1) (cond ((a==0)) (some 2) (some 0))) (fun _ _=>none) (fun r=>some r)
theorem tu {ro:Addr->Option Value}(u0:dQ){s1:Value}(B:aI bK ro s1 u0.round.aj){o:Value}(C:aI gN ro o u0.bJ)(g:(bw->Option Bool)){bL:FuncId}{bQ bR:Array Value}(D:aO Tryz.prog bL=true/\∀(aK:Addr->Option Value),Ext ro aK->∀(y0:bw) (z:Bool),g y0=some z->aF Tryz.prog bL (bQ++#[y0.v]++bR) ⟨aK,[]⟩ (fun v _=>v= .bool z)){r:Int}(h:nO u0 g=some r):aF Tryz.prog 68 #[.agg #[.int .i64 u0.round.steps,.int .i64 u0.round.au,s1,o],.func (.func bL) bQ bR] ⟨ro,[]⟩ (fun v _=>v= .int .i64 r):=by
 obtain ⟨d3,c4,rfl,ad,ae,al⟩:=id B;obtain ⟨d10,p,rfl,ao,q,E⟩:=id C;unfold nO at h;refine aF.go Tryz.func68 rfl Tryz.ntmps68 Tryz.results68 aB fun main J hJ A F hd hs=>?_;have G:=hs 0;have k1:=hs 1;clear hs;refine af hJ ?_;refine ah hJ ?_;apply aa _;intro s f15;have ar:=aV f15;have H:=aW f15;try simp only[aQ] at H
 try apply aa _
 refine af hJ ?_;refine ah hJ ?_;apply aa _;refine af hJ ?_;refine af hJ ?_;refine ah hJ ?_;apply aa _;refine aY hJ ?_;have h':=an h;clear h;obtain ⟨I,c,K⟩:=h';have h:=True.intro;refine bO hJ [5,7,11,12,13,14,15,16,17,18,19,20] (fun m t F'=>∃(i17:Nat) (f:Int),m=u0.bJ.length - i17/\i17<=u0.bJ.length/\b7 (tr g) i17 (u0.bJ.drop i17) f=some I/\F'=⟨ro,(s,.cells #[.int .i64 u0.round.steps,.int .i64 u0.round.au,.slice d3 u0.round.aj.length c4,.slice d10 u0.bJ.length p] 107)::[]⟩/\slot t 11= .int .i64 (i17:Int)/\slot t 5= .int .i64 f) u0.bJ.length ?_ ?_
 .refine ⟨0,0,(Nat.sub_zero _).symm,Nat.zero_le _,c,rfl,?_⟩;simp only[*,go_sem,-h]
 rintro a0 e F' d ⟨i17,f,rfl,a2,c,rfl,a3,a4⟩;have h:=True.intro;have a5:sz e=29:=by rw[d.size];simp only[*,go_sem,-h]
 have a6:e.defers=[]:=by rw[d.defers];simp only[*,go_sem,-h]
 have a7:slot e 1= .func (.func bL) bQ bR:=by rw[d.ay 1 av];simp only[*,go_sem,-h]
 have a8:slot e 2= .pointer (some ⟨s,0,none⟩):=by rw[d.ay 2 av];simp only[*,go_sem,-h]
 have a9:slot e 4= .int .i64 0:=by rw[d.ay 4 av];simp only[*,go_sem,-h]
 have ba:slot e 9= .slice d10 u0.bJ.length p:=by rw[d.ay 9 av];simp only[*,go_sem,-h]
 have bb:slot e 10= .int .i64 (u0.bJ.length:Int):=by rw[d.ay 10 av];simp only[*,go_sem,-h]
 clear d F hd G k1;refine af hJ ?_;refine ah hJ ?_;apply aa _;refine af hJ ?_;rcases Nat.lt_or_ge i17 u0.bJ.length with L|u
 .refine aN hJ ak ?_;refine aR hJ ?_;obtain ⟨w,i⟩:∃x,u0.bJ[i17]?=some x:=⟨_,List.getElem?_eq_getElem L⟩
  rw[er i] at c;have h':=an c;clear c h;obtain ⟨bc,h,y⟩:=h';unfold tr at h;try dsimp only at h
  obtain ⟨bd,M,N,O,b⟩:=E _ _ i;obtain rfl:M=w.cells:=O;cases N;have P:=b 0 _ rfl;simp only[go_sem] at P;have Q:=b 1 _ rfl;simp only[go_sem] at Q;have R:=b 2 _ rfl;simp only[go_sem] at R;have S:=b 3 _ rfl;simp only[go_sem] at S;have T:=b 4 _ rfl;simp only[go_sem] at T;have U:=b 5 _ rfl;simp only[go_sem] at U;have V:=b 6 _ rfl;simp only[go_sem] at V;have W:=b 7 _ rfl;simp only[go_sem] at W;have X:=b 8 _ rfl;simp only[go_sem] at X;clear b i;refine af hJ ?_;refine aY hJ ?_;refine af hJ ?_;refine ah hJ ?_;apply aa _;intro bj f25;have bk:=aV f25;have Y:=aW f25;try simp only[aQ] at Y
  try apply aa _
  refine af hJ ?_;refine ah hJ ?_;have h':=an h;clear h;obtain ⟨bm,Z,h⟩:=h';apply aa _;refine bp hJ _ (D.2 _ (fun a v h=>aZ a v h) w _ Z) ?_;try apply aa _
  have h':=aD h;clear h;rcases h' with ⟨j,h⟩|⟨j,h⟩
  ·(try simp only[Int.ofNat_lt] at j);refine aN hJ ak ?_;refine ah hJ ?_;apply aa _;have h':=Option.some.inj h;clear h;subst h';have h:=True.intro;have ab:=dF (n:=i17) (by have:=q;omega);refine ah hJ ?_;apply aa _;refine ⟨u0.bJ.length - (i17+1),ai,_,Le.sub (List.Sublist.cons _ (List.Sublist.refl _)),i17+1,(IntKind.i64.wrap (f+1)),rfl,ai,y,rfl,?_⟩;simp only[*,go_sem,-h]
  try simp only[Int.ofNat_lt] at j
  refine aM hJ ak ?_;refine aR hJ ?_;have h':=Option.some.inj h;clear h;subst h';have h:=True.intro;have ab:=dF (n:=i17) (by have:=q;omega);refine ah hJ ?_;apply aa _;refine ⟨u0.bJ.length - (i17+1),ai,_,Le.sub (List.Sublist.cons _ (List.Sublist.refl _)),i17+1,f,rfl,ai,y,rfl,?_⟩;simp only[*,go_sem,-h]
 have bo:=Nat.not_lt.2 u;refine aM hJ ak ?_;rw[List.drop_eq_nil_of_le u] at c;have h':=Option.some.inj c;clear c h;subst h';have h:=K;dsimp only[aH] at h;refine bI ?_;simp only[go_sem];refine af hJ ?_;refine af hJ ?_;refine ah hJ ?_;apply aa _;refine aY hJ ?_;refine af hJ ?_;refine ah hJ ?_;apply aa _;have h':=aD h;clear h;rcases h' with ⟨k,h⟩|⟨k,h⟩
 .try simp only[Int.ofNat_lt] at k
  refine aN hJ ak ?_;refine af hJ ?_;refine ah hJ ?_;apply aa _;have h':=Option.some.inj h;clear h;subst h';refine aG ?_;simp only[*,go_sem]
 try simp only[Int.ofNat_lt] at k
 refine aM hJ ak ?_;refine af hJ ?_;refine ah hJ ?_;apply aa _;have h':=aD h;clear h;rcases h' with ⟨l,h⟩|⟨l,h⟩
 .try simp only[Int.ofNat_lt] at l
  refine aN hJ ak ?_;refine af hJ ?_;refine ah hJ ?_;apply aa _;have h':=Option.some.inj h;clear h;subst h';refine aG ?_;simp only[*,go_sem]
 try simp only[Int.ofNat_lt] at l
 refine aM hJ ak ?_;refine aR hJ ?_;refine af hJ ?_;refine ah hJ ?_;apply aa _;have h':=Option.some.inj h;clear h;subst h';refine aG ?_;simp only[*,go_sem]
def tv (u0:aL)(a:bw)(b:Int)(i11:Nat)(c:bf)(st:Bool):Option (Fl Bool Bool):=
 ax (iM a (i11:Int)) fun d=>cond (!d) (ax (bl.get a.az (i11:Int)) fun e=>ax (ny (IntKind.i64.wrap ((IntKind.i64.wrap (b - e))+u0.steps)) u0.steps) fun f=>cond (decide (f<c.wide)) (some (.rt true)) (some (.nx st))) (some (.nx st))
def nP (u0:aL)(a:bw)(b:Int):Option Bool:=
 ax (b7 (tv u0 a b) 0 u0.aj false) fun o=>aH o (fun c=>some false) (fun _ _=>none) (fun r=>some r)
theorem tw {ro:Addr->Option Value}(u0:aL){s1:Value}(z:aI bK ro s1 u0.aj)(a:bw)(g:Int){r:Bool}(h:nP u0 a g=some r):aF Tryz.prog 70 #[.agg #[.int .i64 u0.steps,.int .i64 u0.au,s1],.agg #[.int .i64 a.az.e0,.int .i64 a.az.e1,.int .i64 a.az.e2,.int .i64 a.az.e3,.int .i64 a.aA.e0,.int .i64 a.aA.e1,.int .i64 a.aA.e2,.int .i64 a.aA.e3,.int .u64 a.au],.int .i64 g] ⟨ro,[]⟩ (fun v _=>v= .bool r):=by
 obtain ⟨d3,c4,rfl,al,q,B⟩:=id z;unfold nP at h;refine aF.go Tryz.func70 rfl Tryz.ntmps70 Tryz.results70 aB fun main J hJ A C hd hs=>?_;have D:=hs 0;have k1:=hs 1;have E:=hs 2;clear hs;refine af hJ ?_;refine ah hJ ?_;apply aa _;intro j f8;have ao:=aV f8;have G:=aW f8;try simp only[aQ] at G
 intro k f9;have ar:=aV f9;have H:=aW f9;try simp only[aQ] at H
 try apply aa _
 refine af hJ ?_;refine af hJ ?_;refine ah hJ ?_;apply aa _;refine aY hJ ?_;have h':=an h;clear h;obtain ⟨I,b,s⟩:=h';have h:=True.intro;refine bO hJ [6,7,8,13,14,15,16,17,18,19,20,21,22,23,24,25,26,27,28,29,30,31,32,33,34,35,36,37,38,39,40,41] (fun m t F'=>∃(i11:Nat) (v10:Bool),m=u0.aj.length - i11/\i11<=u0.aj.length/\b7 (tv u0 a g) i11 (u0.aj.drop i11) v10=some I/\F'=⟨ro,(k,.cells #[.int .i64 a.az.e0,.int .i64 a.az.e1,.int .i64 a.az.e2,.int .i64 a.az.e3,.int .i64 a.aA.e0,.int .i64 a.aA.e1,.int .i64 a.aA.e2,.int .i64 a.aA.e3,.int .u64 a.au] 84)::(j,.cells #[.int .i64 u0.steps,.int .i64 u0.au,.slice d3 u0.aj.length c4] 87)::[]⟩/\slot t 13= .int .i64 (i11:Int)/\slot t 6= .bool v10) u0.aj.length ?_ ?_
 .refine ⟨0,false,(Nat.sub_zero _).symm,Nat.zero_le _,b,rfl,?_⟩;simp only[*,go_sem,-h]
 rintro a0 e F' c ⟨i11,v10,rfl,a2,b,rfl,a3,a4⟩;have h:=True.intro;have a5:sz e=42:=by rw[c.size];simp only[*,go_sem,-h]
 have a6:e.defers=[]:=by rw[c.defers];simp only[*,go_sem,-h]
 have a7:slot e 2= .int .i64 g:=by rw[c.ay 2 av];simp only[*,go_sem,-h]
 have a8:slot e 3= .pointer (some ⟨j,0,none⟩):=by rw[c.ay 3 av];simp only[*,go_sem,-h]
 have a9:slot e 4= .pointer (some ⟨k,0,none⟩):=by rw[c.ay 4 av];simp only[*,go_sem,-h]
 have ba:slot e 11= .slice d3 u0.aj.length c4:=by rw[c.ay 11 av];simp only[*,go_sem,-h]
 have bb:slot e 12= .int .i64 (u0.aj.length:Int):=by rw[c.ay 12 av];simp only[*,go_sem,-h]
 clear c C hd D k1 E;refine af hJ ?_;refine ah hJ ?_;apply aa _;refine af hJ ?_;rcases Nat.lt_or_ge i11 u0.aj.length with K|u
 .refine aN hJ ak ?_;refine aR hJ ?_;obtain ⟨f,l⟩:∃x,u0.aj[i11]?=some x:=⟨_,List.getElem?_eq_getElem K⟩
  rw[er l] at b;have h':=an b;clear b h;obtain ⟨bc,h,i⟩:=h';unfold tv at h;try dsimp only at h
  obtain ⟨L,bd,M,N,d⟩:=B _ _ l;obtain ⟨bj,rfl,O⟩:=N;obtain ⟨d20,P,rfl,bk,bm,bo⟩:=id O;cases M;have Q:=d 0 _ rfl;simp only[go_sem] at Q;have R:=d 1 _ rfl;simp only[go_sem] at R;have S:=d 2 _ rfl;simp only[go_sem] at S;have T:=d 3 _ rfl;simp only[go_sem] at T;have U:=d 4 _ rfl;simp only[go_sem] at U;have V:=d 5 _ rfl;simp only[go_sem] at V;have W:=d 6 _ rfl;simp only[go_sem] at W;clear d l;refine af hJ ?_;refine aY hJ ?_;refine af hJ ?_;refine ah hJ ?_;apply aa _;intro X f26;have br:=aV f26;have Y:=aW f26;try simp only[aQ] at Y
  try apply aa _
  refine af hJ ?_;refine cu hJ mixed 23 ⟨ro,[(X,.cells #[.string ⟨⟨f.name⟩⟩,.int .i64 f.from_.low,.int .i64 f.from_.high,.int .i64 f.wide,.int .i64 f.aC.low,.int .i64 f.aC.high,.slice d20 f.marks.length P] 56),(k,.cells #[.int .i64 a.az.e0,.int .i64 a.az.e1,.int .i64 a.az.e2,.int .i64 a.az.e3,.int .i64 a.aA.e0,.int .i64 a.aA.e1,.int .i64 a.aA.e2,.int .i64 a.aA.e3,.int .u64 a.au] 84),(j,.cells #[.int .i64 u0.steps,.int .i64 u0.au,.slice (some L) u0.aj.length c4] 87)]⟩ ak aT ?_;have h':=an h;clear h;obtain ⟨bs,Z,h⟩:=h';apply aa _;refine ⟨_,eo hJ fun F hF=>p6 a (i11:Int) Z,e6 ?_⟩;have h':=aD h;clear h;rcases h' with ⟨o,h⟩|⟨o,h⟩
  ·(try simp only[Int.ofNat_lt] at o);have h':=an h;clear h;obtain ⟨ab,w,h⟩:=h';obtain ⟨b0,b1,-⟩:=bl.get_some w;have ad:([.int .i64 a.az.e0,.int .i64 a.az.e1,.int .i64 a.az.e2,.int .i64 a.az.e3,.int .i64 a.aA.e0,.int .i64 a.aA.e1,.int .i64 a.aA.e2,.int .i64 a.aA.e3,.int .u64 a.au]:List Value)[((i11:Int):Int).toNat]?=some (.int .i64 ab):=bl.nF [.int .i64 a.aA.e0,.int .i64 a.aA.e1,.int .i64 a.aA.e2,.int .i64 a.aA.e3,.int .u64 a.au] w;(try simp only[go_sem] at ad);have h':=an h;clear h;obtain ⟨b2,y,h⟩:=h';obtain ⟨b3,b4⟩:=xX y;clear y;(try apply aa _);have h':=aD h;clear h;rcases h' with ⟨p,h⟩|⟨p,h⟩
   ·(try simp only[Int.ofNat_lt] at p);refine aN hJ ak ?_;refine af hJ ?_;refine ah hJ ?_;apply aa _;have h':=Option.some.inj h;clear h;subst h';have h':=Option.some.inj i;clear i;subst h';have h:=s;dsimp only[aH] at h;have h':=Option.some.inj h;clear h;subst h';refine aG ?_;simp only[*,go_sem]
   (try simp only[Int.ofNat_lt] at p);refine aM hJ ak ?_;refine aR hJ ?_;have h':=Option.some.inj h;clear h;subst h';have h:=True.intro;have ae:=dF (n:=i11) (by have:=q;omega);refine ah hJ ?_;apply aa _;refine ⟨u0.aj.length - (i11+1),ai,_,Le.sub (List.Sublist.cons _ (List.Sublist.refl _)),i11+1,v10,rfl,ai,i,rfl,?_⟩;simp only[*,go_sem,-h]
  try simp only[Int.ofNat_lt] at o
  try apply aa _
  refine aM hJ ak ?_;refine aR hJ ?_;have h':=Option.some.inj h;clear h;subst h';have h:=True.intro;have ae:=dF (n:=i11) (by have:=q;omega);refine ah hJ ?_;apply aa _;refine ⟨u0.aj.length - (i11+1),ai,_,Le.sub (List.Sublist.cons _ (List.Sublist.refl _)),i11+1,v10,rfl,ai,i,rfl,?_⟩;simp only[*,go_sem,-h]
 have ca:=Nat.not_lt.2 u;refine aM hJ ak ?_;rw[List.drop_eq_nil_of_le u] at b;have h':=Option.some.inj b;clear b h;subst h';have h:=s;dsimp only[aH] at h;refine bI ?_;simp only[go_sem];refine af hJ ?_;refine ah hJ ?_;apply aa _;have h':=Option.some.inj h;clear h;subst h';refine aG ?_;simp only[*,go_sem]
def tA (u0:aL)(a:bw)(st:(Bool×Int)):Option (Fl (Bool×Int) Bool):=
 cond (decide (st.2<u0.steps)) (ax (nP u0 a st.2) fun b=>cond (!b) (some (.rt false)) (some (.nx (st.1,(IntKind.i64.wrap (st.2+1)))))) (some (.bk (st.1,st.2)))
def p8 (u0:aL)(a:bw):Option Bool:=
 ax (bg (tA u0 a) fu (false,0)) fun o=>aH o (fun b=>some true) (fun _ _=>none) (fun r=>some r)
theorem DG {ro:Addr->Option Value}(u0:aL){s1:Value}(j:aI bK ro s1 u0.aj)(a:bw){r:Bool}(h:p8 u0 a=some r):aF Tryz.prog 69 #[.agg #[.int .i64 u0.steps,.int .i64 u0.au,s1],.agg #[.int .i64 a.az.e0,.int .i64 a.az.e1,.int .i64 a.az.e2,.int .i64 a.az.e3,.int .i64 a.aA.e0,.int .i64 a.aA.e1,.int .i64 a.aA.e2,.int .i64 a.aA.e3,.int .u64 a.au]] ⟨ro,[]⟩ (fun v _=>v= .bool r):=by
 obtain ⟨d3,c4,rfl,x,y,z⟩:=id j;unfold p8 at h;refine aF.go Tryz.func69 rfl Tryz.ntmps69 Tryz.results69 aB fun main J hJ A p hd hs=>?_;have q:=hs 0;have k1:=hs 1;clear hs;refine af hJ ?_;refine ah hJ ?_;apply aa _;intro k f8;have B:=aV f8;have s:=aW f8;try simp only[aQ] at s
 intro l f9;have C:=aV f9;have t:=aW f9;try simp only[aQ] at t
 try apply aa _
 refine af hJ ?_;refine af hJ ?_;refine ah hJ ?_;apply aa _;refine aY hJ ?_;have h':=an h;clear h;obtain ⟨u,c,n⟩:=h';have h:=True.intro;refine bO hJ [4,5,9,10,11,12,13,14,15,16,17] (fun m o F'=>∃(v10:Bool) (v11:Int),bg (tA u0 a) m (v10,v11)=some u/\F'=⟨ro,(l,.cells #[.int .i64 a.az.e0,.int .i64 a.az.e1,.int .i64 a.az.e2,.int .i64 a.az.e3,.int .i64 a.aA.e0,.int .i64 a.aA.e1,.int .i64 a.aA.e2,.int .i64 a.aA.e3,.int .u64 a.au] 84)::(k,.cells #[.int .i64 u0.steps,.int .i64 u0.au,.slice d3 u0.aj.length c4] 87)::[]⟩/\slot o 4= .bool v10/\slot o 9= .int .i64 v11) fu ?_ ?_
 .refine ⟨false,0,c,rfl,?_⟩;simp only[*,go_sem,-h]
 rintro f d F' b ⟨v10,v11,c,rfl,D,E⟩;have h:=True.intro;have F:sz d=18:=by rw[b.size];simp only[*,go_sem,-h]
 have G:d.defers=[]:=by rw[b.defers];simp only[*,go_sem,-h]
 have H:slot d 2= .pointer (some ⟨k,0,none⟩):=by rw[b.ay 2 av];simp only[*,go_sem,-h]
 have I:slot d 3= .pointer (some ⟨l,0,none⟩):=by rw[b.ay 3 av];simp only[*,go_sem,-h]
 have K:slot d 8= .int .i64 u0.steps:=by rw[b.ay 8 av];simp only[*,go_sem,-h]
 clear b p hd q k1;obtain _|f:=f
 .exact absurd c (by simp only[bg,reduceCtorEq,not_false_eq_true])
 have h':=an c;clear c h;obtain ⟨L,h,e⟩:=h';unfold tA at h;try dsimp only at h
 refine af hJ ?_;refine ah hJ ?_;apply aa _;refine af hJ ?_;have h':=aD h;clear h;rcases h' with ⟨g,h⟩|⟨g,h⟩
 .try simp only[Int.ofNat_lt] at g
  refine aN hJ ak ?_;refine aR hJ ?_;refine af hJ ?_;refine aY hJ ?_;refine af hJ ?_;refine ah hJ ?_;apply aa _;refine af hJ ?_;refine ah hJ ?_;have h':=an h;clear h;obtain ⟨M,w,h⟩:=h';apply aa _;refine bp hJ _ (tw u0 (j.mono aZ) a v11 w) (aS ?_);try apply aa _
  have h':=aD h;clear h;rcases h' with ⟨i,h⟩|⟨i,h⟩
  ·(try simp only[Int.ofNat_lt] at i);refine aN hJ ak ?_;refine af hJ ?_;refine ah hJ ?_;apply aa _;have h':=Option.some.inj h;clear h;subst h';have h':=Option.some.inj e;clear e;subst h';have h:=n;dsimp only[aH] at h;have h':=Option.some.inj h;clear h;subst h';refine aG ?_;simp only[*,go_sem]
  try simp only[Int.ofNat_lt] at i
  refine aM hJ ak ?_;refine aR hJ ?_;refine ah hJ ?_;apply aa _;have h':=Option.some.inj h;clear h;subst h';have h:=True.intro;try apply aa _
  refine ⟨f,Nat.lt_succ_self _,_,Le.sub (List.Sublist.refl _),v10,(IntKind.i64.wrap (v11+1)),e,rfl,?_⟩;simp only[*,go_sem,-h]
 try simp only[Int.ofNat_lt] at g
 refine aM hJ ak ?_;refine bI ?_;simp only[go_sem];have h':=Option.some.inj h;clear h;subst h';have h':=Option.some.inj e;clear e;subst h';have h:=n;dsimp only[aH] at h;refine af hJ ?_;refine ah hJ ?_;apply aa _;have h':=Option.some.inj h;clear h;subst h';refine aG ?_;simp only[*,go_sem]
def p9 (u0:bw)(a:dQ)(w1:Int):Option Bool:=
 ax (nP a.round u0 w1) fun b=>some b
theorem DI {ro:Addr->Option Value}(u0:bw)(a:dQ){b:Nat}(j:ro ⟨b,0,none⟩=some (.int .i64 a.round.steps))(k:ro ⟨b,1,none⟩=some (.int .i64 a.round.au)){s1:Value}(c:aI bK ro s1 a.round.aj)(l:ro ⟨b,2,none⟩=some (s1)){d:Value}(f:aI gN ro d a.bJ)(m:ro ⟨b,3,none⟩=some (d))(w1:Int){e:Nat}(n:ro ⟨e,0,none⟩=some (.int .i64 w1)){r:Bool}(h:p9 u0 a w1=some r):aF Tryz.prog 73 #[.agg #[.int .i64 u0.az.e0,.int .i64 u0.az.e1,.int .i64 u0.az.e2,.int .i64 u0.az.e3,.int .i64 u0.aA.e0,.int .i64 u0.aA.e1,.int .i64 u0.aA.e2,.int .i64 u0.aA.e3,.int .u64 u0.au],.pointer (some ⟨b,0,none⟩),.pointer (some ⟨e,0,none⟩)] ⟨ro,[]⟩ (fun v _=>v= .bool r):=by
 obtain ⟨d3,c4,rfl,o,p,q⟩:=id c;obtain ⟨d10,s,rfl,t,u,w⟩:=id f;unfold p9 at h;refine aF.go Tryz.func73 rfl Tryz.ntmps73 Tryz.results73 aB fun main J hJ A x hd hs=>?_;have y:=hs 0;have k1:=hs 1;have z:=hs 2;clear hs;refine af hJ ?_;refine ah hJ ?_;apply aa _;intro B f15;have C:=aV f15;have g:=aW f15;try simp only[aQ] at g
 try apply aa _
 refine af hJ ?_;refine ah hJ ?_;have h':=an h;clear h;obtain ⟨D,i,h⟩:=h';apply aa _;refine bp hJ _ (tw a.round (c.mono aZ) u0 w1 i) (aS ?_);try apply aa _
 have h':=Option.some.inj h;clear h;subst h';refine aG ?_;simp only[*,go_sem]
def tB (u0:aL)(a:Int):Option Bool:=
 ax (ff a 0 (IntKind.i64.wrap (u0.steps - 1))) fun b=>some b
theorem DJ {ro:Addr->Option Value}(u0:aL){s1:Value}(b:aI bK ro s1 u0.aj)(a:Int){r:Bool}(h:tB u0 a=some r):aF Tryz.prog 72 #[.agg #[.int .i64 u0.steps,.int .i64 u0.au,s1],.int .i64 a] ⟨ro,[]⟩ (fun v _=>v= .bool r):=by
 obtain ⟨d3,c4,rfl,e,f,g⟩:=id b;unfold tB at h;refine aF.go Tryz.func72 rfl Tryz.ntmps72 Tryz.results72 aB fun main J hJ A i hd hs=>?_;have j:=hs 0;have k1:=hs 1;clear hs;refine af hJ ?_;refine ah hJ ?_;apply aa _;intro k f8;have l:=aV f8;have c:=aW f8;try simp only[aQ] at c
 try apply aa _
 refine af hJ ?_;refine ah hJ ?_;have h':=an h;clear h;obtain ⟨m,d,h⟩:=h';apply aa _;refine bp hJ _ (gC a 0 (IntKind.i64.wrap (u0.steps - 1)) d) (aS ?_);try apply aa _
 have h':=Option.some.inj h;clear h;subst h';refine aG ?_;simp only[*,go_sem]
def qa (u0:aL)(a:Int):Option Bool:=
 ax (tB u0 a) fun b=>some b
theorem DK {ro:Addr->Option Value}(u0:aL){s1:Value}(b:aI bK ro s1 u0.aj)(a:Int){c:Nat}(f:ro ⟨c,0,none⟩=some (.int .i64 a)){r:Bool}(h:qa u0 a=some r):aF Tryz.prog 71 #[.agg #[.int .i64 u0.steps,.int .i64 u0.au,s1],.pointer (some ⟨c,0,none⟩)] ⟨ro,[]⟩ (fun v _=>v= .bool r):=by
 obtain ⟨d3,c4,rfl,g,i,j⟩:=id b;unfold qa at h;refine aF.go Tryz.func71 rfl Tryz.ntmps71 Tryz.results71 aB fun main J hJ A k hd hs=>?_;have l:=hs 0;have k1:=hs 1;clear hs;refine af hJ ?_;refine ah hJ ?_;apply aa _;intro m f8;have n:=aV f8;have d:=aW f8;try simp only[aQ] at d
 try apply aa _
 refine af hJ ?_;refine ah hJ ?_;have h':=an h;clear h;obtain ⟨o,e,h⟩:=h';apply aa _;refine bp hJ _ (DJ u0 (b.mono aZ) a e) (aS ?_);try apply aa _
 have h':=Option.some.inj h;clear h;subst h';refine aG ?_;simp only[*,go_sem]
def lU (u0:aL)(a:Int):Option Bool:=
 ax (ff a 0 (IntKind.i64.wrap ((u0.aj.length:Int) - 1))) fun b=>some b
theorem qb {ro:Addr->Option Value}(u0:aL){s1:Value}(b:aI bK ro s1 u0.aj)(a:Int){r:Bool}(h:lU u0 a=some r):aF Tryz.prog 97 #[.agg #[.int .i64 u0.steps,.int .i64 u0.au,s1],.int .i64 a] ⟨ro,[]⟩ (fun v _=>v= .bool r):=by
 obtain ⟨d3,c4,rfl,e,f,g⟩:=id b;unfold lU at h;refine aF.go Tryz.func97 rfl Tryz.ntmps97 Tryz.results97 aB fun main J hJ A i hd hs=>?_;have j:=hs 0;have k1:=hs 1;clear hs;refine af hJ ?_;refine ah hJ ?_;apply aa _;intro k f8;have l:=aV f8;have c:=aW f8;try simp only[aQ] at c
 try apply aa _
 refine af hJ ?_;refine ah hJ ?_;have h':=an h;clear h;obtain ⟨m,d,h⟩:=h';apply aa _;refine bp hJ _ (gC a 0 (IntKind.i64.wrap ((u0.aj.length:Int) - 1)) d) (aS ?_);try apply aa _
 have h':=Option.some.inj h;clear h;subst h';refine aG ?_;simp only[*,go_sem]
def qc (u0:aL)(a:Int):Option Bool:=
 ax (lU u0 a) fun b=>some b
theorem DL {ro:Addr->Option Value}(u0:aL){s1:Value}(b:aI bK ro s1 u0.aj)(a:Int){c:Nat}(f:ro ⟨c,0,none⟩=some (.int .i64 a)){r:Bool}(h:qc u0 a=some r):aF Tryz.prog 96 #[.agg #[.int .i64 u0.steps,.int .i64 u0.au,s1],.pointer (some ⟨c,0,none⟩)] ⟨ro,[]⟩ (fun v _=>v= .bool r):=by
 obtain ⟨d3,c4,rfl,g,i,j⟩:=id b;unfold qc at h;refine aF.go Tryz.func96 rfl Tryz.ntmps96 Tryz.results96 aB fun main J hJ A k hd hs=>?_;have l:=hs 0;have k1:=hs 1;clear hs;refine af hJ ?_;refine ah hJ ?_;apply aa _;intro m f8;have n:=aV f8;have d:=aW f8;try simp only[aQ] at d
 try apply aa _
 refine af hJ ?_;refine ah hJ ?_;have h':=an h;clear h;obtain ⟨o,e,h⟩:=h';apply aa _;refine bp hJ _ (qb u0 (b.mono aZ) a e) (aS ?_);try apply aa _
 have h':=Option.some.inj h;clear h;subst h';refine aG ?_;simp only[*,go_sem]
def qd (u0:bw)(a:Int):Option Int:=
 ax (bl.get u0.az a) fun x2=>some x2
theorem DN {ro:Addr->Option Value}(u0:bw)(a:Int){b:Nat}(e:ro ⟨b,0,none⟩=some (.int .i64 a)){r:Int}(h:qd u0 a=some r):aF Tryz.prog 99 #[.agg #[.int .i64 u0.az.e0,.int .i64 u0.az.e1,.int .i64 u0.az.e2,.int .i64 u0.az.e3,.int .i64 u0.aA.e0,.int .i64 u0.aA.e1,.int .i64 u0.aA.e2,.int .i64 u0.aA.e3,.int .u64 u0.au],.pointer (some ⟨b,0,none⟩)] ⟨ro,[]⟩ (fun v _=>v= .int .i64 r):=by
 unfold qd at h;refine aF.go Tryz.func99 rfl Tryz.ntmps99 Tryz.results99 aB fun main J hJ A f hd hs=>?_;have g:=hs 0;have k1:=hs 1;clear hs;refine af hJ ?_;refine ah hJ ?_;apply aa _;intro i f1;have r1:=aV f1;have n1:=aW f1;try simp only[aQ] at n1
 try apply aa _
 refine af hJ ?_;refine ah hJ ?_;have h':=an h;clear h;obtain ⟨x2,c,h⟩:=h';obtain ⟨j,k,-⟩:=bl.get_some c;have d:([.int .i64 u0.az.e0,.int .i64 u0.az.e1,.int .i64 u0.az.e2,.int .i64 u0.az.e3,.int .i64 u0.aA.e0,.int .i64 u0.aA.e1,.int .i64 u0.aA.e2,.int .i64 u0.aA.e3,.int .u64 u0.au]:List Value)[(a:Int).toNat]?=some (.int .i64 x2):=bl.nF [.int .i64 u0.aA.e0,.int .i64 u0.aA.e1,.int .i64 u0.aA.e2,.int .i64 u0.aA.e3,.int .u64 u0.au] c;try simp only[go_sem] at d
 try apply aa _
 have h':=Option.some.inj h;clear h;subst h';refine aG ?_;simp only[*,go_sem]
def qf (u0:aL)(a:Int):Option Bool:=
 ax (lU u0 a) fun b=>some b
theorem DO {ro:Addr->Option Value}(u0:aL){s1:Value}(b:aI bK ro s1 u0.aj)(a:Int){c:Nat}(f:ro ⟨c,0,none⟩=some (.int .i64 a)){r:Bool}(h:qf u0 a=some r):aF Tryz.prog 100 #[.agg #[.int .i64 u0.steps,.int .i64 u0.au,s1],.pointer (some ⟨c,0,none⟩)] ⟨ro,[]⟩ (fun v _=>v= .bool r):=by
 obtain ⟨d3,c4,rfl,g,i,j⟩:=id b;unfold qf at h;refine aF.go Tryz.func100 rfl Tryz.ntmps100 Tryz.results100 aB fun main J hJ A k hd hs=>?_;have l:=hs 0;have k1:=hs 1;clear hs;refine af hJ ?_;refine ah hJ ?_;apply aa _;intro m f8;have n:=aV f8;have d:=aW f8;try simp only[aQ] at d
 try apply aa _
 refine af hJ ?_;refine ah hJ ?_;have h':=an h;clear h;obtain ⟨o,e,h⟩:=h';apply aa _;refine bp hJ _ (qb u0 (b.mono aZ) a e) (aS ?_);try apply aa _
 have h':=Option.some.inj h;clear h;subst h';refine aG ?_;simp only[*,go_sem]
def qg (u0:bw)(a:Int):Option Int:=
 ax (bl.get u0.aA a) fun x2=>some x2
theorem DR {ro:Addr->Option Value}(u0:bw)(a:Int){b:Nat}(e:ro ⟨b,0,none⟩=some (.int .i64 a)){r:Int}(h:qg u0 a=some r):aF Tryz.prog 101 #[.agg #[.int .i64 u0.az.e0,.int .i64 u0.az.e1,.int .i64 u0.az.e2,.int .i64 u0.az.e3,.int .i64 u0.aA.e0,.int .i64 u0.aA.e1,.int .i64 u0.aA.e2,.int .i64 u0.aA.e3,.int .u64 u0.au],.pointer (some ⟨b,0,none⟩)] ⟨ro,[]⟩ (fun v _=>v= .int .i64 r):=by
 unfold qg at h;refine aF.go Tryz.func101 rfl Tryz.ntmps101 Tryz.results101 aB fun main J hJ A f hd hs=>?_;have g:=hs 0;have k1:=hs 1;clear hs;refine af hJ ?_;refine ah hJ ?_;apply aa _;intro i f1;have r1:=aV f1;have n1:=aW f1;try simp only[aQ] at n1
 try apply aa _
 refine af hJ ?_;refine ah hJ ?_;have h':=an h;clear h;obtain ⟨x2,c,h⟩:=h';obtain ⟨j,k,-⟩:=bl.get_some c;have d:([.int .i64 u0.az.e0,.int .i64 u0.az.e1,.int .i64 u0.az.e2,.int .i64 u0.az.e3,.int .i64 u0.aA.e0,.int .i64 u0.aA.e1,.int .i64 u0.aA.e2,.int .i64 u0.aA.e3,.int .u64 u0.au]:List Value)[4+(a:Int).toNat]?=some (.int .i64 x2):=bl.pS [.int .i64 u0.az.e0,.int .i64 u0.az.e1,.int .i64 u0.az.e2,.int .i64 u0.az.e3] [.int .u64 u0.au] c;try simp only[go_sem] at d
 try apply aa _
 have h':=Option.some.inj h;clear h;subst h';refine aG ?_;simp only[*,go_sem]
def qh (u0:aL)(a:Int):Option Bool:=
 ax (lU u0 a) fun b=>some b
theorem DT {ro:Addr->Option Value}(u0:aL){s1:Value}(b:aI bK ro s1 u0.aj)(a:Int){c:Nat}(f:ro ⟨c,0,none⟩=some (.int .i64 a)){r:Bool}(h:qh u0 a=some r):aF Tryz.prog 102 #[.agg #[.int .i64 u0.steps,.int .i64 u0.au,s1],.pointer (some ⟨c,0,none⟩)] ⟨ro,[]⟩ (fun v _=>v= .bool r):=by
 obtain ⟨d3,c4,rfl,g,i,j⟩:=id b;unfold qh at h;refine aF.go Tryz.func102 rfl Tryz.ntmps102 Tryz.results102 aB fun main J hJ A k hd hs=>?_;have l:=hs 0;have k1:=hs 1;clear hs;refine af hJ ?_;refine ah hJ ?_;apply aa _;intro m f8;have n:=aV f8;have d:=aW f8;try simp only[aQ] at d
 try apply aa _
 refine af hJ ?_;refine ah hJ ?_;have h':=an h;clear h;obtain ⟨o,e,h⟩:=h';apply aa _;refine bp hJ _ (qb u0 (b.mono aZ) a e) (aS ?_);try apply aa _
 have h':=Option.some.inj h;clear h;subst h';refine aG ?_;simp only[*,go_sem]
def qi (u0:bw)(a:Int):Option Bool:=
 ax (iM u0 a) fun x2=>some x2
theorem DU {ro:Addr->Option Value}(u0:bw)(a:Int){b:Nat}(d:ro ⟨b,0,none⟩=some (.int .i64 a)){r:Bool}(h:qi u0 a=some r):aF Tryz.prog 103 #[.agg #[.int .i64 u0.az.e0,.int .i64 u0.az.e1,.int .i64 u0.az.e2,.int .i64 u0.az.e3,.int .i64 u0.aA.e0,.int .i64 u0.aA.e1,.int .i64 u0.aA.e2,.int .i64 u0.aA.e3,.int .u64 u0.au],.pointer (some ⟨b,0,none⟩)] ⟨ro,[]⟩ (fun v _=>v= .bool r):=by
 unfold qi at h;refine aF.go Tryz.func103 rfl Tryz.ntmps103 Tryz.results103 aB fun main J hJ A e hd hs=>?_;have f:=hs 0;have k1:=hs 1;clear hs;refine af hJ ?_;refine ah hJ ?_;apply aa _;intro g f1;have r1:=aV f1;have n1:=aW f1;try simp only[aQ] at n1
 try apply aa _
 refine af hJ ?_;refine ah hJ ?_;have h':=an h;clear h;obtain ⟨x2,c,h⟩:=h';apply aa _;refine bp hJ _ (p6 u0 a c) (aS ?_);try apply aa _
 have h':=Option.some.inj h;clear h;subst h';refine aG ?_;simp only[*,go_sem]
def nS (a:(bu->Option Bool))(i9:Nat)(b:bu)(st:Int):Option (Fl Int Int):=
 ax (a b) fun c=>cond (c) (some (.rt (i9:Int))) (some (.nx st))
def nU (u0:(List bu))(a:(bu->Option Bool)):Option Int:=
 ax (b7 (nS a) 0 u0 0) fun o=>aH o (fun b=>some (-1)) (fun _ _=>none) (fun r=>some r)
theorem yV {ro:Addr->Option Value}(u0:(List bu)){s1:Value}(s:aI dJ ro s1 u0)(g:(bu->Option Bool)){bL:FuncId}{bQ bR:Array Value}(t:aO Tryz.prog bL=true/\∀(aK:Addr->Option Value),Ext ro aK->∀(y0:bu) (z:Bool),g y0=some z->aF Tryz.prog bL (bQ++#[y0.v]++bR) ⟨aK,[]⟩ (fun v _=>v= .bool z)){r:Int}(h:nU u0 g=some r):aF Tryz.prog 106 #[s1,.func (.func bL) bQ bR] ⟨ro,[]⟩ (fun v _=>v= .int .i64 r):=by
 obtain ⟨d3,c4,rfl,M,u,w⟩:=id s;unfold nU at h;refine aF.go Tryz.func106 rfl Tryz.ntmps106 Tryz.results106 aB fun main J hJ A y hd hs=>?_;have B:=hs 0;have k1:=hs 1;clear hs;refine af hJ ?_;refine ah hJ ?_;apply aa _;refine af hJ ?_;refine af hJ ?_;refine ah hJ ?_;apply aa _;refine aY hJ ?_;have h':=an h;clear h;obtain ⟨C,b,l⟩:=h';have h:=True.intro;refine bO hJ [4,5,8,9,10,11,12,13,14,15,16,17,18] (fun m o F'=>∃(i9:Nat) (e:Int),m=u0.length - i9/\i9<=u0.length/\b7 (nS g) i9 (u0.drop i9) e=some C/\F'=⟨ro,[]⟩/\slot o 8= .int .i64 (i9:Int)/\slot o 4= .int .i64 e) u0.length ?_ ?_
 .refine ⟨0,0,(Nat.sub_zero _).symm,Nat.zero_le _,b,rfl,?_⟩;simp only[*,go_sem,-h]
 rintro N d F' c ⟨i9,e,rfl,O,b,rfl,P,Q⟩;have h:=True.intro;have R:sz d=19:=by rw[c.size];simp only[*,go_sem,-h]
 have S:d.defers=[]:=by rw[c.defers];simp only[*,go_sem,-h]
 have T:slot d 0= .slice d3 u0.length c4:=by rw[c.ay 0 av];simp only[*,go_sem,-h]
 have U:slot d 1= .func (.func bL) bQ bR:=by rw[c.ay 1 av];simp only[*,go_sem,-h]
 have V:slot d 7= .int .i64 (u0.length:Int):=by rw[c.ay 7 av];simp only[*,go_sem,-h]
 clear c y hd B k1;refine af hJ ?_;refine ah hJ ?_;apply aa _;refine af hJ ?_;rcases Nat.lt_or_ge i9 u0.length with D|p
 .refine aN hJ ak ?_;refine aR hJ ?_;obtain ⟨q,i⟩:∃x,u0[i9]?=some x:=⟨_,List.getElem?_eq_getElem D⟩
  rw[er i] at b;have h':=an b;clear b h;obtain ⟨W,h,j⟩:=h';unfold nS at h;try dsimp only at h
  obtain ⟨X,E,F,G,f⟩:=w _ _ i;obtain rfl:E=q.cells:=G;cases F;have H:=f 0 _ rfl;simp only[go_sem] at H;have I:=f 1 _ rfl;simp only[go_sem] at I;have K:=f 2 _ rfl;simp only[go_sem] at K;clear f i;refine af hJ ?_;refine aY hJ ?_;refine af hJ ?_;refine ah hJ ?_;apply aa _;refine af hJ ?_;refine ah hJ ?_;have h':=an h;clear h;obtain ⟨Y,L,h⟩:=h';apply aa _;refine bp hJ _ (t.2 _ (fun a v h=>aZ a v h) q _ L) ?_;try apply aa _
  have h':=aD h;clear h;rcases h' with ⟨k,h⟩|⟨k,h⟩
  ·(try simp only[Int.ofNat_lt] at k);refine aN hJ ak ?_;refine af hJ ?_;refine ah hJ ?_;apply aa _;have h':=Option.some.inj h;clear h;subst h';have h':=Option.some.inj j;clear j;subst h';have h:=l;dsimp only[aH] at h;have h':=Option.some.inj h;clear h;subst h';refine aG ?_;simp only[*,go_sem]
  try simp only[Int.ofNat_lt] at k
  refine aM hJ ak ?_;refine aR hJ ?_;have h':=Option.some.inj h;clear h;subst h';have h:=True.intro;have Z:=dF (n:=i9) (by have:=u;omega);refine ah hJ ?_;apply aa _;refine ⟨u0.length - (i9+1),ai,_,Le.sub (List.Sublist.refl _),i9+1,e,rfl,ai,j,rfl,?_⟩;simp only[*,go_sem,-h]
 have ab:=Nat.not_lt.2 p;refine aM hJ ak ?_;rw[List.drop_eq_nil_of_le p] at b;have h':=Option.some.inj b;clear b h;subst h';have h:=l;dsimp only[aH] at h;refine bI ?_;simp only[go_sem];refine af hJ ?_;refine ah hJ ?_;apply aa _;have h':=Option.some.inj h;clear h;subst h';refine aG ?_;simp only[*,go_sem]
def tC (a:(bf->Option Bool))(i9:Nat)(b:bf)(st:Int):Option (Fl Int Int):=
 ax (a b) fun c=>cond (c) (some (.rt (i9:Int))) (some (.nx st))
def tD (u0:(List bf))(a:(bf->Option Bool)):Option Int:=
 ax (b7 (tC a) 0 u0 0) fun o=>aH o (fun b=>some (-1)) (fun _ _=>none) (fun r=>some r)
theorem DV {ro:Addr->Option Value}(u0:(List bf)){s1:Value}(t:aI bK ro s1 u0)(g:(bf->Option Bool)){bL:FuncId}{bQ bR:Array Value}(u:aO Tryz.prog bL=true/\∀(aK:Addr->Option Value),Ext ro aK->∀(y0:bf) (l:Value) (z:Bool),aI dJ aK l y0.marks->g y0=some z->aF Tryz.prog bL (bQ++#[.agg #[.string ⟨⟨y0.name⟩⟩,.int .i64 y0.from_.low,.int .i64 y0.from_.high,.int .i64 y0.wide,.int .i64 y0.aC.low,.int .i64 y0.aC.high,l]]++bR) ⟨aK,[]⟩ (fun v _=>v= .bool z)){r:Int}(h:tD u0 g=some r):aF Tryz.prog 134 #[s1,.func (.func bL) bQ bR] ⟨ro,[]⟩ (fun v _=>v= .int .i64 r):=by
 obtain ⟨d3,c4,rfl,R,w,y⟩:=id t;unfold tD at h;refine aF.go Tryz.func134 rfl Tryz.ntmps134 Tryz.results134 aB fun main J hJ A B hd hs=>?_;have C:=hs 0;have k1:=hs 1;clear hs;refine af hJ ?_;refine ah hJ ?_;apply aa _;refine af hJ ?_;refine af hJ ?_;refine ah hJ ?_;apply aa _;refine aY hJ ?_;have h':=an h;clear h;obtain ⟨D,b,o⟩:=h';have h:=True.intro;refine bO hJ [4,5,8,9,10,11,12,13,14,15,16,17,18] (fun m p F'=>∃(i9:Nat) (f:Int),m=u0.length - i9/\i9<=u0.length/\b7 (tC g) i9 (u0.drop i9) f=some D/\F'=⟨ro,[]⟩/\slot p 8= .int .i64 (i9:Int)/\slot p 4= .int .i64 f) u0.length ?_ ?_
 .refine ⟨0,0,(Nat.sub_zero _).symm,Nat.zero_le _,b,rfl,?_⟩;simp only[*,go_sem,-h]
 rintro S e F' d ⟨i9,f,rfl,T,b,rfl,U,V⟩;have h:=True.intro;have W:sz e=19:=by rw[d.size];simp only[*,go_sem,-h]
 have X:e.defers=[]:=by rw[d.defers];simp only[*,go_sem,-h]
 have Y:slot e 0= .slice d3 u0.length c4:=by rw[d.ay 0 av];simp only[*,go_sem,-h]
 have Z:slot e 1= .func (.func bL) bQ bR:=by rw[d.ay 1 av];simp only[*,go_sem,-h]
 have ab:slot e 7= .int .i64 (u0.length:Int):=by rw[d.ay 7 av];simp only[*,go_sem,-h]
 clear d B hd C k1;refine af hJ ?_;refine ah hJ ?_;apply aa _;refine af hJ ?_;rcases Nat.lt_or_ge i9 u0.length with E|q
 .refine aN hJ ak ?_;refine aR hJ ?_;obtain ⟨F,i⟩:∃x,u0[i9]?=some x:=⟨_,List.getElem?_eq_getElem E⟩
  rw[er i] at b;have h':=an b;clear b h;obtain ⟨ad,h,j⟩:=h';unfold tC at h;try dsimp only at h
  obtain ⟨ae,al,G,H,c⟩:=y _ _ i;obtain ⟨ao,rfl,s⟩:=H;obtain ⟨d18,ar,rfl,a0,a2,a3⟩:=id s;cases G;have I:=c 0 _ rfl;simp only[go_sem] at I;have K:=c 1 _ rfl;simp only[go_sem] at K;have L:=c 2 _ rfl;simp only[go_sem] at L;have M:=c 3 _ rfl;simp only[go_sem] at M;have N:=c 4 _ rfl;simp only[go_sem] at N;have O:=c 5 _ rfl;simp only[go_sem] at O;have P:=c 6 _ rfl;simp only[go_sem] at P;clear c i;refine af hJ ?_;refine aY hJ ?_;refine af hJ ?_;refine ah hJ ?_;apply aa _;refine af hJ ?_;refine ah hJ ?_;have h':=an h;clear h;obtain ⟨a4,Q,h⟩:=h';apply aa _;refine bp hJ _ (u.2 _ (fun a v h=>aZ a v h) F _ _ (s.mono aZ) Q) ?_;try apply aa _
  have h':=aD h;clear h;rcases h' with ⟨k,h⟩|⟨k,h⟩
  ·(try simp only[Int.ofNat_lt] at k);refine aN hJ ak ?_;refine af hJ ?_;refine ah hJ ?_;apply aa _;have h':=Option.some.inj h;clear h;subst h';have h':=Option.some.inj j;clear j;subst h';have h:=o;dsimp only[aH] at h;have h':=Option.some.inj h;clear h;subst h';refine aG ?_;simp only[*,go_sem]
  try simp only[Int.ofNat_lt] at k
  refine aM hJ ak ?_;refine aR hJ ?_;have h':=Option.some.inj h;clear h;subst h';have h:=True.intro;have a5:=dF (n:=i9) (by have:=w;omega);refine ah hJ ?_;apply aa _;refine ⟨u0.length - (i9+1),ai,_,Le.sub (List.Sublist.refl _),i9+1,f,rfl,ai,j,rfl,?_⟩;simp only[*,go_sem,-h]
 have a6:=Nat.not_lt.2 q;refine aM hJ ak ?_;rw[List.drop_eq_nil_of_le q] at b;have h':=Option.some.inj b;clear b h;subst h';have h:=o;dsimp only[aH] at h;refine bI ?_;simp only[go_sem];refine af hJ ?_;refine ah hJ ?_;apply aa _;have h':=Option.some.inj h;clear h;subst h';refine aG ?_;simp only[*,go_sem]
def tE (u0:(List bf))(a:(bf->Option Bool)):Option Bool:=
 ax (tD u0 a) fun b=>some (decide (0<=b))
theorem DW {ro:Addr->Option Value}(u0:(List bf)){s1:Value}(b:aI bK ro s1 u0)(a:(bf->Option Bool)){bL:FuncId}{bQ bR:Array Value}(c:aO Tryz.prog bL=true/\∀(aK:Addr->Option Value),Ext ro aK->∀(y0:bf) (d:Value) (z:Bool),aI dJ aK d y0.marks->a y0=some z->aF Tryz.prog bL (bQ++#[.agg #[.string ⟨⟨y0.name⟩⟩,.int .i64 y0.from_.low,.int .i64 y0.from_.high,.int .i64 y0.wide,.int .i64 y0.aC.low,.int .i64 y0.aC.high,d]]++bR) ⟨aK,[]⟩ (fun v _=>v= .bool z)){r:Bool}(h:tE u0 a=some r):aF Tryz.prog 109 #[s1,.func (.func bL) bQ bR] ⟨ro,[]⟩ (fun v _=>v= .bool r):=by
 obtain ⟨d3,c4,rfl,g,i,j⟩:=id b;unfold tE at h;refine aF.go Tryz.func109 rfl Tryz.ntmps109 Tryz.results109 aB fun main J hJ A k hd hs=>?_;have l:=hs 0;have k1:=hs 1;clear hs;refine af hJ ?_;refine ah hJ ?_;apply aa _;refine af hJ ?_;refine ah hJ ?_;have h':=an h;clear h;obtain ⟨m,e,h⟩:=h';apply aa _;refine bp hJ _ (DV (bL:=bL) (bQ:=bQ) (bR:=bR) u0 (b.mono aZ) a ⟨c.1,fun _ f=>c.2 _ (Ext.trans aZ f)⟩ e) (aS ?_);try apply aa _
 have h':=Option.some.inj h;clear h;subst h';refine aG ?_;simp only[*,go_sem]
def gd (u0:aU)(a:aU):Option Int:=
 cond ((u0.step != a.step)) (some (IntKind.i64.wrap (u0.step - a.step))) (some (IntKind.i64.wrap (u0.cB - a.cB)))
theorem yW {ro:Addr->Option Value}(u0:aU)(a:aU){r:Int}(h:gd u0 a=some r):aF Tryz.prog 112 #[.agg #[.int .i64 u0.step,.int .i64 u0.cB],.agg #[.int .i64 a.step,.int .i64 a.cB]] ⟨ro,[]⟩ (fun v _=>v= .int .i64 r):=by
 unfold gd at h;refine aF.go Tryz.func112 rfl Tryz.ntmps112 Tryz.results112 aB fun main J hJ A d hd hs=>?_;have e:=hs 0;have k1:=hs 1;clear hs;refine af hJ ?_;refine ah hJ ?_;apply aa _;intro f f1;have r1:=aV f1;have n1:=aW f1;try simp only[aQ] at n1
 intro b2 f2;have r2:=aV f2;have c:=aW f2;try simp only[aQ] at c
 try apply aa _
 refine af hJ ?_;refine af hJ ?_;refine ah hJ ?_;apply aa _;have h':=aD h;clear h;rcases h' with ⟨b,h⟩|⟨b,h⟩
 .try simp only[Int.ofNat_lt] at b
  refine aN hJ ak ?_;refine af hJ ?_;refine ah hJ ?_;apply aa _;have h':=Option.some.inj h;clear h;subst h';refine aG ?_;simp only[*,go_sem]
 try simp only[Int.ofNat_lt] at b
 refine aM hJ ak ?_;refine aR hJ ?_;refine af hJ ?_;refine ah hJ ?_;apply aa _;have h':=Option.some.inj h;clear h;subst h';refine aG ?_;simp only[*,go_sem]
def nW (u0:aL):Option Int:=
 ax (ff u0.steps 4 24) fun a=>cond (!a) (some 1) (ax (ff u0.au 0 2) fun b=>cond (!b) (some 1) (ax (ff (u0.aj.length:Int) 1 4) fun c=>cond (!c) (some 2) (some 0)))
theorem DX {ro:Addr->Option Value}(u0:aL){s1:Value}(d:aI bK ro s1 u0.aj){r:Int}(h:nW u0=some r):aF Tryz.prog 216 #[.agg #[.int .i64 u0.steps,.int .i64 u0.au,s1]] ⟨ro,[]⟩ (fun v _=>v= .int .i64 r):=by
 obtain ⟨d3,c4,rfl,j,k,l⟩:=id d;unfold nW at h;refine aF.go Tryz.func216 rfl Tryz.ntmps216 Tryz.results216 aB fun main J hJ A m hd hs=>?_;have n:=hs 0;clear hs;refine af hJ ?_;refine ah hJ ?_;apply aa _;intro o f8;have p:=aV f8;have e:=aW f8;try simp only[aQ] at e
 try apply aa _
 refine af hJ ?_;refine af hJ ?_;refine ah hJ ?_;have h':=an h;clear h;obtain ⟨q,f,h⟩:=h';apply aa _;refine bp hJ _ (gC u0.steps 4 24 f) (aS ?_);have h':=aD h;clear h;rcases h' with ⟨a,h⟩|⟨a,h⟩
 .try simp only[Int.ofNat_lt] at a
  try apply aa _
  refine aN hJ ak ?_;refine af hJ ?_;refine ah hJ ?_;apply aa _;have h':=Option.some.inj h;clear h;subst h';refine aG ?_;simp only[*,go_sem]
 try simp only[Int.ofNat_lt] at a
 have h':=an h;clear h;obtain ⟨s,g,h⟩:=h';try apply aa _
 refine bp hJ _ (gC u0.au 0 2 g) (aS ?_);try apply aa _
 have h':=aD h;clear h;rcases h' with ⟨b,h⟩|⟨b,h⟩
 .try simp only[Int.ofNat_lt] at b
  refine aN hJ ak ?_;refine af hJ ?_;refine ah hJ ?_;apply aa _;have h':=Option.some.inj h;clear h;subst h';refine aG ?_;simp only[*,go_sem]
 try simp only[Int.ofNat_lt] at b
 refine aM hJ ak ?_;refine aR hJ ?_;refine af hJ ?_;refine af hJ ?_;refine ah hJ ?_;have h':=an h;clear h;obtain ⟨t,i,h⟩:=h';apply aa _;refine bp hJ _ (gC (u0.aj.length:Int) 1 4 i) (aS ?_);try apply aa _
 have h':=aD h;clear h;rcases h' with ⟨c,h⟩|⟨c,h⟩
 .try simp only[Int.ofNat_lt] at c
  refine aN hJ ak ?_;refine af hJ ?_;refine ah hJ ?_;apply aa _;have h':=Option.some.inj h;clear h;subst h';refine aG ?_;simp only[*,go_sem]
 try simp only[Int.ofNat_lt] at c
 refine aM hJ ak ?_;refine aR hJ ?_;refine af hJ ?_;refine ah hJ ?_;apply aa _;have h':=Option.some.inj h;clear h;subst h';refine aG ?_;simp only[*,go_sem]
def nZ (u0:(List bu))(a:(bu->Option Bool)):Option Bool:=
 ax (nU u0 a) fun b=>some (decide (0<=b))
theorem DY {ro:Addr->Option Value}(u0:(List bu)){s1:Value}(b:aI dJ ro s1 u0)(a:(bu->Option Bool)){bL:FuncId}{bQ bR:Array Value}(c:aO Tryz.prog bL=true/\∀(aK:Addr->Option Value),Ext ro aK->∀(y0:bu) (z:Bool),a y0=some z->aF Tryz.prog bL (bQ++#[y0.v]++bR) ⟨aK,[]⟩ (fun v _=>v= .bool z)){r:Bool}(h:nZ u0 a=some r):aF Tryz.prog 221 #[s1,.func (.func bL) bQ bR] ⟨ro,[]⟩ (fun v _=>v= .bool r):=by
 obtain ⟨d3,c4,rfl,f,g,i⟩:=id b;unfold nZ at h;refine aF.go Tryz.func221 rfl Tryz.ntmps221 Tryz.results221 aB fun main J hJ A j hd hs=>?_;have k:=hs 0;have k1:=hs 1;clear hs;refine af hJ ?_;refine ah hJ ?_;apply aa _;refine af hJ ?_;refine ah hJ ?_;have h':=an h;clear h;obtain ⟨l,d,h⟩:=h';apply aa _;refine bp hJ _ (yV (bL:=bL) (bQ:=bQ) (bR:=bR) u0 (b.mono aZ) a ⟨c.1,fun _ e=>c.2 _ (Ext.trans aZ e)⟩ d) (aS ?_);try apply aa _
 have h':=Option.some.inj h;clear h;subst h';refine aG ?_;simp only[*,go_sem]
def kL (u0:bu)(a:bu):Option Bool:=
 some (u0.bN==a.bN)
theorem DZ {ro:Addr->Option Value}(u0:bu)(a:bu){b:Nat}(c:ro ⟨b,0,none⟩=some (.string ⟨⟨a.bN⟩⟩))(d:ro ⟨b,1,none⟩=some (.int .i64 a.dY))(e:ro ⟨b,2,none⟩=some (.int .i64 a.row)){r:Bool}(h:kL u0 a=some r):aF Tryz.prog 222 #[.agg #[.string ⟨⟨u0.bN⟩⟩,.int .i64 u0.dY,.int .i64 u0.row],.pointer (some ⟨b,0,none⟩)] ⟨ro,[]⟩ (fun v _=>v= .bool r):=by
 unfold kL at h;refine aF.go Tryz.func222 rfl Tryz.ntmps222 Tryz.results222 aB fun main J hJ A f hd hs=>?_;have g:=hs 0;have k1:=hs 1;clear hs;refine af hJ ?_;refine ah hJ ?_;apply aa _;intro i f1;have r1:=aV f1;have n1:=aW f1;try simp only[aQ] at n1
 try apply aa _
 refine af hJ ?_;refine ah hJ ?_;apply aa _;have h':=Option.some.inj h;clear h;subst h';refine aG ?_;simp only[*,go_sem]
def n4 (i10:Nat)(a:bf)(st:Int):Option (Fl Int Int):=
 some (.nx (IntKind.i64.wrap (st*(IntKind.i64.wrap ((IntKind.i64.wrap ((IntKind.i64.wrap (a.from_.high - a.from_.low))+1))*(IntKind.i64.wrap ((IntKind.i64.wrap (a.aC.high - a.aC.low))+1)))))))
def lV (u0:aL):Option Int:=
 ax (b7 (n4) 0 u0.aj 1) fun o=>aH o (fun a=>cond (decide (200<a)) (some 2) (some 0)) (fun _ _=>none) (fun r=>some r)
theorem D1 {ro:Addr->Option Value}(u0:aL){s1:Value}(l:aI bK ro s1 u0.aj){r:Int}(h:lV u0=some r):aF Tryz.prog 218 #[.agg #[.int .i64 u0.steps,.int .i64 u0.au,s1]] ⟨ro,[]⟩ (fun v _=>v= .int .i64 r):=by
 obtain ⟨d3,c4,rfl,O,o,p⟩:=id l;unfold lV at h;refine aF.go Tryz.func218 rfl Tryz.ntmps218 Tryz.results218 aB fun main J hJ A q hd hs=>?_;have s:=hs 0;clear hs;refine af hJ ?_;refine ah hJ ?_;apply aa _;intro t f8;have P:=aV f8;have u:=aW f8;try simp only[aQ] at u
 try apply aa _
 refine af hJ ?_;refine ah hJ ?_;apply aa _;refine af hJ ?_;refine af hJ ?_;refine ah hJ ?_;apply aa _;refine aY hJ ?_;have h':=an h;clear h;obtain ⟨w,a,y⟩:=h';have h:=True.intro;refine bO hJ [3,5,10,11,12,13,14,15,16,17,18,19,20,21,22,23,24,25,26,27,28,29,30,31,32,33] (fun m j F'=>∃(i10:Nat) (e:Int),m=u0.aj.length - i10/\i10<=u0.aj.length/\b7 (n4) i10 (u0.aj.drop i10) e=some w/\F'=⟨ro,(t,.cells #[.int .i64 u0.steps,.int .i64 u0.au,.slice d3 u0.aj.length c4] 87)::[]⟩/\slot j 10= .int .i64 (i10:Int)/\slot j 3= .int .i64 e) u0.aj.length ?_ ?_
 .refine ⟨0,1,(Nat.sub_zero _).symm,Nat.zero_le _,a,rfl,?_⟩;simp only[*,go_sem,-h]
 rintro Q d F' c ⟨i10,e,rfl,R,a,rfl,S,T⟩;have h:=True.intro;have U:sz d=36:=by rw[c.size];simp only[*,go_sem,-h]
 have V:d.defers=[]:=by rw[c.defers];simp only[*,go_sem,-h]
 have W:slot d 2= .int .i64 0:=by rw[c.ay 2 av];simp only[*,go_sem,-h]
 have X:slot d 8= .slice d3 u0.aj.length c4:=by rw[c.ay 8 av];simp only[*,go_sem,-h]
 have Y:slot d 9= .int .i64 (u0.aj.length:Int):=by rw[c.ay 9 av];simp only[*,go_sem,-h]
 clear c q hd s;refine af hJ ?_;refine ah hJ ?_;apply aa _;refine af hJ ?_;rcases Nat.lt_or_ge i10 u0.aj.length with z|k
 .refine aN hJ ak ?_;refine aR hJ ?_;obtain ⟨f,g⟩:∃x,u0.aj[i10]?=some x:=⟨_,List.getElem?_eq_getElem z⟩
  rw[er g] at a;have h':=an a;clear a h;obtain ⟨Z,h,B⟩:=h';unfold n4 at h;try dsimp only at h
  obtain ⟨ab,ad,C,D,b⟩:=p _ _ g;obtain ⟨ae,rfl,E⟩:=D;obtain ⟨d19,al,rfl,ao,ar,a0⟩:=id E;cases C;have F:=b 0 _ rfl;simp only[go_sem] at F;have G:=b 1 _ rfl;simp only[go_sem] at G;have H:=b 2 _ rfl;simp only[go_sem] at H;have I:=b 3 _ rfl;simp only[go_sem] at I;have K:=b 4 _ rfl;simp only[go_sem] at K;have L:=b 5 _ rfl;simp only[go_sem] at L;have M:=b 6 _ rfl;simp only[go_sem] at M;clear b g;refine af hJ ?_;refine aY hJ ?_;refine af hJ ?_;refine ah hJ ?_;apply aa _;intro a2 f25;have a3:=aV f25;have N:=aW f25;try simp only[aQ] at N
  try apply aa _
  refine ah hJ ?_;apply aa _;have h':=Option.some.inj h;clear h;subst h';have h:=True.intro;have a4:=dF (n:=i10) (by have:=o;omega);refine ah hJ ?_;apply aa _;refine ⟨u0.aj.length - (i10+1),ai,_,Le.sub (List.Sublist.cons _ (List.Sublist.refl _)),i10+1,(IntKind.i64.wrap (e*(IntKind.i64.wrap ((IntKind.i64.wrap ((IntKind.i64.wrap (f.from_.high - f.from_.low))+1))*(IntKind.i64.wrap ((IntKind.i64.wrap (f.aC.high - f.aC.low))+1)))))),rfl,ai,B,rfl,?_⟩;simp only[*,go_sem,-h]
 have a5:=Nat.not_lt.2 k;refine aM hJ ak ?_;rw[List.drop_eq_nil_of_le k] at a;have h':=Option.some.inj a;clear a h;subst h';have h:=y;dsimp only[aH] at h;refine bI ?_;simp only[go_sem];refine af hJ ?_;refine af hJ ?_;refine ah hJ ?_;apply aa _;have h':=aD h;clear h;rcases h' with ⟨i,h⟩|⟨i,h⟩
 .try simp only[Int.ofNat_lt] at i
  refine aN hJ ak ?_;refine af hJ ?_;refine ah hJ ?_;apply aa _;have h':=Option.some.inj h;clear h;subst h';refine aG ?_;simp only[*,go_sem]
 try simp only[Int.ofNat_lt] at i
 refine aM hJ ak ?_;refine aR hJ ?_;refine af hJ ?_;refine ah hJ ?_;apply aa _;have h':=Option.some.inj h;clear h;subst h';refine aG ?_;simp only[*,go_sem]
def n5 (b:bf)(i43:Nat)(a:bu)(st:Int):Option (Fl Int Int):=
 ax (lO a.bN) fun c=>cond (!c) (some (.rt 4)) (ax (jh b.marks 0 (i43:Int)) fun d=>ax (nZ d (fun y0=>kL y0 a)) fun e=>cond (e) (some (.rt 5)) (ax (ff a.dY 0 (IntKind.i64.wrap (b.wide - 1))) fun f=>cond (!f) (some (.rt 1)) (ax (ff a.row (-9) 9) fun g=>cond (!g) (some (.rt 1)) (some (.nx st)))))
def n6 (u0:aL)(i12:Nat)(a:bf)(st:(Int×(List ((List UInt8)×Bool)))):Option (Fl (Int×(List ((List UInt8)×Bool))) Int):=
 ax (lO a.name) fun b=>cond (!b) (some (.rt 4)) (cond (((cA st.2 a.name).getD false)) (some (.rt 5)) (ax (lM a.from_ 0 (IntKind.i64.wrap (u0.steps - 1)) 3) fun c=>cond (!c) (some (.rt 1)) (ax (ff a.wide 1 u0.steps) fun d=>cond (!d) (some (.rt 1)) (ax (lM a.aC (-3) 3 3) fun e=>cond (!e) (some (.rt 1)) (cond (decide (4<(a.marks.length:Int))) (some (.rt 2)) (ax (b7 (n5 a) 0 a.marks st.1) fun o=>aH o (fun f=>some (.nx (f,(cw st.2 a.name true)))) (fun _ _=>none) (fun r=>some (.rt r))))))))
def lW (u0:aL):Option Int:=
 ax (b7 (n6 u0) 0 u0.aj (0,([]:(List ((List UInt8)×Bool))))) fun o=>aH o (fun a=>some 0) (fun _ _=>none) (fun r=>some r)
theorem D2 {ro:Addr->Option Value}(u0:aL){s1:Value}(X:aI bK ro s1 u0.aj){r:Int}(h:lW u0=some r):aF Tryz.prog 217 #[.agg #[.int .i64 u0.steps,.int .i64 u0.au,s1]] ⟨ro,[]⟩ (fun v _=>v= .int .i64 r):=by
 obtain ⟨d3,c4,rfl,ec,Y,Z⟩:=id X;unfold lW at h;refine aF.go Tryz.func217 rfl Tryz.ntmps217 Tryz.results217 aB fun main J hJ A ab hd hs=>?_;have ad:=hs 0;clear hs;refine af hJ ?_;refine ah hJ ?_;apply aa _;intro i f8;have ed:=aV f8;have ae:=aW f8;try simp only[aQ] at ae
 try apply aa _
 refine af hJ ?_;refine ah hJ ?_;apply aa _;refine Ds fun s f9=>?_;have eh:=aV f9;have al:=aW f9;try simp only[aQ] at al
 refine aS ?_;try apply aa _
 refine af hJ ?_;refine af hJ ?_;refine ah hJ ?_;apply aa _;refine aY hJ ?_;have h':=an h;clear h;obtain ⟨ao,j,e⟩:=h';have h:=True.intro;refine bO hJ [2,5,6,7,13,14,15,16,17,18,19,20,21,22,23,24,25,26,27,28,29,30,31,32,33,34,35,36,37,38,39,40,41,42,43,44,45,46,47,48,49,50,51,52,53,54,55,56,57,58,59,60,61,62,63,64,65,66,67,68,69,70,71,72,73,74,75,76,77,78,79,80,81,82,83,84,85,86,87,88,89,90,91,92,93,94] (fun m u F'=>∃(i12:Nat) (v10:Int) (v11:(List ((List UInt8)×Bool))),m=u0.aj.length - i12/\i12<=u0.aj.length/\b7 (n6 u0) i12 (u0.aj.drop i12) (v10,v11)=some ao/\F'=⟨ro,(s,lK v11)::(i,.cells #[.int .i64 u0.steps,.int .i64 u0.au,.slice d3 u0.aj.length c4] 87)::[]⟩/\slot u 13= .int .i64 (i12:Int)/\slot u 2= .int .i64 v10) u0.aj.length ?_ ?_
 .refine ⟨0,0,([]:(List ((List UInt8)×Bool))),(Nat.sub_zero _).symm,Nat.zero_le _,j,rfl,?_⟩;simp only[*,go_sem,-h]
 rintro et p F' q ⟨i12,v10,v11,rfl,ev,j,rfl,ar,a0⟩;have h:=True.intro;have a2:sz p=95:=by rw[q.size];simp only[*,go_sem,-h]
 have a3:p.defers=[]:=by rw[q.defers];simp only[*,go_sem,-h]
 have a4:slot p 1= .pointer (some ⟨i,0,none⟩):=by rw[q.ay 1 av];simp only[*,go_sem,-h]
 have a5:slot p 3= .map (some s):=by rw[q.ay 3 av];simp only[*,go_sem,-h]
 have a6:slot p 11= .slice d3 u0.aj.length c4:=by rw[q.ay 11 av];simp only[*,go_sem,-h]
 have a7:slot p 12= .int .i64 (u0.aj.length:Int):=by rw[q.ay 12 av];simp only[*,go_sem,-h]
 clear q ab hd ad;refine af hJ ?_;refine ah hJ ?_;apply aa _;refine af hJ ?_;rcases Nat.lt_or_ge i12 u0.aj.length with a8|Q
 .refine aN hJ ak ?_;refine aR hJ ?_;obtain ⟨c,C⟩:∃x,u0.aj[i12]?=some x:=⟨_,List.getElem?_eq_getElem a8⟩
  rw[er C] at j;have h':=an j;clear j h;obtain ⟨eQ,h,d⟩:=h';unfold n6 at h;try dsimp only at h
  obtain ⟨R,eS,a9,ba,k⟩:=Z _ _ C;obtain ⟨e0,rfl,S⟩:=ba;obtain ⟨d21,w,rfl,e1,bb,bc⟩:=id S;cases a9;have bd:=k 0 _ rfl;simp only[go_sem] at bd;have bj:=k 1 _ rfl;simp only[go_sem] at bj;have bk:=k 2 _ rfl;simp only[go_sem] at bk;have bm:=k 3 _ rfl;simp only[go_sem] at bm;have bo:=k 4 _ rfl;simp only[go_sem] at bo;have br:=k 5 _ rfl;simp only[go_sem] at br;have bs:=k 6 _ rfl;simp only[go_sem] at bs;clear k C;refine af hJ ?_;refine aY hJ ?_;refine af hJ ?_;refine ah hJ ?_;apply aa _;intro f f27;have e2:=aV f27;have b0:=aW f27;try simp only[aQ] at b0
  try apply aa _
  refine af hJ ?_;refine aY hJ ?_;refine af hJ ?_;refine ah hJ ?_;have h':=an h;clear h;obtain ⟨b1,b2,h⟩:=h';apply aa _;refine bp hJ _ (yS c.name b2) (aS ?_);try apply aa _
  have h':=aD h;clear h;rcases h' with ⟨D,h⟩|⟨D,h⟩
  ·(try simp only[Int.ofNat_lt] at D);refine aN hJ ak ?_;refine af hJ ?_;refine ah hJ ?_;apply aa _;have h':=Option.some.inj h;clear h;subst h';have h':=Option.some.inj d;clear d;subst h';have h:=e;dsimp only[aH] at h;have h':=Option.some.inj h;clear h;subst h';refine aG ?_;simp only[*,go_sem]
  try simp only[Int.ofNat_lt] at D
  refine aM hJ ak ?_;refine af hJ ?_;refine ah hJ ?_;apply aa _;refine Dt (l:=v11) ak ?_;try refine aS ?_
  try apply aa _
  have h':=aD h;clear h;rcases h' with ⟨E,h⟩|⟨E,h⟩
  ·(try simp only[Int.ofNat_lt] at E);refine aN hJ ak ?_;refine af hJ ?_;refine ah hJ ?_;apply aa _;have h':=Option.some.inj h;clear h;subst h';have h':=Option.some.inj d;clear d;subst h';have h:=e;dsimp only[aH] at h;have h':=Option.some.inj h;clear h;subst h';refine aG ?_;simp only[*,go_sem]
  try simp only[Int.ofNat_lt] at E
  refine aM hJ ak ?_;refine af hJ ?_;refine ah hJ ?_;have h':=an h;clear h;obtain ⟨b3,b4,h⟩:=h';apply aa _;refine bp hJ _ (yQ c.from_ 0 (IntKind.i64.wrap (u0.steps - 1)) 3 b4) (aS ?_);have h':=aD h;clear h;rcases h' with ⟨F,h⟩|⟨F,h⟩
  ·(try simp only[Int.ofNat_lt] at F);(try apply aa _);refine aN hJ ak ?_;refine af hJ ?_;refine ah hJ ?_;apply aa _;have h':=Option.some.inj h;clear h;subst h';have h':=Option.some.inj d;clear d;subst h';have h:=e;dsimp only[aH] at h;have h':=Option.some.inj h;clear h;subst h';refine aG ?_;simp only[*,go_sem]
  try simp only[Int.ofNat_lt] at F
  have h':=an h;clear h;obtain ⟨ca,cb,h⟩:=h';try apply aa _
  refine bp hJ _ (gC c.wide 1 u0.steps cb) (aS ?_);have h':=aD h;clear h;rcases h' with ⟨G,h⟩|⟨G,h⟩
  ·(try simp only[Int.ofNat_lt] at G);(try apply aa _);refine aN hJ ak ?_;refine af hJ ?_;refine ah hJ ?_;apply aa _;have h':=Option.some.inj h;clear h;subst h';have h':=Option.some.inj d;clear d;subst h';have h:=e;dsimp only[aH] at h;have h':=Option.some.inj h;clear h;subst h';refine aG ?_;simp only[*,go_sem]
  try simp only[Int.ofNat_lt] at G
  have h':=an h;clear h;obtain ⟨cc,cd,h⟩:=h';try apply aa _
  refine bp hJ _ (yQ c.aC (-3) 3 3 cd) (aS ?_);try apply aa _
  have h':=aD h;clear h;rcases h' with ⟨H,h⟩|⟨H,h⟩
  ·(try simp only[Int.ofNat_lt] at H);refine aN hJ ak ?_;refine af hJ ?_;refine ah hJ ?_;apply aa _;have h':=Option.some.inj h;clear h;subst h';have h':=Option.some.inj d;clear d;subst h';have h:=e;dsimp only[aH] at h;have h':=Option.some.inj h;clear h;subst h';refine aG ?_;simp only[*,go_sem]
  try simp only[Int.ofNat_lt] at H
  refine aM hJ ak ?_;refine af hJ ?_;refine ah hJ ?_;apply aa _;have h':=aD h;clear h;rcases h' with ⟨I,h⟩|⟨I,h⟩
  ·(try simp only[Int.ofNat_lt] at I);refine aN hJ ak ?_;refine af hJ ?_;refine ah hJ ?_;apply aa _;have h':=Option.some.inj h;clear h;subst h';have h':=Option.some.inj d;clear d;subst h';have h:=e;dsimp only[aH] at h;have h':=Option.some.inj h;clear h;subst h';refine aG ?_;simp only[*,go_sem]
  try simp only[Int.ofNat_lt] at I
  refine aM hJ ak ?_;refine aR hJ ?_;refine af hJ ?_;refine ah hJ ?_;apply aa _;refine Du (l:=v11) (v:=true) ak ?_;try refine aS ?_
  try apply aa _
  refine af hJ ?_;refine ah hJ ?_;apply aa _;refine aY hJ ?_;have h':=an h;clear h;obtain ⟨cf,o,y⟩:=h';have h:=True.intro;refine bO hJ [2,6,7,62,63,64,65,66,67,68,69,70,71,72,73,74,75,76,77,78,79,80,81,82,83,84,85,86,87,88,89,90,91,92,93] (fun m u F'=>∃(i43:Nat) (z:Int),m=c.marks.length - i43/\i43<=c.marks.length/\b7 (n5 c) i43 (c.marks.drop i43) z=some cf/\F'=⟨ro,(f,.cells #[.string ⟨⟨c.name⟩⟩,.int .i64 c.from_.low,.int .i64 c.from_.high,.int .i64 c.wide,.int .i64 c.aC.low,.int .i64 c.aC.high,.slice d21 c.marks.length w] 56)::(s,lK (cw v11 c.name true))::(i,.cells #[.int .i64 u0.steps,.int .i64 u0.au,.slice (some R) u0.aj.length c4] 87)::[]⟩/\slot u 62= .int .i64 (i43:Int)/\slot u 2= .int .i64 z) c.marks.length ?_ ?_
  .refine ⟨0,v10,(Nat.sub_zero _).symm,Nat.zero_le _,o,rfl,?_⟩;simp only[*,go_sem,-h]
  rintro m2 b F' a ⟨i43,z,rfl,e3,o,rfl,fa,fb⟩;have h:=True.intro;have fc:sz b=95:=by rw[a.size];simp only[*,go_sem,-h]
  have fg:b.defers=[]:=by rw[a.defers];simp only[*,go_sem,-h]
  have fh:slot b 1= .pointer (some ⟨i,0,none⟩):=by rw[a.ay 1 av];simp only[*,go_sem,-h]
  have fi:slot b 3= .map (some s):=by rw[a.ay 3 av];simp only[*,go_sem,-h]
  have fj:slot b 5= .pointer (some ⟨f,0,none⟩):=by rw[a.ay 5 av];simp only[*,go_sem,-h]
  have fl:slot b 11= .slice (some R) u0.aj.length c4:=by rw[a.ay 11 av];simp only[*,go_sem,-h]
  have fp:slot b 12= .int .i64 (u0.aj.length:Int):=by rw[a.ay 12 av];simp only[*,go_sem,-h]
  have fr:slot b 13= .int .i64 (i12:Int):=by rw[a.ay 13 av];simp only[*,go_sem,-h]
  have fs:slot b 14= .bool true:=by rw[a.ay 14 av];simp only[*,go_sem,-h]
  have ft:slot b 16= .agg #[.string ⟨⟨c.name⟩⟩,.int .i64 c.from_.low,.int .i64 c.from_.high,.int .i64 c.wide,.int .i64 c.aC.low,.int .i64 c.aC.high,.slice d21 c.marks.length w]:=by rw[a.ay 16 av];simp only[*,go_sem,-h]
  have fu:slot b 17= .bool false:=by rw[a.ay 17 av];simp only[*,go_sem,-h]
  have fv:slot b 18= .pointer (some ⟨f,0,none⟩):=by rw[a.ay 18 av];simp only[*,go_sem,-h]
  have fw:slot b 19= .string ⟨⟨c.name⟩⟩:=by rw[a.ay 19 av];simp only[*,go_sem,-h]
  have fx:slot b 20= .bool b1:=by rw[a.ay 20 av];simp only[*,go_sem,-h]
  have fz:slot b 21= .bool false:=by rw[a.ay 21 av];simp only[*,go_sem,-h]
  have gg:slot b 22= .bool false:=by rw[a.ay 22 av];simp only[*,go_sem,-h]
  have gj:slot b 23= .map (some s):=by rw[a.ay 23 av];simp only[*,go_sem,-h]
  have gl:slot b 24= .pointer (some ⟨f,0,none⟩):=by rw[a.ay 24 av];simp only[*,go_sem,-h]
  have gn:slot b 25= .string ⟨⟨c.name⟩⟩:=by rw[a.ay 25 av];simp only[*,go_sem,-h]
  have gp:slot b 26= .bool false:=by rw[a.ay 26 av];simp only[*,go_sem,-h]
  have gy:slot b 27= .bool false:=by rw[a.ay 27 av];simp only[*,go_sem,-h]
  have g0:slot b 28= .pointer (some ⟨f,1,none⟩):=by rw[a.ay 28 av];simp only[*,go_sem,-h]
  have g1:slot b 29= .agg #[.int .i64 c.from_.low,.int .i64 c.from_.high]:=by rw[a.ay 29 av];simp only[*,go_sem,-h]
  have g2:slot b 30= .pointer (some ⟨i,0,none⟩):=by rw[a.ay 30 av];simp only[*,go_sem,-h]
  have g3:slot b 31= .pointer (some ⟨i,0,none⟩):=by rw[a.ay 31 av];simp only[*,go_sem,-h]
  have g4:slot b 32= .int .i64 u0.steps:=by rw[a.ay 32 av];simp only[*,go_sem,-h]
  have g7:slot b 33= .int .i64 (IntKind.i64.wrap (u0.steps - 1)):=by rw[a.ay 33 av];simp only[*,go_sem,-h]
  have ha:slot b 34= .bool b3:=by rw[a.ay 34 av];simp only[*,go_sem,-h]
  have hc:slot b 35= .bool false:=by rw[a.ay 35 av];simp only[*,go_sem,-h]
  have hf:slot b 36= .bool false:=by rw[a.ay 36 av];simp only[*,go_sem,-h]
  have hg:slot b 37= .pointer (some ⟨f,3,none⟩):=by rw[a.ay 37 av];simp only[*,go_sem,-h]
  have hh:slot b 38= .int .i64 c.wide:=by rw[a.ay 38 av];simp only[*,go_sem,-h]
  have hi:slot b 39= .pointer (some ⟨i,0,none⟩):=by rw[a.ay 39 av];simp only[*,go_sem,-h]
  have hj:slot b 40= .pointer (some ⟨i,0,none⟩):=by rw[a.ay 40 av];simp only[*,go_sem,-h]
  have hk:slot b 41= .int .i64 u0.steps:=by rw[a.ay 41 av];simp only[*,go_sem,-h]
  have hl:slot b 42= .bool ca:=by rw[a.ay 42 av];simp only[*,go_sem,-h]
  have hn:slot b 43= .bool false:=by rw[a.ay 43 av];simp only[*,go_sem,-h]
  have ho:slot b 44= .bool false:=by rw[a.ay 44 av];simp only[*,go_sem,-h]
  have hp:slot b 45= .bool false:=by rw[a.ay 45 av];simp only[*,go_sem,-h]
  have hq:slot b 46= .pointer (some ⟨f,4,none⟩):=by rw[a.ay 46 av];simp only[*,go_sem,-h]
  have hr:slot b 47= .agg #[.int .i64 c.aC.low,.int .i64 c.aC.high]:=by rw[a.ay 47 av];simp only[*,go_sem,-h]
  have ht:slot b 48= .bool cc:=by rw[a.ay 48 av];simp only[*,go_sem,-h]
  have hv:slot b 49= .bool false:=by rw[a.ay 49 av];simp only[*,go_sem,-h]
  have hx:slot b 50= .bool false:=by rw[a.ay 50 av];simp only[*,go_sem,-h]
  have hy:slot b 51= .bool false:=by rw[a.ay 51 av];simp only[*,go_sem,-h]
  have hz:slot b 52= .pointer (some ⟨f,6,none⟩):=by rw[a.ay 52 av];simp only[*,go_sem,-h]
  have hA:slot b 53= .slice d21 c.marks.length w:=by rw[a.ay 53 av];simp only[*,go_sem,-h]
  have hB:slot b 54= .int .i64 (c.marks.length:Int):=by rw[a.ay 54 av];simp only[*,go_sem,-h]
  have hD:slot b 55= .bool false:=by rw[a.ay 55 av];simp only[*,go_sem,-h]
  have hE:slot b 56= .map (some s):=by rw[a.ay 56 av];simp only[*,go_sem,-h]
  have hF:slot b 57= .pointer (some ⟨f,0,none⟩):=by rw[a.ay 57 av];simp only[*,go_sem,-h]
  have hG:slot b 58= .string ⟨⟨c.name⟩⟩:=by rw[a.ay 58 av];simp only[*,go_sem,-h]
  have hH:slot b 59= .pointer (some ⟨f,6,none⟩):=by rw[a.ay 59 av];simp only[*,go_sem,-h]
  have hI:slot b 60= .slice d21 c.marks.length w:=by rw[a.ay 60 av];simp only[*,go_sem,-h]
  have hK:slot b 61= .int .i64 (c.marks.length:Int):=by rw[a.ay 61 av];simp only[*,go_sem,-h]
  have hL:cq [2,5,6,7,13,14,15,16,17,18,19,20,21,22,23,24,25,26,27,28,29,30,31,32,33,34,35,36,37,38,39,40,41,42,43,44,45,46,47,48,49,50,51,52,53,54,55,56,57,58,59,60,61,62,63,64,65,66,67,68,69,70,71,72,73,74,75,76,77,78,79,80,81,82,83,84,85,86,87,88,89,90,91,92,93,94] b p:=(a.cR av).trans ak;clear a a2 a3 a4 a5 a6 a7 a0 ar;refine af hJ ?_;refine ah hJ ?_;apply aa _;refine af hJ ?_;rcases Nat.lt_or_ge i43 c.marks.length with ck|T
  .refine aN hJ ak ?_;refine aR hJ ?_;obtain ⟨t,K⟩:∃x,c.marks[i43]?=some x:=⟨_,List.getElem?_eq_getElem ck⟩
   rw[er K] at o;have h':=an o;clear o h;obtain ⟨hM,h,g⟩:=h';unfold n5 at h;(try dsimp only at h);obtain ⟨hN,cl,cy,c0,B⟩:=bc _ _ K;obtain rfl:cl=t.cells:=c0;cases cy;have da:=B 0 _ rfl;simp only[go_sem] at da;have db:=B 1 _ rfl;simp only[go_sem] at db;have dd:=B 2 _ rfl;simp only[go_sem] at dd;clear B K;refine af hJ ?_;refine aY hJ ?_;refine af hJ ?_;refine ah hJ ?_;apply aa _;intro df f51;have hP:=aV f51;have dk:=aW f51;(try simp only[aQ] at dk);(try apply aa _);refine aY hJ ?_;refine af hJ ?_;refine ah hJ ?_;have h':=an h;clear h;obtain ⟨hQ,dp,h⟩:=h';apply aa _;refine bp hJ _ (yS t.bN dp) (aS ?_);(try apply aa _);have h':=aD h;clear h;rcases h' with ⟨L,h⟩|⟨L,h⟩
   ·(try simp only[Int.ofNat_lt] at L);refine aN hJ ak ?_;refine af hJ ?_;refine ah hJ ?_;apply aa _;have h':=Option.some.inj h;clear h;subst h';have h':=Option.some.inj g;clear g;subst h';have h:=y;dsimp only[aH] at h;have h':=Option.some.inj h;clear h;subst h';have h':=Option.some.inj d;clear d;subst h';have h:=e;dsimp only[aH] at h;have h':=Option.some.inj h;clear h;subst h';refine aG ?_;simp only[*,go_sem]
   (try simp only[Int.ofNat_lt] at L);refine aM hJ ak ?_;refine af hJ ?_;refine ah hJ ?_;have h':=an h;clear h;obtain ⟨dq,ds,h⟩:=h';obtain ⟨hR,hS,hT,U⟩:=pF ds;have V:(0:Int).toNat<=((i43:Int)).toNat:=ai;have dt:((i43:Int)).toNat<=w:=ai;have hV:0<=((i43:Int)):=ai;obtain ⟨d56,du,dv,W⟩:=aI.pH S (0:Int).toNat ((i43:Int)).toNat V ai U;simp only[go_sem] at du dv V dt;obtain ⟨_,_,dC,hX,hY,hZ⟩:=id W;cases dC;clear U;have h':=an h;clear h;obtain ⟨h0,dE,h⟩:=h';(try apply aa _);refine bp hJ _ (DY (bL:=222) (bQ:=#[]) (bR:=#[.pointer (some ⟨df,0,none⟩)]) dq (W.mono aZ) (fun y0=>kL y0 t) ⟨by simp only[go_sem],fun h1 M y0 h2 dT=>by simp only[go_sem];exact DZ y0 t (M _ _ (by simp only[ag.dz,go_sem, *,-h])) (M _ _ (by simp only[ag.dz,go_sem, *,-h])) (M _ _ (by simp only[ag.dz,go_sem, *,-h])) dT⟩ dE) (aS ?_);(try apply aa _);have h':=aD h;clear h;rcases h' with ⟨N,h⟩|⟨N,h⟩
   ·(try simp only[Int.ofNat_lt] at N);refine aN hJ ak ?_;refine af hJ ?_;refine ah hJ ?_;apply aa _;have h':=Option.some.inj h;clear h;subst h';have h':=Option.some.inj g;clear g;subst h';have h:=y;dsimp only[aH] at h;have h':=Option.some.inj h;clear h;subst h';have h':=Option.some.inj d;clear d;subst h';have h:=e;dsimp only[aH] at h;have h':=Option.some.inj h;clear h;subst h';refine aG ?_;simp only[*,go_sem]
   (try simp only[Int.ofNat_lt] at N);refine aM hJ ak ?_;refine af hJ ?_;refine ah hJ ?_;have h':=an h;clear h;obtain ⟨h3,ea,h⟩:=h';apply aa _;refine bp hJ _ (gC t.dY 0 (IntKind.i64.wrap (c.wide - 1)) ea) (aS ?_);have h':=aD h;clear h;rcases h' with ⟨O,h⟩|⟨O,h⟩
   ·(try simp only[Int.ofNat_lt] at O);(try apply aa _);refine aN hJ ak ?_;refine af hJ ?_;refine ah hJ ?_;apply aa _;have h':=Option.some.inj h;clear h;subst h';have h':=Option.some.inj g;clear g;subst h';have h:=y;dsimp only[aH] at h;have h':=Option.some.inj h;clear h;subst h';have h':=Option.some.inj d;clear d;subst h';have h:=e;dsimp only[aH] at h;have h':=Option.some.inj h;clear h;subst h';refine aG ?_;simp only[*,go_sem]
   (try simp only[Int.ofNat_lt] at O);have h':=an h;clear h;obtain ⟨h4,eb,h⟩:=h';(try apply aa _);refine bp hJ _ (gC t.row (-9) 9 eb) (aS ?_);(try apply aa _);have h':=aD h;clear h;rcases h' with ⟨P,h⟩|⟨P,h⟩
   ·(try simp only[Int.ofNat_lt] at P);refine aN hJ ak ?_;refine af hJ ?_;refine ah hJ ?_;apply aa _;have h':=Option.some.inj h;clear h;subst h';have h':=Option.some.inj g;clear g;subst h';have h:=y;dsimp only[aH] at h;have h':=Option.some.inj h;clear h;subst h';have h':=Option.some.inj d;clear d;subst h';have h:=e;dsimp only[aH] at h;have h':=Option.some.inj h;clear h;subst h';refine aG ?_;simp only[*,go_sem]
   (try simp only[Int.ofNat_lt] at P);refine aM hJ ak ?_;refine aR hJ ?_;have h':=Option.some.inj h;clear h;subst h';have h:=True.intro;have h5:=dF (n:=i43) (by have:=bb;omega);refine ah hJ ?_;apply aa _;refine ⟨c.marks.length - (i43+1),ai,_,Le.sub (List.Sublist.cons _ (List.Sublist.refl _)),i43+1,z,rfl,ai,g,rfl,?_⟩;simp only[*,go_sem,-h]
  have h6:=Nat.not_lt.2 T;refine aM hJ ak ?_;rw[List.drop_eq_nil_of_le T] at o;have h':=Option.some.inj o;clear o h;subst h';have h:=y;dsimp only[aH] at h;refine bI ?_;simp only[go_sem];have h':=Option.some.inj h;clear h;subst h';have h:=True.intro;have h7:=dF (n:=i12) (by have:=Y;omega);refine ah hJ ?_;apply aa _;refine ⟨u0.aj.length - (i12+1),ai,_,Le.sub (List.Sublist.cons _ (List.Sublist.refl _)),i12+1,z,(cw v11 c.name true),rfl,ai,d,rfl,?_⟩;simp only[*,go_sem,-h]
 have h8:=Nat.not_lt.2 Q;refine aM hJ ak ?_;rw[List.drop_eq_nil_of_le Q] at j;have h':=Option.some.inj j;clear j h;subst h';have h:=e;dsimp only[aH] at h;refine bI ?_;simp only[go_sem];refine af hJ ?_;refine ah hJ ?_;apply aa _;have h':=Option.some.inj h;clear h;subst h';refine aG ?_;simp only[*,go_sem]
def lX (u0:aL)(c:bw)(i13:Nat)(i34:Nat)(a:bu)(st:(Bool×(List ((List UInt8)×aU)))):Option (Fl (Bool×(List ((List UInt8)×aU))) Bool):=
 ax (kK u0 c (i13:Int) a) fun b=>cond (((cA st.2 a.bN).isSome)) (cond (!(((((cA st.2 a.bN).getD (⟨0,0⟩:aU)).step)==b.step)&&((((cA st.2 a.bN).getD (⟨0,0⟩:aU)).cB)==b.cB))) (some (.rt false)) (some (.nx (st.1,(cw st.2 a.bN b))))) (some (.nx (st.1,(cw st.2 a.bN b))))
def jN (u0:aL)(a:bw)(i13:Nat)(c:bf)(st:(Bool×(List ((List UInt8)×aU)))):Option (Fl (Bool×(List ((List UInt8)×aU))) Bool):=
 ax (iM a (i13:Int)) fun d=>cond (d) (some (.nx (st.1,st.2))) (ax (b7 (lX u0 a i13) 0 c.marks (st.1,st.2)) fun o=>aH o (fun b=>some (.nx (b.1,b.2))) (fun _ _=>none) (fun r=>some (.rt r)))
def g9 (u0:aL)(a:bw):Option Bool:=
 ax (b7 (jN u0 a) 0 u0.aj (false,([]:(List ((List UInt8)×aU))))) fun o=>aH o (fun b=>some true) (fun _ _=>none) (fun r=>some r)
theorem yX {ro:Addr->Option Value}(u0:aL){s1:Value}(L:aI bK ro s1 u0.aj)(a:bw){r:Bool}(h:g9 u0 a=some r):aF Tryz.prog 59 #[.agg #[.int .i64 u0.steps,.int .i64 u0.au,s1],.agg #[.int .i64 a.az.e0,.int .i64 a.az.e1,.int .i64 a.az.e2,.int .i64 a.az.e3,.int .i64 a.aA.e0,.int .i64 a.aA.e1,.int .i64 a.aA.e2,.int .i64 a.aA.e3,.int .u64 a.au]] ⟨ro,[]⟩ (fun v _=>v= .bool r):=by
 obtain ⟨d3,c4,rfl,cy,M,T⟩:=id L;unfold g9 at h;refine aF.go Tryz.func59 rfl Tryz.ntmps59 Tryz.results59 aB fun main J hJ A U hd hs=>?_;have V:=hs 0;have k1:=hs 1;clear hs;refine af hJ ?_;refine ah hJ ?_;apply aa _;intro s f8;have c0:=aV f8;have W:=aW f8;try simp only[aQ] at W
 intro t f9;have da:=aV f9;have X:=aW f9;try simp only[aQ] at X
 try apply aa _
 refine af hJ ?_;refine ah hJ ?_;apply aa _;refine Dq fun u f10=>?_;have db:=aV f10;have Y:=aW f10;try simp only[aQ] at Y
 refine aS ?_;try apply aa _
 refine af hJ ?_;refine af hJ ?_;refine ah hJ ?_;apply aa _;refine aY hJ ?_;have h':=an h;clear h;obtain ⟨Z,f,N⟩:=h';have h:=True.intro;refine bO hJ [4,6,7,9,10,11,12,18,19,20,21,22,23,24,25,26,27,28,29,30,31,32,33,34,35,36,37,38,39,40,41,42,43,44,45,46,47,48,49,50,51,52,53,54,55,56] (fun m p F'=>∃(i13:Nat) (v11:Bool) (q:(List ((List UInt8)×aU))),m=u0.aj.length - i13/\i13<=u0.aj.length/\b7 (jN u0 a) i13 (u0.aj.drop i13) (v11,q)=some Z/\F'=⟨ro,(u,lJ q)::(t,.cells #[.int .i64 a.az.e0,.int .i64 a.az.e1,.int .i64 a.az.e2,.int .i64 a.az.e3,.int .i64 a.aA.e0,.int .i64 a.aA.e1,.int .i64 a.aA.e2,.int .i64 a.aA.e3,.int .u64 a.au] 84)::(s,.cells #[.int .i64 u0.steps,.int .i64 u0.au,.slice d3 u0.aj.length c4] 87)::[]⟩/\slot p 18= .int .i64 (i13:Int)/\slot p 4= .bool v11) u0.aj.length ?_ ?_
 .refine ⟨0,false,([]:(List ((List UInt8)×aU))),(Nat.sub_zero _).symm,Nat.zero_le _,f,rfl,?_⟩;simp only[*,go_sem,-h]
 rintro dd g F' i ⟨i13,v11,q,rfl,df,f,rfl,ab,ad⟩;have h:=True.intro;have ae:sz g=57:=by rw[i.size];simp only[*,go_sem,-h]
 have al:g.defers=[]:=by rw[i.defers];simp only[*,go_sem,-h]
 have ao:slot g 2= .pointer (some ⟨s,0,none⟩):=by rw[i.ay 2 av];simp only[*,go_sem,-h]
 have ar:slot g 3= .pointer (some ⟨t,0,none⟩):=by rw[i.ay 3 av];simp only[*,go_sem,-h]
 have a0:slot g 5= .map (some u):=by rw[i.ay 5 av];simp only[*,go_sem,-h]
 have a2:slot g 16= .slice d3 u0.aj.length c4:=by rw[i.ay 16 av];simp only[*,go_sem,-h]
 have a3:slot g 17= .int .i64 (u0.aj.length:Int):=by rw[i.ay 17 av];simp only[*,go_sem,-h]
 clear i U hd V k1;refine af hJ ?_;refine ah hJ ?_;apply aa _;refine af hJ ?_;rcases Nat.lt_or_ge i13 u0.aj.length with a4|O
 .refine aN hJ ak ?_;refine aR hJ ?_;obtain ⟨b,D⟩:∃x,u0.aj[i13]?=some x:=⟨_,List.getElem?_eq_getElem a4⟩
  rw[er D] at f;have h':=an f;clear f h;obtain ⟨dk,h,w⟩:=h';unfold jN at h;try dsimp only at h
  obtain ⟨P,dp,a5,a6,j⟩:=T _ _ D;obtain ⟨dq,rfl,a7⟩:=a6;obtain ⟨d22,E,rfl,ds,Q,a8⟩:=id a7;cases a5;have a9:=j 0 _ rfl;simp only[go_sem] at a9;have ba:=j 1 _ rfl;simp only[go_sem] at ba;have bb:=j 2 _ rfl;simp only[go_sem] at bb;have bc:=j 3 _ rfl;simp only[go_sem] at bc;have bd:=j 4 _ rfl;simp only[go_sem] at bd;have bj:=j 5 _ rfl;simp only[go_sem] at bj;have bk:=j 6 _ rfl;simp only[go_sem] at bk;clear j D;refine af hJ ?_;refine aY hJ ?_;refine af hJ ?_;refine ah hJ ?_;apply aa _;intro F f28;have dt:=aV f28;have bm:=aW f28;try simp only[aQ] at bm
  try apply aa _
  refine af hJ ?_;refine af hJ ?_;refine ah hJ ?_;have h':=an h;clear h;obtain ⟨du,bo,h⟩:=h';apply aa _;refine bp hJ _ (p6 a (i13:Int) bo) ?_;try apply aa _
  have h':=aD h;clear h;rcases h' with ⟨G,h⟩|⟨G,h⟩
  ·(try simp only[Int.ofNat_lt] at G);refine aN hJ ak ?_;refine bI ?_;simp only[go_sem];have h':=Option.some.inj h;clear h;subst h';have h:=True.intro;have br:=dF (n:=i13) (by have:=M;omega);refine ah hJ ?_;apply aa _;refine ⟨u0.aj.length - (i13+1),ai,_,Le.sub (List.Sublist.cons _ (List.Sublist.refl _)),i13+1,v11,q,rfl,ai,w,rfl,?_⟩;simp only[*,go_sem,-h]
  try simp only[Int.ofNat_lt] at G
  refine aM hJ ak ?_;refine aR hJ ?_;refine af hJ ?_;refine ah hJ ?_;apply aa _;refine aY hJ ?_;have h':=an h;clear h;obtain ⟨bs,k,R⟩:=h';have h:=True.intro;refine bO hJ [4,9,10,11,12,29,30,31,32,33,34,35,36,37,38,39,40,41,42,43,44,45,46,47,48,49,50,51,52,53,54,55] (fun m p F'=>∃(i34:Nat) (o:Bool) (e:(List ((List UInt8)×aU))),m=b.marks.length - i34/\i34<=b.marks.length/\b7 (lX u0 a i13) i34 (b.marks.drop i34) (o,e)=some bs/\F'=⟨ro,(F,.cells #[.string ⟨⟨b.name⟩⟩,.int .i64 b.from_.low,.int .i64 b.from_.high,.int .i64 b.wide,.int .i64 b.aC.low,.int .i64 b.aC.high,.slice d22 b.marks.length E] 56)::(u,lJ e)::(t,.cells #[.int .i64 a.az.e0,.int .i64 a.az.e1,.int .i64 a.az.e2,.int .i64 a.az.e3,.int .i64 a.aA.e0,.int .i64 a.aA.e1,.int .i64 a.aA.e2,.int .i64 a.aA.e3,.int .u64 a.au] 84)::(s,.cells #[.int .i64 u0.steps,.int .i64 u0.au,.slice (some P) u0.aj.length c4] 87)::[]⟩/\slot p 29= .int .i64 (i34:Int)/\slot p 4= .bool o) b.marks.length ?_ ?_
  .refine ⟨0,v11,q,(Nat.sub_zero _).symm,Nat.zero_le _,k,rfl,?_⟩;simp only[*,go_sem,-h]
  rintro m2 d F' c ⟨i34,o,e,rfl,dv,k,rfl,dC,dE⟩;have h:=True.intro;have dT:sz d=57:=by rw[c.size];simp only[*,go_sem,-h]
  have ea:d.defers=[]:=by rw[c.defers];simp only[*,go_sem,-h]
  have eb:slot d 2= .pointer (some ⟨s,0,none⟩):=by rw[c.ay 2 av];simp only[*,go_sem,-h]
  have ec:slot d 3= .pointer (some ⟨t,0,none⟩):=by rw[c.ay 3 av];simp only[*,go_sem,-h]
  have ed:slot d 5= .map (some u):=by rw[c.ay 5 av];simp only[*,go_sem,-h]
  have eh:slot d 6= .int .i64 (i13:Int):=by rw[c.ay 6 av];simp only[*,go_sem,-h]
  have et:slot d 7= .pointer (some ⟨F,0,none⟩):=by rw[c.ay 7 av];simp only[*,go_sem,-h]
  have ev:slot d 16= .slice (some P) u0.aj.length c4:=by rw[c.ay 16 av];simp only[*,go_sem,-h]
  have eQ:slot d 17= .int .i64 (u0.aj.length:Int):=by rw[c.ay 17 av];simp only[*,go_sem,-h]
  have eS:slot d 18= .int .i64 (i13:Int):=by rw[c.ay 18 av];simp only[*,go_sem,-h]
  have fa:slot d 19= .bool true:=by rw[c.ay 19 av];simp only[*,go_sem,-h]
  have fb:slot d 20= .int .i64 (i13:Int):=by rw[c.ay 20 av];simp only[*,go_sem,-h]
  have fc:slot d 22= .agg #[.string ⟨⟨b.name⟩⟩,.int .i64 b.from_.low,.int .i64 b.from_.high,.int .i64 b.wide,.int .i64 b.aC.low,.int .i64 b.aC.high,.slice d22 b.marks.length E]:=by rw[c.ay 22 av];simp only[*,go_sem,-h]
  have fg:slot d 23= .agg #[.int .i64 a.az.e0,.int .i64 a.az.e1,.int .i64 a.az.e2,.int .i64 a.az.e3,.int .i64 a.aA.e0,.int .i64 a.aA.e1,.int .i64 a.aA.e2,.int .i64 a.aA.e3,.int .u64 a.au]:=by rw[c.ay 23 av];simp only[*,go_sem,-h]
  have fh:slot d 24= .int .i64 (i13:Int):=by rw[c.ay 24 av];simp only[*,go_sem,-h]
  have fi:slot d 25= .bool false:=by rw[c.ay 25 av];simp only[*,go_sem,-h]
  have fj:slot d 26= .pointer (some ⟨F,6,none⟩):=by rw[c.ay 26 av];simp only[*,go_sem,-h]
  have fl:slot d 27= .slice d22 b.marks.length E:=by rw[c.ay 27 av];simp only[*,go_sem,-h]
  have fp:slot d 28= .int .i64 (b.marks.length:Int):=by rw[c.ay 28 av];simp only[*,go_sem,-h]
  have fr:cq [4,6,7,9,10,11,12,18,19,20,21,22,23,24,25,26,27,28,29,30,31,32,33,34,35,36,37,38,39,40,41,42,43,44,45,46,47,48,49,50,51,52,53,54,55,56] d g:=(c.cR av).trans ak;clear c ae al ao ar a0 a2 a3 ad ab;refine af hJ ?_;refine ah hJ ?_;apply aa _;refine af hJ ?_;rcases Nat.lt_or_ge i34 b.marks.length with b0|S
  .refine aN hJ ak ?_;refine aR hJ ?_;obtain ⟨y,H⟩:∃x,b.marks[i34]?=some x:=⟨_,List.getElem?_eq_getElem b0⟩
   rw[er H] at k;have h':=an k;clear k h;obtain ⟨fs,h,z⟩:=h';unfold lX at h;(try dsimp only at h);obtain ⟨ft,b1,b2,b3,B⟩:=a8 _ _ H;obtain rfl:b1=y.cells:=b3;cases b2;have b4:=B 0 _ rfl;simp only[go_sem] at b4;have ca:=B 1 _ rfl;simp only[go_sem] at ca;have cb:=B 2 _ rfl;simp only[go_sem] at cb;clear B H;refine af hJ ?_;refine aY hJ ?_;refine af hJ ?_;refine ah hJ ?_;apply aa _;intro fu f42;have fv:=aV f42;have cc:=aW f42;(try simp only[aQ] at cc);(try apply aa _);refine af hJ ?_;refine ah hJ ?_;have h':=an h;clear h;obtain ⟨C,cd,h⟩:=h';apply aa _;refine bp hJ _ (tq u0 (L.mono aZ) a (i13:Int) y cd) (aS ?_);(try apply aa _);intro fw f45;have fx:=aV f45;have cf:=aW f45;(try simp only[aQ] at cf);(try apply aa _);refine af hJ ?_;refine af hJ ?_;refine ah hJ ?_;apply aa _;refine Dr (l:=e) ak ?_;(try refine aS ?_);(try apply aa _);intro fz f46;have gg:=aV f46;have ck:=aW f46;(try simp only[aQ] at ck);(try apply aa _);refine af hJ ?_;refine ah hJ ?_;have h':=aD h;clear h;rcases h' with ⟨I,h⟩|⟨I,h⟩
   ·(try simp only[Int.ofNat_lt] at I);(try apply aa _);have h':=aD h;clear h;rcases h' with ⟨K,h⟩|⟨K,h⟩
    ·(try simp only[Int.ofNat_lt] at K);refine aN hJ ak ?_;refine af hJ ?_;refine ah hJ ?_;apply aa _;have h':=Option.some.inj h;clear h;subst h';have h':=Option.some.inj z;clear z;subst h';have h:=R;dsimp only[aH] at h;have h':=Option.some.inj h;clear h;subst h';have h':=Option.some.inj w;clear w;subst h';have h:=N;dsimp only[aH] at h;have h':=Option.some.inj h;clear h;subst h';refine aG ?_;simp only[*,go_sem]
    (try simp only[Int.ofNat_lt] at K);refine aM hJ ak ?_;refine aR hJ ?_;refine ah hJ ?_;apply aa _;refine yP (l:=e) (v:=C) ak ?_;(try refine aS ?_);(try apply aa _);have h':=Option.some.inj h;clear h;subst h';have h:=True.intro;have cl:=dF (n:=i34) (by have:=Q;omega);refine ah hJ ?_;apply aa _;refine ⟨b.marks.length - (i34+1),ai,_,Le.sub (List.Sublist.cons _ (List.Sublist.cons _ (List.Sublist.cons _ (List.Sublist.refl _)))),i34+1,o,(cw e y.bN C),rfl,ai,z,rfl,?_⟩;simp only[*,go_sem,-h]
   (try simp only[Int.ofNat_lt] at I);(try apply aa _);refine aM hJ ak ?_;refine aR hJ ?_;refine ah hJ ?_;apply aa _;refine yP (l:=e) (v:=C) ak ?_;(try refine aS ?_);(try apply aa _);have h':=Option.some.inj h;clear h;subst h';have h:=True.intro;have cl:=dF (n:=i34) (by have:=Q;omega);refine ah hJ ?_;apply aa _;refine ⟨b.marks.length - (i34+1),ai,_,Le.sub (List.Sublist.cons _ (List.Sublist.cons _ (List.Sublist.cons _ (List.Sublist.refl _)))),i34+1,o,(cw e y.bN C),rfl,ai,z,rfl,?_⟩;simp only[*,go_sem,-h]
  have gj:=Nat.not_lt.2 S;refine aM hJ ak ?_;rw[List.drop_eq_nil_of_le S] at k;have h':=Option.some.inj k;clear k h;subst h';have h:=R;dsimp only[aH] at h;refine bI ?_;simp only[go_sem];have h':=Option.some.inj h;clear h;subst h';have h:=True.intro;have br:=dF (n:=i13) (by have:=M;omega);refine ah hJ ?_;apply aa _;refine ⟨u0.aj.length - (i13+1),ai,_,Le.sub (List.Sublist.cons _ (List.Sublist.refl _)),i13+1,o,e,rfl,ai,w,rfl,?_⟩;simp only[*,go_sem,-h]
 have gl:=Nat.not_lt.2 O;refine aM hJ ak ?_;rw[List.drop_eq_nil_of_le O] at f;have h':=Option.some.inj f;clear f h;subst h';have h:=N;dsimp only[aH] at h;refine bI ?_;simp only[go_sem];refine af hJ ?_;refine ah hJ ?_;apply aa _;have h':=Option.some.inj h;clear h;subst h';refine aG ?_;simp only[*,go_sem]
end Go.Proofs.YtcoalekambhghaaGreatDoor
end

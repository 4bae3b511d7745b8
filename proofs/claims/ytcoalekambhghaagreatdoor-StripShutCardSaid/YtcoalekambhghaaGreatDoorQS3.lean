/- A part of the proof: QS3. -/
import Derived.Test.YtcoalekambhghaaGreatDoorQS2
set_option linter.all false
section
namespace Go.Sep
open Go Go.Conc
def om (ops:Array Oper)(b5:List Nat)(i:Nat):Bool:=b5.all fun j=>match ops[j]? with
 |some o=>o.after.any fun e=>Region.binds .any e&&e.on==i
 |none=>true
section
variable {P:Program}{main:Bool}{J:Goroutine->ag->Prop}{ops:Array Oper}{Q:Act->ag->Prop}{S:ag->Prop}{b5:List Nat}
def dR (P:Program)(J:Goroutine->ag->Prop)(ops:Array Oper)(Q:Act->ag->Prop)(S:ag->Prop)(b5:List Nat):Nat->Array Bool->Act->ag->Prop
 |0,listed,a,F=>Region.ready .any ops listed=[]/\Q a F
 |fuel+1,listed,a,F=>(Region.ready .any ops listed=[]->Q a F)/\
  ∀i∈Region.ready .any ops listed,dy P J ops i (fun b F'=>(¬i∈b5->S F->S F')/\dR P J ops Q S b5 fuel (listed.setIfInBounds i true) b F') a F
theorem Dc:∀(fuel t:Nat) (listed:Array Bool) (a:Act) (F:ag),dR P J ops Q S b5 fuel listed a F->
  eI P J ops Q (Region.linearise.go .any ops fuel t listed []) a F:=by
 intro fuel
 induction fuel with
 |zero=>intro t listed a F h;simpa [Region.linearise.go,eI] using h.2
 |succ fuel ih=>
  intro t listed a F h
  obtain ⟨b,c⟩:=h
  simp only[Region.linearise.go]
  change eI P J ops Q (match (Region.ready .any ops listed)[t % (Region.ready .any ops listed).length]? with
   |some i=>Region.linearise.go .any ops fuel (t/(Region.ready .any ops listed).length) (listed.setIfInBounds i true) [i]
   |none=>[].reverse) a F
  cases hi:(Region.ready .any ops listed)[t % (Region.ready .any ops listed).length]? with
  |none=>
   have d:Region.ready .any ops listed=[]:=by
    cases e:Region.ready .any ops listed with
    |nil=>rfl
    |cons x xs=>
     rw[e] at hi
     have f:t % (x::xs).length<(x::xs).length:=Nat.mod_lt _ aB
     simp at hi
     simp at f
     omega
   simpa [eI] using b d
  |some i=>
   simp only[]
   rw[linearise_go_acc,List.reverse_singleton,List.singleton_append]
   exact nF (fun a F h=>ih _ _ a F h.2) (c i (List.mem_of_getElem? hi))
theorem Dd {i:Nat}{l:Oper}{v:Value}(hi:ops[i]?=some l)(m:om ops b5 i=true)(u:∀(j:Nat) (o:Oper) cs b,ops[j]?=some o->o.op≠ .select cs b):
  ∀(fuel:Nat) (listed:Array Bool) (a:Act) (F:ag),
   (∀j f,ops[j]?=some f->j≠i->listed.getD j true=false->(∀e∈f.after,Region.binds .any e=true->e.on≠i)->l.apart ops f=true)->
   i∈Region.ready .any ops listed->fe P J ops S l v a->S F->
   dR P J ops Q S b5 fuel (listed.setIfInBounds i true) (a.put l.dst v) F->dR P J ops Q S b5 (fuel+1) listed a F:=by
 intro fuel
 induction fuel with
 |zero=>
  intro listed a F _ g n p H
  refine ⟨fun h=>(by rw[h] at g;cases g),fun j q=>?_⟩
  by_cases d:j=i
  .subst d;exact n.lu hi p ⟨fun _ h=>h,H⟩
  .have:=ready_mono q d
   rw[H.1] at this
   cases this
 |succ fuel ih=>
  intro listed a F w g n p H
  refine ⟨fun h=>(by rw[h] at g;cases g),fun j q=>?_⟩
  by_cases d:j=i
  .subst d;exact n.lu hi p ⟨fun _ h=>h,H⟩
  .have c:=H.2 j (ready_mono q d)
   obtain ⟨y,f,r,D⟩:=mem_ready.1 q
   have z:∀e∈f.after,Region.binds .any e=true->e.on≠i:=fun e he hb heq=>by
    have c:=D e he hb
    have A:=(mem_ready.1 g).1
    rw[heq] at c
    rcases Nat.lt_or_ge i listed.size with h'|h'
    .simp[h'] at A c;rw[A] at c;cases c
    .simp[Array.getElem?_eq_none h'] at c
   have E:¬j∈b5:=fun e=>by
    have m:=List.all_eq_true.1 m j e
    simp only[r,Array.any_eq_true,Bool.and_eq_true,beq_iff_eq] at m
    obtain ⟨x,G,c,t⟩:=m
    exact z _ (Array.getElem_mem G) c t
   have t:=si r (w j f r d y z) (fun cs b=>u i l cs b hi) (fun cs b=>u j f cs b r) n c
   have I:∀k ok,ops[k]?=some ok->k≠i->(listed.setIfInBounds j true).getD k true=false->
     (∀e∈ok.after,Region.binds .any e=true->e.on≠i)->l.apart ops ok=true:=fun k ok K L B M=>by
    refine w k ok K L ?_ M
    by_cases C:j=k
    .subst C;exact y
    .rw[getD_set_ne true C] at B;exact B
   refine nF (fun N F' s=>⟨s.2.1,ih (listed.setIfInBounds j true) N F' I (ready_mono g (Ne.symm d)) s.1 (s.2.1 E p) ?_⟩) t
   rw[Array.setIfInBounds_comm _ _ d]
   exact s.2.2
theorem De {i:Nat}{l:Oper}{v:Value}(hi:ops[i]?=some l)(r:∀(j:Nat) (o:Oper) cs b,ops[j]?=some o->o.op≠ .select cs b):
  ∀(fuel:Nat) (listed:Array Bool) (a:Act) (F:ag),
   (∀j d,ops[j]?=some d->j≠i->listed.getD j true=false->(∀e∈d.after,Region.binds .any e=true->e.on≠i)->l.apart ops d=true)->
   i∈Region.ready .any ops listed->fe P J ops (fun _=>True) l v a->
   dR P J ops Q S b5 fuel (listed.setIfInBounds i true) (a.put l.dst v) F->dR P J ops Q S b5 (fuel+1) listed a F:=by
 intro fuel
 induction fuel with
 |zero=>
  intro listed a F _ f m H
  refine ⟨fun h=>(by rw[h] at f;cases f),fun j n=>?_⟩
  by_cases c:j=i
  .subst c;exact m.lu hi trivial ⟨fun _ h=>h,H⟩
  .have:=ready_mono n c
   rw[H.1] at this
   cases this
 |succ fuel ih=>
  intro listed a F s f m H
  refine ⟨fun h=>(by rw[h] at f;cases f),fun j n=>?_⟩
  by_cases c:j=i
  .subst c;exact m.lu hi trivial ⟨fun _ h=>h,H⟩
  .have g:=H.2 j (ready_mono n c)
   obtain ⟨t,d,p,y⟩:=mem_ready.1 n
   have z:∀e∈d.after,Region.binds .any e=true->e.on≠i:=fun e he hb heq=>by
    have g:=y e he hb
    have u:=(mem_ready.1 f).1
    rw[heq] at g
    rcases Nat.lt_or_ge i listed.size with h'|h'
    .simp[h'] at u g;rw[u] at g;cases g
    .simp[Array.getElem?_eq_none h'] at g
   have A:=si p (s j d p c t z) (fun cs b=>r i l cs b hi) (fun cs b=>r j d cs b p) m g
   have B:∀k ok,ops[k]?=some ok->k≠i->(listed.setIfInBounds j true).getD k true=false->
     (∀e∈ok.after,Region.binds .any e=true->e.on≠i)->l.apart ops ok=true:=fun k ok C D w E=>by
    refine s k ok C D ?_ E
    by_cases x:j=k
    .subst x;exact t
    .rw[getD_set_ne true x] at w;exact w
   refine nF (fun G F' q=>⟨q.2.1,ih (listed.setIfInBounds j true) G F' B (ready_mono f (Ne.symm c)) q.1 ?_⟩) A
   rw[Array.setIfInBounds_comm _ _ c]
   exact q.2.2
theorem yI (i:Nat){c:Oper}(v:Value){fuel:Nat}{listed:Array Bool}{a:Act}{F:ag}(hi:ops[i]?=some c)
  (b:(Region.noSelect ops&&Region.free .any ops listed i&&(Region.ready .any ops listed).contains i)=true)
  (d:om ops b5 i=true) (e:fe P J ops S c v a) (f:S F)
  (h:dR P J ops Q S b5 fuel (listed.setIfInBounds i true) (a.put c.dst v) F):dR P J ops Q S b5 (fuel+1) listed a F:=by
 simp only[Bool.and_eq_true] at b
 exact Dd hi d (Region.noSelect_spec b.1.1) fuel listed a F (Region.free_spec hi b.1.2) (by simpa using b.2) e f h
theorem tu {rs:List Nat}{fuel:Nat}{listed:Array Bool}{a:Act}{F:ag}(b:Region.ready .any ops listed=rs)(c:rs≠[])
  (h:∀i∈rs,dy P J ops i (fun d F'=>(¬i∈b5->S F->S F')/\dR P J ops Q S b5 fuel (listed.setIfInBounds i true) d F') a F):dR P J ops Q S b5 (fuel+1) listed a F:=
 ⟨fun e=>absurd (b▸e) c,b▸h⟩
theorem yJ (i:Nat){fuel:Nat}{listed:Array Bool}{a:Act}{F:ag}(b:Region.ready .any ops listed=[i])
  (h:dy P J ops i (fun c F'=>(¬i∈b5->S F->S F')/\dR P J ops Q S b5 fuel (listed.setIfInBounds i true) c F') a F):dR P J ops Q S b5 (fuel+1) listed a F:=
 tu b aB (by simpa using h)
theorem yK {listed:Array Bool}{a:Act}{F:ag}(b:Region.ready .any ops listed=[])(h:Q a F):∀fuel,dR P J ops Q S b5 fuel listed a F
 |0=>⟨b,h⟩
 |_+1=>⟨fun _=>h,by rw[b];simp⟩
end
theorem tv {P:Program}{J:Goroutine->ag->Prop}{ops:Array Oper}{Q:Act->ag->Prop}{S:ag->Prop}{b5:List Nat}(i:Nat){b:Oper}(v:Value){fuel:Nat}{listed:Array Bool}{a:Act}{F:ag}(hi:ops[i]?=some b)
  (d:(Region.noSelect ops&&Region.free .any ops listed i&&(Region.ready .any ops listed).contains i)=true)
  (e:om ops b5 i=true) (hg:cA ops b a=some true) (f:∀F R,S F->R v F->cL P J b R a F) (c:S F)
  (h:dR P J ops Q S b5 fuel (listed.setIfInBounds i true) (bt a b.dst v) F):dR P J ops Q S b5 (fuel+1) listed a F:=
 yI i v hi d e (.inl ⟨cx hg,fun F R c hR=>jj (f F R c hR)⟩) c h
theorem Df {P:Program}{J:Goroutine->ag->Prop}{ops:Array Oper}{Q:Act->ag->Prop}{S:ag->Prop}{b5:List Nat}(i:Nat){b:Oper}{fuel:Nat}{listed:Array Bool}{a:Act}{F:ag}(hi:ops[i]?=some b)
  (c:(Region.noSelect ops&&Region.free .any ops listed i&&(Region.ready .any ops listed).contains i)=true)
  (d:om ops b5 i=true) (hg:cA ops b a=some false) (e:S F)
  (h:dR P J ops Q S b5 fuel (listed.setIfInBounds i true) (bt a b.dst undef) F):dR P J ops Q S b5 (fuel+1) listed a F:=
 yI i undef hi c d (.inr ⟨cx hg,rfl⟩) e h
theorem yL {P:Program}{J:Goroutine->ag->Prop}{ops:Array Oper}{Q:Act->ag->Prop}{S:ag->Prop}{b5:List Nat}(i:Nat){c:Oper}(v:Value){fuel:Nat}{listed:Array Bool}{a:Act}{F:ag}(hi:ops[i]?=some c)
  (b:(Region.noSelect ops&&Region.free .any ops listed i&&(Region.ready .any ops listed).contains i)=true)
  (d:fe P J ops (fun _=>True) c v a)
  (h:dR P J ops Q S b5 fuel (listed.setIfInBounds i true) (bt a c.dst v) F):dR P J ops Q S b5 (fuel+1) listed a F:=by
 simp only[Bool.and_eq_true] at b
 exact De hi (Region.noSelect_spec b.1.1) fuel listed a F (Region.free_spec hi b.1.2) (by simpa using b.2) d h
inductive cm where
 |done
 |rd (i:Nat) (p:cm)
 |one (i:Nat) (p:cm)
 |two (i:Nat) (p:cm) (j:Nat) (q:cm)
 |three (i:Nat) (p:cm) (j:Nat) (q:cm) (k:Nat) (r:cm)
 |last (i:Nat) (p:cm)
 |pure (i:Nat) (p:cm)
inductive fB where
 |done
 |rd (o:Oper) (p:fB)
 |one (o:Oper) (p:fB)
 |two (o:Oper) (p:fB) (o':Oper) (q:fB)
 |three (o:Oper) (p:fB) (o':Oper) (q:fB) (iP:Oper) (r:fB)
 |last (o:Oper) (p:fB)
 |pure (o:Oper) (p:fB)
 |bad
def cm.opers (ops:Array Oper):cm->fB
 | .done=>.done
 | .rd i p=>match ops[i]? with
  |some o=>.rd o (p.opers ops)
  |none=>.bad
 | .one i p=>match ops[i]? with
  |some o=>.one o (p.opers ops)
  |none=>.bad
 | .two i p j q=>match ops[i]?,ops[j]? with
  |some o,some o'=>.two o (p.opers ops) o' (q.opers ops)
  |_,_=>.bad
 | .three i p j q k r=>match ops[i]?,ops[j]?,ops[k]? with
  |some o,some o',some iP=>.three o (p.opers ops) o' (q.opers ops) iP (r.opers ops)
  |_,_,_=>.bad
 | .last i p=>match ops[i]? with
  |some o=>.last o (p.opers ops)
  |none=>.bad
 | .pure i p=>match ops[i]? with
  |some o=>.pure o (p.opers ops)
  |none=>.bad
def cm.tl:cm->Bool
 | .done=>true
 | .last _ p=>p.tl
 | .pure _ p=>p.tl
 |_=>false
def cm.ok (ops:Array Oper)(b5:List Nat):cm->Array Bool->Bool
 | .done,L=>decide (Region.ready .any ops L=[])
 | .rd i p,L=>Region.free .any ops L i&&(Region.ready .any ops L).contains i&&(ops[i]?).isSome&&om ops b5 i&&p.ok ops b5 (L.setIfInBounds i true)
 | .one i p,L=>decide (Region.ready .any ops L=[i])&&(ops[i]?).isSome&&p.ok ops b5 (L.setIfInBounds i true)
 | .two i p j q,L=>decide (Region.ready .any ops L=[i,j])&&(ops[i]?).isSome&&(ops[j]?).isSome&&p.ok ops b5 (L.setIfInBounds i true)&&q.ok ops b5 (L.setIfInBounds j true)
 | .three i p j q k r,L=>decide (Region.ready .any ops L=[i,j,k])&&(ops[i]?).isSome&&(ops[j]?).isSome&&(ops[k]?).isSome&&p.ok ops b5 (L.setIfInBounds i true)&&q.ok ops b5 (L.setIfInBounds j true)&&r.ok ops b5 (L.setIfInBounds k true)
 | .pure i p,L=>Region.free .any ops L i&&(Region.ready .any ops L).contains i&&(ops[i]?).isSome&&p.ok ops b5 (L.setIfInBounds i true)
 | .last i p,L=>b5.contains i&&decide (Region.ready .any ops L=[i])&&p.tl&&(ops[i]?).isSome&&p.ok ops b5 (L.setIfInBounds i true)
def cm.len:cm->Nat
 | .done=>0
 | .rd _ p=>p.len+1
 | .one _ p=>p.len+1
 | .two _ p _ q=>max p.len q.len+1
 | .three _ p _ q _ r=>max p.len (max q.len r.len)+1
 | .last _ p=>p.len+1
 | .pure _ p=>p.len+1
def b9 (P:Program)(J:Goroutine->ag->Prop)(ops:Array Oper)(F0:ag)(Q:Act->ag->Prop):fB->Bool->Act->ag->Prop
 | .done,_,a,F=>Q a F
 | .bad,_,_,_=>False
 | .rd o p,_,a,F=>match cA ops o a with
  |some false=>b9 P J ops F0 Q p true (bt a o.dst undef) F
  |some true=>match o.op with
   | .load t x=>match ev a x with
    | .pointer (some ad)=>match fo P F0 t ad with
     |some v=>b9 P J ops F0 Q p true (bt a o.dst v) F
     |none=>False
    |_=>False
   | .call {callee:=.value x,args, ..}=>match ev a x with
    | .func (.func fn) first captured=>aP P fn=true/\∃v,Plain P J F0 fn (first++args.map (ev a)++captured) v/\b9 P J ops F0 Q p false (bt a o.dst v) F
    |_=>False
   |_=>match iu P o a with
    |some v=>b9 P J ops F0 Q p true (bt a o.dst v) F
    |none=>False
  |none=>False
 | .one o p,_,a,F=>match cA ops o a with
  |some true=>cL P J o (fun v F'=>Knows F0 F'/\b9 P J ops F0 Q p (!Oper.calls o) (bt a o.dst v) F') a F
  |some false=>b9 P J ops F0 Q p true (bt a o.dst undef) F
  |none=>False
 | .two o p o' q,_,a,F=>(match cA ops o a with
  |some true=>cL P J o (fun v F'=>Knows F0 F'/\b9 P J ops F0 Q p (!Oper.calls o) (bt a o.dst v) F') a F
  |some false=>b9 P J ops F0 Q p true (bt a o.dst undef) F
  |none=>False)/\(match cA ops o' a with
  |some true=>cL P J o' (fun v F'=>Knows F0 F'/\b9 P J ops F0 Q q (!Oper.calls o') (bt a o'.dst v) F') a F
  |some false=>b9 P J ops F0 Q q true (bt a o'.dst undef) F
  |none=>False)
 | .three o p o' q iP r,_,a,F=>(match cA ops o a with
  |some true=>cL P J o (fun v F'=>Knows F0 F'/\b9 P J ops F0 Q p (!Oper.calls o) (bt a o.dst v) F') a F
  |some false=>b9 P J ops F0 Q p true (bt a o.dst undef) F
  |none=>False)/\(match cA ops o' a with
  |some true=>cL P J o' (fun v F'=>Knows F0 F'/\b9 P J ops F0 Q q (!Oper.calls o') (bt a o'.dst v) F') a F
  |some false=>b9 P J ops F0 Q q true (bt a o'.dst undef) F
  |none=>False)/\(match cA ops iP a with
  |some true=>cL P J iP (fun v F'=>Knows F0 F'/\b9 P J ops F0 Q r (!Oper.calls iP) (bt a iP.dst v) F') a F
  |some false=>b9 P J ops F0 Q r true (bt a iP.dst undef) F
  |none=>False)
 | .pure o p,_,a,F=>match cA ops o a with
  |some false=>b9 P J ops F0 Q p true (bt a o.dst undef) F
  |some true=>match iu P o a with
   |some v=>b9 P J ops F0 Q p true (bt a o.dst v) F
   |none=>False
  |none=>False
 | .last o p,_,a,F=>match cA ops o a with
  |some true=>cL P J o (fun v F'=>b9 P J ops F0 Q p (!Oper.calls o) (bt a o.dst v) F') a F
  |_=>False
section
variable {P:Program}{main:Bool}{J:Goroutine->ag->Prop}{ops:Array Oper}{Q:Act->ag->Prop}{F0:ag}{b5:List Nat}
theorem lP {p:cm}{i:Nat}{o:Oper}{fuel:Nat}{L:Array Bool}{a:Act}{F:ag}(ho:ops[i]?=some o)(hF:Knows F0 F)
  (ih:∀go a F,Knows F0 F->b9 P J ops F0 Q (p.opers ops) go a F->dR P J ops Q (Knows F0) b5 fuel (L.setIfInBounds i true) a F)
  (h:match cA ops o a with
   |some true=>cL P J o (fun v F'=>Knows F0 F'/\b9 P J ops F0 Q (p.opers ops) (!Oper.calls o) (bt a o.dst v) F') a F
   |some false=>b9 P J ops F0 Q (p.opers ops) true (bt a o.dst undef) F
   |none=>False):dy P J ops i (fun c F'=>(¬i∈b5->Knows F0 F->Knows F0 F')/\dR P J ops Q (Knows F0) b5 fuel (L.setIfInBounds i true) c F') a F:=by
 split at h
 .rename_i hg
  unfold dy
  simp only[ho]
  rw[if_pos (cx hg)]
  refine jj (lG.s4 ?_ h)
  rintro v F' ⟨b,d⟩
  exact ⟨fun _ _=>b,ih _ _ F' b d⟩
 .rename_i hg
  unfold dy
  simp only[ho]
  rw[if_neg (by rw[cx hg];exact Bool.false_ne_true)]
  exact ⟨fun _ e=>e,ih _ _ F hF h⟩
 .exact h.elim
theorem yM {p:cm}{i:Nat}{fuel:Nat}{L:Array Bool}{go:Bool}{a:Act}{F:ag}(d:Region.noSelect ops=true)(b:(cm.pure i p).ok ops b5 L=true)
  (ih:∀go v a,p.ok ops b5 (L.setIfInBounds i true)=true->b9 P J ops F0 Q (p.opers ops) go (bt a ((ops[i]?).bind (·.dst)) v) F->dR P J ops Q (Knows F0) b5 fuel (L.setIfInBounds i true) (bt a ((ops[i]?).bind (·.dst)) v) F)
  (h:b9 P J ops F0 Q ((cm.pure i p).opers ops) go a F):dR P J ops Q (Knows F0) b5 (fuel+1) L a F:=by
 simp only[cm.ok,Bool.and_eq_true] at b
 obtain ⟨⟨⟨c1,c2⟩,c3⟩,c4⟩:=b
 obtain ⟨o,ho⟩:=Option.isSome_iff_exists.1 c3
 have c:(Region.noSelect ops&&Region.free .any ops L i&&(Region.ready .any ops L).contains i)=true:=by rw[d,c1,c2];rfl
 have e:cm.opers ops (.pure i p)= .pure o (p.opers ops):=by simp only[cm.opers,ho]
 rw[e] at h
 have hd:(ops[i]?).bind (·.dst)=o.dst:=by rw[ho];rfl
 rw[hd] at ih
 unfold b9 at h
 split at h
 .rename_i hg
  exact yL i undef ho c (.inr ⟨cx hg,rfl⟩) (ih _ _ _ c4 h)
 .rename_i hg
  split at h
  .rename_i v hv
   exact yL i v ho c (.inl ⟨cx hg,fun F R _ hR=>jj (s0 hv hR)⟩) (ih _ _ _ c4 h)
  .exact h.elim
 .exact h.elim
theorem tw (d:Region.noSelect ops=true):∀(p:cm) (fuel:Nat) (L:Array Bool) (go:Bool) (a:Act) (F:ag),p.tl=true->p.len<=fuel->p.ok ops b5 L=true->b9 P J ops F0 Q (p.opers ops) go a F->dR P J ops Q (Knows F0) b5 fuel L a F
 | .done,fuel,L,go,a,F,_,c,b,h=>by
  simp only[cm.ok,decide_eq_true_eq] at b
  unfold cm.opers b9 at h
  exact yK b h _
 | .last i p,fuel,L,go,a,F,ht,c,b,h=>by
  simp only[cm.ok,Bool.and_eq_true,decide_eq_true_eq] at b
  obtain ⟨⟨⟨⟨c1,c2⟩,c3⟩,c4⟩,e⟩:=b
  obtain ⟨o,ho⟩:=Option.isSome_iff_exists.1 c4
  have g:cm.opers ops (.last i p)= .last o (p.opers ops):=by simp only[cm.opers,ho]
  rw[g] at h
  simp only[cm.len] at c
  obtain ⟨fuel,rfl⟩:∃f,fuel=f+1:=⟨fuel - 1,ai⟩
  unfold b9 at h
  refine yJ i c2 ?_
  split at h
  .rename_i hg
   unfold dy
   simp only[ho]
   rw[if_pos (cx hg)]
   refine jj (lG.s4 ?_ h)
   exact fun v F' j=>⟨fun k _=>absurd (by simpa using c1) k,tw d p fuel _ _ _ F' c3 ai e j⟩
  .exact h.elim
 | .pure i p,fuel,L,go,a,F,ht,c,b,h=>by
  simp only[cm.len] at c
  obtain ⟨fuel,rfl⟩:∃f,fuel=f+1:=⟨fuel - 1,ai⟩
  exact yM d b (fun go v a c4 hv=>tw d p fuel _ go _ F ht ai c4 hv) h
 | .rd _ _,_,_,_,_,_,ht,_,_,_=>by cases ht
 | .one _ _,_,_,_,_,_,ht,_,_,_=>by cases ht
 | .two ..,_,_,_,_,_,ht,_,_,_=>by cases ht
 | .three ..,_,_,_,_,_,ht,_,_,_=>by cases ht
theorem jr (d:Region.noSelect ops=true):∀(p:cm) (fuel:Nat) (L:Array Bool) (go:Bool) (a:Act) (F:ag),Knows F0 F->p.len<=fuel->p.ok ops b5 L=true->b9 P J ops F0 Q (p.opers ops) go a F->dR P J ops Q (Knows F0) b5 fuel L a F
 | .done,fuel,L,go,a,F,hF,c,b,h=>by
  simp only[cm.ok,decide_eq_true_eq] at b
  unfold cm.opers b9 at h
  exact yK b h _
 | .rd i p,fuel,L,go,a,F,hF,c,b,h=>by
  simp only[cm.ok,Bool.and_eq_true] at b
  obtain ⟨⟨⟨⟨c1,c2⟩,c3⟩,e⟩,c4⟩:=b
  obtain ⟨o,ho⟩:=Option.isSome_iff_exists.1 c3
  have n:(Region.noSelect ops&&Region.free .any ops L i&&(Region.ready .any ops L).contains i)=true:=by rw[d,c1,c2];rfl
  have g:cm.opers ops (.rd i p)= .rd o (p.opers ops):=by simp only[cm.opers,ho]
  rw[g] at h
  simp only[cm.len] at c
  obtain ⟨fuel,rfl⟩:∃f,fuel=f+1:=⟨fuel - 1,ai⟩
  have next:∀go v,b9 P J ops F0 Q (p.opers ops) go (bt a o.dst v) F->dR P J ops Q (Knows F0) b5 fuel (L.setIfInBounds i true) (bt a o.dst v) F:=fun go v hv=>
   jr d p fuel _ go _ F hF ai c4 hv
  unfold b9 at h
  split at h
  .rename_i hg
   exact Df i ho n e hg hF (next true undef h)
  .rename_i hg
   split at h
   .rename_i t x u
    split at h
    case h_2=>exact h.elim
    rename_i ad y
    split at h
    case h_2=>exact h.elim
    rename_i v hv
    refine tv i v ho n e hg (fun F R s hR=>?_) hF (next _ v h)
    unfold cL
    simp only[u,y,s.fo hv]
    exact hR
   .rename_i x args argTypes u
    split at h
    case h_2=>exact h.elim
    rename_i fn first captured l
    obtain ⟨z,v,A,h⟩:=h
    refine tv i v ho n e hg (fun F R s hR=>?_) hF (next _ v h)
    unfold cL
    simp only[u,l]
    exact ⟨z,(A F s).mono fun E F' B=>by obtain ⟨rfl,rfl⟩:=B;exact hR⟩
   .split at h
    case h_2=>exact h.elim
    rename_i v hv
    exact tv i v ho n e hg (fun F R s hR=>s0 hv hR) hF (next _ v h)
  .exact h.elim
 | .one i p,fuel,L,go,a,F,hF,c,b,h=>by
  simp only[cm.ok,Bool.and_eq_true,decide_eq_true_eq] at b
  obtain ⟨⟨c1,c3⟩,c4⟩:=b
  obtain ⟨o,ho⟩:=Option.isSome_iff_exists.1 c3
  have g:cm.opers ops (.one i p)= .one o (p.opers ops):=by simp only[cm.opers,ho]
  rw[g] at h
  simp only[cm.len] at c
  obtain ⟨fuel,rfl⟩:∃f,fuel=f+1:=⟨fuel - 1,ai⟩
  unfold b9 at h
  exact yJ i c1 (lP ho hF (fun go a F hF h=>jr d p fuel _ go a F hF ai c4 h) h)
 | .two i p j q,fuel,L,go,a,F,hF,c,b,h=>by
  simp only[cm.ok,Bool.and_eq_true,decide_eq_true_eq] at b
  obtain ⟨⟨⟨⟨c1,c2⟩,c3⟩,c4⟩,e⟩:=b
  obtain ⟨o,ho⟩:=Option.isSome_iff_exists.1 c2
  obtain ⟨o',m⟩:=Option.isSome_iff_exists.1 c3
  have g:cm.opers ops (.two i p j q)= .two o (p.opers ops) o' (q.opers ops):=by simp only[cm.opers,ho,m]
  rw[g] at h
  simp only[cm.len] at c
  obtain ⟨fuel,rfl⟩:∃f,fuel=f+1:=⟨fuel - 1,ai⟩
  unfold b9 at h
  refine tu c1 aB fun x l=>?_
  simp only[List.mem_cons,List.not_mem_nil,or_false] at l
  rcases l with rfl|rfl
  .exact lP ho hF (fun go a F hF h=>jr d p fuel _ go a F hF ai c4 h) h.1
  .exact lP m hF (fun go a F hF h=>jr d q fuel _ go a F hF ai e h) h.2
 | .three i p j q k r,fuel,L,go,a,F,hF,c,b,h=>by
  simp only[cm.ok,Bool.and_eq_true,decide_eq_true_eq] at b
  obtain ⟨⟨⟨⟨⟨⟨c1,c2⟩,c3⟩,c4⟩,e⟩,C⟩,D⟩:=b
  obtain ⟨o,ho⟩:=Option.isSome_iff_exists.1 c2
  obtain ⟨o',m⟩:=Option.isSome_iff_exists.1 c3
  obtain ⟨iP,w⟩:=Option.isSome_iff_exists.1 c4
  have g:cm.opers ops (.three i p j q k r)= .three o (p.opers ops) o' (q.opers ops) iP (r.opers ops):=by simp only[cm.opers,ho,m,w]
  rw[g] at h
  simp only[cm.len] at c
  obtain ⟨fuel,rfl⟩:∃f,fuel=f+1:=⟨fuel - 1,ai⟩
  unfold b9 at h
  refine tu c1 aB fun x l=>?_
  simp only[List.mem_cons,List.not_mem_nil,or_false] at l
  rcases l with rfl|rfl|rfl
  .exact lP ho hF (fun go a F hF h=>jr d p fuel _ go a F hF ai e h) h.1
  .exact lP m hF (fun go a F hF h=>jr d q fuel _ go a F hF ai C h) h.2.1
  .exact lP w hF (fun go a F hF h=>jr d r fuel _ go a F hF ai D h) h.2.2
 | .last i p,fuel,L,go,a,F,hF,c,b,h=>tw d (.last i p) fuel L go a F (by simp only[cm.ok,Bool.and_eq_true] at b;exact b.1.1.2) c b h
 | .pure i p,fuel,L,go,a,F,hF,c,b,h=>by
  simp only[cm.len] at c
  obtain ⟨fuel,rfl⟩:∃f,fuel=f+1:=⟨fuel - 1,ai⟩
  exact yM d b (fun go v a c4 hv=>jr d p fuel _ go _ F hF ai c4 hv) h
theorem fC {Q:Ex->Act->ag->Prop}(hJ:Closed P main J)(d:P.follows .mixedOrders=true)(b5:List Nat)(p:cm){id:Nat}{a:Act}{F:ag}(F0:ag)(hF:Knows F0 F)
  (c:(Region.noSelect ops&&decide (p.len<=ops.size)&&p.ok ops b5 (Array.replicate ops.size false))=true)
  (h:b9 P J ops F0 (Q .normal) (p.opers ops) true a F):Wp J (.region id ops true) Q a F:=by
 simp only[Bool.and_eq_true,decide_eq_true_eq] at c
 obtain ⟨⟨e,f⟩,g⟩:=c
 intro b k cs hb i
 refine hJ.step fun w hw=>?_
 refine ⟨_,_,_,F,r7,.drawn _ _ _,hw.drawn _,aB,?_⟩
 refine pK (K:=Q .normal) hJ (sk hb) (fun j F' h'=>i .normal j F' h') _ _ _ ?_
 simp only[Region.schedule,d,Bool.true_or,if_true]
 exact Dc ops.size _ _ a F (jr (b5:=b5) e p ops.size _ true a F hF f g h)
end
theorem Dg {P:Program}{J:Goroutine->ag->Prop}{ops:Array Oper}{F0:ag}{Q:Act->ag->Prop}{go:Bool}{a:Act}{F:ag}:b9 P J ops F0 Q .done go a F=Q a F:=rfl
theorem Dh {P:Program}{J:Goroutine->ag->Prop}{ops:Array Oper}{F0:ag}{Q:Act->ag->Prop}{o:Oper}{p:fB}{a:Act}{F:ag}:b9 P J ops F0 Q (.rd o p) true a F=match cA ops o a with
  |some false=>b9 P J ops F0 Q p true (bt a o.dst undef) F
  |some true=>match o.op with
   | .load t x=>match ev a x with
    | .pointer (some ad)=>match fo P F0 t ad with
     |some v=>b9 P J ops F0 Q p true (bt a o.dst v) F
     |none=>False
    |_=>False
   | .call {callee:=.value x,args, ..}=>match ev a x with
    | .func (.func fn) first captured=>aP P fn=true/\∃v,Plain P J F0 fn (first++args.map (ev a)++captured) v/\b9 P J ops F0 Q p false (bt a o.dst v) F
    |_=>False
   |_=>match iu P o a with
    |some v=>b9 P J ops F0 Q p true (bt a o.dst v) F
    |none=>False
  |none=>False:=(Eq.refl _).trans (Eq.refl _)
theorem yN {P:Program}{J:Goroutine->ag->Prop}{ops:Array Oper}{F0:ag}{Q:Act->ag->Prop}{o:Oper}{p:fB}{a:Act}{F:ag}:b9 P J ops F0 Q (.one o p) true a F=match cA ops o a with
  |some true=>cL P J o (fun v F'=>Knows F0 F'/\b9 P J ops F0 Q p (!Oper.calls o) (bt a o.dst v) F') a F
  |some false=>b9 P J ops F0 Q p true (bt a o.dst undef) F
  |none=>False:=(Eq.refl _).trans (Eq.refl _)
theorem tA {P:Program}{J:Goroutine->ag->Prop}{ops:Array Oper}{F0:ag}{Q:Act->ag->Prop}{o o':Oper}{p q:fB}{go:Bool}{a:Act}{F:ag}(b:b9 P J ops F0 Q (.one o p) true a F)(c:b9 P J ops F0 Q (.one o' q) true a F):b9 P J ops F0 Q (.two o p o' q) go a F:=by
 rw[yN] at b c;unfold b9;exact ⟨b,c⟩
theorem Di {P:Program}{J:Goroutine->ag->Prop}{ops:Array Oper}{F0:ag}{Q:Act->ag->Prop}{o:Oper}{p:fB}{a:Act}{F:ag}:b9 P J ops F0 Q (.last o p) true a F=match cA ops o a with
  |some true=>cL P J o (fun v F'=>b9 P J ops F0 Q p (!Oper.calls o) (bt a o.dst v) F') a F
  |_=>False:=(Eq.refl _).trans (Eq.refl _)
theorem Dj {P:Program}{J:Goroutine->ag->Prop}{ops:Array Oper}{F0:ag}{Q:Act->ag->Prop}{o:Oper}{p:fB}{a:Act}{F:ag}:b9 P J ops F0 Q (.pure o p) true a F=match cA ops o a with
  |some false=>b9 P J ops F0 Q p true (bt a o.dst undef) F
  |some true=>match iu P o a with
   |some v=>b9 P J ops F0 Q p true (bt a o.dst v) F
   |none=>False
  |none=>False:=(Eq.refl _).trans (Eq.refl _)
theorem iw {P:Program}{J:Goroutine->ag->Prop}{ops:Array Oper}{F0:ag}{Q:Act->ag->Prop}:∀{p:fB} {go:Bool} {a:Act} {F:ag},b9 P J ops F0 Q p true a F->b9 P J ops F0 Q p go a F
 | .done,_,_,_,h=>h
 | .bad,_,_,_,h=>h
 | .rd ..,_,_,_,h=>h
 | .one ..,_,_,_,h=>h
 | .two ..,_,_,_,h=>h
 | .three ..,_,_,_,h=>h
 | .last ..,_,_,_,h=>h
 | .pure ..,_,_,_,h=>h
attribute [irreducible] b9
attribute [go_sem] Dg Dh yN Di Dj cm.opers
theorem iQ {ro aK:Addr->Option Value}{l:List (Nat×Obj)}(a:Ext ro aK)(hn:aW aK l)(own:List (Nat×Obj)):Knows ⟨ro,l⟩ ⟨aK,own⟩=ir l own:=
 propext ⟨fun h=>h.2.2,Cv a hn⟩
section
variable {P:Program}{main:Bool}{J:Goroutine->ag->Prop}{a:Act}{F:ag}
def lQ (l:Nat)(R:Value->ag->Prop)(st:LoopState)(jump:Option Code)(F:ag):Prop:=
 ∃lo,F.c7 l=some (.loop lo)/\R (.bool jump.isNone) (F.put l (.loop {lo with state:=st,pending:=jump}))
def tB (l:Nat)(R:Value->ag->Prop):Ex->Act->ag->Prop
 | .normal,_,F=>lQ l R .ready none F
 | .exit id,_,F=>lQ l R .done (some (.exit id)) F
 | .ret,_,F=>lQ l R .done (some .ret) F
def qd (J:Goroutine->ag->Prop)(l:Nat)(body:Code)(R:Value->ag->Prop):Ex->Act->ag->Prop
 | .normal,a,F=>∃lo,F.c7 l=some (.loop lo)/\lo.state= .ready/\Wp J body (tB l R) a (F.put l (.loop {lo with state:=.busy}))
 |_,_,_=>False
theorem tC {l:Nat}{R:Value->ag->Prop}{st:LoopState}{jump:Option Code}(c:st=if jump.isNone then .ready else .done)(h:lQ l R st jump F):bx P (Instr.endRound l jump) R F:=by
 obtain ⟨lo,a,b⟩:=h;simp only[Instr.endRound,Instr.getLoop,bC,gW];refine ⟨_,a,?_⟩;simp only[bF,bC,iK,a,Option.isSome_some,Obj.isChan,true_and];rw[c] at b;exact b
theorem tD (hJ:Closed P main J){l:Nat}{b:Frame}{a:Act}{todo:List Item}{jump:Option Code}{c:Frame}{cs:List Frame}(f:b.kind= .normal)
  (hs:∀w,stepG P main (G (on b a todo) (c::cs)) w=GStep.after (seen P b.fn ((Instr.endRound l jump).runT P w #[]).2) (match ((Instr.endRound l jump).runT P w #[]).1 with
    | .ok v w=>doReturn P main (on b a todo) (c::cs) none v w
    | .halt _ w=>.ended (.stuck "range over a function: no such loop" ((on b a todo).pos P)) w))
  (h:bx P (Instr.endRound l jump) (fun v F'=>J (G (c.finish v) cs) F') F):J (G (on b a todo) (c::cs)) F:=by
 refine hJ.step fun w hw=>?_
 obtain ⟨v,w',F',es,H⟩:=jI _ F w #[] h hw
 have d:=H.run
 rw[Array.empty_append] at d
 refine ⟨G (c.finish v) cs,w',seen P b.fn es,F',?_,H.upd,H.has,fun e he=>H.gU e (mem_seen he),H.post⟩
 rw[hs w,d]
 have g:(on b a todo).kind= .normal:=f
 simp only[doReturn,g,GStep.after,G]
 simp
theorem iH.of_wp (hJ:Closed P main J){l:Nat}{f:FuncId}{tmps:Array Value}{assign body:Code}{R:Value->ag->Prop}(hd:ff assign=true)(p:ff body=true)
  (h:Wp J assign (qd J l body R) {tmps:=tmps,defers:=[]} F):iH J l f tmps assign body F R:=by
 intro c cs hR
 let b:Frame:={(default:Frame) with fn:=f,kind:=.normal,roundOf:=some l}
 have he:Frame.round l f tmps assign body .normal=on b {tmps:=tmps,defers:=[]} (.code assign::[.beginRound,.code body]):=rfl
 rw[he]
 refine h b [.beginRound,.code body] (c::cs) ⟨by simp[b],.inr hd⟩ fun e k F' d=>?_
 cases e with
 |exit i=>exact d.elim
 |ret=>exact d.elim
 |normal=>
  obtain ⟨lo,a,g,q⟩:=d
  show J (G (on b k [.beginRound,.code body]) (c::cs)) F'
  have r:bx P (do Instr.beginRound l;pure Next.skip:Sem Next) (fun n j=>n= .skip/\j=F'.put l (.loop {lo with state:=.busy})) F':=by
   simp only[Instr.beginRound,Instr.getLoop,bC,gW]
   refine ⟨_,a,?_⟩
   simp only[bF,bC,iK,a,Option.isSome_some,Obj.isChan,true_and,g]
   all_goals first|trivial|exact ⟨rfl,rfl⟩
  refine hJ.step fun w hw=>?_
  obtain ⟨n,w',j,es,H⟩:=jI _ F' w #[] r hw
  have m:=H.run
  rw[Array.empty_append] at m
  obtain ⟨rfl,rfl⟩:=H.post
  refine ⟨G (on b k [.code body]) (c::cs),w',seen P b.fn es,_,?_,H.upd,H.has,fun e he=>H.gU e (mem_seen he),?_⟩
  .have s:b.roundOf=some l:=rfl
   simp only[G,stepG,stepG.exec,on,s,Option.elim,stepG.apply,if_true]
   have t:(b.kind==CallKind.early)=false:=rfl
   simp only[m,t,Bool.false_eq_true,if_false,GStep.after]
   simp[Frame.finish,undef]
  .refine q b [] (c::cs) ⟨by simp[b],.inr p⟩ fun e x j d=>?_
   cases e with
   |normal=>
    refine tD hJ (l:=l) (jump:=none) rfl (fun w=>?_) (tC rfl (R:=fun v F'=>J (G (c.finish v) cs) F') ?_)
    .simp only[G,stepG,stepG.exec,on]
     rfl
    .obtain ⟨lo,a,g⟩:=d
     exact ⟨lo,a,hR _ _ g⟩
   |exit i=>
    intro o u
    refine tD hJ (l:=l) (jump:=some (.exit i)) rfl (fun w=>?_) (tC rfl (R:=fun v F'=>J (G (c.finish v) cs) F') ?_)
    .have hn:exitTo i o=none:=u
     simp only[G,stepG,stepG.exec,on,hn,Option.elim]
     rfl
    .obtain ⟨lo,a,g⟩:=d
     exact ⟨lo,a,hR _ _ g⟩
   |ret=>
    intro o
    refine tD hJ (l:=l) (jump:=some .ret) rfl (fun w=>?_) (tC rfl (R:=fun v F'=>J (G (c.finish v) cs) F') ?_)
    .simp only[G,stepG,stepG.exec,on]
     rfl
    .obtain ⟨lo,a,g⟩:=d
     exact ⟨lo,a,hR _ _ g⟩
def qf (Q:Ex->Act->ag->Prop)(a:Act)(F:ag):Option Code->Prop
 |none=>Q .normal a F
 |some (.exit id)=>Q (.exit id) a F
 |some .ret=>Q .ret a F
 |_=>False
def lR (b:FuncId)(a:Act)(params:Array Tmp)(assign body:Code)(d:Nat):Loop:={state:=.ready,pending:=none,fn:=b,tmps:=a.tmps,params:=params,assign:=assign,body:=body,defers:=d}
theorem Dk (hJ:Closed P main J){x:Operand}{params:Array Tmp}{assign body:Code}{Q:Ex->Act->ag->Prop}{fn:FuncId}{first captured:Array Value}
  (E:ev a x= .func (.func fn) first captured) (I:aP P fn=true)
  (L:∀M d l,dx F d->dx (F.push d (.deferred (some []))) l->
   de P J fn (first++#[.func (.yield l) #[] #[]]++captured) ((F.push d (.deferred (some []))).push l (.loop (lR M a params assign body d)))
    (fun _ F'=>∃lo,F'.c7 l=some (.loop lo)/\lo.state≠ .busy/\qf Q {a with defers:=⟨.collected d,#[]⟩::a.defers} (F'.put l (.loop {lo with state:=.exhausted})) lo.pending)):
  Wp J (.rangeFunc x params assign body) Q a F:=by
 intro b k cs hb p
 have t:b.roundOf=none:=hb.round.elim id fun h=>by simp[ff] at h
 obtain ⟨u,N,O,R,S,q,a4⟩:=b
 simp only at t
 subst t
 let b:Frame:=⟨u,N,O,R,S,q,none⟩
 have T:a.eval x= .func (.func fn) first captured:=E
 have i:=I
 unfold aP at i
 split at i
 case h_2=>cases i
 rename_i a5 U
 simp only[Bool.not_eq_true',Bool.or_eq_false_iff] at i
 let K:Nat×List Deferred->ag->Prop:=fun r F'=>∃d l,r=(l,[⟨.collected d,#[]⟩])/\dx F d/\dx (F.push d (.deferred (some []))) l/\F'=(F.push d (.deferred (some []))).push l (.loop (lR b.fn a params assign body d))
 have V:bx P (Instr.enterLoop b.fn a.tmps params assign body none) K F:=by
  simp only[Instr.enterLoop,bC,nJ,bF]
  exact ⟨rfl,fun d hd=>⟨rfl,fun l s=>⟨d,l,rfl,hd,s,rfl⟩⟩⟩
 refine hJ.step fun w hw=>?_
 obtain ⟨r,w1,F1,z,H1⟩:=jI _ F w #[] V hw
 have A:=H1.run
 rw[Array.empty_append] at A
 obtain ⟨d,l,rfl,hd,s,rfl⟩:=H1.post
 let fr':Frame:={on b a (.inRangeFunc l::k) with defers:=[⟨.collected d,#[]⟩]++a.defers}
 have W:fr'=on b {a with defers:=⟨.collected d,#[]⟩::a.defers} (.inRangeFunc l::k):=rfl
 have X:fr'.eval x= .func (.func fn) first captured:=by rw[W,r6];exact T
 have Y:bx P (do let m<-resolve fr'.eval {callee:=.value x,args:=#[.const (.func (.yield l) #[] #[])],argTypes:=#[]} 0;invoke m.target m.args:Sem Next)
   (fun n o=>n= .enter fn (first++#[.func (.yield l) #[] #[]]++captured)/\o=(F.push d (.deferred (some []))).push l (.loop (lR b.fn a params assign body d))) ((F.push d (.deferred (some []))).push l (.loop (lR b.fn a params assign body d))):=by
  have Z:fr'.eval (.const (.func (.yield l) #[] #[]))= .func (.yield l) #[] #[]:=rfl
  simp only[resolve,X,Deferred.ofValue,bC,bF,invoke,callFunc,jh,U,i.1,i.2,Bool.false_eq_true,if_false,List.map_toArray,List.map_cons,List.map_nil,Z]
  simp
 obtain ⟨n,w2,o,ab,g⟩:=jI _ _ w1 #[] Y H1.has
 have B:=g.run
 rw[Array.empty_append] at B
 obtain ⟨rfl,rfl⟩:=g.post
 refine ⟨G (Frame.enter P fn (first++#[.func (.yield l) #[] #[]]++captured) .normal) (fr'::cs),w2,seen P b.fn z++seen P b.fn ab,_,?_,H1.upd.trans g.upd,g.has,fun e he=>?_,?_⟩
 .have ad:(q==CallKind.early)=false:=by have:=hb.kind;cases q<;>simp_all
  have hs:∀e:Array Event,stepG P main (G (on b a (.code (.rangeFunc x params assign body)::k)) cs) w=GStep.after (seen P u z) (stepG.apply P true fr' cs none (do let m<-resolve fr'.eval {callee:=.value x,args:=#[.const (.func (.yield l) #[] #[])],argTypes:=#[]} 0;invoke m.target m.args) w1):=fun _=>by
   simp only[G,stepG,stepG.exec,on,b]
   rw[A]
   rfl
  show stepG P main (G (on b a (.code (.rangeFunc x params assign body)::k)) cs) w=_
  rw[hs #[]]
  unfold stepG.apply
  simp only[if_true,B]
  have ae:(fr'.kind==CallKind.early)=false:=ad
  simp only[ae,Bool.false_eq_true,if_false,GStep.after]
  rfl
 .rcases Array.mem_append.1 he with h|h
  .refine (H1.gU e (mem_seen h)).mono (fun _ x=>x) fun b hb=>hb.imp id fun y=>⟨y.1,Nat.lt_of_lt_of_le y.2 g.upd.size⟩
  .refine (g.gU e (mem_seen h)).mono (fun a al=>al) fun b hb=>?_
   rcases hb with hb|hb
   .rcases H1.upd.own b hb with x|x
    .exact .inl x
    .exact .inr ⟨x,Nat.lt_of_lt_of_le (H1.has.lt hb) g.upd.size⟩
   .exact .inr ⟨Nat.le_trans H1.upd.size hb.1,hb.2⟩
 .refine L b.fn d l hd s fr' cs fun v F' ao=>?_
  obtain ⟨lo,C,ar,f⟩:=ao
  have a0:fr'.finish v=on b {a with defers:=⟨.collected d,#[]⟩::a.defers} (.endRangeFunc l::k):=rfl
  rw[a0]
  have a2:bx P (Instr.endLoop l) (fun j o=>j=lo.pending/\o=F'.put l (.loop {lo with state:=.exhausted})) F':=by
   simp only[Instr.endLoop,Instr.getLoop,bC,gW]
   refine ⟨_,C,?_⟩
   have a3:¬(lo.state== .busy)=true:=by simpa using ar
   simp only[bF,bC,iK,C,Option.isSome_some,Obj.isChan,true_and,dm,a3]
   all_goals first|trivial|exact ⟨rfl,rfl⟩
  refine hJ.step fun w hw=>?_
  obtain ⟨j,w',a6,es,H⟩:=jI _ F' w #[] a2 hw
  have D:=H.run
  rw[Array.empty_append] at D
  obtain ⟨rfl,rfl⟩:=H.post
  refine ⟨G (on b {a with defers:=⟨.collected d,#[]⟩::a.defers} ((lo.pending.map Item.code).toList++k)) cs,w',seen P b.fn es,_,?_,H.upd,H.has,fun e he=>H.gU e (mem_seen he),?_⟩
  .simp only[G,stepG,stepG.exec,on,D,GStep.after]
   simp
  .revert f
   cases lo.pending with
   |none=>exact fun f=>p .normal _ _ f
   |some c=>
    intro f
    cases c<;>simp only[qf] at f<;>first
     |exact f.elim
     |exact p (.exit _) _ _ f k rfl
     |exact p .ret _ _ f k
end
def dg {H σ:Type}(step:σ->H->Option (Bool×σ)):List (Option H)->σ->Option (Bool×σ)
 |[],s=>some (true,s)
 |none::_,_=>none
 |some x::l,s=>match step s x with
  |some (true,s')=>dg step l s'
  |some (false,s')=>some (false,s')
  |none=>none
theorem yO {H σ:Type}(step:σ->H->Option (Bool×σ)):∀(l l':List (Option H)) (s:σ),dg step (l++l') s=match dg step l s with
  |some (true,s')=>dg step l' s'
  |some (false,s')=>some (false,s')
  |none=>none
 |[],l',s=>rfl
 |none::l,l',s=>rfl
 |some x::l,l',s=>by
  simp only[List.cons_append,dg]
  split<;>first|rfl|exact yO step l l' _
def js {H σ ρ:Type}(f:H->σ->Option (Fl σ ρ)):List (Option H)->σ->Option (Fl σ ρ)
 |[],s=>some (.nx s)
 |none::_,_=>none
 |some x::l,s=>ak (f x s) fun o=>match o with
  | .nx s'=>js f l s'
  | .bk s'=>some (.nx s')
  | .br k s'=>some (.br k s')
  | .rt _=>none
def tE {H σ:Type}(P:Program)(y:Value)(enc:H->Value)(step:σ->H->Option (Bool×σ))(ro:Addr->Option Value)(I:σ->List (Nat×Obj)->Prop):Prop:=
 ∀s x b s',step s x=some (b,s')->∀(main:Bool) (J:Goroutine->ag->Prop),Closed P main J->∀own,I s own->
  gm P J y #[enc x] ⟨ro,own⟩ (fun v F'=>∃a,Le ⟨ro,a⟩ F'/\v= .bool b/\I s' a)
def kK {H:Type}(P:Program)(f:FuncId)(first cap:Array Value)(enc:H->Value)(L:List (Option H))(ro:Addr->Option Value):Prop:=
 aP P f=true/\∀(aK:Addr->Option Value),Ext ro aK->∀(σ:Type) (step:σ->H->Option (Bool×σ)) (I:σ->List (Nat×Obj)->Prop) (a:Fn) (c d:Array Value),tE P (.func a c d) enc step aK I->
  ∀s b s',dg step L s=some (b,s')->∀(main:Bool) (J:Goroutine->ag->Prop),Closed P main J->∀own,I s own->
   de P J f (first++#[.func a c d]++cap) ⟨aK,own⟩ (fun _ F'=>∃e,Le ⟨aK,e⟩ F'/\I s' e)
theorem kK.mono {H:Type}{P:Program}{f:FuncId}{first cap:Array Value}{enc:H->Value}{L:List (Option H)}{ro a:Addr->Option Value}(h:kK P f first cap enc L ro)(b:Ext ro a):kK P f first cap enc L a:=
 ⟨h.1,fun aK c=>h.2 aK (b.trans c)⟩
def qg:Nat:=1000000000
def kL (k:Nat):Code:=if k=qg then .ret else .exit k
def tF (Q:Ex->Act->ag->Prop)(k:Nat):Act->ag->Prop:=if k=qg then Q .ret else Q (.exit k)
def yP {σ ρ:Type}(c:Nat)(ro:Addr->Option Value)(l d:Nat)(S:σ->List (Nat×Obj)->Prop)(lo:Loop)(b:Fl σ ρ)(v:Value)(F:ag):Prop:=
 ∃a,Le ⟨ro,(l,.loop {lo with state:=(match b with| .nx _=>.ready|_=>.done),pending:=(match b with| .nx _=>none| .bk _=>some (kL c)| .br k _=>some (kL k)| .rt _=>none)})::(d,.deferred (some []))::a⟩ F/\
  match b with
  | .nx s'=>v= .bool true/\S s' a
  | .bk s'=>v= .bool false/\S s' a
  | .br _ s'=>v= .bool false/\S s' a
  | .rt _=>False
section
variable {P:Program}{main:Bool}{J:Goroutine->ag->Prop}{a:Act}
theorem yQ {H σ ρ:Type}{f:H->σ->Option (Fl σ ρ)}(a:Nat):∀(L:List (Option H)) (s:σ) (o:Fl σ ρ),js f L s=some o->
  ∃b s' pend,dg (σ:=σ×Option Nat) (fun st x=>match st with
   |(s,none)=>match f x s with
    |some (.nx s')=>some (true,(s',none))
    |some (.bk s')=>some (false,(s',some a))
    |some (.br k s')=>some (false,(s',some k))
    |_=>none
   |_=>none) L (s,none)=some (b,(s',pend))/\((o= .nx s'/\(pend=none\/pend=some a))\/∃k,o= .br k s'/\pend=some k)
 |[],s,o,h=>by
  cases h
  exact ⟨true,s,none,rfl,.inl ⟨rfl,.inl rfl⟩⟩
 |none::L,s,o,h=>by cases h
 |some x::L,s,o,h=>by
  unfold js at h
  obtain ⟨e,d,c⟩:=av h
  cases e with
  |nx s'=>
   obtain ⟨b,s2,pend,g,i⟩:=yQ a L s' o c
   refine ⟨b,s2,pend,?_,i⟩
   unfold dg
   simp only[d]
   exact g
  |bk s'=>
   cases c
   refine ⟨false,s',some a,?_,.inl ⟨rfl,.inr rfl⟩⟩
   unfold dg
   simp only[d]
  |br k s'=>
   cases c
   refine ⟨false,s',some k,?_,.inr ⟨k,rfl,rfl⟩⟩
   unfold dg
   simp only[d]
  |rt r=>cases c
theorem yR {ro:Addr->Option Value}{l:Nat}{o:Obj}{own:List (Nat×Obj)}(a:Obj.nE o=false)(b:o.isChan=false):ag.c7 ⟨ro,(l,o)::own⟩ l=some o:=by
 simp[ag.c7,lk,a,b]
def oo (a:Act)(d:Nat):Act:={a with defers:=⟨.collected d,#[]⟩::a.defers}
theorem Dl (a:Act)(d i:Nat):slot (oo a d) i=slot a i:=rfl
theorem Dm (a:Act)(d:Nat):sz (oo a d)=sz a:=rfl
theorem Dn (a:Act)(d:Nat):(oo a d).defers=⟨.collected d,#[]⟩::a.defers:=rfl
def lS (a:Act)(p:Tmp)(v:Value):Act:={tmps:=a.tmps.setIfInBounds p v,defers:=[]}
theorem qh (a:Act)(p:Tmp)(v:Value)(i:Nat):slot (lS a p v) i=slot (bt a (some p) v) i:=rfl
theorem yS (a:Act)(p:Tmp)(v:Value):sz (lS a p v)=sz a:=by simp[sz,lS]
theorem yT {H σ ρ:Type}(hJ:Closed P main J){x:Operand}{p:Tmp}{assign body:Code}{Q:Ex->Act->ag->Prop}{fn:FuncId}{first captured:Array Value}{ro:Addr->Option Value}{own:List (Nat×Obj)}{g:Nat}
  (enc:H->Value) {L:List (Option H)} (T:ev a x= .func (.func fn) first captured) (G:kK P fn first captured enc L ro)
  (U:ff assign=true) (V:ff body=true)
  (S:σ->List (Nat×Obj)->Prop) {f:H->σ->Option (Fl σ ρ)} {z:σ} {o:Fl σ ρ} (ho:js f L z=some o) (W:S z own)
  (X:∀(d l:Nat) (lo:Loop),lo.state= .ready->∀(s:σ) (y:H) (q:Fl σ ρ),f y s=some q->∀(main:Bool) (J:Goroutine->ag->Prop),Closed P main J->∀own,S s own->
   Wp J assign (qd J l body (yP g ro l d S lo q)) (lS a p (enc y)) ⟨ro,(l,.loop lo)::(d,.deferred (some []))::own⟩)
  (Y:¬g=qg)
  (Z:∀d l lo j s',S s' j->bT (keys ((l,.loop lo)::(d,.deferred (some []))::j))->aW ro ((l,.loop lo)::(d,.deferred (some []))::j)->(o= .nx s'->Q .normal (oo a d) ⟨ro,(l,.loop lo)::(d,.deferred (some []))::j⟩)/\
   (∀k,o= .br k s'->tF Q k (oo a d) ⟨ro,(l,.loop lo)::(d,.deferred (some []))::j⟩))
  (ab:∀k s',o= .br k s'->¬k=g):Wp J (.block g (.rangeFunc x #[p] assign body)) Q a ⟨ro,own⟩:=by
 refine bf hJ (Wp.mono (Q:=fun e A F'=>match e with| .exit i=>if i=g then Q .normal A F' else Q (.exit i) A F'|e=>Q e A F') ?_ fun e a F h=>by cases e<;>exact h)
 obtain ⟨b,s',pend,ad,ae⟩:=yQ g L z o ho
 refine Dk hJ T G.1 fun B d l hd a8=>?_
 let lo:Loop:=lR B a #[p] assign body d
 let n:Option Nat->Loop:=fun pend=>{lo with state:=(match pend with|none=>.ready|some _=>.done),pending:=pend.map kL}
 let I:σ×Option Nat->List (Nat×Obj)->Prop:=fun st al=>∃bz,al=(l,.loop (n st.2))::(d,.deferred (some []))::bz/\S st.1 bz
 have ao:tE P (.func (.yield l) #[] #[]) enc (fun (st:σ×Option Nat) x=>match st with
   |(s,none)=>match f x s with
    |some (.nx s')=>some (true,(s',none))
    |some (.bk s')=>some (false,(s',some g))
    |some (.br k s')=>some (false,(s',some k))
    |_=>none
   |_=>none) ro I:=by
  rintro ⟨s,pend⟩ y a9 ⟨s1,ba⟩ m ar K M a0 ⟨bz,rfl,a2⟩
  cases pend with
  |some k=>cases m
  |none=>
   simp only at m
   refine ⟨rfl,rfl,lo,yR rfl rfl,rfl,?_⟩
   cases C:f y s with
   |none=>rw[C] at m;cases m
   |some q=>
    have D:=iH.of_wp M (R:=yP g ro l d S lo q) (f:=B) U V (X d l lo rfl s y q C ar K M bz a2)
    rw[C] at m
    have a3:(lo.params.zip #[enc y]).foldl (fun tmps (t,a)=>tmps.setIfInBounds t a) lo.tmps=a.tmps.setIfInBounds p (enc y):=by simp[lo,lR]
    show iH K l B ((lo.params.zip #[enc y]).foldl (fun tmps (t,a)=>tmps.setIfInBounds t a) lo.tmps) assign body _ _
    rw[a3]
    refine D.mono fun v F' hv=>?_
    obtain ⟨j,hle,hm⟩:=hv
    cases q with
    |nx s2=>
     simp only[Option.some.injEq,Prod.mk.injEq] at m
     obtain ⟨rfl,rfl,rfl⟩:=m
     exact ⟨_,hle,hm.1,j,rfl,hm.2⟩
    |bk s2=>
     simp only[Option.some.injEq,Prod.mk.injEq] at m
     obtain ⟨rfl,rfl,rfl⟩:=m
     exact ⟨_,hle,hm.1,j,rfl,hm.2⟩
    |br k s2=>
     simp only[Option.some.injEq,Prod.mk.injEq] at m
     obtain ⟨rfl,rfl,rfl⟩:=m
     exact ⟨_,hle,hm.1,j,rfl,hm.2⟩
    |rt r=>exact hm.elim
 have a4:=G.2 ro (Ext.refl ro) _ _ I _ _ _ ao (z,none) b (s',pend) ad main J hJ ((l,.loop lo)::(d,.deferred (some []))::own) ⟨own,rfl,W⟩
 intro c cs hK
 refine a4 c cs fun v F' hv=>?_
 obtain ⟨a0,hle,j,rfl,a5⟩:=hv
 by_cases hw:∃w,Has F' w
 case neg=>exact hJ.step fun w hF=>absurd ⟨w,hF⟩ hw
 obtain ⟨w,hw⟩:=hw
 have N:=hle.has w hw
 refine hJ.mono hle (hK v _ ⟨n pend,yR rfl rfl,?_,?_⟩)
 .cases pend<;>simp[n]
 .obtain ⟨O,a6⟩:=Z d l {n pend with state:=.exhausted} j s' a5 ⟨N.nodup⟩ (fun b hb off sp=>by
   cases D:ro ⟨b,off,sp⟩ with
   |none=>rfl
   |some v=>exact absurd hb (N.apart _ v D))
  have a7:ag.put ⟨ro,(l,.loop (n pend))::(d,.deferred (some []))::j⟩ l (.loop {n pend with state:=.exhausted})=⟨ro,(l,.loop {n pend with state:=.exhausted})::(d,.deferred (some []))::j⟩:=by simp[ag.put,eU]
  rw[a7]
  rcases ae with ⟨rfl,rfl|rfl⟩|⟨k,rfl,rfl⟩
  .exact O rfl
  .show qf _ _ _ (some (kL g))
   have:kL g= .exit g:=if_neg Y
   rw[this]
   show (if g=g then Q .normal _ _ else Q (.exit g) _ _)
   rw[if_pos rfl]
   exact O rfl
  .have u:=a6 k rfl
   show qf _ _ _ (some (kL k))
   unfold tF at u
   unfold kL
   split
   .rename_i E
    rw[if_pos E] at u
    exact u
   .rename_i E
    rw[if_neg E] at u
    show (if k=g then Q .normal _ _ else Q (.exit k) _ _)
    rw[if_neg (ab k s' rfl)]
    exact u
theorem Dp {R:List Deferred->ag->Prop}{r:Nat}{F:ag}:bx P (Instr.takeDeferred r) R F=match F.c7 r with
  |some (.deferred (some a))=>R a (F.put r (.deferred none))
  |_=>False:=by
 unfold Instr.takeDeferred
 rw[bC,gW]
 refine propext ⟨fun ⟨o,d,b⟩=>?_,fun h=>?_⟩
 .rw[d]
  cases o<;>first|exact (show False from b).elim|skip
  rename_i a
  cases a with
  |none=>exact (show False from b).elim
  |some a=>
   simp only[bC,iK,bF] at b
   exact b.2.2
 .split at h
  .rename_i a c
   refine ⟨_,c,?_⟩
   simp only[bC,iK,bF]
   exact ⟨rfl,by rw[c];rfl,h⟩
  .exact h.elim
theorem Dq (hJ:Closed P main J){y:Value}{args:Array Value}{ro:Addr->Option Value}{own:List (Nat×Obj)}{R:Value->List (Nat×Obj)->Prop}(pre:List (Nat×Obj))
  (h:∀(main:Bool) (J:Goroutine->ag->Prop),Closed P main J->gm P J y args ⟨ro,own⟩ (fun v F'=>∃a,Le ⟨ro,a⟩ F'/\R v a)) (n:bT (keys (pre++own))) {K:Value->ag->Prop}
  (p:∀v a,R v a->bT (keys (pre++a))->K v ⟨ro,pre++a⟩):gm P J y args ⟨ro,pre++own⟩ K:=by
 have key:∀iO:Frame,(∀(main:Bool) (J:Goroutine->ag->Prop),Closed P main J->qc J iO ⟨ro,own⟩ (fun v F'=>∃a,Le ⟨ro,a⟩ F'/\R v a))->qc J iO ⟨ro,pre++own⟩ K:=fun iO d=>
  yH hJ pre [] aB R (fun m e f c cs hK=>d m e f c cs fun v F' hv=>hK v F' (by obtain ⟨o,b,g⟩:=hv;exact ⟨o,g,b⟩)) fun v s hR a j hn=>by
   rw[List.append_nil] at j
   subst j
   exact ⟨_,Le.refl _,p v s hR hn⟩
 have d:=h main J hJ
 unfold gm at d ⊢
 split at d
 .rename_i fn first captured
  refine ⟨d.1,key _ fun m e f=>?_⟩
  have:=h m e f
  unfold gm at this
  exact this.2
 .rename_i l first captured
  obtain ⟨e1,e2,r,b,g,_⟩:=d
  refine ⟨e1,e2,r,?_,g,key _ fun m e f=>?_⟩
  .have hm:l∈keys own:=by
    unfold ag.c7 at b
    split at b
    .rename_i o ho;exact eB (gG ho)
    .cases b
   have hn:l∉keys pre:=fun t=>by
    have:=n.nd
    rw[cj] at this
    exact (List.nodup_append.1 this).2.2 l t l hm rfl
   have u:∀(pre:List (Nat×Obj)),l∉keys pre->lk (pre++own) l=lk own l:=fun pre=>by
    induction pre with
    |nil=>intro _;rfl
    |cons q pre ih=>
     intro i
     simp only[keys,List.map_cons,List.mem_cons,not_or] at i
     simp only[List.cons_append,lk,if_neg (Ne.symm i.1)]
     exact ih i.2
   unfold ag.c7 at b ⊢
   simp only at b ⊢
   rw[u pre hn]
   exact b
  .have:=h m e f
   unfold gm at this
   obtain ⟨_,_,x,k,z,w⟩:=this
   rw[b] at k
   cases k
   exact w
 .exact d.elim
theorem de.less (hJ:Closed P main J){f:FuncId}{args:Array Value}{F:ag}{R:Value->ag->Prop}(h:de P J f args F (fun v F'=>∃F0,Le F0 F'/\R v F0)):de P J f args F R:=
 fun c cs hK=>h c cs fun v F' ⟨F0,hle,a⟩=>hJ.mono hle (hK v F0 a)
def yU (P:Program)(rs:List ResultVar)(R:Value->ag->Prop):Ex->Act->ag->Prop
 | .exit _,_,_=>False
 |_,a,F=>gV P a.defers (fun F=>match kF P F a rs with|some v=>R v F|none=>False) F
theorem yV {K b:ag->Prop}(h:∀F,K F->b F):∀(a:List Deferred) (F:ag),gV P a K F->gV P a b F
 |[],F,x=>h F x
 |d::a,F,⟨r,e,f⟩=>⟨r,e,gk (fun calls F' c=>⟨c.1,yV h a F' c.2⟩) _ _ f⟩
theorem aF.yW {f:FuncId}{fn:Func}{c:Code}{n:Nat}{rs:List ResultVar}{args:Array Value}{F:ag}{R:Value->ag->Prop}(d:P.funcs[f]?=some fn)(hb:fn.body=some c)(hn:fn.ntmps=n)(g:fn.results=rs.toArray)(j:args.size<=n)
  (h:∀main J,Closed P main J->∀A:Act,sz A=n->A.defers=[]->(∀i,slot A i=args.getD i undef)->Wp J c (yU P rs R) A F):aF P f args F R:=
 aF.start d hb hn j fun main J hJ A k l m=>(h main J hJ A k l m).mono fun e a F b=>by
  have key:gV P a.defers (fun F=>match kF P F a rs with|some v=>R v F|none=>False) F->gV P a.defers (fun F=>bx P (results fn a.tmps) R F) F:=yV (fun F hv=>by
   split at hv
   .rename_i v o;exact pY g o hv
   .exact hv.elim) _ _
  cases e with
  |exit i=>exact b
  |normal=>exact key b
  |ret=>exact key b
theorem de.go (hJ:Closed P main J){f:FuncId}{fn:Func}{c:Code}{n:Nat}{rs:List ResultVar}{args:Array Value}{F:ag}{R:Value->ag->Prop}(d:P.funcs[f]?=some fn)(hb:fn.body=some c)(hn:fn.ntmps=n)(g:fn.results=rs.toArray)(k:args.size<=n)
  (h:∀A:Act,sz A=n->A.defers=[]->(∀i,slot A i=args.getD i undef)->Wp J c (iq P rs R) A F):de P J f args F R:=by
 refine de.of_wp hJ d hb ?_
 refine (h _ (by simp[sz,hn];omega) rfl fun i=>?_).mono fun e a F b=>?_
 .simp only[slot,hn,Array.getD_eq_getD_getElem?]
  rcases Nat.lt_or_ge i args.size with hi|hi
  .rw[Array.getElem?_append_left hi]
  .rw[Array.getElem?_append_right hi,Array.getElem?_replicate,Array.getElem?_eq_none hi]
   split<;>rfl
 .cases e with
  |exit i=>exact b
  |_=>
   obtain ⟨hd,hv⟩:=b
   split at hv
   .rename_i v j
    show gV P a.defers _ F
    rw[hd]
    exact pY g j hv
   .exact hv.elim
theorem Dr {d:Nat}{X:Nat->Prop}:(∃r,Target.collected d=Target.collected r/\X r)=X d:=propext ⟨fun ⟨r,a,b⟩=>by cases a;exact b,fun h=>⟨d,rfl,h⟩⟩
attribute [go_sem] Dr Dl Dm Dn yU Dp ag.c7 Obj.nE Obj.isChan
end
section
variable {P:Program}
theorem Ds (z:Value)(n:Nat):(Builtin.zeroCells #[z] n).toList=List.replicate n z:=by
 simp only[Builtin.zeroCells,List.size_toArray,List.length_cons,List.length_nil,Nat.zero_add,Nat.mul_one,Nat.mod_one];rw[Array.toList_map,Array.toList_range];apply List.ext_getElem
 .simp
 .intro i a b;simp
theorem Dt {ro:Addr->Option Value}{pre bD:List (Nat×Obj)}{argTypes:Array TypeId}{t e ty:TypeId}{R:Value->ag->Prop}{b off n c:Nat}{arr:Array Value}{z zc:Value}(ht:argTypes[0]?=some t)(hu:P.underlying t=some (.slice e))(a:zeroOf P e=some z)(d:z.cells=#[zc])(f:e8 zc=true)
  (hn:0<n) (g:aN pre b) (i:off+n<=arr.size)
  (h:R (.tuple #[]) ⟨ro,pre++((b,.cells (bR arr off (List.replicate n zc)) e)::bD)⟩):
  cJ P (Builtin.clear_ argTypes ty #[.slice (some ⟨b,off,none⟩) n c]) R ⟨ro,pre++((b,.cells arr e)::bD)⟩:=by
 unfold cJ
 have j:n≠0:=ai
 obtain ⟨k,rfl⟩:∃k,n=k+1:=⟨n - 1,ai⟩
 simp only[Builtin.clear_,ht,List.getElem?_toArray,List.getElem?_cons_zero,bC,c5,hu,lz,a,d]
 refine nL _ _ 0 _ ⟨ro,pre++((b,.cells (bR arr off (List.replicate (k+1) zc)) e)::bD)⟩ ?_ ?_
 .rw[Ds]
  have:=qb (ro:=ro) (bD:=bD) (e:=e) g off (List.replicate (k+1) zc) arr 0 (fun v hv=>by rw[List.eq_of_mem_replicate hv];exact f) (by simpa using i)
  simpa using this
 .simp only[bF]
  exact h
end
theorem bA.gr {T:Type}{r:cr T}{ro:Addr->Option Value}{e:TypeId}{v:Value}{l:List T}{bz:List (Nat×Obj)}(h:bA r ro e v l bz){own:List (Nat×Obj)}(pre bD:List (Nat×Obj))(f:own=pre++(bz++bD))(g:bT (keys own)):aG r (ag.dz ⟨ro,own⟩).ro v l:=by
 subst f;obtain ⟨ls,hg,c,hm,k⟩:=h;rcases hg with ⟨rfl,rfl,rfl⟩|⟨b,arr,cap,rfl,rfl,hs,hle,ht,d,m⟩
 .have:l=[]:=List.eq_nil_of_length_eq_zero (by simpa using c.symm);subst this;exact aG.nil r _
 .have o:aN pre b:=Nd.fresh g.nd b (by simp[keys]);refine ⟨some ⟨b,0,none⟩,cap,by rw[c],ai,ai,fun i x hi=>?_⟩;obtain ⟨cs,p,q⟩:=k i x hi;refine ⟨_,cs,rfl,r.mono aX q,fun j v hv=>?_⟩;have a:=lM ls i cs d p j v hv;rw[jN,iL,Nat.zero_add];have s:i*r.n+j<ls.length*r.n:=by
   have:=(List.getElem?_eq_some_iff.1 a).1;rw[gX d] at this;exact this
  rw[<-ht,List.getElem?_take_of_lt s] at a;show ag.get ⟨ro,pre++([(b,Obj.cells arr e)]++bD)⟩ ⟨b,i*r.n+j,none⟩=some v;simp only[ag.get,m,if_true,List.cons_append,List.nil_append,qa o,Option.bind_some,cellOf];simpa using a
theorem aG.two {T:Type}{r:cr T}{ro:Addr->Option Value}{own:List (Nat×Obj)}{b:Nat}{x y:T}{v u:Value}{e:TypeId}(a:∀off sp,ro ⟨b,off,sp⟩=none)(d:lk own b=some (.cells #[v,u] e))(c:r.n=1)(h:r.rel ro x [v])(k:r.rel ro y [u]):
  aG r (bZ ro b (.cells #[v,u] e)) (.slice (some ⟨b,0,none⟩) 2 2) [x,y]:=by
 refine ⟨some ⟨b,0,none⟩,2,rfl,Nat.le_refl _,aB,fun i z hi=>?_⟩
 have:(i=0/\z=x)\/(i=1/\z=y):=by
  cases i with
  |zero=>simp at hi;exact .inl ⟨rfl,hi.symm⟩
  |succ i=>cases i with
   |zero=>simp at hi;exact .inr ⟨rfl,hi.symm⟩
   |succ i=>simp at hi
 rcases this with ⟨rfl,rfl⟩|⟨rfl,rfl⟩
 .refine ⟨_,_,rfl,r.mono (gq _ _ _) h,fun j w hv=>?_⟩
  cases j with
  |zero=>
   rw[Nat.zero_mul,add_zero',iL,Nat.zero_add,ew a]
   simpa [cellOf] using hv
  |succ j=>simp at hv
 .refine ⟨_,_,rfl,r.mono (gq _ _ _) k,fun j w hv=>?_⟩
  cases j with
  |zero=>
   rw[c,jN,iL,ew a]
   simpa [cellOf] using hv
  |succ j=>simp at hv
theorem bA.clear {ro:Addr->Option Value}{e:TypeId}{b n cap k:Nat}{x:List Int}{arr:Array Value}(h:bA rI ro e (.slice (some ⟨b,0,none⟩) n cap) x [(b,.cells arr e)])(r:k<=x.length):
  bA rI ro e (.slice (some ⟨b,0,none⟩) k cap) (x.take k) [(b,.cells (bR arr k (List.replicate (n - k) (.int .i64 0))) e)]:=by
 obtain ⟨ls,hg,s,hm,g⟩:=h
 rcases hg with ⟨hv,_,_⟩|⟨t,u,j,hv,l,hs,hle,ht,d,m⟩
 .cases hv
 .cases l
  obtain ⟨rfl,rfl⟩:n=ls.length/\cap=j:=by cases hv;exact ⟨rfl,rfl⟩
  have c:rI.n=1:=rfl
  rw[c] at hs ht d
  simp only[Nat.mul_one] at hs ht
  have a:(ls.take k).length=k:=by rw[List.length_take];omega
  refine ⟨ls.take k,.inr ⟨b,_,cap,by rw[a],rfl,by rw[pS];rw[c,Nat.mul_one];exact hs,by rw[a];omega,?_,?_,m⟩,by rw[a,List.length_take];omega,by rw[List.length_take];omega,?_⟩
  .rw[pU _ _ _ (by simp;omega),a,c,Nat.mul_one,List.append_assoc,List.take_append_of_le_length (by rw[List.length_take,Array.length_toList];omega),List.take_take,Nat.min_self]
   have e1:arr.toList.take k=(arr.toList.take ls.length).take k:=by rw[List.take_take,Nat.min_eq_left ai]
   rw[e1,ht]
   have e2:ls.flatten=(ls.take k).flatten++(ls.drop k).flatten:=by rw[<-List.flatten_append,List.take_append_drop]
   have e3:(ls.take k).flatten.length=k:=by rw[gX (size:=1) (fun z f=>d z (List.mem_of_mem_take f)),a,Nat.mul_one]
   rw[e2,List.take_append_of_le_length (Nat.le_of_eq e3.symm),List.take_of_length_le (Nat.le_of_eq e3)]
  .intro z f
   rw[c];exact d z (List.mem_of_mem_take f)
  .intro i v hv
   obtain ⟨hi,o⟩:i<k/\x[i]?=some v:=by
    rw[List.getElem?_take] at hv
    split at hv
    .exact ⟨‹_›,hv⟩
    .cases hv
   obtain ⟨cs,p,q⟩:=g i v o
   exact ⟨cs,by rw[List.getElem?_take,if_pos hi];exact p,q⟩
section
variable {P:Program}
theorem Du {t:TypeId}{R:Value->ag->Prop}{F:ag}(h:∀b,dx F b->R (.map (some b)) (F.push b (.map #[] 0))):cJ P (Instr.makeMap t none) R F:=by
 unfold cJ;simp only[Instr.makeMap,bC,nJ,bF];exact ⟨rfl,h⟩
end
def cz {K V:Type}(fk:K->Value)(fv:V->Value):Nat->List (K×V)->List MapEntry
 |_,[]=>[]
 |i,e::l=>{key:=fk e.1,val:=fv e.2,born:=i}::cz fk fv (i+1) l
def dh {K V:Type}(fk:K->Value)(fv:V->Value)(l:List (K×V)):Obj:=.map (cz fk fv 0 l).toArray l.length
def cE {K V:Type}[BEq K]:List (K×V)->K->Option V
 |[],_=>none
 |e::l,k=>if k==e.1 then some e.2 else cE l k
def cC {K V:Type}[BEq K]:List (K×V)->K->V->List (K×V)
 |[],k,v=>[(k,v)]
 |e::l,k,v=>if k==e.1 then (k,v)::l else e::cC l k v
structure lT {K:Type}[BEq K](kt:TypeDesc)(fk:K->Value):Prop where
 now:∀a b,Instr.sameNow kt (fk a) (fk b)=some (a==b)
 bits:∀a b,(a==b)=true->Instr.sameBits 10000 (fk b) (fk a)=true/\fk b=fk a
 plain:∀(P:Program) (t:TypeId) (e:Bool) (k:K) (Q:Unit->ag->Prop) (F:ag),P.underlying t=some kt->Q () F->bx P (Instr.checkKey e 10000 t (fk k)) Q F
theorem yX (a b:List UInt8):((⟨⟨a⟩⟩:ByteArray)==⟨⟨b⟩⟩)=(a==b):=by
 show ((⟨a⟩:Array UInt8)==⟨b⟩)=(a==b);simp
theorem qi:lT (K:=List UInt8) .string (fun k=>.string ⟨⟨k⟩⟩) where
 now a b:=by
  simp only[Instr.sameNow,yX]
 bits a b h:=by
  obtain rfl:a=b:=by simpa using h
  exact ⟨by simp[Instr.sameBits,yX],rfl⟩
 plain P t e k Q F hu h:=by
  unfold Instr.checkKey
  simp only[bC,c5,hu]
  exact h
theorem yY:lT (K:=Int) (.int .i64) (fun k=>.int .i64 k) where
 now a b:=by simp[Instr.sameNow]
 bits a b h:=by
  obtain rfl:a=b:=by simpa using h
  exact ⟨by simp[Instr.sameBits],rfl⟩
 plain P t e k Q F hu h:=by
  unfold Instr.checkKey
  simp only[bC,c5,hu]
  exact h
section
variable {K V:Type}[BEq K]{fk:K->Value}{fv:V->Value}{kd:TypeDesc}{P:Program}
theorem yZ (a:lT kd fk)(k:K):∀(l:List (K×V)) (i j:Nat),∃r,Instr.findNow kd (fk k) (cz fk fv i l) j=some r/\r.map (·.2)=(cE l k).map fv/\(∀n v,r=some (n,v)->j<=n/\n<j+l.length)
 |[],i,j=>⟨none,rfl,rfl,fun n v h=>by cases h⟩
 |e::l,i,j=>by
  obtain ⟨r,b,c,d⟩:=yZ a k l (i+1) (j+1)
  simp only[cz,Instr.findNow,a.now,cE]
  cases h:k==e.1 with
  |true=>exact ⟨some (j,fv e.2),aB,aB,fun n v h=>by cases h;simp⟩
  |false=>exact ⟨r,by simpa using b,by simpa using c,fun n v h=>by have:=d n v h;simp only[List.length_cons];omega⟩
theorem tG {t kt c:TypeId}{b:Nat}{l:List (K×V)}{k:K}{z:V}{own:List (Nat×Obj)}{ro:Addr->Option Value}{R:Value->ag->Prop}{ok:Bool}(d:lT kd fk)(hu:P.underlying t=some (.map kt c))(e:P.underlying kt=some kd)(f:zeroOf P c=some (fv z))(g:lk own b=some (dh fk fv l))
  (h:R (if ok then .tuple #[fv ((cE l k).getD z),.bool (cE l k).isSome] else fv ((cE l k).getD z)) ⟨ro,own⟩):cJ P (Instr.lookup t (.map (some b)) (fk k) ok) R ⟨ro,own⟩:=by
 unfold cJ
 have ho:ag.c7 ⟨ro,own⟩ b=some (dh fk fv l):=by
  unfold ag.c7
  rw[g]
  rfl
 simp only[Instr.lookup,bC,c5,hu,gW,bF]
 refine ⟨_,ho,?_⟩
 simp only[dh,bC,bF]
 refine d.plain P kt _ k _ _ e ?_
 obtain ⟨r,i,a,-⟩:=yZ (fv:=fv) d k l 0 0
 simp only[Instr.findKey,bC,c5,e,i,bF]
 cases hg:cE l k with
 |none=>
  rw[hg] at h a
  cases r with
  |none=>
   simp only[bC,lz,f,bF]
   simpa using h
  |some x=>simp at a
 |some v=>
  rw[hg] at h a
  cases r with
  |none=>simp at a
  |some x=>
   obtain ⟨n,y⟩:=x
   simp only[Option.map_some,Option.some.injEq] at a
   subst a
   simp only[bC,bF,Option.getD_some,Option.isSome_some] at h ⊢
   exact h
theorem tH (fk:K->Value)(fv:V->Value)(e:K×V):∀(l:List (K×V)) (i:Nat),cz fk fv i (l++[e])=cz fk fv i l++[{key:=fk e.1,val:=fv e.2,born:=i+l.length}]
 |[],i=>by simp[cz]
 |x::l,i=>by
  have:=tH fk fv e l (i+1)
  simp only[List.cons_append,cz,this,List.length_cons]
  rw[show i+1+l.length=i+(l.length+1) by omega]
theorem y2 (a:lT kd fk)(k:K)(v:V):∀(l:List (K×V)) (i j:Nat),∃r,Instr.findNow kd (fk k) (cz fk fv i l) j=some r/\
  ((r=none/\cC l k v=l++[(k,v)])\/(∃n y old,r=some (j+n,y)/\((cz fk fv i l)[n]?).map (·.key)=some (fk old)/\(k==old)=true/\cz fk fv i (cC l k v)=(cz fk fv i l).modify n (fun e=>{e with key:=fk k,val:=fv v})/\(cC l k v).length=l.length))
 |[],i,j=>⟨none,rfl,.inl ⟨rfl,rfl⟩⟩
 |e::l,i,j=>by
  obtain ⟨r,b,c⟩:=y2 a k v l (i+1) (j+1)
  simp only[cz,Instr.findNow,a.now,cC]
  cases h:k==e.1 with
  |true=>exact ⟨some (j,fv e.2),aB,.inr ⟨0,fv e.2,e.1,aB,aB,h,by simp[cz],aB⟩⟩
  |false=>
   refine ⟨r,by simpa using b,?_⟩
   rcases c with ⟨e1,e2⟩|⟨n,y,old,e1,e2,e3,d,f⟩
   .exact .inl ⟨e1,by simp[e2]⟩
   .exact .inr ⟨n+1,y,old,by rw[e1];congr 2;omega,by simpa using e2,e3,by simp[cz,d],by simp[f]⟩
theorem tJ {t kt f:TypeId}{b:Nat}{l:List (K×V)}{k:K}{v:V}{own:List (Nat×Obj)}{ro:Addr->Option Value}{R:Value->ag->Prop}(a:lT kd fk)(hu:P.underlying t=some (.map kt f))(c:P.underlying kt=some kd)(g:lk own b=some (dh fk fv l))
  (h:R undef ⟨ro,eU own b (dh fk fv (cC l k v))⟩):cJ P (Instr.mapUpdate t (.map (some b)) (fk k) (fv v)>>= fun _=>pure undef) R ⟨ro,own⟩:=by
 unfold cJ
 have ho:ag.c7 ⟨ro,own⟩ b=some (dh fk fv l):=by
  unfold ag.c7
  rw[g]
  rfl
 have d:(ag.c7 ⟨ro,own⟩ b).isSome=true:=by rw[ho];rfl
 simp only[Instr.mapUpdate,bC,c5,hu,gW]
 refine ⟨_,ho,?_⟩
 simp only[dh,bC]
 refine a.plain P kt _ k _ _ c ?_
 obtain ⟨r,i,j⟩:=y2 (fv:=fv) a k v l 0 0
 simp only[Instr.findKey,bC,c5,c,i,bF]
 rcases j with ⟨rfl,e2⟩|⟨n,y,old,rfl,e2,e3,m,o⟩
 .simp only[iK,bF]
  refine ⟨rfl,d,?_⟩
  have e:dh fk fv (cC l k v)= .map ((cz fk fv 0 l).toArray.push {key:=fk k,val:=fv v,born:=l.length}) (l.length+1):=by
   simp only[dh,e2,tH,List.length_append,List.length_singleton]
   simp
  rw[e] at h
  exact h
 .obtain ⟨p,b2⟩:=a.bits k old e3
  have q:(((cz fk fv 0 l).toArray[0+n]?).map (·.key)).getD (fk k)=fk old:=by
   simp only[Nat.zero_add,List.getElem?_toArray,e2,Option.getD_some]
  simp only[bC,q]
  unfold Instr.keyThatStays
  rw[dm,if_pos p]
  simp only[bF,iK]
  refine ⟨rfl,d,?_⟩
  have e:dh fk fv (cC l k v)= .map ((cz fk fv 0 l).toArray.modify (0+n) fun e=>{e with key:=fk k,val:=fv v}) l.length:=by
   simp only[dh,m,o,Nat.zero_add]
   congr 1
   rw[<-Array.toList_inj]
   simp
  rw[e] at h
  exact h
theorem qj {K V:Type}(fk:K->Value)(fv:V->Value){t:TypeId}{P:Program}{R:Value->ag->Prop}{F:ag}(h:∀b,dx F b->R (.map (some b)) (F.push b (dh fk fv ([]:List (K×V))))):cJ P (Instr.makeMap t none) R F:=Du h
end
def jT {T:Type}(r:cr T)(ro:Addr->Option Value):List T->List (List Value)->Prop
 |[],[]=>True
 |x::xs,c::cs=>r.rel ro x c/\jT r ro xs cs
 |_,_=>False
theorem jT.get {T:Type}{r:cr T}{ro:Addr->Option Value}:∀{xs:List T} {a:List (List Value)},jT r ro xs a->∀(i:Nat) (x:T),xs[i]?=some x->∃c,a[i]?=some c/\r.rel ro x c
 |[],[],_,i,x,h=>by simp at h
 |[],_::_,h,_,_,_=>h.elim
 |_::_,[],h,_,_,_=>h.elim
 |y::xs,c::cs,h,i,x,hi=>by
  cases i with
  |zero=>simp at hi;subst hi;exact ⟨c,rfl,h.1⟩
  |succ i=>simpa using jT.get h.2 i x (by simpa using hi)
theorem jT.len {T:Type}{r:cr T}{ro:Addr->Option Value}:∀{xs:List T} {b:List (List Value)},jT r ro xs b->∀c∈b,c.length=r.n
 |[],[],_,c,h=>by cases h
 |[],_::_,h,_,_=>h.elim
 |_::_,[],h,_,_=>h.elim
 |y::xs,d::cs,h,c,a=>by
  rcases List.mem_cons.1 a with rfl|a
  .exact r.len h.1
  .exact jT.len h.2 c a
theorem aG.rows {T:Type}{r:cr T}{ro:Addr->Option Value}{b:Nat}{cs:Array Value}{e:TypeId}(xs:List T)(a:List (List Value))(h:jT r ro xs a)(d:∀off sp,ro ⟨b,off,sp⟩=none)(f:cs.toList=a.flatten)(hlen:xs.length<=1000000000000000):
  aG r (bZ ro b (.cells cs e)) (.slice (some ⟨b,0,none⟩) xs.length xs.length) xs:=by
 refine ⟨some ⟨b,0,none⟩,xs.length,rfl,Nat.le_refl _,hlen,fun i x hi=>?_⟩
 obtain ⟨c,g,k⟩:=h.get i x hi
 refine ⟨_,c,rfl,r.mono (gq _ _ _) k,fun j v hv=>?_⟩
 have:=lM a i c h.len g j v hv
 rw[iL,iL,Nat.zero_add,ew d]
 rw[<-f] at this
 simpa [cellOf] using this
end Go.Sep
end
section
namespace Go.Proofs.YtcoalekambhghaaGreatDoor
open Go Go.Sep Go.Proofs
set_option maxRecDepth 100000
attribute [go_sem] aG.nil
theorem ql:rI.n=1:=rfl
theorem Dv {T:Type}(r:cr T):(rL r).n=1:=rfl
attribute [go_sem] ql Dv
structure bS where
 low:Int
 high:Int
 deriving DecidableEq
def bS.v (x:bS):Value:=.agg #[.int .i64 x.low,.int .i64 x.high]
def bS.cells (x:bS):List Value:=[.int .i64 x.low,.int .i64 x.high]
def Dw:cr bS:=lK 2 bS.cells (fun _=>rfl) (fun _ v hv=>by simp only[bS.cells,List.mem_cons,List.not_mem_nil,or_false] at hv;rcases hv with rfl|rfl<;>rfl)
theorem Dx:Dw.n=2:=rfl
attribute [go_sem] bS.v bS.cells Dx
structure bu where
 bH:(List UInt8)
 dN:Int
 row:Int
 deriving DecidableEq
def bu.v (x:bu):Value:=.agg #[.string ⟨⟨x.bH⟩⟩,.int .i64 x.dN,.int .i64 x.row]
def bu.cells (x:bu):List Value:=[.string ⟨⟨x.bH⟩⟩,.int .i64 x.dN,.int .i64 x.row]
def dO:cr bu:=lK 3 bu.cells (fun _=>rfl) (fun _ v hv=>by simp only[bu.cells,List.mem_cons,List.not_mem_nil,or_false] at hv;rcases hv with rfl|rfl|rfl<;>rfl)
theorem Dy:dO.n=3:=rfl
attribute [go_sem] bu.v bu.cells Dy
structure bp where
 name:(List UInt8)
 from_:bS
 wide:Int
 aC:bS
 marks:(List bu)
 deriving DecidableEq
def bp.rel (ro:Addr->Option Value)(x:bp)(cs:List Value):Prop:=∃a,cs=[.string ⟨⟨x.name⟩⟩,.int .i64 x.from_.low,.int .i64 x.from_.high,.int .i64 x.wide,.int .i64 x.aC.low,.int .i64 x.aC.high,a]/\aG dO ro a x.marks
theorem bp.kM {ro:Addr->Option Value}{x:bp}{cs:List Value}(h:bp.rel ro x cs):∀v∈cs,e8 v=true:=by
 obtain ⟨a,rfl,⟨_,_,rfl,_⟩⟩:=h;intro v hv;simp only[List.mem_cons,List.not_mem_nil,or_false] at hv;rcases hv with rfl|rfl|rfl|rfl|rfl|rfl|rfl<;>rfl
def bJ:cr bp:=⟨7,bp.rel,fun b ⟨a,e,c⟩=>⟨a,e,c.mono b⟩,fun ⟨a,e,_⟩=>by rw[e];rfl,bp.kM⟩
theorem Dz:bJ.n=7:=rfl
attribute [go_sem] Dz
structure aH where
 steps:Int
 an:Int
 aj:(List bp)
 deriving DecidableEq
def aH.rel (ro:Addr->Option Value)(x:aH)(cs:List Value):Prop:=∃s2,cs=[.int .i64 x.steps,.int .i64 x.an,s2]/\aG bJ ro s2 x.aj
theorem aH.kM {ro:Addr->Option Value}{x:aH}{cs:List Value}(h:aH.rel ro x cs):∀v∈cs,e8 v=true:=by
 obtain ⟨s2,rfl,⟨_,_,rfl,_⟩⟩:=h;intro v hv;simp only[List.mem_cons,List.not_mem_nil,or_false] at hv;rcases hv with rfl|rfl|rfl<;>rfl
def DC:cr aH:=⟨3,aH.rel,fun a ⟨s2,e,b⟩=>⟨s2,e,b.mono a⟩,fun ⟨s2,e,_⟩=>by rw[e];rfl,aH.kM⟩
theorem DD:DC.n=3:=rfl
attribute [go_sem] DD
structure b7 where
 ax:(List Int)
 az:(List Int)
 an:(List Int)
 deriving DecidableEq
def b7.rel (ro:Addr->Option Value)(x:b7)(cs:List Value):Prop:=∃a s1 s2,cs=[a,s1,s2]/\aG rI ro a x.ax/\aG rI ro s1 x.az/\aG rI ro s2 x.an
theorem b7.kM {ro:Addr->Option Value}{x:b7}{cs:List Value}(h:b7.rel ro x cs):∀v∈cs,e8 v=true:=by
 obtain ⟨a,s1,s2,rfl,⟨_,_,rfl,_⟩,⟨_,_,rfl,_⟩,⟨_,_,rfl,_⟩⟩:=h;intro v hv;simp only[List.mem_cons,List.not_mem_nil,or_false] at hv;rcases hv with rfl|rfl|rfl<;>rfl
def DF:cr b7:=⟨3,b7.rel,fun a ⟨b,s1,s2,e,c,d,f⟩=>⟨b,s1,s2,e,c.mono a,d.mono a,f.mono a⟩,fun ⟨b,s1,s2,e,_⟩=>by rw[e];rfl,b7.kM⟩
theorem DG:DF.n=3:=rfl
attribute [go_sem] DG
structure aV where
 step:Int
 cu:Int
 deriving DecidableEq
def aV.v (x:aV):Value:=.agg #[.int .i64 x.step,.int .i64 x.cu]
def aV.cells (x:aV):List Value:=[.int .i64 x.step,.int .i64 x.cu]
def eM:cr aV:=lK 2 aV.cells (fun _=>rfl) (fun _ v hv=>by simp only[aV.cells,List.mem_cons,List.not_mem_nil,or_false] at hv;rcases hv with rfl|rfl<;>rfl)
theorem DI:eM.n=2:=rfl
attribute [go_sem] aV.v aV.cells DI
structure bh where
 e0:Int
 e1:Int
 e2:Int
 e3:Int
 deriving DecidableEq
def bh.cells (x:bh):List Value:=[.int .i64 x.e0,.int .i64 x.e1,.int .i64 x.e2,.int .i64 x.e3]
def DJ:cr bh:=lK 4 bh.cells (fun _=>rfl) (fun _ v hv=>by simp only[bh.cells,List.mem_cons,List.not_mem_nil,or_false] at hv;rcases hv with rfl|rfl|rfl|rfl<;>rfl)
theorem DK:DJ.n=4:=rfl
attribute [go_sem] bh.cells DK
def bh.get (x:bh)(i:Int):Option Int:=if i=0 then some x.e0 else if i=1 then some x.e1 else if i=2 then some x.e2 else if i=3 then some x.e3 else none
theorem bh.get_some {x:bh}{i:Int}{y:Int}(h:bh.get x i=some y):0<=i/\i<((4:Nat):Int)/\([.int .i64 x.e0,.int .i64 x.e1,.int .i64 x.e2,.int .i64 x.e3]:List Value)[i.toNat]?=some (.int .i64 y):=by
 unfold bh.get at h;by_cases a:i=0
 .subst a;simp at h;subst h;exact ⟨by omega,by omega,rfl⟩
 by_cases b:i=1
 .subst b;simp at h;subst h;exact ⟨by omega,by omega,rfl⟩
 by_cases c:i=2
 .subst c;simp at h;subst h;exact ⟨by omega,by omega,rfl⟩
 by_cases d:i=3
 .subst d;simp at h;subst h;exact ⟨by omega,by omega,rfl⟩
 simp[a,b,c,d] at h
theorem bh.oq {x:bh}{i:Int}{y:Int}(post:List Value)(h:bh.get x i=some y):(([.int .i64 x.e0,.int .i64 x.e1,.int .i64 x.e2,.int .i64 x.e3]:List Value)++post)[i.toNat]?=some (.int .i64 y):=by
 obtain ⟨b,c,a⟩:=bh.get_some h;rw[List.getElem?_append_left (by simp only[List.length_cons,List.length_nil];omega)];exact a
theorem bh.qm {x:bh}{i:Int}{y:Int}(pre post:List Value)(h:bh.get x i=some y):(pre++(([.int .i64 x.e0,.int .i64 x.e1,.int .i64 x.e2,.int .i64 x.e3]:List Value)++post))[pre.length+i.toNat]?=some (.int .i64 y):=by
 rw[List.getElem?_append_right (by omega),Nat.add_sub_cancel_left];exact bh.oq post h
structure bg where
 ax:bh
 az:bh
 an:Int
 deriving DecidableEq
def bg.v (x:bg):Value:=.agg #[.int .i64 x.ax.e0,.int .i64 x.ax.e1,.int .i64 x.ax.e2,.int .i64 x.ax.e3,.int .i64 x.az.e0,.int .i64 x.az.e1,.int .i64 x.az.e2,.int .i64 x.az.e3,.int .u64 x.an]
def bg.cells (x:bg):List Value:=[.int .i64 x.ax.e0,.int .i64 x.ax.e1,.int .i64 x.ax.e2,.int .i64 x.ax.e3,.int .i64 x.az.e0,.int .i64 x.az.e1,.int .i64 x.az.e2,.int .i64 x.az.e3,.int .u64 x.an]
def gY:cr bg:=lK 9 bg.cells (fun _=>rfl) (fun _ v hv=>by simp only[bg.cells,List.mem_cons,List.not_mem_nil,or_false] at hv;rcases hv with rfl|rfl|rfl|rfl|rfl|rfl|rfl|rfl|rfl<;>rfl)
theorem DL:gY.n=9:=rfl
attribute [go_sem] bg.v bg.cells DL
structure dF where
 round:aH
 bG:(List bg)
 deriving DecidableEq
def dF.rel (ro:Addr->Option Value)(x:dF)(cs:List Value):Prop:=∃s2 a,cs=[.int .i64 x.round.steps,.int .i64 x.round.an,s2,a]/\aG bJ ro s2 x.round.aj/\aG gY ro a x.bG
theorem dF.kM {ro:Addr->Option Value}{x:dF}{cs:List Value}(h:dF.rel ro x cs):∀v∈cs,e8 v=true:=by
 obtain ⟨s2,a,rfl,⟨_,_,rfl,_⟩,⟨_,_,rfl,_⟩⟩:=h;intro v hv;simp only[List.mem_cons,List.not_mem_nil,or_false] at hv;rcases hv with rfl|rfl|rfl|rfl<;>rfl
def DN:cr dF:=⟨4,dF.rel,fun a ⟨s2,b,e,c,d⟩=>⟨s2,b,e,c.mono a,d.mono a⟩,fun ⟨s2,b,e,_⟩=>by rw[e];rfl,dF.kM⟩
theorem DO:DN.n=4:=rfl
attribute [go_sem] DO
def ot (l:(List (Int×Int))):Obj:=dh (fun k:Int=>.int .i64 k) (fun v:Int=>.int .i64 v) l
theorem DR {R:Value->ag->Prop}{F:ag}(h:∀b,dx F b->R (.map (some b)) (F.push b (ot []))):cJ Tryz.prog (Instr.makeMap 140 none) R F:=qj (fun k:Int=>.int .i64 k) (fun v:Int=>.int .i64 v) h
theorem y3 {own:List (Nat×Obj)}{ro:Addr->Option Value}{b:Nat}{l:(List (Int×Int))}{k:Int}{R:Value->ag->Prop}(a:lk own b=some (ot l))(h:R (.int .i64 ((cE l k).getD 0)) ⟨ro,own⟩):cJ Tryz.prog (Instr.lookup 140 (.map (some b)) (.int .i64 k) false) R ⟨ro,own⟩:=tG (fk:=(fun k:Int=>.int .i64 k)) (fv:=(fun v:Int=>.int .i64 v)) (k:=k) (z:=0) yY (show Tryz.prog.underlying 140=some (.map 3 3) by kernel_rfl) (by kernel_rfl) p8 a h
theorem DT {own:List (Nat×Obj)}{ro:Addr->Option Value}{b:Nat}{l:(List (Int×Int))}{k:Int}{v:Int}{R:Value->ag->Prop}(a:lk own b=some (ot l))(h:R undef ⟨ro,eU own b (ot (cC l k v))⟩):cJ Tryz.prog (Instr.mapUpdate 140 (.map (some b)) (.int .i64 k) (.int .i64 v)>>= fun _=>pure undef) R ⟨ro,own⟩:=tJ (fk:=(fun k:Int=>.int .i64 k)) (fv:=(fun v:Int=>.int .i64 v)) (k:=k) (v:=v) yY (show Tryz.prog.underlying 140=some (.map 3 3) by kernel_rfl) (by kernel_rfl) a h
def lU (l:(List ((List UInt8)×aV))):Obj:=dh (fun k:(List UInt8)=>.string ⟨⟨k⟩⟩) (fun v:aV=>v.v) l
theorem DU {R:Value->ag->Prop}{F:ag}(h:∀b,dx F b->R (.map (some b)) (F.push b (lU []))):cJ Tryz.prog (Instr.makeMap 144 none) R F:=qj (fun k:(List UInt8)=>.string ⟨⟨k⟩⟩) (fun v:aV=>v.v) h
theorem DV {own:List (Nat×Obj)}{ro:Addr->Option Value}{b:Nat}{l:(List ((List UInt8)×aV))}{k:(List UInt8)}{R:Value->ag->Prop}(a:lk own b=some (lU l))(h:R (.tuple #[((cE l k).getD (⟨0,0⟩:aV)).v,.bool (cE l k).isSome]) ⟨ro,own⟩):cJ Tryz.prog (Instr.lookup 144 (.map (some b)) (.string ⟨⟨k⟩⟩) true) R ⟨ro,own⟩:=tG (fk:=(fun k:(List UInt8)=>.string ⟨⟨k⟩⟩)) (fv:=(fun v:aV=>v.v)) (k:=k) (z:=(⟨0,0⟩:aV)) qi (show Tryz.prog.underlying 144=some (.map 9 31) by kernel_rfl) (by kernel_rfl) yh a h
theorem y4 {own:List (Nat×Obj)}{ro:Addr->Option Value}{b:Nat}{l:(List ((List UInt8)×aV))}{k:(List UInt8)}{v:aV}{R:Value->ag->Prop}(a:lk own b=some (lU l))(h:R undef ⟨ro,eU own b (lU (cC l k v))⟩):cJ Tryz.prog (Instr.mapUpdate 144 (.map (some b)) (.string ⟨⟨k⟩⟩) (v.v)>>= fun _=>pure undef) R ⟨ro,own⟩:=tJ (fk:=(fun k:(List UInt8)=>.string ⟨⟨k⟩⟩)) (fv:=(fun v:aV=>v.v)) (k:=k) (v:=v) qi (show Tryz.prog.underlying 144=some (.map 9 31) by kernel_rfl) (by kernel_rfl) a h
def lV (l:(List ((List UInt8)×Bool))):Obj:=dh (fun k:(List UInt8)=>.string ⟨⟨k⟩⟩) (fun v:Bool=>.bool v) l
theorem DW {R:Value->ag->Prop}{F:ag}(h:∀b,dx F b->R (.map (some b)) (F.push b (lV []))):cJ Tryz.prog (Instr.makeMap 245 none) R F:=qj (fun k:(List UInt8)=>.string ⟨⟨k⟩⟩) (fun v:Bool=>.bool v) h
theorem DX {own:List (Nat×Obj)}{ro:Addr->Option Value}{b:Nat}{l:(List ((List UInt8)×Bool))}{k:(List UInt8)}{R:Value->ag->Prop}(a:lk own b=some (lV l))(h:R (.bool ((cE l k).getD false)) ⟨ro,own⟩):cJ Tryz.prog (Instr.lookup 245 (.map (some b)) (.string ⟨⟨k⟩⟩) false) R ⟨ro,own⟩:=tG (fk:=(fun k:(List UInt8)=>.string ⟨⟨k⟩⟩)) (fv:=(fun v:Bool=>.bool v)) (k:=k) (z:=false) qi (show Tryz.prog.underlying 245=some (.map 9 4) by kernel_rfl) (by kernel_rfl) CN a h
theorem DY {own:List (Nat×Obj)}{ro:Addr->Option Value}{b:Nat}{l:(List ((List UInt8)×Bool))}{k:(List UInt8)}{v:Bool}{R:Value->ag->Prop}(a:lk own b=some (lV l))(h:R undef ⟨ro,eU own b (lV (cC l k v))⟩):cJ Tryz.prog (Instr.mapUpdate 245 (.map (some b)) (.string ⟨⟨k⟩⟩) (.bool v)>>= fun _=>pure undef) R ⟨ro,own⟩:=tJ (fk:=(fun k:(List UInt8)=>.string ⟨⟨k⟩⟩)) (fv:=(fun v:Bool=>.bool v)) (k:=k) (v:=v) qi (show Tryz.prog.underlying 245=some (.map 9 4) by kernel_rfl) (by kernel_rfl) a h
end Go.Proofs.YtcoalekambhghaaGreatDoor
end
section
namespace Go.Proofs.YtcoalekambhghaaGreatDoor
open Go Go.Sep Go.Proofs
set_option maxRecDepth 100000
set_option maxHeartbeats 4000000
def fD (u0:Int)(a:Int)(b:Int):Option Bool:=
 cond (decide (a<=u0)) (some (decide (u0<=b))) (some false)
theorem gM {ro:Addr->Option Value}(u0:Int)(b:Int)(c:Int){r:Bool}(h:fD u0 b c=some r):aF Tryz.prog 53 #[.int .i64 u0,.int .i64 b,.int .i64 c] ⟨ro,[]⟩ (fun v _=>v= .bool r):=by
 unfold fD at h;refine aF.go Tryz.func53 rfl Tryz.ntmps53 Tryz.results53 aB fun main J hJ A d hd hs=>?_;have e:=hs 0;have k1:=hs 1;have f:=hs 2;clear hs;refine af hJ ?_;refine ah hJ ?_;apply aa _;refine af hJ ?_;refine ah hJ ?_;have h':=aD h;clear h;rcases h' with ⟨a,h⟩|⟨a,h⟩
 .try simp only[Int.ofNat_lt] at a
  try apply aa _
  have h':=Option.some.inj h;clear h;subst h';refine aI ?_;simp only[*,go_sem]
 try simp only[Int.ofNat_lt] at a
 try apply aa _
 have h':=Option.some.inj h;clear h;subst h';refine aI ?_;simp only[*,go_sem]
def lW (u0:bS)(a:Int)(b:Int)(c:Int):Option Bool:=
 cond (decide (a<=u0.low)) (cond (decide (u0.low<=u0.high)) (cond (decide (u0.high<=b)) (some (decide ((IntKind.i64.wrap (u0.high - u0.low))<c))) (some false)) (some false)) (some false)
theorem y5 {ro:Addr->Option Value}(u0:bS)(d:Int)(e:Int)(f:Int){r:Bool}(h:lW u0 d e f=some r):aF Tryz.prog 220 #[.agg #[.int .i64 u0.low,.int .i64 u0.high],.int .i64 d,.int .i64 e,.int .i64 f] ⟨ro,[]⟩ (fun v _=>v= .bool r):=by
 unfold lW at h;refine aF.go Tryz.func220 rfl Tryz.ntmps220 Tryz.results220 aB fun main J hJ A g hd hs=>?_;have i:=hs 0;have k1:=hs 1;have j:=hs 2;have k:=hs 3;clear hs;refine af hJ ?_;refine ah hJ ?_;apply aa _;intro l f1;have r1:=aT f1;have n1:=aU f1;try simp only[aN] at n1
 try apply aa _
 refine af hJ ?_;refine ah hJ ?_;have h':=aD h;clear h;rcases h' with ⟨a,h⟩|⟨a,h⟩
 .try simp only[Int.ofNat_lt] at a
  have h':=aD h;clear h;rcases h' with ⟨b,h⟩|⟨b,h⟩
  ·(try simp only[Int.ofNat_lt] at b);have h':=aD h;clear h;rcases h' with ⟨c,h⟩|⟨c,h⟩
   ·(try simp only[Int.ofNat_lt] at c);(try apply aa _);have h':=Option.some.inj h;clear h;subst h';refine aI ?_;simp only[*,go_sem]
   (try simp only[Int.ofNat_lt] at c);(try apply aa _);have h':=Option.some.inj h;clear h;subst h';refine aI ?_;simp only[*,go_sem]
  try simp only[Int.ofNat_lt] at b
  try apply aa _
  have h':=Option.some.inj h;clear h;subst h';refine aI ?_;simp only[*,go_sem]
 try simp only[Int.ofNat_lt] at a
 try apply aa _
 have h':=Option.some.inj h;clear h;subst h';refine aI ?_;simp only[*,go_sem]
def ou (b:Int)(i10:Nat)(a:Int)(st:(Int×Int)):Option (Fl (Int×Int) Int):=
 ak (fD a 0 (IntKind.i64.wrap (b - 1))) fun c=>cond (!c) (some (.rt 6)) (cond (decide (a<=st.2)) (some (.rt 7)) (some (.nx (st.1,a))))
def ov (u0:(List Int))(a:Int):Option Int:=
 ak (bX (ou a) 0 u0 (0,(-1))) fun o=>aJ o (fun b=>some 0) (fun _ _=>none) (fun r=>some r)
theorem DZ {ro:Addr->Option Value}(u0:(List Int)){s1:Value}(t:aG rI ro s1 u0)(c:Int){r:Int}(h:ov u0 c=some r):aF Tryz.prog 116 #[s1,.int .i64 c] ⟨ro,[]⟩ (fun v _=>v= .int .i64 r):=by
 obtain ⟨d3,c4,rfl,I,u,w⟩:=id t;unfold ov at h;refine aF.go Tryz.func116 rfl Tryz.ntmps116 Tryz.results116 aB fun main J hJ A y hd hs=>?_;have z:=hs 0;have k1:=hs 1;clear hs;refine af hJ ?_;refine ah hJ ?_;apply aa _;refine af hJ ?_;refine ah hJ ?_;apply aa _;refine af hJ ?_;refine af hJ ?_;refine ah hJ ?_;apply aa _;refine bf hJ ?_;have h':=av h;clear h;obtain ⟨B,a,g⟩:=h';have h:=True.intro;refine bO hJ [4,5,7,10,11,12,13,14,15,16,17,18,19,20,21,22,23,24,25] (fun m i F'=>∃(i10:Nat) (f:Int) (j:Int),m=u0.length - i10/\i10<=u0.length/\bX (ou c) i10 (u0.drop i10) (f,j)=some B/\F'=⟨ro,[]⟩/\slot i 10= .int .i64 (i10:Int)/\slot i 4= .int .i64 f/\slot i 5= .int .i64 j) u0.length ?_ ?_
 .refine ⟨0,0,(-1),(Nat.sub_zero _).symm,Nat.zero_le _,a,rfl,?_⟩;simp only[*,go_sem,-h]
 rintro K d F' b ⟨i10,f,j,rfl,L,a,rfl,M,N,O⟩;have h:=True.intro;have P:sz d=26:=by rw[b.size];simp only[*,go_sem,-h]
 have Q:d.defers=[]:=by rw[b.defers];simp only[*,go_sem,-h]
 have R:slot d 1= .int .i64 c:=by rw[b.aA 1 ay];simp only[*,go_sem,-h]
 have S:slot d 8= .slice d3 u0.length c4:=by rw[b.aA 8 ay];simp only[*,go_sem,-h]
 have T:slot d 9= .int .i64 (u0.length:Int):=by rw[b.aA 9 ay];simp only[*,go_sem,-h]
 clear b y hd z k1;refine af hJ ?_;refine ah hJ ?_;apply aa _;refine af hJ ?_;rcases Nat.lt_or_ge i10 u0.length with C|q
 .refine aL hJ au ?_;refine aR hJ ?_;obtain ⟨k,l⟩:∃x,u0[i10]?=some x:=⟨_,List.getElem?_eq_getElem C⟩
  rw[ey l] at a;have h':=av a;clear a h;obtain ⟨U,h,e⟩:=h';unfold ou at h;try dsimp only at h
  obtain ⟨V,D,E,F,s⟩:=w _ _ l;obtain rfl:D=[.int .i64 k]:=F;cases E;have G:=s 0 _ rfl;simp only[go_sem] at G;clear s l;refine af hJ ?_;refine bf hJ ?_;refine af hJ ?_;refine ah hJ ?_;apply aa _;refine af hJ ?_;refine bf hJ ?_;refine af hJ ?_;refine ah hJ ?_;have h':=av h;clear h;obtain ⟨W,H,h⟩:=h';apply aa _;refine bl hJ _ (gM k 0 (IntKind.i64.wrap (c - 1)) H) (aQ ?_);try apply aa _
  have h':=aD h;clear h;rcases h' with ⟨o,h⟩|⟨o,h⟩
  ·(try simp only[Int.ofNat_lt] at o);refine aL hJ au ?_;refine af hJ ?_;refine ah hJ ?_;apply aa _;have h':=Option.some.inj h;clear h;subst h';have h':=Option.some.inj e;clear e;subst h';have h:=g;dsimp only[aJ] at h;have h':=Option.some.inj h;clear h;subst h';refine aI ?_;simp only[*,go_sem]
  try simp only[Int.ofNat_lt] at o
  refine aM hJ au ?_;refine af hJ ?_;refine ah hJ ?_;apply aa _;have h':=aD h;clear h;rcases h' with ⟨p,h⟩|⟨p,h⟩
  ·(try simp only[Int.ofNat_lt] at p);refine aL hJ au ?_;refine af hJ ?_;refine ah hJ ?_;apply aa _;have h':=Option.some.inj h;clear h;subst h';have h':=Option.some.inj e;clear e;subst h';have h:=g;dsimp only[aJ] at h;have h':=Option.some.inj h;clear h;subst h';refine aI ?_;simp only[*,go_sem]
  try simp only[Int.ofNat_lt] at p
  refine aM hJ au ?_;refine aR hJ ?_;refine ah hJ ?_;apply aa _;have h':=Option.some.inj h;clear h;subst h';have h:=True.intro;have X:=dH (n:=i10) (by have:=u;omega);refine ah hJ ?_;apply aa _;refine ⟨u0.length - (i10+1),ai,_,Le.sub (List.Sublist.refl _),i10+1,f,k,rfl,ai,e,rfl,?_⟩;simp only[*,go_sem,-h]
 have Y:=Nat.not_lt.2 q;refine aM hJ au ?_;rw[List.drop_eq_nil_of_le q] at a;have h':=Option.some.inj a;clear a h;subst h';have h:=g;dsimp only[aJ] at h;refine bM ?_;simp only[go_sem];refine af hJ ?_;refine ah hJ ?_;apply aa _;have h':=Option.some.inj h;clear h;subst h';refine aI ?_;simp only[*,go_sem]
def tL (st:(Int×Int)):Option (Fl (Int×Int) Int):=
 cond (decide (0<st.1)) (some (.nx ((fq st.1 (IntKind.u64.wrap (st.1 - 1))),(IntKind.i64.wrap (st.2+1))))) (some (.bk (st.1,st.2)))
def jU (u0:Int):Option Int:=
 ak (aZ (tL) fu (u0,0)) fun o=>aJ o (fun a=>some a.2) (fun _ _=>none) (fun r=>some r)
theorem y6 {ro:Addr->Option Value}(u0:Int){r:Int}(h:jU u0=some r):aF Tryz.prog 58 #[.int .u64 u0] ⟨ro,[]⟩ (fun v _=>v= .int .i64 r):=by
 unfold jU at h;refine aF.go Tryz.func58 rfl Tryz.ntmps58 Tryz.results58 aB fun main J hJ A i hd hs=>?_;have j:=hs 0;clear hs;refine af hJ ?_;refine ah hJ ?_;apply aa _;refine af hJ ?_;refine ah hJ ?_;apply aa _;refine af hJ ?_;refine bf hJ ?_;have h':=av h;clear h;obtain ⟨k,a,l⟩:=h';have h:=True.intro;refine bO hJ [0,3,4,5,6,7,8,9,10,11] (fun m g F'=>∃(v1:Int) (v2:Int),aZ (tL) m (v1,v2)=some k/\F'=⟨ro,[]⟩/\slot g 0= .int .u64 v1/\slot g 3= .int .i64 v2) fu ?_ ?_
 .refine ⟨u0,0,a,rfl,?_⟩;simp only[*,go_sem,-h]
 rintro c d F' b ⟨v1,v2,a,rfl,n,o⟩;have h:=True.intro;have p:sz d=13:=by rw[b.size];simp only[*,go_sem,-h]
 have q:d.defers=[]:=by rw[b.defers];simp only[*,go_sem,-h]
 have s:slot d 2= .int .i64 0:=by rw[b.aA 2 ay];simp only[*,go_sem,-h]
 clear b i hd j;obtain _|c:=c
 .exact absurd a (by simp only[aZ,reduceCtorEq,not_false_eq_true])
 have h':=av a;clear a h;obtain ⟨t,h,e⟩:=h';unfold tL at h;try dsimp only at h
 refine af hJ ?_;refine af hJ ?_;refine ah hJ ?_;apply aa _;have h':=aD h;clear h;rcases h' with ⟨f,h⟩|⟨f,h⟩
 .try simp only[Int.ofNat_lt] at f
  refine aL hJ au ?_;refine aR hJ ?_;refine af hJ ?_;refine bf hJ ?_;refine ah hJ ?_;apply aa _;refine ah hJ ?_;apply aa _;have h':=Option.some.inj h;clear h;subst h';have h:=True.intro;try apply aa _
  refine ⟨c,Nat.lt_succ_self _,_,Le.sub (List.Sublist.refl _),(fq v1 (IntKind.u64.wrap (v1 - 1))),(IntKind.i64.wrap (v2+1)),e,rfl,?_⟩;simp only[*,go_sem,-h]
 try simp only[Int.ofNat_lt] at f
 refine aM hJ au ?_;refine bM ?_;simp only[go_sem];have h':=Option.some.inj h;clear h;subst h';have h':=Option.some.inj e;clear e;subst h';have h:=l;dsimp only[aJ] at h;refine af hJ ?_;refine ah hJ ?_;apply aa _;have h':=Option.some.inj h;clear h;subst h';refine aI ?_;simp only[*,go_sem]
def tN (i9:Nat)(a:Int)(st:Int):Option (Fl Int Int):=
 ak (jl 1 a) fun b=>some (.nx (tc st b))
def ow (u0:(List Int)):Option Int:=
 ak (bX (tN) 0 u0 0) fun o=>aJ o (fun a=>some a) (fun _ _=>none) (fun r=>some r)
theorem D1 {ro:Addr->Option Value}(u0:(List Int)){s1:Value}(k:aG rI ro s1 u0){r:Int}(h:ow u0=some r):aF Tryz.prog 117 #[s1] ⟨ro,[]⟩ (fun v _=>v= .int .u64 r):=by
 obtain ⟨d3,c4,rfl,G,l,o⟩:=id k;unfold ow at h;refine aF.go Tryz.func117 rfl Tryz.ntmps117 Tryz.results117 aB fun main J hJ A p hd hs=>?_;have q:=hs 0;clear hs;refine af hJ ?_;refine ah hJ ?_;apply aa _;refine af hJ ?_;refine ah hJ ?_;apply aa _;refine af hJ ?_;refine af hJ ?_;refine ah hJ ?_;apply aa _;refine bf hJ ?_;have h':=av h;clear h;obtain ⟨s,a,t⟩:=h';have h:=True.intro;refine bO hJ [3,5,8,9,10,11,12,13,14,15,16] (fun m f F'=>∃(i9:Nat) (d:Int),m=u0.length - i9/\i9<=u0.length/\bX (tN) i9 (u0.drop i9) d=some s/\F'=⟨ro,[]⟩/\slot f 8= .int .i64 (i9:Int)/\slot f 3= .int .u64 d) u0.length ?_ ?_
 .refine ⟨0,0,(Nat.sub_zero _).symm,Nat.zero_le _,a,rfl,?_⟩;simp only[*,go_sem,-h]
 rintro H c F' b ⟨i9,d,rfl,I,a,rfl,K,L⟩;have h:=True.intro;have M:sz c=18:=by rw[b.size];simp only[*,go_sem,-h]
 have N:c.defers=[]:=by rw[b.defers];simp only[*,go_sem,-h]
 have O:slot c 2= .int .u64 0:=by rw[b.aA 2 ay];simp only[*,go_sem,-h]
 have P:slot c 6= .slice d3 u0.length c4:=by rw[b.aA 6 ay];simp only[*,go_sem,-h]
 have Q:slot c 7= .int .i64 (u0.length:Int):=by rw[b.aA 7 ay];simp only[*,go_sem,-h]
 clear b p hd q;refine af hJ ?_;refine ah hJ ?_;apply aa _;refine af hJ ?_;rcases Nat.lt_or_ge i9 u0.length with u|g
 .refine aL hJ au ?_;refine aR hJ ?_;obtain ⟨w,e⟩:∃x,u0[i9]?=some x:=⟨_,List.getElem?_eq_getElem u⟩
  rw[ey e] at a;have h':=av a;clear a h;obtain ⟨R,h,y⟩:=h';unfold tN at h;try dsimp only at h
  obtain ⟨S,z,B,C,i⟩:=o _ _ e;obtain rfl:z=[.int .i64 w]:=C;cases B;have D:=i 0 _ rfl;simp only[go_sem] at D;clear i e;refine af hJ ?_;refine bf hJ ?_;refine af hJ ?_;refine ah hJ ?_;apply aa _;refine ah hJ ?_;have h':=av h;clear h;obtain ⟨E,j,h⟩:=h';obtain ⟨T,F⟩:=lH j;clear j;try simp only[go_sem] at F
  try apply aa _
  have h':=Option.some.inj h;clear h;subst h';have h:=True.intro;have U:=dH (n:=i9) (by have:=l;omega);refine ah hJ ?_;apply aa _;refine ⟨u0.length - (i9+1),ai,_,Le.sub (List.Sublist.refl _),i9+1,(tc d E),rfl,ai,y,rfl,?_⟩;simp only[*,go_sem,-h]
 have V:=Nat.not_lt.2 g;refine aM hJ au ?_;rw[List.drop_eq_nil_of_le g] at a;have h':=Option.some.inj a;clear a h;subst h';have h:=t;dsimp only[aJ] at h;refine bM ?_;simp only[go_sem];refine af hJ ?_;refine ah hJ ?_;apply aa _;have h':=Option.some.inj h;clear h;subst h';refine aI ?_;simp only[*,go_sem]
def qn (u0:Int):Option Bool:=
 cond (decide (97<=u0)) (some (decide (u0<=122))) (some false)
theorem D2 {ro:Addr->Option Value}(u0:Int){r:Bool}(h:qn u0=some r):aF Tryz.prog 223 #[.int .u8 u0] ⟨ro,[]⟩ (fun v _=>v= .bool r):=by
 unfold qn at h;refine aF.go Tryz.func223 rfl Tryz.ntmps223 Tryz.results223 aB fun main J hJ A b hd hs=>?_;have c:=hs 0;clear hs;refine af hJ ?_;refine ah hJ ?_;apply aa _;refine af hJ ?_;refine ah hJ ?_;have h':=aD h;clear h;rcases h' with ⟨a,h⟩|⟨a,h⟩
 .try simp only[Int.ofNat_lt] at a
  try apply aa _
  have h':=Option.some.inj h;clear h;subst h';refine aI ?_;simp only[*,go_sem]
 try simp only[Int.ofNat_lt] at a
 try apply aa _
 have h':=Option.some.inj h;clear h;subst h';refine aI ?_;simp only[*,go_sem]
def lX (u0:(List UInt8))(st:(Bool×Int)):Option (Fl (Bool×Int) Bool):=
 cond (decide (st.2<((u0).length:Int))) (ak (lJ u0 st.2) fun a=>ak (qn a) fun b=>cond (!b) (cond ((st.2==0)) (some (.rt false)) (cond (decide (a<48)) (some (.rt false)) (cond (decide (57<a)) (some (.rt false)) (some (.nx (st.1,(IntKind.i64.wrap (st.2+1)))))))) (some (.nx (st.1,(IntKind.i64.wrap (st.2+1)))))) (some (.bk (st.1,st.2)))
def lY (u0:(List UInt8)):Option Bool:=
 ak (aZ (lX u0) fu (false,0)) fun o=>aJ o (fun b=>ak (fD ((u0).length:Int) 1 12) fun a=>some a) (fun _ _=>none) (fun r=>some r)
theorem y7 {ro:Addr->Option Value}(u0:(List UInt8)){r:Bool}(h:lY u0=some r):aF Tryz.prog 219 #[.string ⟨⟨u0⟩⟩] ⟨ro,[]⟩ (fun v _=>v= .bool r):=by
 unfold lY at h;refine aF.go Tryz.func219 rfl Tryz.ntmps219 Tryz.results219 aB fun main J hJ A p hd hs=>?_;have q:=hs 0;clear hs;refine af hJ ?_;refine ah hJ ?_;apply aa _;refine af hJ ?_;refine ah hJ ?_;apply aa _;refine af hJ ?_;refine af hJ ?_;refine ah hJ ?_;apply aa _;refine bf hJ ?_;have h':=av h;clear h;obtain ⟨s,c,e⟩:=h';have h:=True.intro;refine bO hJ [2,4,5,8,9,10,11,12,13,14,15,16,17,18,19,20,21,22,23,24,25,26,27,28,29,30] (fun m n F'=>∃(v1:Bool) (v2:Int),aZ (lX u0) m (v1,v2)=some s/\F'=⟨ro,[]⟩/\slot n 2= .bool v1/\slot n 8= .int .i64 v2) fu ?_ ?_
 .refine ⟨false,0,c,rfl,?_⟩;simp only[*,go_sem,-h]
 rintro f d F' b ⟨v1,v2,c,rfl,y,z⟩;have h:=True.intro;have B:sz d=34:=by rw[b.size];simp only[*,go_sem,-h]
 have C:d.defers=[]:=by rw[b.defers];simp only[*,go_sem,-h]
 have D:slot d 0= .string ⟨⟨u0⟩⟩:=by rw[b.aA 0 ay];simp only[*,go_sem,-h]
 have E:slot d 3= .func (.func 223) #[] #[]:=by rw[b.aA 3 ay];simp only[*,go_sem,-h]
 have F:slot d 7= .int .i64 ((u0).length:Int):=by rw[b.aA 7 ay];simp only[*,go_sem,-h]
 clear b p hd q;obtain _|f:=f
 .exact absurd c (by simp only[aZ,reduceCtorEq,not_false_eq_true])
 have h':=av c;clear c h;obtain ⟨G,h,a⟩:=h';unfold lX at h;try dsimp only at h
 refine af hJ ?_;refine ah hJ ?_;apply aa _;refine af hJ ?_;have h':=aD h;clear h;rcases h' with ⟨g,h⟩|⟨g,h⟩
 .try simp only[Int.ofNat_lt] at g
  refine aL hJ au ?_;refine aR hJ ?_;refine af hJ ?_;refine bf hJ ?_;refine af hJ ?_;refine ah hJ ?_;apply aa _;refine af hJ ?_;refine ah hJ ?_;have h':=av h;clear h;obtain ⟨t,o,h⟩:=h';obtain ⟨H,I,u,K⟩:=yc o;try simp only[go_sem] at u
  clear o;try apply aa _
  refine af hJ ?_;refine ah hJ ?_;have h':=av h;clear h;obtain ⟨L,w,h⟩:=h';apply aa _;refine bl hJ _ (D2 t w) (aQ ?_);have h':=aD h;clear h;rcases h' with ⟨i,h⟩|⟨i,h⟩
  ·(try simp only[Int.ofNat_lt] at i);have h':=aD h;clear h;rcases h' with ⟨j,h⟩|⟨j,h⟩
   ·(try simp only[Int.ofNat_lt] at j);(try apply aa _);refine aL hJ au ?_;refine af hJ ?_;refine ah hJ ?_;apply aa _;have h':=Option.some.inj h;clear h;subst h';have h':=Option.some.inj a;clear a;subst h';have h:=e;dsimp only[aJ] at h;have h':=Option.some.inj h;clear h;subst h';refine aI ?_;simp only[*,go_sem]
   (try simp only[Int.ofNat_lt] at j);have h':=aD h;clear h;rcases h' with ⟨k,h⟩|⟨k,h⟩
   ·(try simp only[Int.ofNat_lt] at k);(try apply aa _);refine aL hJ au ?_;refine af hJ ?_;refine ah hJ ?_;apply aa _;have h':=Option.some.inj h;clear h;subst h';have h':=Option.some.inj a;clear a;subst h';have h:=e;dsimp only[aJ] at h;have h':=Option.some.inj h;clear h;subst h';refine aI ?_;simp only[*,go_sem]
   (try simp only[Int.ofNat_lt] at k);(try apply aa _);have h':=aD h;clear h;rcases h' with ⟨l,h⟩|⟨l,h⟩
   ·(try simp only[Int.ofNat_lt] at l);refine aL hJ au ?_;refine af hJ ?_;refine ah hJ ?_;apply aa _;have h':=Option.some.inj h;clear h;subst h';have h':=Option.some.inj a;clear a;subst h';have h:=e;dsimp only[aJ] at h;have h':=Option.some.inj h;clear h;subst h';refine aI ?_;simp only[*,go_sem]
   (try simp only[Int.ofNat_lt] at l);refine aM hJ au ?_;refine aR hJ ?_;refine ah hJ ?_;apply aa _;have h':=Option.some.inj h;clear h;subst h';have h:=True.intro;(try apply aa _);refine ⟨f,Nat.lt_succ_self _,_,Le.sub (List.Sublist.refl _),v1,(IntKind.i64.wrap (v2+1)),a,rfl,?_⟩;simp only[*,go_sem,-h]
  try simp only[Int.ofNat_lt] at i
  try apply aa _
  refine aM hJ au ?_;refine aR hJ ?_;refine ah hJ ?_;apply aa _;have h':=Option.some.inj h;clear h;subst h';have h:=True.intro;try apply aa _
  refine ⟨f,Nat.lt_succ_self _,_,Le.sub (List.Sublist.refl _),v1,(IntKind.i64.wrap (v2+1)),a,rfl,?_⟩;simp only[*,go_sem,-h]
 try simp only[Int.ofNat_lt] at g
 refine aM hJ au ?_;refine bM ?_;simp only[go_sem];have h':=Option.some.inj h;clear h;subst h';have h':=Option.some.inj a;clear a;subst h';have h:=e;dsimp only[aJ] at h;refine af hJ ?_;refine ah hJ ?_;have h':=av h;clear h;obtain ⟨M,x,h⟩:=h';apply aa _;refine bl hJ _ (gM ((u0).length:Int) 1 12 x) (aQ ?_);try apply aa _
 have h':=Option.some.inj h;clear h;subst h';refine aI ?_;simp only[*,go_sem]
def eN (u0:Int)(a:Int)(b:Int):Option Bool:=
 cond (decide (a<=u0)) (some (decide (u0<=b))) (some false)
theorem fO {ro:Addr->Option Value}(u0:Int)(b:Int)(c:Int){r:Bool}(h:eN u0 b c=some r):aF Tryz.prog 61 #[.int .i64 u0,.int .i64 b,.int .i64 c] ⟨ro,[]⟩ (fun v _=>v= .bool r):=by
 unfold eN at h;refine aF.go Tryz.func61 rfl Tryz.ntmps61 Tryz.results61 aB fun main J hJ A d hd hs=>?_;have e:=hs 0;have k1:=hs 1;have f:=hs 2;clear hs;refine af hJ ?_;refine ah hJ ?_;apply aa _;refine af hJ ?_;refine ah hJ ?_;have h':=aD h;clear h;rcases h' with ⟨a,h⟩|⟨a,h⟩
 .try simp only[Int.ofNat_lt] at a
  try apply aa _
  have h':=Option.some.inj h;clear h;subst h';refine aI ?_;simp only[*,go_sem]
 try simp only[Int.ofNat_lt] at a
 try apply aa _
 have h':=Option.some.inj h;clear h;subst h';refine aI ?_;simp only[*,go_sem]
def lZ (u0:(List UInt8))(st:(Bool×Int)):Option (Fl (Bool×Int) Bool):=
 cond (decide (st.2<((u0).length:Int))) (ak (lJ u0 st.2) fun a=>ak (eN (IntKind.i64.wrap a) 97 122) fun b=>cond (!b) (cond ((st.2==0)) (some (.rt false)) (ak (eN (IntKind.i64.wrap a) 48 57) fun c=>cond (!c) (some (.rt false)) (some (.nx (st.1,(IntKind.i64.wrap (st.2+1))))))) (some (.nx (st.1,(IntKind.i64.wrap (st.2+1)))))) (some (.bk (st.1,st.2)))
def l5 (u0:(List UInt8)):Option Bool:=
 ak (aZ (lZ u0) fu (false,0)) fun o=>aJ o (fun b=>ak (eN ((u0).length:Int) 1 12) fun a=>some a) (fun _ _=>none) (fun r=>some r)
theorem y8 {ro:Addr->Option Value}(u0:(List UInt8)){r:Bool}(h:l5 u0=some r):aF Tryz.prog 62 #[.string ⟨⟨u0⟩⟩] ⟨ro,[]⟩ (fun v _=>v= .bool r):=by
 unfold l5 at h;refine aF.go Tryz.func62 rfl Tryz.ntmps62 Tryz.results62 aB fun main J hJ A p hd hs=>?_;have q:=hs 0;clear hs;refine af hJ ?_;refine ah hJ ?_;apply aa _;refine af hJ ?_;refine af hJ ?_;refine ah hJ ?_;apply aa _;refine bf hJ ?_;have h':=av h;clear h;obtain ⟨s,b,e⟩:=h';have h:=True.intro;refine bO hJ [2,3,4,5,6,7,8,9,10,11,12,13,14,15,16,17,18,19,20,21,22,23,24,25,26,27] (fun m l F'=>∃(v1:Bool) (v2:Int),aZ (lZ u0) m (v1,v2)=some s/\F'=⟨ro,[]⟩/\slot l 2= .bool v1/\slot l 3= .int .i64 v2) fu ?_ ?_
 .refine ⟨false,0,b,rfl,?_⟩;simp only[*,go_sem,-h]
 rintro c f F' d ⟨v1,v2,b,rfl,y,z⟩;have h:=True.intro;have B:sz f=31:=by rw[d.size];simp only[*,go_sem,-h]
 have C:f.defers=[]:=by rw[d.defers];simp only[*,go_sem,-h]
 have D:slot f 0= .string ⟨⟨u0⟩⟩:=by rw[d.aA 0 ay];simp only[*,go_sem,-h]
 clear d p hd q;obtain _|c:=c
 .exact absurd b (by simp only[aZ,reduceCtorEq,not_false_eq_true])
 have h':=av b;clear b h;obtain ⟨E,h,a⟩:=h';unfold lZ at h;try dsimp only at h
 refine af hJ ?_;refine af hJ ?_;refine ah hJ ?_;apply aa _;have h':=aD h;clear h;rcases h' with ⟨g,h⟩|⟨g,h⟩
 .try simp only[Int.ofNat_lt] at g
  refine aL hJ au ?_;refine aR hJ ?_;refine af hJ ?_;refine bf hJ ?_;refine af hJ ?_;refine ah hJ ?_;have h':=av h;clear h;obtain ⟨n,o,h⟩:=h';obtain ⟨F,G,t,H⟩:=yc o;try simp only[go_sem] at t
  clear o;have h':=av h;clear h;obtain ⟨I,u,h⟩:=h';try apply aa _
  refine bl hJ _ (fO (IntKind.i64.wrap n) 97 122 u) (aQ ?_);have h':=aD h;clear h;rcases h' with ⟨i,h⟩|⟨i,h⟩
  ·(try simp only[Int.ofNat_lt] at i);have h':=aD h;clear h;rcases h' with ⟨j,h⟩|⟨j,h⟩
   ·(try simp only[Int.ofNat_lt] at j);(try apply aa _);refine aL hJ au ?_;refine af hJ ?_;refine ah hJ ?_;apply aa _;have h':=Option.some.inj h;clear h;subst h';have h':=Option.some.inj a;clear a;subst h';have h:=e;dsimp only[aJ] at h;have h':=Option.some.inj h;clear h;subst h';refine aI ?_;simp only[*,go_sem]
   (try simp only[Int.ofNat_lt] at j);have h':=av h;clear h;obtain ⟨K,w,h⟩:=h';(try apply aa _);refine bl hJ _ (fO (IntKind.i64.wrap n) 48 57 w) (aQ ?_);(try apply aa _);have h':=aD h;clear h;rcases h' with ⟨k,h⟩|⟨k,h⟩
   ·(try simp only[Int.ofNat_lt] at k);refine aL hJ au ?_;refine af hJ ?_;refine ah hJ ?_;apply aa _;have h':=Option.some.inj h;clear h;subst h';have h':=Option.some.inj a;clear a;subst h';have h:=e;dsimp only[aJ] at h;have h':=Option.some.inj h;clear h;subst h';refine aI ?_;simp only[*,go_sem]
   (try simp only[Int.ofNat_lt] at k);refine aM hJ au ?_;refine aR hJ ?_;refine ah hJ ?_;apply aa _;have h':=Option.some.inj h;clear h;subst h';have h:=True.intro;(try apply aa _);refine ⟨c,Nat.lt_succ_self _,_,Le.sub (List.Sublist.refl _),v1,(IntKind.i64.wrap (v2+1)),a,rfl,?_⟩;simp only[*,go_sem,-h]
  try simp only[Int.ofNat_lt] at i
  try apply aa _
  refine aM hJ au ?_;refine aR hJ ?_;refine ah hJ ?_;apply aa _;have h':=Option.some.inj h;clear h;subst h';have h:=True.intro;try apply aa _
  refine ⟨c,Nat.lt_succ_self _,_,Le.sub (List.Sublist.refl _),v1,(IntKind.i64.wrap (v2+1)),a,rfl,?_⟩;simp only[*,go_sem,-h]
 try simp only[Int.ofNat_lt] at g
 refine aM hJ au ?_;refine bM ?_;simp only[go_sem];have h':=Option.some.inj h;clear h;subst h';have h':=Option.some.inj a;clear a;subst h';have h:=e;dsimp only[aJ] at h;refine af hJ ?_;refine ah hJ ?_;have h':=av h;clear h;obtain ⟨L,x,h⟩:=h';apply aa _;refine bl hJ _ (fO ((u0).length:Int) 1 12 x) (aQ ?_);try apply aa _
 have h':=Option.some.inj h;clear h;subst h';refine aI ?_;simp only[*,go_sem]
def l6 (u0:bS)(a:Int)(b:Int):Option Bool:=
 cond (decide (a<=u0.low)) (cond (decide (u0.low<=u0.high)) (some (decide (u0.high<=b))) (some false)) (some false)
theorem y9 {ro:Addr->Option Value}(u0:bS)(c:Int)(d:Int){r:Bool}(h:l6 u0 c d=some r):aF Tryz.prog 63 #[.agg #[.int .i64 u0.low,.int .i64 u0.high],.int .i64 c,.int .i64 d] ⟨ro,[]⟩ (fun v _=>v= .bool r):=by
 unfold l6 at h;refine aF.go Tryz.func63 rfl Tryz.ntmps63 Tryz.results63 aB fun main J hJ A e hd hs=>?_;have f:=hs 0;have k1:=hs 1;have g:=hs 2;clear hs;refine af hJ ?_;refine ah hJ ?_;apply aa _;intro i f1;have r1:=aT f1;have n1:=aU f1;try simp only[aN] at n1
 try apply aa _
 refine af hJ ?_;refine ah hJ ?_;have h':=aD h;clear h;rcases h' with ⟨a,h⟩|⟨a,h⟩
 .try simp only[Int.ofNat_lt] at a
  have h':=aD h;clear h;rcases h' with ⟨b,h⟩|⟨b,h⟩
  ·(try simp only[Int.ofNat_lt] at b);(try apply aa _);have h':=Option.some.inj h;clear h;subst h';refine aI ?_;simp only[*,go_sem]
  try simp only[Int.ofNat_lt] at b
  try apply aa _
  have h':=Option.some.inj h;clear h;subst h';refine aI ?_;simp only[*,go_sem]
 try simp only[Int.ofNat_lt] at a
 try apply aa _
 have h':=Option.some.inj h;clear h;subst h';refine aI ?_;simp only[*,go_sem]
def jV (u0:bS):Option Int:=
 some (IntKind.i64.wrap ((IntKind.i64.wrap (u0.high - u0.low))+1))
theorem qo {ro:Addr->Option Value}(u0:bS){r:Int}(h:jV u0=some r):aF Tryz.prog 64 #[.agg #[.int .i64 u0.low,.int .i64 u0.high]] ⟨ro,[]⟩ (fun v _=>v= .int .i64 r):=by
 unfold jV at h;refine aF.go Tryz.func64 rfl Tryz.ntmps64 Tryz.results64 aB fun main J hJ A a hd hs=>?_;have b:=hs 0;clear hs;refine af hJ ?_;refine ah hJ ?_;apply aa _;intro c f1;have r1:=aT f1;have n1:=aU f1;try simp only[aN] at n1
 try apply aa _
 refine af hJ ?_;refine ah hJ ?_;apply aa _;have h':=Option.some.inj h;clear h;subst h';refine aI ?_;simp only[*,go_sem]
def qp (u0:aH)(a:Int):Option Bool:=
 ak (eN a 0 (IntKind.i64.wrap ((u0.aj.length:Int) - 1))) fun b=>some b
theorem D3 {ro:Addr->Option Value}(u0:aH){s1:Value}(b:aG bJ ro s1 u0.aj)(a:Int){r:Bool}(h:qp u0 a=some r):aF Tryz.prog 88 #[.agg #[.int .i64 u0.steps,.int .i64 u0.an,s1],.int .i64 a] ⟨ro,[]⟩ (fun v _=>v= .bool r):=by
 obtain ⟨d3,c4,rfl,e,f,g⟩:=id b;unfold qp at h;refine aF.go Tryz.func88 rfl Tryz.ntmps88 Tryz.results88 aB fun main J hJ A i hd hs=>?_;have j:=hs 0;have k1:=hs 1;clear hs;refine af hJ ?_;refine ah hJ ?_;apply aa _;intro k f8;have l:=aT f8;have c:=aU f8;try simp only[aN] at c
 try apply aa _
 refine af hJ ?_;refine ah hJ ?_;have h':=av h;clear h;obtain ⟨m,d,h⟩:=h';apply aa _;refine bl hJ _ (fO a 0 (IntKind.i64.wrap ((u0.aj.length:Int) - 1)) d) (aQ ?_);try apply aa _
 have h':=Option.some.inj h;clear h;subst h';refine aI ?_;simp only[*,go_sem]
def qq (u0:aH)(a:Int)(b:Int):Option Bool:=
 ak (qp u0 a) fun c=>cond (c) (ak (bI u0.aj a) fun d=>ak (eN b 0 (IntKind.i64.wrap ((d.marks.length:Int) - 1))) fun e=>some e) (some false)
theorem D4 {ro:Addr->Option Value}(u0:aH){s1:Value}(e:aG bJ ro s1 u0.aj)(b:Int)(c:Int){r:Bool}(h:qq u0 b c=some r):aF Tryz.prog 56 #[.agg #[.int .i64 u0.steps,.int .i64 u0.an,s1],.int .i64 b,.int .i64 c] ⟨ro,[]⟩ (fun v _=>v= .bool r):=by
 obtain ⟨d3,c4,rfl,z,B,g⟩:=id e;unfold qq at h;refine aF.go Tryz.func56 rfl Tryz.ntmps56 Tryz.results56 aB fun main J hJ A C hd hs=>?_;have D:=hs 0;have k1:=hs 1;have E:=hs 2;clear hs;refine af hJ ?_;refine ah hJ ?_;apply aa _;intro F f8;have G:=aT f8;have i:=aU f8;try simp only[aN] at i
 try apply aa _
 refine af hJ ?_;refine ah hJ ?_;have h':=av h;clear h;obtain ⟨H,j,h⟩:=h';apply aa _;refine bl hJ _ (D3 u0 (e.mono aX) b j) (aQ ?_);have h':=aD h;clear h;rcases h' with ⟨d,h⟩|⟨d,h⟩
 .try simp only[Int.ofNat_lt] at d
  have h':=av h;clear h;obtain ⟨k,l,h⟩:=h';obtain ⟨I,K,f⟩:=cI l;obtain ⟨L,M,m,n,a⟩:=g _ _ f;obtain ⟨N,rfl,o⟩:=n;obtain ⟨d15,O,rfl,P,Q,R⟩:=id o;cases m;have p:=a 0 _ rfl;simp only[go_sem] at p;have q:=a 1 _ rfl;simp only[go_sem] at q;have s:=a 2 _ rfl;simp only[go_sem] at s;have t:=a 3 _ rfl;simp only[go_sem] at t;have u:=a 4 _ rfl;simp only[go_sem] at u;have w:=a 5 _ rfl;simp only[go_sem] at w;have x:=a 6 _ rfl;simp only[go_sem] at x;clear a f;have h':=av h;clear h;obtain ⟨S,y,h⟩:=h';try apply aa _
  refine bl hJ _ (fO c 0 (IntKind.i64.wrap ((k.marks.length:Int) - 1)) y) (aQ ?_);try apply aa _
  have h':=Option.some.inj h;clear h;subst h';refine aI ?_;simp only[*,go_sem]
 try simp only[Int.ofNat_lt] at d
 try apply aa _
 have h':=Option.some.inj h;clear h;subst h';refine aI ?_;simp only[*,go_sem]
end Go.Proofs.YtcoalekambhghaaGreatDoor
end
section
namespace Go.Sep
open Go Go.Conc
def bY:Code->Code
 | .seq _ b=>b
 |c=>c
theorem bT.cut {l:List (Nat×Obj)}(h:bT (keys l))(i n:Nat):bT (keys (l.take i++l.drop (i+n))):=
 ⟨(((List.Sublist.append_left (show (l.drop (i+n)).Sublist (l.drop i) by rw[<-List.drop_drop];exact List.drop_sublist _ _) (l.take i)).trans (by rw[List.take_append_drop];exact List.Sublist.refl _)).map _).nodup h.nd⟩
theorem aG.oc {T:Type}{r:cr T}{ro:Addr->Option Value}{s:Value}{l:List T}(h:aG r ro s l):e8 s=true:=by
 obtain ⟨_,_,e,_⟩:=h;rw[e];rfl
section
variable {P:Program}{main:Bool}{J:Goroutine->ag->Prop}{Q:Ex->Act->ag->Prop}{a:Act}{F:ag}
theorem cq.pick {ws:List Nat}{A a:Act}(h:cq ws A a)(L:List Nat)(b:(L.all fun i=>!gJ ws i)=true):sz A=sz a/\A.defers=a.defers/\∀i∈L,slot A i=slot a i:=
 ⟨h.size,h.defers,fun i hi=>h.aA i fun x=>by
  have c:=List.all_eq_true.1 b i hi
  have d:gJ ws i=true:=by
   unfold In at x
   exact x
  simp[d] at c⟩
end
end Go.Sep
end
section
namespace Go.Proofs.YtcoalekambhghaaGreatDoor
open Go Go.Sep Go.Proofs
set_option maxRecDepth 100000
set_option maxHeartbeats 4000000
def l7 (u0:Int):Option Bool:=
 some (u0 != u0)
theorem qs {ro:Addr->Option Value}(u0:Int){r:Bool}(h:l7 u0=some r):aF Tryz.prog 194 #[.int .i64 u0] ⟨ro,[]⟩ (fun v _=>v= .bool r):=by
 unfold l7 at h;refine aF.go Tryz.func194 rfl Tryz.ntmps194 Tryz.results194 aB fun main J hJ A a hd hs=>?_;have b:=hs 0;clear hs;refine af hJ ?_;refine ah hJ ?_;apply aa _;refine af hJ ?_;refine ah hJ ?_;apply aa _;have h':=Option.some.inj h;clear h;subst h';refine aI ?_;simp only[*,go_sem]
def tO (u0:Int)(a:Int):Option Int:=
 ak (l7 u0) fun x1=>ak (l7 a) fun x3=>cond (x1) (cond (x3) (some 0) (some (-1))) (cond (x3) (some 1) (cond (decide (u0<a)) (some (-1)) (cond (decide (a<u0)) (some 1) (some 0))))
theorem D5 {ro:Addr->Option Value}(u0:Int)(a:Int){r:Int}(h:tO u0 a=some r):aF Tryz.prog 177 #[.int .i64 u0,.int .i64 a] ⟨ro,[]⟩ (fun v _=>v= .int .i64 r):=by
 unfold tO at h;refine aF.go Tryz.func177 rfl Tryz.ntmps177 Tryz.results177 aB fun main J hJ A j hd hs=>?_;have k:=hs 0;have k1:=hs 1;clear hs;refine af hJ ?_;refine ah hJ ?_;apply aa _;refine af hJ ?_;refine ah hJ ?_;have h':=av h;clear h;obtain ⟨x1,g,h⟩:=h';apply aa _;refine bl hJ _ (qs u0 g) (aQ ?_);try apply aa _
 refine af hJ ?_;refine ah hJ ?_;have h':=av h;clear h;obtain ⟨x3,i,h⟩:=h';apply aa _;refine bl hJ _ (qs a i) (aQ ?_);try apply aa _
 refine af hJ ?_;refine af hJ ?_;refine ah hJ ?_;apply aa _;have h':=aD h;clear h;rcases h' with ⟨b,h⟩|⟨b,h⟩
 .try simp only[Int.ofNat_lt] at b
  refine aL hJ au ?_;refine af hJ ?_;refine af hJ ?_;refine ah hJ ?_;apply aa _;have h':=aD h;clear h;rcases h' with ⟨c,h⟩|⟨c,h⟩
  ·(try simp only[Int.ofNat_lt] at c);refine aL hJ au ?_;refine af hJ ?_;refine ah hJ ?_;apply aa _;have h':=Option.some.inj h;clear h;subst h';refine aI ?_;simp only[*,go_sem]
  try simp only[Int.ofNat_lt] at c
  refine aM hJ au ?_;refine aR hJ ?_;refine af hJ ?_;refine ah hJ ?_;apply aa _;have h':=Option.some.inj h;clear h;subst h';refine aI ?_;simp only[*,go_sem]
 try simp only[Int.ofNat_lt] at b
 refine aM hJ au ?_;refine aR hJ ?_;refine af hJ ?_;refine af hJ ?_;refine ah hJ ?_;apply aa _;have h':=aD h;clear h;rcases h' with ⟨d,h⟩|⟨d,h⟩
 .try simp only[Int.ofNat_lt] at d
  refine aL hJ au ?_;refine af hJ ?_;refine ah hJ ?_;apply aa _;have h':=Option.some.inj h;clear h;subst h';refine aI ?_;simp only[*,go_sem]
 try simp only[Int.ofNat_lt] at d
 refine aM hJ au ?_;refine aR hJ ?_;refine af hJ ?_;refine af hJ ?_;refine ah hJ ?_;apply aa _;have h':=aD h;clear h;rcases h' with ⟨e,h⟩|⟨e,h⟩
 .try simp only[Int.ofNat_lt] at e
  refine aL hJ au ?_;refine af hJ ?_;refine ah hJ ?_;apply aa _;have h':=Option.some.inj h;clear h;subst h';refine aI ?_;simp only[*,go_sem]
 try simp only[Int.ofNat_lt] at e
 refine aM hJ au ?_;refine aR hJ ?_;refine af hJ ?_;refine af hJ ?_;refine ah hJ ?_;apply aa _;have h':=aD h;clear h;rcases h' with ⟨f,h⟩|⟨f,h⟩
 .try simp only[Int.ofNat_lt] at f
  refine aL hJ au ?_;refine af hJ ?_;refine ah hJ ?_;apply aa _;have h':=Option.some.inj h;clear h;subst h';refine aI ?_;simp only[*,go_sem]
 try simp only[Int.ofNat_lt] at f
 refine aM hJ au ?_;refine aR hJ ?_;refine af hJ ?_;refine ah hJ ?_;apply aa _;have h':=Option.some.inj h;clear h;subst h';refine aI ?_;simp only[*,go_sem]
def tP (a:(List Int))(i16:Nat)(c:Int)(st:Int):Option (Fl Int Int):=
 cond (decide ((a.length:Int)<=(i16:Int))) (some (.rt 1)) (ak (bI a (i16:Int)) fun d=>ak (tO c d) fun b=>cond ((b != 0)) (some (.rt b)) (some (.nx st)))
def tQ (u0:(List Int))(a:(List Int)):Option Int:=
 ak (bX (tP a) 0 u0 0) fun o=>aJ o (fun b=>cond (decide ((u0.length:Int)<(a.length:Int))) (some (-1)) (some 0)) (fun _ _=>none) (fun r=>some r)
theorem D6 {ro:Addr->Option Value}(u0:(List Int)){s1:Value}(z:aG rI ro s1 u0)(e:(List Int)){o:Value}(B:aG rI ro o e){r:Int}(h:tQ u0 e=some r):aF Tryz.prog 159 #[s1,o] ⟨ro,[]⟩ (fun v _=>v= .int .i64 r):=by
 obtain ⟨d3,c4,rfl,V,C,D⟩:=id z;obtain ⟨d10,E,rfl,W,X,F⟩:=id B;unfold tQ at h;refine aF.go Tryz.func159 rfl Tryz.ntmps159 Tryz.results159 aB fun main J hJ A G hd hs=>?_;have H:=hs 0;have k1:=hs 1;clear hs;refine af hJ ?_;refine ah hJ ?_;apply aa _;refine af hJ ?_;refine af hJ ?_;refine ah hJ ?_;apply aa _;refine bf hJ ?_;have h':=av h;clear h;obtain ⟨I,a,g⟩:=h';have h:=True.intro;refine bO hJ [4,5,6,7,8,11,12,13,14,15,16,17,18,19,20,21,22,23,24,25,26,27,28,29,30] (fun m p F'=>∃(i16:Nat) (f:Int),m=u0.length - i16/\i16<=u0.length/\bX (tP e) i16 (u0.drop i16) f=some I/\F'=⟨ro,[]⟩/\slot p 11= .int .i64 (i16:Int)/\slot p 4= .int .i64 f) u0.length ?_ ?_
 .refine ⟨0,0,(Nat.sub_zero _).symm,Nat.zero_le _,a,rfl,?_⟩;simp only[*,go_sem,-h]
 rintro Y c F' b ⟨i16,f,rfl,Z,a,rfl,ab,ad⟩;have h:=True.intro;have ae:sz c=36:=by rw[b.size];simp only[*,go_sem,-h]
 have al:c.defers=[]:=by rw[b.defers];simp only[*,go_sem,-h]
 have ao:slot c 0= .slice d3 u0.length c4:=by rw[b.aA 0 ay];simp only[*,go_sem,-h]
 have ar:slot c 1= .slice d10 e.length E:=by rw[b.aA 1 ay];simp only[*,go_sem,-h]
 have a0:slot c 9= .slice d3 u0.length c4:=by rw[b.aA 9 ay];simp only[*,go_sem,-h]
 have a2:slot c 10= .int .i64 (u0.length:Int):=by rw[b.aA 10 ay];simp only[*,go_sem,-h]
 clear b G hd H k1;refine af hJ ?_;refine ah hJ ?_;apply aa _;refine af hJ ?_;rcases Nat.lt_or_ge i16 u0.length with K|q
 .refine aL hJ au ?_;refine aR hJ ?_;obtain ⟨s,i⟩:∃x,u0[i16]?=some x:=⟨_,List.getElem?_eq_getElem K⟩
  rw[ey i] at a;have h':=av a;clear a h;obtain ⟨a3,h,d⟩:=h';unfold tP at h;try dsimp only at h
  obtain ⟨a4,L,M,N,t⟩:=D _ _ i;obtain rfl:L=[.int .i64 s]:=N;cases M;have O:=t 0 _ rfl;simp only[go_sem] at O;clear t i;refine af hJ ?_;refine bf hJ ?_;refine af hJ ?_;refine ah hJ ?_;apply aa _;refine af hJ ?_;refine af hJ ?_;refine ah hJ ?_;apply aa _;have h':=aD h;clear h;rcases h' with ⟨j,h⟩|⟨j,h⟩
  ·(try simp only[Int.ofNat_lt] at j);refine aL hJ au ?_;refine af hJ ?_;refine ah hJ ?_;apply aa _;have h':=Option.some.inj h;clear h;subst h';have h':=Option.some.inj d;clear d;subst h';have h:=g;dsimp only[aJ] at h;have h':=Option.some.inj h;clear h;subst h';refine aI ?_;simp only[*,go_sem]
  try simp only[Int.ofNat_lt] at j
  refine aM hJ au ?_;refine aR hJ ?_;refine af hJ ?_;refine ah hJ ?_;have h':=av h;clear h;obtain ⟨u,P,h⟩:=h';obtain ⟨a5,a6,w⟩:=cI P;obtain ⟨a7,Q,R,S,y⟩:=F _ _ w;obtain rfl:Q=[.int .i64 u]:=S;cases R;have T:=y 0 _ rfl;simp only[go_sem] at T;clear y w;try apply aa _
  refine af hJ ?_;refine ah hJ ?_;have h':=av h;clear h;obtain ⟨a8,U,h⟩:=h';apply aa _;refine bl hJ _ (D5 s u U) (aQ ?_);try apply aa _
  refine af hJ ?_;refine ah hJ ?_;apply aa _;have h':=aD h;clear h;rcases h' with ⟨k,h⟩|⟨k,h⟩
  ·(try simp only[Int.ofNat_lt] at k);refine aL hJ au ?_;refine af hJ ?_;refine ah hJ ?_;apply aa _;have h':=Option.some.inj h;clear h;subst h';have h':=Option.some.inj d;clear d;subst h';have h:=g;dsimp only[aJ] at h;have h':=Option.some.inj h;clear h;subst h';refine aI ?_;simp only[*,go_sem]
  try simp only[Int.ofNat_lt] at k
  refine aM hJ au ?_;refine aR hJ ?_;have h':=Option.some.inj h;clear h;subst h';have h:=True.intro;have a9:=dH (n:=i16) (by have:=C;omega);refine ah hJ ?_;apply aa _;refine ⟨u0.length - (i16+1),ai,_,Le.sub (List.Sublist.refl _),i16+1,f,rfl,ai,d,rfl,?_⟩;simp only[*,go_sem,-h]
 have ba:=Nat.not_lt.2 q;refine aM hJ au ?_;rw[List.drop_eq_nil_of_le q] at a;have h':=Option.some.inj a;clear a h;subst h';have h:=g;dsimp only[aJ] at h;refine bM ?_;simp only[go_sem];refine af hJ ?_;refine af hJ ?_;refine ah hJ ?_;apply aa _;have h':=aD h;clear h;rcases h' with ⟨l,h⟩|⟨l,h⟩
 .try simp only[Int.ofNat_lt] at l
  refine aL hJ au ?_;refine af hJ ?_;refine ah hJ ?_;apply aa _;have h':=Option.some.inj h;clear h;subst h';refine aI ?_;simp only[*,go_sem]
 try simp only[Int.ofNat_lt] at l
 refine aM hJ au ?_;refine aR hJ ?_;refine af hJ ?_;refine ah hJ ?_;apply aa _;have h':=Option.some.inj h;clear h;subst h';refine aI ?_;simp only[*,go_sem]
def l8 (u0:(List Int))(a:(List Int)):Option Bool:=
 cond (((u0.length:Int) != (a.length:Int))) (some (decide ((u0.length:Int)<(a.length:Int)))) (ak (tQ u0 a) fun b=>some (decide (b<0)))
theorem D7 {ro:Addr->Option Value}(u0:(List Int)){s1:Value}(c:aG rI ro s1 u0)(a:(List Int)){d:Value}(e:aG rI ro d a){r:Bool}(h:l8 u0 a=some r):aF Tryz.prog 128 #[s1,d] ⟨ro,[]⟩ (fun v _=>v= .bool r):=by
 obtain ⟨d3,c4,rfl,g,i,j⟩:=id c;obtain ⟨d10,k,rfl,l,m,n⟩:=id e;unfold l8 at h;refine aF.go Tryz.func128 rfl Tryz.ntmps128 Tryz.results128 aB fun main J hJ A o hd hs=>?_;have p:=hs 0;have k1:=hs 1;clear hs;refine af hJ ?_;refine ah hJ ?_;apply aa _;refine af hJ ?_;refine af hJ ?_;refine ah hJ ?_;apply aa _;have h':=aD h;clear h;rcases h' with ⟨b,h⟩|⟨b,h⟩
 .try simp only[Int.ofNat_lt] at b
  refine aL hJ au ?_;refine af hJ ?_;refine ah hJ ?_;apply aa _;have h':=Option.some.inj h;clear h;subst h';refine aI ?_;simp only[*,go_sem]
 try simp only[Int.ofNat_lt] at b
 refine aM hJ au ?_;refine aR hJ ?_;refine af hJ ?_;refine ah hJ ?_;have h':=av h;clear h;obtain ⟨q,f,h⟩:=h';apply aa _;refine bl hJ _ (D6 u0 (c.mono aX) a (e.mono aX) f) (aQ ?_);try apply aa _
 have h':=Option.some.inj h;clear h;subst h';refine aI ?_;simp only[*,go_sem]
def tR (u0:Int)(st:((List Int)×Int)):Option (Fl ((List Int)×Int) (List Int)):=
 cond (decide (st.2<4)) (ak (lI u0 st.2) fun a=>cond (((fq a 1)==1)) (ak (jk st.1 ([st.2])) fun b=>some (.nx (b,(IntKind.i64.wrap (st.2+1))))) (some (.nx (st.1,(IntKind.i64.wrap (st.2+1)))))) (some (.bk (st.1,st.2)))
def oz (u0:Int):Option (List Int):=
 ak (aZ (tR u0) fu (([]:List Int),0)) fun o=>aJ o (fun a=>some a.1) (fun _ _=>none) (fun r=>some r)
theorem tS {ro:Addr->Option Value}(u0:Int){r:(List Int)}(h:oz u0=some r):eK Tryz.prog 124 #[.int .u64 u0] ro (fun v aK=>∃o,v=o/\aG rI aK o r):=by
 unfold oz at h;refine aF.go Tryz.func124 rfl Tryz.ntmps124 Tryz.results124 aB fun main J hJ A B hd hs=>?_;have C:=hs 0;clear hs;refine af hJ ?_;refine ah hJ ?_;apply aa _;refine af hJ ?_;refine ah hJ ?_;apply aa _;refine af hJ ?_;refine af hJ ?_;refine ah hJ ?_;apply aa _;refine bf hJ ?_;have h':=av h;clear h;obtain ⟨D,b,E⟩:=h';have h:=True.intro;refine bO hJ [3,4,5,6,7,8,9,10,11,12,13,14,15,16,17] (fun m p F'=>∃(d2:Option Addr) (c3:Nat) (d:List (Nat×Obj)) (v1:(List Int)) (a:Int),aZ (tR u0) m (v1,a)=some D/\F'=⟨ro,d⟩/\bA rI ro 3 (.slice d2 v1.length c3) v1 d/\v1.length<=c3/\slot p 3= .slice d2 v1.length c3/\slot p 5= .int .i64 a) fu ?_ ?_
 .refine ⟨none,0,[],([]:List Int),0,b,rfl,bA.nil _ _ _,Nat.le_refl _,?_⟩;simp only[*,go_sem,-h]
 rintro e f F' c ⟨d2,c3,d,v1,a,b,rfl,i,G,W,X⟩;have h:=True.intro;have Y:sz f=19:=by rw[c.size];simp only[*,go_sem,-h]
 have Z:f.defers=[]:=by rw[c.defers];simp only[*,go_sem,-h]
 have ab:slot f 0= .int .u64 u0:=by rw[c.aA 0 ay];simp only[*,go_sem,-h]
 have ad:slot f 2= .slice none 0 0:=by rw[c.aA 2 ay];simp only[*,go_sem,-h]
 clear c B hd C;obtain _|e:=e
 .exact absurd b (by simp only[aZ,reduceCtorEq,not_false_eq_true])
 have h':=av b;clear b h;obtain ⟨ae,h,g⟩:=h';unfold tR at h;try dsimp only at h
 refine af hJ ?_;refine aO hJ fun al=>?_;refine ah hJ ?_;apply aa _;refine af hJ ?_;have h':=aD h;clear h;rcases h' with ⟨j,h⟩|⟨j,h⟩
 .try simp only[Int.ofNat_lt] at j
  refine aL hJ au ?_;refine aR hJ ?_;refine af hJ ?_;refine bf hJ ?_;refine af hJ ?_;refine aO hJ fun ao=>?_;refine ah hJ ?_;apply aa _;refine af hJ ?_;refine aO hJ fun ar=>?_;refine ah hJ ?_;have h':=av h;clear h;obtain ⟨a0,q,h⟩:=h';obtain ⟨a2,H⟩:=s9 q;clear q;try simp only[go_sem] at H
  try apply aa _
  have h':=aD h;clear h;rcases h' with ⟨k,h⟩|⟨k,h⟩
  ·(try simp only[Int.ofNat_lt] at k);refine aL hJ au ?_;refine aO hJ fun I=>?_;refine ah hJ ?_;have h':=av h;clear h;obtain ⟨K,L,h⟩:=h';obtain ⟨M,s⟩:=oa L;apply aa _;intro t f22;have N:=aT f22;have u:=aU f22;have O:=bT.cons u I;(try simp only[aN] at u);(try apply aa _);refine kJ (r:=rI) (l:=v1) (x:=a) (cs:=#[.int .i64 a]) (e2:=3) [(t,.cells #[.int .i64 a] 3)] [] (by first|rfl|simp only[bE]|(simp only[bE];rfl)) i O M rfl au N rfl rfl lN lN tg p8 rfl th ay ay (fun a3 w n P Q a4=>?_);simp only[bE] at Q;subst P;rw[<-s] at n;clear s;obtain ⟨d30,R,rfl,S⟩:=n.len;refine ⟨⟨ro,(t,.cells #[.int .i64 a] 3)::w⟩,Le.refl _,?_⟩;refine aQ ?_;(try apply aa _);refine aO hJ fun a5=>?_;refine ah hJ ?_;apply aa _;have h':=Option.some.inj h;clear h;subst h';have h:=True.intro;(try apply aa _);refine ⟨e,Nat.lt_succ_self _,_,Le.sub (List.Sublist.cons _ (List.Sublist.refl _)),d30,R,w,K,(IntKind.i64.wrap (a+1)),g,rfl,n,S,?_⟩;simp only[*,go_sem,-h]
  try simp only[Int.ofNat_lt] at k
  refine aM hJ au ?_;refine aR hJ ?_;refine aO hJ fun a6=>?_;refine ah hJ ?_;apply aa _;have h':=Option.some.inj h;clear h;subst h';have h:=True.intro;try apply aa _
  refine ⟨e,Nat.lt_succ_self _,_,Le.sub (List.Sublist.refl _),d2,c3,d,v1,(IntKind.i64.wrap (a+1)),g,rfl,i,G,?_⟩;simp only[*,go_sem,-h]
 try simp only[Int.ofNat_lt] at j
 refine aM hJ au ?_;refine bM ?_;simp only[go_sem];have h':=Option.some.inj h;clear h;subst h';have h':=Option.some.inj g;clear g;subst h';have h:=E;dsimp only[aJ] at h;refine af hJ ?_;refine aO hJ fun a7=>?_;refine ah hJ ?_;apply aa _;have h':=Option.some.inj h;clear h;subst h';refine aO hJ fun y=>?_;obtain ⟨T,U,a8,z,V⟩:=i.iN ([]) [] [] (by first|rfl|simp only[bE]|(simp only[bE];rfl)) (by first|rfl|simp only[bE]|(simp only[bE];rfl)) y (aW.nil _);clear y;refine cG (F:=⟨T,[]⟩) hJ V ?_;obtain ⟨a9,ba,bb⟩:=z.op;refine aI ?_;apply bw _;exact ⟨_,U,Le.sub (List.nil_sublist _),_,rfl,z⟩
def oA (u0:((List Int)->(List Int)->Option Bool))(i22:Nat)(a:(List Int))(st:(List Int)):Option (Fl (List Int) (List Int)):=
 ak (u0 a st) fun b=>cond (b) (some (.nx a)) (some (.nx st))
def qt (u0:((List Int)->(List Int)->Option Bool))(a:(List Int))(b:(List (List Int))):Option (List Int):=
 ak (bX (oA u0) 0 b a) fun o=>aJ o (fun c=>some c) (fun _ _=>none) (fun r=>some r)
theorem D8 {ro:Addr->Option Value}(u0:((List Int)->(List Int)->Option Bool)){oB:FuncId}{qu qv:Array Value}(G:aP Tryz.prog oB=true/\∀(aK:Addr->Option Value),Ext ro aK->∀(y0:(List Int)) (p:Value) (q:(List Int)) (s:Value) (z:Bool),aG rI aK p y0->aG rI aK s q->u0 y0 q=some z->aF Tryz.prog oB (qu++#[p,s]++qv) ⟨aK,[]⟩ (fun v _=>v= .bool z))(j:(List Int)){s1:Value}(t:aG rI ro s1 j)(b:(List (List Int))){u:Value}(H:aG (rL rI) ro u b){r:(List Int)}(h:qt u0 j b=some r):eK Tryz.prog 127 #[.func (.func oB) qu qv,s1,u] ro (fun v aK=>∃w,v=w/\aG rI aK w r):=by
 obtain ⟨d3,c4,rfl,X,Y,Z⟩:=id t;obtain ⟨d10,I,rfl,ab,y,K⟩:=id H;unfold qt at h;refine aF.go Tryz.func127 rfl Tryz.ntmps127 Tryz.results127 aB fun main J hJ A L hd hs=>?_;have M:=hs 0;have k1:=hs 1;have N:=hs 2;clear hs;refine af hJ ?_;refine ah hJ ?_;apply aa _;refine af hJ ?_;refine af hJ ?_;refine ah hJ ?_;apply aa _;refine bf hJ ?_;have h':=av h;clear h;obtain ⟨O,c,P⟩:=h';have h:=True.intro;refine bO hJ [1,8,11,12,13,14,15,16,17,18,19,20] (fun m B F'=>∃(i22:Nat) (d16:Option Addr) (g:Nat) (d:(List Int)),m=b.length - i22/\i22<=b.length/\bX (oA u0) i22 (b.drop i22) d=some O/\F'=⟨ro,[]⟩/\aG rI ro (.slice d16 d.length g) d/\slot B 11= .int .i64 (i22:Int)/\slot B 1= .slice d16 d.length g) b.length ?_ ?_
 .refine ⟨0,d3,c4,j,(Nat.sub_zero _).symm,Nat.zero_le _,c,rfl,t,?_⟩;simp only[*,go_sem,-h]
 rintro ad f F' e ⟨i22,d16,g,d,rfl,ae,c,rfl,i,al,ao⟩;have h:=True.intro;obtain ⟨ar,a0,a2⟩:=i.op;have a3:sz f=22:=by rw[e.size];simp only[*,go_sem,-h]
 have a4:f.defers=[]:=by rw[e.defers];simp only[*,go_sem,-h]
 have a5:slot f 0= .func (.func oB) qu qv:=by rw[e.aA 0 ay];simp only[*,go_sem,-h]
 have a6:slot f 6= .slice none 0 0:=by rw[e.aA 6 ay];simp only[*,go_sem,-h]
 have a7:slot f 9= .slice d10 b.length I:=by rw[e.aA 9 ay];simp only[*,go_sem,-h]
 have a8:slot f 10= .int .i64 (b.length:Int):=by rw[e.aA 10 ay];simp only[*,go_sem,-h]
 clear e L hd M k1 N;refine af hJ ?_;refine ah hJ ?_;apply aa _;refine af hJ ?_;rcases Nat.lt_or_ge i22 b.length with Q|C
 .refine aL hJ au ?_;refine aR hJ ?_;obtain ⟨D,k⟩:∃x,b[i22]?=some x:=⟨_,List.getElem?_eq_getElem Q⟩
  rw[ey k] at c;have h':=av c;clear c h;obtain ⟨a9,h,E⟩:=h';unfold oA at h;try dsimp only at h
  obtain ⟨ba,bb,R,S,F⟩:=K _ _ k;obtain ⟨bc,rfl,l⟩:=S;obtain ⟨d31,T,rfl,bd,bj,bk⟩:=id l;cases R;have U:=F 0 _ rfl;simp only[go_sem] at U;clear F k;refine af hJ ?_;refine bf hJ ?_;refine af hJ ?_;refine ah hJ ?_;apply aa _;refine af hJ ?_;refine ah hJ ?_;have h':=av h;clear h;obtain ⟨bm,V,h⟩:=h';apply aa _;refine bl hJ _ (G.2 _ (fun a v h=>aX a v h) D _ d _ _ (l.mono aX) (i.mono aX) V) ?_;try apply aa _
  have h':=aD h;clear h;rcases h' with ⟨o,h⟩|⟨o,h⟩
  ·(try simp only[Int.ofNat_lt] at o);refine aL hJ au ?_;refine ah hJ ?_;apply aa _;have h':=Option.some.inj h;clear h;subst h';have h:=True.intro;have W:=dH (n:=i22) (by have:=y;omega);refine ah hJ ?_;apply aa _;refine ⟨b.length - (i22+1),ai,_,Le.sub (List.Sublist.refl _),i22+1,d31,T,D,rfl,ai,E,rfl,l,?_⟩;simp only[*,go_sem,-h]
  try simp only[Int.ofNat_lt] at o
  refine aM hJ au ?_;refine aR hJ ?_;have h':=Option.some.inj h;clear h;subst h';have h:=True.intro;have W:=dH (n:=i22) (by have:=y;omega);refine ah hJ ?_;apply aa _;refine ⟨b.length - (i22+1),ai,_,Le.sub (List.Sublist.refl _),i22+1,d16,g,d,rfl,ai,E,rfl,i,?_⟩;simp only[*,go_sem,-h]
 have bo:=Nat.not_lt.2 C;refine aM hJ au ?_;rw[List.drop_eq_nil_of_le C] at c;have h':=Option.some.inj c;clear c h;subst h';have h:=P;dsimp only[aJ] at h;refine bM ?_;simp only[go_sem];refine af hJ ?_;refine ah hJ ?_;apply aa _;have h':=Option.some.inj h;clear h;subst h';refine aI ?_;apply bw _;exact ⟨_,Ext.refl _,Le.sub (List.nil_sublist _),_,rfl,i⟩
def oC (u0:Int)(a:Int)(w1:Int):Option Bool:=
 ak (fD u0 a w1) fun x1=>some (!x1)
theorem D9 {ro:Addr->Option Value}(u0:Int)(a:Int){b:Nat}(e:ro ⟨b,0,none⟩=some (.int .i64 a))(w1:Int){c:Nat}(f:ro ⟨c,0,none⟩=some (.int .i64 w1)){r:Bool}(h:oC u0 a w1=some r):aF Tryz.prog 114 #[.int .i64 u0,.pointer (some ⟨b,0,none⟩),.pointer (some ⟨c,0,none⟩)] ⟨ro,[]⟩ (fun v _=>v= .bool r):=by
 unfold oC at h;refine aF.go Tryz.func114 rfl Tryz.ntmps114 Tryz.results114 aB fun main J hJ A g hd hs=>?_;have i:=hs 0;have k1:=hs 1;have j:=hs 2;clear hs;refine af hJ ?_;refine ah hJ ?_;apply aa _;refine af hJ ?_;refine ah hJ ?_;have h':=av h;clear h;obtain ⟨x1,d,h⟩:=h';apply aa _;refine bl hJ _ (gM u0 a w1 d) (aQ ?_);try apply aa _
 have h':=Option.some.inj h;clear h;subst h';refine aI ?_;simp only[*,go_sem]
def kN (u0:aH)(a:bg)(b:Int)(c:bu):Option aV:=
 ak (bh.get a.ax b) fun d=>ak (jP (IntKind.i64.wrap (d+c.dN)) u0.steps) fun e=>ak (bh.get a.az b) fun f=>some (⟨e,IntKind.i64.wrap (c.row+f)⟩:aV)
theorem tT {ro:Addr->Option Value}(u0:aH){s1:Value}(g:aG bJ ro s1 u0.aj)(a:bg)(c:Int)(b:bu){r:aV}(h:kN u0 a c b=some r):aF Tryz.prog 54 #[.agg #[.int .i64 u0.steps,.int .i64 u0.an,s1],.agg #[.int .i64 a.ax.e0,.int .i64 a.ax.e1,.int .i64 a.ax.e2,.int .i64 a.ax.e3,.int .i64 a.az.e0,.int .i64 a.az.e1,.int .i64 a.az.e2,.int .i64 a.az.e3,.int .u64 a.an],.int .i64 c,.agg #[.string ⟨⟨b.bH⟩⟩,.int .i64 b.dN,.int .i64 b.row]] ⟨ro,[]⟩ (fun v _=>v=r.v):=by
 obtain ⟨d3,c4,rfl,u,w,x⟩:=id g;unfold kN at h;refine aF.go Tryz.func54 rfl Tryz.ntmps54 Tryz.results54 aB fun main J hJ A y hd hs=>?_;have z:=hs 0;have k1:=hs 1;have B:=hs 2;have C:=hs 3;clear hs;refine af hJ ?_;refine ah hJ ?_;apply aa _;intro i f8;have D:=aT f8;have j:=aU f8;try simp only[aN] at j
 intro k f9;have E:=aT f9;have l:=aU f9;try simp only[aN] at l
 intro m f10;have F:=aT f10;have n:=aU f10;try simp only[aN] at n
 intro G f11;have H:=aT f11;have o:=aU f11;try simp only[aN] at o
 try apply aa _
 refine af hJ ?_;refine cB hJ mixed 19 ⟨ro,[(m,.cells #[.string ⟨⟨b.bH⟩⟩,.int .i64 b.dN,.int .i64 b.row] 92),(k,.cells #[.int .i64 a.ax.e0,.int .i64 a.ax.e1,.int .i64 a.ax.e2,.int .i64 a.ax.e3,.int .i64 a.az.e0,.int .i64 a.az.e1,.int .i64 a.az.e2,.int .i64 a.az.e3,.int .u64 a.an] 84),(i,.cells #[.int .i64 u0.steps,.int .i64 u0.an,.slice d3 u0.aj.length c4] 87)]⟩ au aS ?_;have h':=av h;clear h;obtain ⟨p,d,h⟩:=h';obtain ⟨I,K,-⟩:=bh.get_some d;have q:([.int .i64 a.ax.e0,.int .i64 a.ax.e1,.int .i64 a.ax.e2,.int .i64 a.ax.e3,.int .i64 a.az.e0,.int .i64 a.az.e1,.int .i64 a.az.e2,.int .i64 a.az.e3,.int .u64 a.an]:List Value)[(c:Int).toNat]?=some (.int .i64 p):=bh.oq [.int .i64 a.az.e0,.int .i64 a.az.e1,.int .i64 a.az.e2,.int .i64 a.az.e3,.int .u64 a.an] d;try simp only[go_sem] at q
 have h':=av h;clear h;obtain ⟨L,e,h⟩:=h';obtain ⟨M,N⟩:=s8 e;clear e;have h':=av h;clear h;obtain ⟨s,f,h⟩:=h';obtain ⟨O,P,-⟩:=bh.get_some f;have t:([.int .i64 a.ax.e0,.int .i64 a.ax.e1,.int .i64 a.ax.e2,.int .i64 a.ax.e3,.int .i64 a.az.e0,.int .i64 a.az.e1,.int .i64 a.az.e2,.int .i64 a.az.e3,.int .u64 a.an]:List Value)[4+(c:Int).toNat]?=some (.int .i64 s):=bh.qm [.int .i64 a.ax.e0,.int .i64 a.ax.e1,.int .i64 a.ax.e2,.int .i64 a.ax.e3] [.int .u64 a.an] f;try simp only[go_sem] at t
 try apply aa _
 have h':=Option.some.inj h;clear h;subst h';refine aI ?_;simp only[*,go_sem]
def iR (u0:bg)(a:Int):Option Bool:=
 ak (lI u0.an a) fun x2=>some ((fq x2 1)==1)
theorem qw {ro:Addr->Option Value}(u0:bg)(a:Int){r:Bool}(h:iR u0 a=some r):aF Tryz.prog 104 #[.agg #[.int .i64 u0.ax.e0,.int .i64 u0.ax.e1,.int .i64 u0.ax.e2,.int .i64 u0.ax.e3,.int .i64 u0.az.e0,.int .i64 u0.az.e1,.int .i64 u0.az.e2,.int .i64 u0.az.e3,.int .u64 u0.an],.int .i64 a] ⟨ro,[]⟩ (fun v _=>v= .bool r):=by
 unfold iR at h;refine aF.go Tryz.func104 rfl Tryz.ntmps104 Tryz.results104 aB fun main J hJ A d hd hs=>?_;have e:=hs 0;have k1:=hs 1;clear hs;refine af hJ ?_;refine ah hJ ?_;apply aa _;intro f f1;have r1:=aT f1;have n1:=aU f1;try simp only[aN] at n1
 try apply aa _
 refine af hJ ?_;refine ah hJ ?_;have h':=av h;clear h;obtain ⟨x2,b,h⟩:=h';obtain ⟨g,c⟩:=s9 b;clear b;try simp only[go_sem] at c
 try apply aa _
 have h':=Option.some.inj h;clear h;subst h';refine aI ?_;simp only[*,go_sem]
def gZ (u0:aH):Option Bool:=
 some true
theorem qx {ro:Addr->Option Value}(u0:aH){s1:Value}(a:aG bJ ro s1 u0.aj){r:Bool}(h:gZ u0=some r):aF Tryz.prog 67 #[.agg #[.int .i64 u0.steps,.int .i64 u0.an,s1]] ⟨ro,[]⟩ (fun v _=>v= .bool r):=by
 obtain ⟨d3,c4,rfl,c,d,e⟩:=id a;unfold gZ at h;refine aF.go Tryz.func67 rfl Tryz.ntmps67 Tryz.results67 aB fun main J hJ A f hd hs=>?_;have g:=hs 0;clear hs;refine af hJ ?_;refine ah hJ ?_;apply aa _;intro i f8;have j:=aT f8;have b:=aU f8;try simp only[aN] at b
 try apply aa _
 refine af hJ ?_;refine ah hJ ?_;apply aa _;have h':=Option.some.inj h;clear h;subst h';refine aI ?_;simp only[*,go_sem]
def l9 (a:(bg->Option Bool))(i17:Nat)(b:bg)(st:Int):Option (Fl Int Int):=
 ak (a b) fun c=>cond (c) (some (.nx (IntKind.i64.wrap (st+1)))) (some (.nx st))
def kO (u0:dF)(b:(bg->Option Bool)):Option Int:=
 ak (bX (l9 b) 0 u0.bG 0) fun o=>aJ o (fun a=>cond ((a==(u0.bG.length:Int))) (some 1) (cond ((a==0)) (some 2) (some 0))) (fun _ _=>none) (fun r=>some r)
theorem tU {ro:Addr->Option Value}(u0:dF){s1:Value}(B:aG bJ ro s1 u0.round.aj){o:Value}(C:aG gY ro o u0.bG)(g:(bg->Option Bool)){bN:FuncId}{bP bQ:Array Value}(D:aP Tryz.prog bN=true/\∀(aK:Addr->Option Value),Ext ro aK->∀(y0:bg) (z:Bool),g y0=some z->aF Tryz.prog bN (bP++#[y0.v]++bQ) ⟨aK,[]⟩ (fun v _=>v= .bool z)){r:Int}(h:kO u0 g=some r):aF Tryz.prog 68 #[.agg #[.int .i64 u0.round.steps,.int .i64 u0.round.an,s1,o],.func (.func bN) bP bQ] ⟨ro,[]⟩ (fun v _=>v= .int .i64 r):=by
 obtain ⟨d3,c4,rfl,ad,ae,al⟩:=id B;obtain ⟨d10,p,rfl,ao,q,E⟩:=id C;unfold kO at h;refine aF.go Tryz.func68 rfl Tryz.ntmps68 Tryz.results68 aB fun main J hJ A F hd hs=>?_;have G:=hs 0;have k1:=hs 1;clear hs;refine af hJ ?_;refine ah hJ ?_;apply aa _;intro s f15;have ar:=aT f15;have H:=aU f15;try simp only[aN] at H
 try apply aa _
 refine af hJ ?_;refine ah hJ ?_;apply aa _;refine af hJ ?_;refine af hJ ?_;refine ah hJ ?_;apply aa _;refine bf hJ ?_;have h':=av h;clear h;obtain ⟨I,c,K⟩:=h';have h:=True.intro;refine bO hJ [5,7,11,12,13,14,15,16,17,18,19,20] (fun m t F'=>∃(i17:Nat) (f:Int),m=u0.bG.length - i17/\i17<=u0.bG.length/\bX (l9 g) i17 (u0.bG.drop i17) f=some I/\F'=⟨ro,(s,.cells #[.int .i64 u0.round.steps,.int .i64 u0.round.an,.slice d3 u0.round.aj.length c4,.slice d10 u0.bG.length p] 107)::[]⟩/\slot t 11= .int .i64 (i17:Int)/\slot t 5= .int .i64 f) u0.bG.length ?_ ?_
 .refine ⟨0,0,(Nat.sub_zero _).symm,Nat.zero_le _,c,rfl,?_⟩;simp only[*,go_sem,-h]
 rintro a0 e F' d ⟨i17,f,rfl,a2,c,rfl,a3,a4⟩;have h:=True.intro;have a5:sz e=29:=by rw[d.size];simp only[*,go_sem,-h]
 have a6:e.defers=[]:=by rw[d.defers];simp only[*,go_sem,-h]
 have a7:slot e 1= .func (.func bN) bP bQ:=by rw[d.aA 1 ay];simp only[*,go_sem,-h]
 have a8:slot e 2= .pointer (some ⟨s,0,none⟩):=by rw[d.aA 2 ay];simp only[*,go_sem,-h]
 have a9:slot e 4= .int .i64 0:=by rw[d.aA 4 ay];simp only[*,go_sem,-h]
 have ba:slot e 9= .slice d10 u0.bG.length p:=by rw[d.aA 9 ay];simp only[*,go_sem,-h]
 have bb:slot e 10= .int .i64 (u0.bG.length:Int):=by rw[d.aA 10 ay];simp only[*,go_sem,-h]
 clear d F hd G k1;refine af hJ ?_;refine ah hJ ?_;apply aa _;refine af hJ ?_;rcases Nat.lt_or_ge i17 u0.bG.length with L|u
 .refine aL hJ au ?_;refine aR hJ ?_;obtain ⟨w,i⟩:∃x,u0.bG[i17]?=some x:=⟨_,List.getElem?_eq_getElem L⟩
  rw[ey i] at c;have h':=av c;clear c h;obtain ⟨bc,h,y⟩:=h';unfold l9 at h;try dsimp only at h
  obtain ⟨bd,M,N,O,b⟩:=E _ _ i;obtain rfl:M=w.cells:=O;cases N;have P:=b 0 _ rfl;simp only[go_sem] at P;have Q:=b 1 _ rfl;simp only[go_sem] at Q;have R:=b 2 _ rfl;simp only[go_sem] at R;have S:=b 3 _ rfl;simp only[go_sem] at S;have T:=b 4 _ rfl;simp only[go_sem] at T;have U:=b 5 _ rfl;simp only[go_sem] at U;have V:=b 6 _ rfl;simp only[go_sem] at V;have W:=b 7 _ rfl;simp only[go_sem] at W;have X:=b 8 _ rfl;simp only[go_sem] at X;clear b i;refine af hJ ?_;refine bf hJ ?_;refine af hJ ?_;refine ah hJ ?_;apply aa _;intro bj f25;have bk:=aT f25;have Y:=aU f25;try simp only[aN] at Y
  try apply aa _
  refine af hJ ?_;refine ah hJ ?_;have h':=av h;clear h;obtain ⟨bm,Z,h⟩:=h';apply aa _;refine bl hJ _ (D.2 _ (fun a v h=>aX a v h) w _ Z) ?_;try apply aa _
  have h':=aD h;clear h;rcases h' with ⟨j,h⟩|⟨j,h⟩
  ·(try simp only[Int.ofNat_lt] at j);refine aL hJ au ?_;refine ah hJ ?_;apply aa _;have h':=Option.some.inj h;clear h;subst h';have h:=True.intro;have ab:=dH (n:=i17) (by have:=q;omega);refine ah hJ ?_;apply aa _;refine ⟨u0.bG.length - (i17+1),ai,_,Le.sub (List.Sublist.cons _ (List.Sublist.refl _)),i17+1,(IntKind.i64.wrap (f+1)),rfl,ai,y,rfl,?_⟩;simp only[*,go_sem,-h]
  try simp only[Int.ofNat_lt] at j
  refine aM hJ au ?_;refine aR hJ ?_;have h':=Option.some.inj h;clear h;subst h';have h:=True.intro;have ab:=dH (n:=i17) (by have:=q;omega);refine ah hJ ?_;apply aa _;refine ⟨u0.bG.length - (i17+1),ai,_,Le.sub (List.Sublist.cons _ (List.Sublist.refl _)),i17+1,f,rfl,ai,y,rfl,?_⟩;simp only[*,go_sem,-h]
 have bo:=Nat.not_lt.2 u;refine aM hJ au ?_;rw[List.drop_eq_nil_of_le u] at c;have h':=Option.some.inj c;clear c h;subst h';have h:=K;dsimp only[aJ] at h;refine bM ?_;simp only[go_sem];refine af hJ ?_;refine af hJ ?_;refine ah hJ ?_;apply aa _;refine bf hJ ?_;refine af hJ ?_;refine ah hJ ?_;apply aa _;have h':=aD h;clear h;rcases h' with ⟨k,h⟩|⟨k,h⟩
 .try simp only[Int.ofNat_lt] at k
  refine aL hJ au ?_;refine af hJ ?_;refine ah hJ ?_;apply aa _;have h':=Option.some.inj h;clear h;subst h';refine aI ?_;simp only[*,go_sem]
 try simp only[Int.ofNat_lt] at k
 refine aM hJ au ?_;refine af hJ ?_;refine ah hJ ?_;apply aa _;have h':=aD h;clear h;rcases h' with ⟨l,h⟩|⟨l,h⟩
 .try simp only[Int.ofNat_lt] at l
  refine aL hJ au ?_;refine af hJ ?_;refine ah hJ ?_;apply aa _;have h':=Option.some.inj h;clear h;subst h';refine aI ?_;simp only[*,go_sem]
 try simp only[Int.ofNat_lt] at l
 refine aM hJ au ?_;refine aR hJ ?_;refine af hJ ?_;refine ah hJ ?_;apply aa _;have h':=Option.some.inj h;clear h;subst h';refine aI ?_;simp only[*,go_sem]
def oD (u0:aH)(a:bg)(b:Int)(i11:Nat)(c:bp)(st:Bool):Option (Fl Bool Bool):=
 ak (iR a (i11:Int)) fun d=>cond (!d) (ak (bh.get a.ax (i11:Int)) fun e=>ak (jP (IntKind.i64.wrap ((IntKind.i64.wrap (b - e))+u0.steps)) u0.steps) fun f=>cond (decide (f<c.wide)) (some (.rt true)) (some (.nx st))) (some (.nx st))
def ju (u0:aH)(a:bg)(b:Int):Option Bool:=
 ak (bX (oD u0 a b) 0 u0.aj false) fun o=>aJ o (fun c=>some false) (fun _ _=>none) (fun r=>some r)
theorem tV {ro:Addr->Option Value}(u0:aH){s1:Value}(z:aG bJ ro s1 u0.aj)(a:bg)(g:Int){r:Bool}(h:ju u0 a g=some r):aF Tryz.prog 70 #[.agg #[.int .i64 u0.steps,.int .i64 u0.an,s1],.agg #[.int .i64 a.ax.e0,.int .i64 a.ax.e1,.int .i64 a.ax.e2,.int .i64 a.ax.e3,.int .i64 a.az.e0,.int .i64 a.az.e1,.int .i64 a.az.e2,.int .i64 a.az.e3,.int .u64 a.an],.int .i64 g] ⟨ro,[]⟩ (fun v _=>v= .bool r):=by
 obtain ⟨d3,c4,rfl,al,q,B⟩:=id z;unfold ju at h;refine aF.go Tryz.func70 rfl Tryz.ntmps70 Tryz.results70 aB fun main J hJ A C hd hs=>?_;have D:=hs 0;have k1:=hs 1;have E:=hs 2;clear hs;refine af hJ ?_;refine ah hJ ?_;apply aa _;intro j f8;have ao:=aT f8;have G:=aU f8;try simp only[aN] at G
 intro k f9;have ar:=aT f9;have H:=aU f9;try simp only[aN] at H
 try apply aa _
 refine af hJ ?_;refine af hJ ?_;refine ah hJ ?_;apply aa _;refine bf hJ ?_;have h':=av h;clear h;obtain ⟨I,b,s⟩:=h';have h:=True.intro;refine bO hJ [6,7,8,13,14,15,16,17,18,19,20,21,22,23,24,25,26,27,28,29,30,31,32,33,34,35,36,37,38,39,40,41] (fun m t F'=>∃(i11:Nat) (v10:Bool),m=u0.aj.length - i11/\i11<=u0.aj.length/\bX (oD u0 a g) i11 (u0.aj.drop i11) v10=some I/\F'=⟨ro,(k,.cells #[.int .i64 a.ax.e0,.int .i64 a.ax.e1,.int .i64 a.ax.e2,.int .i64 a.ax.e3,.int .i64 a.az.e0,.int .i64 a.az.e1,.int .i64 a.az.e2,.int .i64 a.az.e3,.int .u64 a.an] 84)::(j,.cells #[.int .i64 u0.steps,.int .i64 u0.an,.slice d3 u0.aj.length c4] 87)::[]⟩/\slot t 13= .int .i64 (i11:Int)/\slot t 6= .bool v10) u0.aj.length ?_ ?_
 .refine ⟨0,false,(Nat.sub_zero _).symm,Nat.zero_le _,b,rfl,?_⟩;simp only[*,go_sem,-h]
 rintro a0 e F' c ⟨i11,v10,rfl,a2,b,rfl,a3,a4⟩;have h:=True.intro;have a5:sz e=42:=by rw[c.size];simp only[*,go_sem,-h]
 have a6:e.defers=[]:=by rw[c.defers];simp only[*,go_sem,-h]
 have a7:slot e 2= .int .i64 g:=by rw[c.aA 2 ay];simp only[*,go_sem,-h]
 have a8:slot e 3= .pointer (some ⟨j,0,none⟩):=by rw[c.aA 3 ay];simp only[*,go_sem,-h]
 have a9:slot e 4= .pointer (some ⟨k,0,none⟩):=by rw[c.aA 4 ay];simp only[*,go_sem,-h]
 have ba:slot e 11= .slice d3 u0.aj.length c4:=by rw[c.aA 11 ay];simp only[*,go_sem,-h]
 have bb:slot e 12= .int .i64 (u0.aj.length:Int):=by rw[c.aA 12 ay];simp only[*,go_sem,-h]
 clear c C hd D k1 E;refine af hJ ?_;refine ah hJ ?_;apply aa _;refine af hJ ?_;rcases Nat.lt_or_ge i11 u0.aj.length with K|u
 .refine aL hJ au ?_;refine aR hJ ?_;obtain ⟨f,l⟩:∃x,u0.aj[i11]?=some x:=⟨_,List.getElem?_eq_getElem K⟩
  rw[ey l] at b;have h':=av b;clear b h;obtain ⟨bc,h,i⟩:=h';unfold oD at h;try dsimp only at h
  obtain ⟨L,bd,M,N,d⟩:=B _ _ l;obtain ⟨bj,rfl,O⟩:=N;obtain ⟨d20,P,rfl,bk,bm,bo⟩:=id O;cases M;have Q:=d 0 _ rfl;simp only[go_sem] at Q;have R:=d 1 _ rfl;simp only[go_sem] at R;have S:=d 2 _ rfl;simp only[go_sem] at S;have T:=d 3 _ rfl;simp only[go_sem] at T;have U:=d 4 _ rfl;simp only[go_sem] at U;have V:=d 5 _ rfl;simp only[go_sem] at V;have W:=d 6 _ rfl;simp only[go_sem] at W;clear d l;refine af hJ ?_;refine bf hJ ?_;refine af hJ ?_;refine ah hJ ?_;apply aa _;intro X f26;have br:=aT f26;have Y:=aU f26;try simp only[aN] at Y
  try apply aa _
  refine af hJ ?_;refine cB hJ mixed 23 ⟨ro,[(X,.cells #[.string ⟨⟨f.name⟩⟩,.int .i64 f.from_.low,.int .i64 f.from_.high,.int .i64 f.wide,.int .i64 f.aC.low,.int .i64 f.aC.high,.slice d20 f.marks.length P] 56),(k,.cells #[.int .i64 a.ax.e0,.int .i64 a.ax.e1,.int .i64 a.ax.e2,.int .i64 a.ax.e3,.int .i64 a.az.e0,.int .i64 a.az.e1,.int .i64 a.az.e2,.int .i64 a.az.e3,.int .u64 a.an] 84),(j,.cells #[.int .i64 u0.steps,.int .i64 u0.an,.slice (some L) u0.aj.length c4] 87)]⟩ au aS ?_;have h':=av h;clear h;obtain ⟨bs,Z,h⟩:=h';apply aa _;refine ⟨_,dI hJ fun F hF=>qw a (i11:Int) Z,ef ?_⟩;have h':=aD h;clear h;rcases h' with ⟨o,h⟩|⟨o,h⟩
  ·(try simp only[Int.ofNat_lt] at o);have h':=av h;clear h;obtain ⟨ab,w,h⟩:=h';obtain ⟨b0,b1,-⟩:=bh.get_some w;have ad:([.int .i64 a.ax.e0,.int .i64 a.ax.e1,.int .i64 a.ax.e2,.int .i64 a.ax.e3,.int .i64 a.az.e0,.int .i64 a.az.e1,.int .i64 a.az.e2,.int .i64 a.az.e3,.int .u64 a.an]:List Value)[((i11:Int):Int).toNat]?=some (.int .i64 ab):=bh.oq [.int .i64 a.az.e0,.int .i64 a.az.e1,.int .i64 a.az.e2,.int .i64 a.az.e3,.int .u64 a.an] w;(try simp only[go_sem] at ad);have h':=av h;clear h;obtain ⟨b2,y,h⟩:=h';obtain ⟨b3,b4⟩:=s8 y;clear y;(try apply aa _);have h':=aD h;clear h;rcases h' with ⟨p,h⟩|⟨p,h⟩
   ·(try simp only[Int.ofNat_lt] at p);refine aL hJ au ?_;refine af hJ ?_;refine ah hJ ?_;apply aa _;have h':=Option.some.inj h;clear h;subst h';have h':=Option.some.inj i;clear i;subst h';have h:=s;dsimp only[aJ] at h;have h':=Option.some.inj h;clear h;subst h';refine aI ?_;simp only[*,go_sem]
   (try simp only[Int.ofNat_lt] at p);refine aM hJ au ?_;refine aR hJ ?_;have h':=Option.some.inj h;clear h;subst h';have h:=True.intro;have ae:=dH (n:=i11) (by have:=q;omega);refine ah hJ ?_;apply aa _;refine ⟨u0.aj.length - (i11+1),ai,_,Le.sub (List.Sublist.cons _ (List.Sublist.refl _)),i11+1,v10,rfl,ai,i,rfl,?_⟩;simp only[*,go_sem,-h]
  try simp only[Int.ofNat_lt] at o
  try apply aa _
  refine aM hJ au ?_;refine aR hJ ?_;have h':=Option.some.inj h;clear h;subst h';have h:=True.intro;have ae:=dH (n:=i11) (by have:=q;omega);refine ah hJ ?_;apply aa _;refine ⟨u0.aj.length - (i11+1),ai,_,Le.sub (List.Sublist.cons _ (List.Sublist.refl _)),i11+1,v10,rfl,ai,i,rfl,?_⟩;simp only[*,go_sem,-h]
 have ca:=Nat.not_lt.2 u;refine aM hJ au ?_;rw[List.drop_eq_nil_of_le u] at b;have h':=Option.some.inj b;clear b h;subst h';have h:=s;dsimp only[aJ] at h;refine bM ?_;simp only[go_sem];refine af hJ ?_;refine ah hJ ?_;apply aa _;have h':=Option.some.inj h;clear h;subst h';refine aI ?_;simp only[*,go_sem]
def mb (u0:aH)(a:bg)(st:(Bool×Int)):Option (Fl (Bool×Int) Bool):=
 cond (decide (st.2<u0.steps)) (ak (ju u0 a st.2) fun b=>cond (!b) (some (.rt false)) (some (.nx (st.1,(IntKind.i64.wrap (st.2+1)))))) (some (.bk (st.1,st.2)))
def kP (u0:aH)(a:bg):Option Bool:=
 ak (aZ (mb u0 a) fu (false,0)) fun o=>aJ o (fun b=>some true) (fun _ _=>none) (fun r=>some r)
theorem Ea {ro:Addr->Option Value}(u0:aH){s1:Value}(j:aG bJ ro s1 u0.aj)(a:bg){r:Bool}(h:kP u0 a=some r):aF Tryz.prog 69 #[.agg #[.int .i64 u0.steps,.int .i64 u0.an,s1],.agg #[.int .i64 a.ax.e0,.int .i64 a.ax.e1,.int .i64 a.ax.e2,.int .i64 a.ax.e3,.int .i64 a.az.e0,.int .i64 a.az.e1,.int .i64 a.az.e2,.int .i64 a.az.e3,.int .u64 a.an]] ⟨ro,[]⟩ (fun v _=>v= .bool r):=by
 obtain ⟨d3,c4,rfl,x,y,z⟩:=id j;unfold kP at h;refine aF.go Tryz.func69 rfl Tryz.ntmps69 Tryz.results69 aB fun main J hJ A p hd hs=>?_;have q:=hs 0;have k1:=hs 1;clear hs;refine af hJ ?_;refine ah hJ ?_;apply aa _;intro k f8;have B:=aT f8;have s:=aU f8;try simp only[aN] at s
 intro l f9;have C:=aT f9;have t:=aU f9;try simp only[aN] at t
 try apply aa _
 refine af hJ ?_;refine af hJ ?_;refine ah hJ ?_;apply aa _;refine bf hJ ?_;have h':=av h;clear h;obtain ⟨u,c,n⟩:=h';have h:=True.intro;refine bO hJ [4,5,9,10,11,12,13,14,15,16,17] (fun m o F'=>∃(v10:Bool) (v11:Int),aZ (mb u0 a) m (v10,v11)=some u/\F'=⟨ro,(l,.cells #[.int .i64 a.ax.e0,.int .i64 a.ax.e1,.int .i64 a.ax.e2,.int .i64 a.ax.e3,.int .i64 a.az.e0,.int .i64 a.az.e1,.int .i64 a.az.e2,.int .i64 a.az.e3,.int .u64 a.an] 84)::(k,.cells #[.int .i64 u0.steps,.int .i64 u0.an,.slice d3 u0.aj.length c4] 87)::[]⟩/\slot o 4= .bool v10/\slot o 9= .int .i64 v11) fu ?_ ?_
 .refine ⟨false,0,c,rfl,?_⟩;simp only[*,go_sem,-h]
 rintro f d F' b ⟨v10,v11,c,rfl,D,E⟩;have h:=True.intro;have F:sz d=18:=by rw[b.size];simp only[*,go_sem,-h]
 have G:d.defers=[]:=by rw[b.defers];simp only[*,go_sem,-h]
 have H:slot d 2= .pointer (some ⟨k,0,none⟩):=by rw[b.aA 2 ay];simp only[*,go_sem,-h]
 have I:slot d 3= .pointer (some ⟨l,0,none⟩):=by rw[b.aA 3 ay];simp only[*,go_sem,-h]
 have K:slot d 8= .int .i64 u0.steps:=by rw[b.aA 8 ay];simp only[*,go_sem,-h]
 clear b p hd q k1;obtain _|f:=f
 .exact absurd c (by simp only[aZ,reduceCtorEq,not_false_eq_true])
 have h':=av c;clear c h;obtain ⟨L,h,e⟩:=h';unfold mb at h;try dsimp only at h
 refine af hJ ?_;refine ah hJ ?_;apply aa _;refine af hJ ?_;have h':=aD h;clear h;rcases h' with ⟨g,h⟩|⟨g,h⟩
 .try simp only[Int.ofNat_lt] at g
  refine aL hJ au ?_;refine aR hJ ?_;refine af hJ ?_;refine bf hJ ?_;refine af hJ ?_;refine ah hJ ?_;apply aa _;refine af hJ ?_;refine ah hJ ?_;have h':=av h;clear h;obtain ⟨M,w,h⟩:=h';apply aa _;refine bl hJ _ (tV u0 (j.mono aX) a v11 w) (aQ ?_);try apply aa _
  have h':=aD h;clear h;rcases h' with ⟨i,h⟩|⟨i,h⟩
  ·(try simp only[Int.ofNat_lt] at i);refine aL hJ au ?_;refine af hJ ?_;refine ah hJ ?_;apply aa _;have h':=Option.some.inj h;clear h;subst h';have h':=Option.some.inj e;clear e;subst h';have h:=n;dsimp only[aJ] at h;have h':=Option.some.inj h;clear h;subst h';refine aI ?_;simp only[*,go_sem]
  try simp only[Int.ofNat_lt] at i
  refine aM hJ au ?_;refine aR hJ ?_;refine ah hJ ?_;apply aa _;have h':=Option.some.inj h;clear h;subst h';have h:=True.intro;try apply aa _
  refine ⟨f,Nat.lt_succ_self _,_,Le.sub (List.Sublist.refl _),v10,(IntKind.i64.wrap (v11+1)),e,rfl,?_⟩;simp only[*,go_sem,-h]
 try simp only[Int.ofNat_lt] at g
 refine aM hJ au ?_;refine bM ?_;simp only[go_sem];have h':=Option.some.inj h;clear h;subst h';have h':=Option.some.inj e;clear e;subst h';have h:=n;dsimp only[aJ] at h;refine af hJ ?_;refine ah hJ ?_;apply aa _;have h':=Option.some.inj h;clear h;subst h';refine aI ?_;simp only[*,go_sem]
def oE (u0:bg)(a:dF)(w1:Int):Option Bool:=
 ak (ju a.round u0 w1) fun b=>some b
theorem Eb {ro:Addr->Option Value}(u0:bg)(a:dF){b:Nat}(j:ro ⟨b,0,none⟩=some (.int .i64 a.round.steps))(k:ro ⟨b,1,none⟩=some (.int .i64 a.round.an)){s1:Value}(c:aG bJ ro s1 a.round.aj)(l:ro ⟨b,2,none⟩=some (s1)){d:Value}(f:aG gY ro d a.bG)(m:ro ⟨b,3,none⟩=some (d))(w1:Int){e:Nat}(n:ro ⟨e,0,none⟩=some (.int .i64 w1)){r:Bool}(h:oE u0 a w1=some r):aF Tryz.prog 73 #[.agg #[.int .i64 u0.ax.e0,.int .i64 u0.ax.e1,.int .i64 u0.ax.e2,.int .i64 u0.ax.e3,.int .i64 u0.az.e0,.int .i64 u0.az.e1,.int .i64 u0.az.e2,.int .i64 u0.az.e3,.int .u64 u0.an],.pointer (some ⟨b,0,none⟩),.pointer (some ⟨e,0,none⟩)] ⟨ro,[]⟩ (fun v _=>v= .bool r):=by
 obtain ⟨d3,c4,rfl,o,p,q⟩:=id c;obtain ⟨d10,s,rfl,t,u,w⟩:=id f;unfold oE at h;refine aF.go Tryz.func73 rfl Tryz.ntmps73 Tryz.results73 aB fun main J hJ A x hd hs=>?_;have y:=hs 0;have k1:=hs 1;have z:=hs 2;clear hs;refine af hJ ?_;refine ah hJ ?_;apply aa _;intro B f15;have C:=aT f15;have g:=aU f15;try simp only[aN] at g
 try apply aa _
 refine af hJ ?_;refine ah hJ ?_;have h':=av h;clear h;obtain ⟨D,i,h⟩:=h';apply aa _;refine bl hJ _ (tV a.round (c.mono aX) u0 w1 i) (aQ ?_);try apply aa _
 have h':=Option.some.inj h;clear h;subst h';refine aI ?_;simp only[*,go_sem]
def qy (u0:aH)(a:Int):Option Bool:=
 ak (fD a 0 (IntKind.i64.wrap (u0.steps - 1))) fun b=>some b
theorem Ec {ro:Addr->Option Value}(u0:aH){s1:Value}(b:aG bJ ro s1 u0.aj)(a:Int){r:Bool}(h:qy u0 a=some r):aF Tryz.prog 72 #[.agg #[.int .i64 u0.steps,.int .i64 u0.an,s1],.int .i64 a] ⟨ro,[]⟩ (fun v _=>v= .bool r):=by
 obtain ⟨d3,c4,rfl,e,f,g⟩:=id b;unfold qy at h;refine aF.go Tryz.func72 rfl Tryz.ntmps72 Tryz.results72 aB fun main J hJ A i hd hs=>?_;have j:=hs 0;have k1:=hs 1;clear hs;refine af hJ ?_;refine ah hJ ?_;apply aa _;intro k f8;have l:=aT f8;have c:=aU f8;try simp only[aN] at c
 try apply aa _
 refine af hJ ?_;refine ah hJ ?_;have h':=av h;clear h;obtain ⟨m,d,h⟩:=h';apply aa _;refine bl hJ _ (gM a 0 (IntKind.i64.wrap (u0.steps - 1)) d) (aQ ?_);try apply aa _
 have h':=Option.some.inj h;clear h;subst h';refine aI ?_;simp only[*,go_sem]
def kQ (u0:aH)(a:Int):Option Bool:=
 ak (qy u0 a) fun b=>some b
theorem Ed {ro:Addr->Option Value}(u0:aH){s1:Value}(b:aG bJ ro s1 u0.aj)(a:Int){c:Nat}(f:ro ⟨c,0,none⟩=some (.int .i64 a)){r:Bool}(h:kQ u0 a=some r):aF Tryz.prog 71 #[.agg #[.int .i64 u0.steps,.int .i64 u0.an,s1],.pointer (some ⟨c,0,none⟩)] ⟨ro,[]⟩ (fun v _=>v= .bool r):=by
 obtain ⟨d3,c4,rfl,g,i,j⟩:=id b;unfold kQ at h;refine aF.go Tryz.func71 rfl Tryz.ntmps71 Tryz.results71 aB fun main J hJ A k hd hs=>?_;have l:=hs 0;have k1:=hs 1;clear hs;refine af hJ ?_;refine ah hJ ?_;apply aa _;intro m f8;have n:=aT f8;have d:=aU f8;try simp only[aN] at d
 try apply aa _
 refine af hJ ?_;refine ah hJ ?_;have h':=av h;clear h;obtain ⟨o,e,h⟩:=h';apply aa _;refine bl hJ _ (Ec u0 (b.mono aX) a e) (aQ ?_);try apply aa _
 have h':=Option.some.inj h;clear h;subst h';refine aI ?_;simp only[*,go_sem]
def mc (u0:aH)(a:Int):Option Bool:=
 ak (fD a 0 (IntKind.i64.wrap ((u0.aj.length:Int) - 1))) fun b=>some b
theorem qz {ro:Addr->Option Value}(u0:aH){s1:Value}(b:aG bJ ro s1 u0.aj)(a:Int){r:Bool}(h:mc u0 a=some r):aF Tryz.prog 97 #[.agg #[.int .i64 u0.steps,.int .i64 u0.an,s1],.int .i64 a] ⟨ro,[]⟩ (fun v _=>v= .bool r):=by
 obtain ⟨d3,c4,rfl,e,f,g⟩:=id b;unfold mc at h;refine aF.go Tryz.func97 rfl Tryz.ntmps97 Tryz.results97 aB fun main J hJ A i hd hs=>?_;have j:=hs 0;have k1:=hs 1;clear hs;refine af hJ ?_;refine ah hJ ?_;apply aa _;intro k f8;have l:=aT f8;have c:=aU f8;try simp only[aN] at c
 try apply aa _
 refine af hJ ?_;refine ah hJ ?_;have h':=av h;clear h;obtain ⟨m,d,h⟩:=h';apply aa _;refine bl hJ _ (gM a 0 (IntKind.i64.wrap ((u0.aj.length:Int) - 1)) d) (aQ ?_);try apply aa _
 have h':=Option.some.inj h;clear h;subst h';refine aI ?_;simp only[*,go_sem]
def qA (u0:aH)(a:Int):Option Bool:=
 ak (mc u0 a) fun b=>some b
theorem Ee {ro:Addr->Option Value}(u0:aH){s1:Value}(b:aG bJ ro s1 u0.aj)(a:Int){c:Nat}(f:ro ⟨c,0,none⟩=some (.int .i64 a)){r:Bool}(h:qA u0 a=some r):aF Tryz.prog 96 #[.agg #[.int .i64 u0.steps,.int .i64 u0.an,s1],.pointer (some ⟨c,0,none⟩)] ⟨ro,[]⟩ (fun v _=>v= .bool r):=by
 obtain ⟨d3,c4,rfl,g,i,j⟩:=id b;unfold qA at h;refine aF.go Tryz.func96 rfl Tryz.ntmps96 Tryz.results96 aB fun main J hJ A k hd hs=>?_;have l:=hs 0;have k1:=hs 1;clear hs;refine af hJ ?_;refine ah hJ ?_;apply aa _;intro m f8;have n:=aT f8;have d:=aU f8;try simp only[aN] at d
 try apply aa _
 refine af hJ ?_;refine ah hJ ?_;have h':=av h;clear h;obtain ⟨o,e,h⟩:=h';apply aa _;refine bl hJ _ (qz u0 (b.mono aX) a e) (aQ ?_);try apply aa _
 have h':=Option.some.inj h;clear h;subst h';refine aI ?_;simp only[*,go_sem]
def qB (u0:bg)(a:Int):Option Int:=
 ak (bh.get u0.ax a) fun x2=>some x2
theorem Ef {ro:Addr->Option Value}(u0:bg)(a:Int){b:Nat}(e:ro ⟨b,0,none⟩=some (.int .i64 a)){r:Int}(h:qB u0 a=some r):aF Tryz.prog 99 #[.agg #[.int .i64 u0.ax.e0,.int .i64 u0.ax.e1,.int .i64 u0.ax.e2,.int .i64 u0.ax.e3,.int .i64 u0.az.e0,.int .i64 u0.az.e1,.int .i64 u0.az.e2,.int .i64 u0.az.e3,.int .u64 u0.an],.pointer (some ⟨b,0,none⟩)] ⟨ro,[]⟩ (fun v _=>v= .int .i64 r):=by
 unfold qB at h;refine aF.go Tryz.func99 rfl Tryz.ntmps99 Tryz.results99 aB fun main J hJ A f hd hs=>?_;have g:=hs 0;have k1:=hs 1;clear hs;refine af hJ ?_;refine ah hJ ?_;apply aa _;intro i f1;have r1:=aT f1;have n1:=aU f1;try simp only[aN] at n1
 try apply aa _
 refine af hJ ?_;refine ah hJ ?_;have h':=av h;clear h;obtain ⟨x2,c,h⟩:=h';obtain ⟨j,k,-⟩:=bh.get_some c;have d:([.int .i64 u0.ax.e0,.int .i64 u0.ax.e1,.int .i64 u0.ax.e2,.int .i64 u0.ax.e3,.int .i64 u0.az.e0,.int .i64 u0.az.e1,.int .i64 u0.az.e2,.int .i64 u0.az.e3,.int .u64 u0.an]:List Value)[(a:Int).toNat]?=some (.int .i64 x2):=bh.oq [.int .i64 u0.az.e0,.int .i64 u0.az.e1,.int .i64 u0.az.e2,.int .i64 u0.az.e3,.int .u64 u0.an] c;try simp only[go_sem] at d
 try apply aa _
 have h':=Option.some.inj h;clear h;subst h';refine aI ?_;simp only[*,go_sem]
def qC (u0:aH)(a:Int):Option Bool:=
 ak (mc u0 a) fun b=>some b
theorem Eg {ro:Addr->Option Value}(u0:aH){s1:Value}(b:aG bJ ro s1 u0.aj)(a:Int){c:Nat}(f:ro ⟨c,0,none⟩=some (.int .i64 a)){r:Bool}(h:qC u0 a=some r):aF Tryz.prog 100 #[.agg #[.int .i64 u0.steps,.int .i64 u0.an,s1],.pointer (some ⟨c,0,none⟩)] ⟨ro,[]⟩ (fun v _=>v= .bool r):=by
 obtain ⟨d3,c4,rfl,g,i,j⟩:=id b;unfold qC at h;refine aF.go Tryz.func100 rfl Tryz.ntmps100 Tryz.results100 aB fun main J hJ A k hd hs=>?_;have l:=hs 0;have k1:=hs 1;clear hs;refine af hJ ?_;refine ah hJ ?_;apply aa _;intro m f8;have n:=aT f8;have d:=aU f8;try simp only[aN] at d
 try apply aa _
 refine af hJ ?_;refine ah hJ ?_;have h':=av h;clear h;obtain ⟨o,e,h⟩:=h';apply aa _;refine bl hJ _ (qz u0 (b.mono aX) a e) (aQ ?_);try apply aa _
 have h':=Option.some.inj h;clear h;subst h';refine aI ?_;simp only[*,go_sem]
def qD (u0:bg)(a:Int):Option Int:=
 ak (bh.get u0.az a) fun x2=>some x2
theorem Eh {ro:Addr->Option Value}(u0:bg)(a:Int){b:Nat}(e:ro ⟨b,0,none⟩=some (.int .i64 a)){r:Int}(h:qD u0 a=some r):aF Tryz.prog 101 #[.agg #[.int .i64 u0.ax.e0,.int .i64 u0.ax.e1,.int .i64 u0.ax.e2,.int .i64 u0.ax.e3,.int .i64 u0.az.e0,.int .i64 u0.az.e1,.int .i64 u0.az.e2,.int .i64 u0.az.e3,.int .u64 u0.an],.pointer (some ⟨b,0,none⟩)] ⟨ro,[]⟩ (fun v _=>v= .int .i64 r):=by
 unfold qD at h;refine aF.go Tryz.func101 rfl Tryz.ntmps101 Tryz.results101 aB fun main J hJ A f hd hs=>?_;have g:=hs 0;have k1:=hs 1;clear hs;refine af hJ ?_;refine ah hJ ?_;apply aa _;intro i f1;have r1:=aT f1;have n1:=aU f1;try simp only[aN] at n1
 try apply aa _
 refine af hJ ?_;refine ah hJ ?_;have h':=av h;clear h;obtain ⟨x2,c,h⟩:=h';obtain ⟨j,k,-⟩:=bh.get_some c;have d:([.int .i64 u0.ax.e0,.int .i64 u0.ax.e1,.int .i64 u0.ax.e2,.int .i64 u0.ax.e3,.int .i64 u0.az.e0,.int .i64 u0.az.e1,.int .i64 u0.az.e2,.int .i64 u0.az.e3,.int .u64 u0.an]:List Value)[4+(a:Int).toNat]?=some (.int .i64 x2):=bh.qm [.int .i64 u0.ax.e0,.int .i64 u0.ax.e1,.int .i64 u0.ax.e2,.int .i64 u0.ax.e3] [.int .u64 u0.an] c;try simp only[go_sem] at d
 try apply aa _
 have h':=Option.some.inj h;clear h;subst h';refine aI ?_;simp only[*,go_sem]
def qE (u0:aH)(a:Int):Option Bool:=
 ak (mc u0 a) fun b=>some b
theorem Ei {ro:Addr->Option Value}(u0:aH){s1:Value}(b:aG bJ ro s1 u0.aj)(a:Int){c:Nat}(f:ro ⟨c,0,none⟩=some (.int .i64 a)){r:Bool}(h:qE u0 a=some r):aF Tryz.prog 102 #[.agg #[.int .i64 u0.steps,.int .i64 u0.an,s1],.pointer (some ⟨c,0,none⟩)] ⟨ro,[]⟩ (fun v _=>v= .bool r):=by
 obtain ⟨d3,c4,rfl,g,i,j⟩:=id b;unfold qE at h;refine aF.go Tryz.func102 rfl Tryz.ntmps102 Tryz.results102 aB fun main J hJ A k hd hs=>?_;have l:=hs 0;have k1:=hs 1;clear hs;refine af hJ ?_;refine ah hJ ?_;apply aa _;intro m f8;have n:=aT f8;have d:=aU f8;try simp only[aN] at d
 try apply aa _
 refine af hJ ?_;refine ah hJ ?_;have h':=av h;clear h;obtain ⟨o,e,h⟩:=h';apply aa _;refine bl hJ _ (qz u0 (b.mono aX) a e) (aQ ?_);try apply aa _
 have h':=Option.some.inj h;clear h;subst h';refine aI ?_;simp only[*,go_sem]
def qF (u0:bg)(a:Int):Option Bool:=
 ak (iR u0 a) fun x2=>some x2
theorem Ej {ro:Addr->Option Value}(u0:bg)(a:Int){b:Nat}(d:ro ⟨b,0,none⟩=some (.int .i64 a)){r:Bool}(h:qF u0 a=some r):aF Tryz.prog 103 #[.agg #[.int .i64 u0.ax.e0,.int .i64 u0.ax.e1,.int .i64 u0.ax.e2,.int .i64 u0.ax.e3,.int .i64 u0.az.e0,.int .i64 u0.az.e1,.int .i64 u0.az.e2,.int .i64 u0.az.e3,.int .u64 u0.an],.pointer (some ⟨b,0,none⟩)] ⟨ro,[]⟩ (fun v _=>v= .bool r):=by
 unfold qF at h;refine aF.go Tryz.func103 rfl Tryz.ntmps103 Tryz.results103 aB fun main J hJ A e hd hs=>?_;have f:=hs 0;have k1:=hs 1;clear hs;refine af hJ ?_;refine ah hJ ?_;apply aa _;intro g f1;have r1:=aT f1;have n1:=aU f1;try simp only[aN] at n1
 try apply aa _
 refine af hJ ?_;refine ah hJ ?_;have h':=av h;clear h;obtain ⟨x2,c,h⟩:=h';apply aa _;refine bl hJ _ (qw u0 a c) (aQ ?_);try apply aa _
 have h':=Option.some.inj h;clear h;subst h';refine aI ?_;simp only[*,go_sem]
def oF (a:(bu->Option Bool))(i9:Nat)(b:bu)(st:Int):Option (Fl Int Int):=
 ak (a b) fun c=>cond (c) (some (.rt (i9:Int))) (some (.nx st))
def oG (u0:(List bu))(a:(bu->Option Bool)):Option Int:=
 ak (bX (oF a) 0 u0 0) fun o=>aJ o (fun b=>some (-1)) (fun _ _=>none) (fun r=>some r)
theorem za {ro:Addr->Option Value}(u0:(List bu)){s1:Value}(s:aG dO ro s1 u0)(g:(bu->Option Bool)){bN:FuncId}{bP bQ:Array Value}(t:aP Tryz.prog bN=true/\∀(aK:Addr->Option Value),Ext ro aK->∀(y0:bu) (z:Bool),g y0=some z->aF Tryz.prog bN (bP++#[y0.v]++bQ) ⟨aK,[]⟩ (fun v _=>v= .bool z)){r:Int}(h:oG u0 g=some r):aF Tryz.prog 106 #[s1,.func (.func bN) bP bQ] ⟨ro,[]⟩ (fun v _=>v= .int .i64 r):=by
 obtain ⟨d3,c4,rfl,M,u,w⟩:=id s;unfold oG at h;refine aF.go Tryz.func106 rfl Tryz.ntmps106 Tryz.results106 aB fun main J hJ A y hd hs=>?_;have B:=hs 0;have k1:=hs 1;clear hs;refine af hJ ?_;refine ah hJ ?_;apply aa _;refine af hJ ?_;refine af hJ ?_;refine ah hJ ?_;apply aa _;refine bf hJ ?_;have h':=av h;clear h;obtain ⟨C,b,l⟩:=h';have h:=True.intro;refine bO hJ [4,5,8,9,10,11,12,13,14,15,16,17,18] (fun m o F'=>∃(i9:Nat) (e:Int),m=u0.length - i9/\i9<=u0.length/\bX (oF g) i9 (u0.drop i9) e=some C/\F'=⟨ro,[]⟩/\slot o 8= .int .i64 (i9:Int)/\slot o 4= .int .i64 e) u0.length ?_ ?_
 .refine ⟨0,0,(Nat.sub_zero _).symm,Nat.zero_le _,b,rfl,?_⟩;simp only[*,go_sem,-h]
 rintro N d F' c ⟨i9,e,rfl,O,b,rfl,P,Q⟩;have h:=True.intro;have R:sz d=19:=by rw[c.size];simp only[*,go_sem,-h]
 have S:d.defers=[]:=by rw[c.defers];simp only[*,go_sem,-h]
 have T:slot d 0= .slice d3 u0.length c4:=by rw[c.aA 0 ay];simp only[*,go_sem,-h]
 have U:slot d 1= .func (.func bN) bP bQ:=by rw[c.aA 1 ay];simp only[*,go_sem,-h]
 have V:slot d 7= .int .i64 (u0.length:Int):=by rw[c.aA 7 ay];simp only[*,go_sem,-h]
 clear c y hd B k1;refine af hJ ?_;refine ah hJ ?_;apply aa _;refine af hJ ?_;rcases Nat.lt_or_ge i9 u0.length with D|p
 .refine aL hJ au ?_;refine aR hJ ?_;obtain ⟨q,i⟩:∃x,u0[i9]?=some x:=⟨_,List.getElem?_eq_getElem D⟩
  rw[ey i] at b;have h':=av b;clear b h;obtain ⟨W,h,j⟩:=h';unfold oF at h;try dsimp only at h
  obtain ⟨X,E,F,G,f⟩:=w _ _ i;obtain rfl:E=q.cells:=G;cases F;have H:=f 0 _ rfl;simp only[go_sem] at H;have I:=f 1 _ rfl;simp only[go_sem] at I;have K:=f 2 _ rfl;simp only[go_sem] at K;clear f i;refine af hJ ?_;refine bf hJ ?_;refine af hJ ?_;refine ah hJ ?_;apply aa _;refine af hJ ?_;refine ah hJ ?_;have h':=av h;clear h;obtain ⟨Y,L,h⟩:=h';apply aa _;refine bl hJ _ (t.2 _ (fun a v h=>aX a v h) q _ L) ?_;try apply aa _
  have h':=aD h;clear h;rcases h' with ⟨k,h⟩|⟨k,h⟩
  ·(try simp only[Int.ofNat_lt] at k);refine aL hJ au ?_;refine af hJ ?_;refine ah hJ ?_;apply aa _;have h':=Option.some.inj h;clear h;subst h';have h':=Option.some.inj j;clear j;subst h';have h:=l;dsimp only[aJ] at h;have h':=Option.some.inj h;clear h;subst h';refine aI ?_;simp only[*,go_sem]
  try simp only[Int.ofNat_lt] at k
  refine aM hJ au ?_;refine aR hJ ?_;have h':=Option.some.inj h;clear h;subst h';have h:=True.intro;have Z:=dH (n:=i9) (by have:=u;omega);refine ah hJ ?_;apply aa _;refine ⟨u0.length - (i9+1),ai,_,Le.sub (List.Sublist.refl _),i9+1,e,rfl,ai,j,rfl,?_⟩;simp only[*,go_sem,-h]
 have ab:=Nat.not_lt.2 p;refine aM hJ au ?_;rw[List.drop_eq_nil_of_le p] at b;have h':=Option.some.inj b;clear b h;subst h';have h:=l;dsimp only[aJ] at h;refine bM ?_;simp only[go_sem];refine af hJ ?_;refine ah hJ ?_;apply aa _;have h':=Option.some.inj h;clear h;subst h';refine aI ?_;simp only[*,go_sem]
def tX (a:(bp->Option Bool))(i9:Nat)(b:bp)(st:Int):Option (Fl Int Int):=
 ak (a b) fun c=>cond (c) (some (.rt (i9:Int))) (some (.nx st))
def tY (u0:(List bp))(a:(bp->Option Bool)):Option Int:=
 ak (bX (tX a) 0 u0 0) fun o=>aJ o (fun b=>some (-1)) (fun _ _=>none) (fun r=>some r)
theorem Ek {ro:Addr->Option Value}(u0:(List bp)){s1:Value}(t:aG bJ ro s1 u0)(g:(bp->Option Bool)){bN:FuncId}{bP bQ:Array Value}(u:aP Tryz.prog bN=true/\∀(aK:Addr->Option Value),Ext ro aK->∀(y0:bp) (l:Value) (z:Bool),aG dO aK l y0.marks->g y0=some z->aF Tryz.prog bN (bP++#[.agg #[.string ⟨⟨y0.name⟩⟩,.int .i64 y0.from_.low,.int .i64 y0.from_.high,.int .i64 y0.wide,.int .i64 y0.aC.low,.int .i64 y0.aC.high,l]]++bQ) ⟨aK,[]⟩ (fun v _=>v= .bool z)){r:Int}(h:tY u0 g=some r):aF Tryz.prog 134 #[s1,.func (.func bN) bP bQ] ⟨ro,[]⟩ (fun v _=>v= .int .i64 r):=by
 obtain ⟨d3,c4,rfl,R,w,y⟩:=id t;unfold tY at h;refine aF.go Tryz.func134 rfl Tryz.ntmps134 Tryz.results134 aB fun main J hJ A B hd hs=>?_;have C:=hs 0;have k1:=hs 1;clear hs;refine af hJ ?_;refine ah hJ ?_;apply aa _;refine af hJ ?_;refine af hJ ?_;refine ah hJ ?_;apply aa _;refine bf hJ ?_;have h':=av h;clear h;obtain ⟨D,b,o⟩:=h';have h:=True.intro;refine bO hJ [4,5,8,9,10,11,12,13,14,15,16,17,18] (fun m p F'=>∃(i9:Nat) (f:Int),m=u0.length - i9/\i9<=u0.length/\bX (tX g) i9 (u0.drop i9) f=some D/\F'=⟨ro,[]⟩/\slot p 8= .int .i64 (i9:Int)/\slot p 4= .int .i64 f) u0.length ?_ ?_
 .refine ⟨0,0,(Nat.sub_zero _).symm,Nat.zero_le _,b,rfl,?_⟩;simp only[*,go_sem,-h]
 rintro S e F' d ⟨i9,f,rfl,T,b,rfl,U,V⟩;have h:=True.intro;have W:sz e=19:=by rw[d.size];simp only[*,go_sem,-h]
 have X:e.defers=[]:=by rw[d.defers];simp only[*,go_sem,-h]
 have Y:slot e 0= .slice d3 u0.length c4:=by rw[d.aA 0 ay];simp only[*,go_sem,-h]
 have Z:slot e 1= .func (.func bN) bP bQ:=by rw[d.aA 1 ay];simp only[*,go_sem,-h]
 have ab:slot e 7= .int .i64 (u0.length:Int):=by rw[d.aA 7 ay];simp only[*,go_sem,-h]
 clear d B hd C k1;refine af hJ ?_;refine ah hJ ?_;apply aa _;refine af hJ ?_;rcases Nat.lt_or_ge i9 u0.length with E|q
 .refine aL hJ au ?_;refine aR hJ ?_;obtain ⟨F,i⟩:∃x,u0[i9]?=some x:=⟨_,List.getElem?_eq_getElem E⟩
  rw[ey i] at b;have h':=av b;clear b h;obtain ⟨ad,h,j⟩:=h';unfold tX at h;try dsimp only at h
  obtain ⟨ae,al,G,H,c⟩:=y _ _ i;obtain ⟨ao,rfl,s⟩:=H;obtain ⟨d18,ar,rfl,a0,a2,a3⟩:=id s;cases G;have I:=c 0 _ rfl;simp only[go_sem] at I;have K:=c 1 _ rfl;simp only[go_sem] at K;have L:=c 2 _ rfl;simp only[go_sem] at L;have M:=c 3 _ rfl;simp only[go_sem] at M;have N:=c 4 _ rfl;simp only[go_sem] at N;have O:=c 5 _ rfl;simp only[go_sem] at O;have P:=c 6 _ rfl;simp only[go_sem] at P;clear c i;refine af hJ ?_;refine bf hJ ?_;refine af hJ ?_;refine ah hJ ?_;apply aa _;refine af hJ ?_;refine ah hJ ?_;have h':=av h;clear h;obtain ⟨a4,Q,h⟩:=h';apply aa _;refine bl hJ _ (u.2 _ (fun a v h=>aX a v h) F _ _ (s.mono aX) Q) ?_;try apply aa _
  have h':=aD h;clear h;rcases h' with ⟨k,h⟩|⟨k,h⟩
  ·(try simp only[Int.ofNat_lt] at k);refine aL hJ au ?_;refine af hJ ?_;refine ah hJ ?_;apply aa _;have h':=Option.some.inj h;clear h;subst h';have h':=Option.some.inj j;clear j;subst h';have h:=o;dsimp only[aJ] at h;have h':=Option.some.inj h;clear h;subst h';refine aI ?_;simp only[*,go_sem]
  try simp only[Int.ofNat_lt] at k
  refine aM hJ au ?_;refine aR hJ ?_;have h':=Option.some.inj h;clear h;subst h';have h:=True.intro;have a5:=dH (n:=i9) (by have:=w;omega);refine ah hJ ?_;apply aa _;refine ⟨u0.length - (i9+1),ai,_,Le.sub (List.Sublist.refl _),i9+1,f,rfl,ai,j,rfl,?_⟩;simp only[*,go_sem,-h]
 have a6:=Nat.not_lt.2 q;refine aM hJ au ?_;rw[List.drop_eq_nil_of_le q] at b;have h':=Option.some.inj b;clear b h;subst h';have h:=o;dsimp only[aJ] at h;refine bM ?_;simp only[go_sem];refine af hJ ?_;refine ah hJ ?_;apply aa _;have h':=Option.some.inj h;clear h;subst h';refine aI ?_;simp only[*,go_sem]
def tZ (u0:(List bp))(a:(bp->Option Bool)):Option Bool:=
 ak (tY u0 a) fun b=>some (decide (0<=b))
theorem El {ro:Addr->Option Value}(u0:(List bp)){s1:Value}(b:aG bJ ro s1 u0)(a:(bp->Option Bool)){bN:FuncId}{bP bQ:Array Value}(c:aP Tryz.prog bN=true/\∀(aK:Addr->Option Value),Ext ro aK->∀(y0:bp) (d:Value) (z:Bool),aG dO aK d y0.marks->a y0=some z->aF Tryz.prog bN (bP++#[.agg #[.string ⟨⟨y0.name⟩⟩,.int .i64 y0.from_.low,.int .i64 y0.from_.high,.int .i64 y0.wide,.int .i64 y0.aC.low,.int .i64 y0.aC.high,d]]++bQ) ⟨aK,[]⟩ (fun v _=>v= .bool z)){r:Bool}(h:tZ u0 a=some r):aF Tryz.prog 109 #[s1,.func (.func bN) bP bQ] ⟨ro,[]⟩ (fun v _=>v= .bool r):=by
 obtain ⟨d3,c4,rfl,g,i,j⟩:=id b;unfold tZ at h;refine aF.go Tryz.func109 rfl Tryz.ntmps109 Tryz.results109 aB fun main J hJ A k hd hs=>?_;have l:=hs 0;have k1:=hs 1;clear hs;refine af hJ ?_;refine ah hJ ?_;apply aa _;refine af hJ ?_;refine ah hJ ?_;have h':=av h;clear h;obtain ⟨m,e,h⟩:=h';apply aa _;refine bl hJ _ (Ek (bN:=bN) (bP:=bP) (bQ:=bQ) u0 (b.mono aX) a ⟨c.1,fun _ f=>c.2 _ (Ext.trans aX f)⟩ e) (aQ ?_);try apply aa _
 have h':=Option.some.inj h;clear h;subst h';refine aI ?_;simp only[*,go_sem]
def gu (u0:aV)(a:aV):Option Int:=
 cond ((u0.step != a.step)) (some (IntKind.i64.wrap (u0.step - a.step))) (some (IntKind.i64.wrap (u0.cu - a.cu)))
theorem zb {ro:Addr->Option Value}(u0:aV)(a:aV){r:Int}(h:gu u0 a=some r):aF Tryz.prog 112 #[.agg #[.int .i64 u0.step,.int .i64 u0.cu],.agg #[.int .i64 a.step,.int .i64 a.cu]] ⟨ro,[]⟩ (fun v _=>v= .int .i64 r):=by
 unfold gu at h;refine aF.go Tryz.func112 rfl Tryz.ntmps112 Tryz.results112 aB fun main J hJ A d hd hs=>?_;have e:=hs 0;have k1:=hs 1;clear hs;refine af hJ ?_;refine ah hJ ?_;apply aa _;intro f f1;have r1:=aT f1;have n1:=aU f1;try simp only[aN] at n1
 intro b2 f2;have r2:=aT f2;have c:=aU f2;try simp only[aN] at c
 try apply aa _
 refine af hJ ?_;refine af hJ ?_;refine ah hJ ?_;apply aa _;have h':=aD h;clear h;rcases h' with ⟨b,h⟩|⟨b,h⟩
 .try simp only[Int.ofNat_lt] at b
  refine aL hJ au ?_;refine af hJ ?_;refine ah hJ ?_;apply aa _;have h':=Option.some.inj h;clear h;subst h';refine aI ?_;simp only[*,go_sem]
 try simp only[Int.ofNat_lt] at b
 refine aM hJ au ?_;refine aR hJ ?_;refine af hJ ?_;refine ah hJ ?_;apply aa _;have h':=Option.some.inj h;clear h;subst h';refine aI ?_;simp only[*,go_sem]
def oH (u0:aH):Option Int:=
 ak (fD u0.steps 4 24) fun a=>cond (!a) (some 1) (ak (fD u0.an 0 2) fun b=>cond (!b) (some 1) (ak (fD (u0.aj.length:Int) 1 4) fun c=>cond (!c) (some 2) (some 0)))
theorem Em {ro:Addr->Option Value}(u0:aH){s1:Value}(d:aG bJ ro s1 u0.aj){r:Int}(h:oH u0=some r):aF Tryz.prog 216 #[.agg #[.int .i64 u0.steps,.int .i64 u0.an,s1]] ⟨ro,[]⟩ (fun v _=>v= .int .i64 r):=by
 obtain ⟨d3,c4,rfl,j,k,l⟩:=id d;unfold oH at h;refine aF.go Tryz.func216 rfl Tryz.ntmps216 Tryz.results216 aB fun main J hJ A m hd hs=>?_;have n:=hs 0;clear hs;refine af hJ ?_;refine ah hJ ?_;apply aa _;intro o f8;have p:=aT f8;have e:=aU f8;try simp only[aN] at e
 try apply aa _
 refine af hJ ?_;refine af hJ ?_;refine ah hJ ?_;have h':=av h;clear h;obtain ⟨q,f,h⟩:=h';apply aa _;refine bl hJ _ (gM u0.steps 4 24 f) (aQ ?_);have h':=aD h;clear h;rcases h' with ⟨a,h⟩|⟨a,h⟩
 .try simp only[Int.ofNat_lt] at a
  try apply aa _
  refine aL hJ au ?_;refine af hJ ?_;refine ah hJ ?_;apply aa _;have h':=Option.some.inj h;clear h;subst h';refine aI ?_;simp only[*,go_sem]
 try simp only[Int.ofNat_lt] at a
 have h':=av h;clear h;obtain ⟨s,g,h⟩:=h';try apply aa _
 refine bl hJ _ (gM u0.an 0 2 g) (aQ ?_);try apply aa _
 have h':=aD h;clear h;rcases h' with ⟨b,h⟩|⟨b,h⟩
 .try simp only[Int.ofNat_lt] at b
  refine aL hJ au ?_;refine af hJ ?_;refine ah hJ ?_;apply aa _;have h':=Option.some.inj h;clear h;subst h';refine aI ?_;simp only[*,go_sem]
 try simp only[Int.ofNat_lt] at b
 refine aM hJ au ?_;refine aR hJ ?_;refine af hJ ?_;refine af hJ ?_;refine ah hJ ?_;have h':=av h;clear h;obtain ⟨t,i,h⟩:=h';apply aa _;refine bl hJ _ (gM (u0.aj.length:Int) 1 4 i) (aQ ?_);try apply aa _
 have h':=aD h;clear h;rcases h' with ⟨c,h⟩|⟨c,h⟩
 .try simp only[Int.ofNat_lt] at c
  refine aL hJ au ?_;refine af hJ ?_;refine ah hJ ?_;apply aa _;have h':=Option.some.inj h;clear h;subst h';refine aI ?_;simp only[*,go_sem]
 try simp only[Int.ofNat_lt] at c
 refine aM hJ au ?_;refine aR hJ ?_;refine af hJ ?_;refine ah hJ ?_;apply aa _;have h':=Option.some.inj h;clear h;subst h';refine aI ?_;simp only[*,go_sem]
def oI (u0:(List bu))(a:(bu->Option Bool)):Option Bool:=
 ak (oG u0 a) fun b=>some (decide (0<=b))
theorem En {ro:Addr->Option Value}(u0:(List bu)){s1:Value}(b:aG dO ro s1 u0)(a:(bu->Option Bool)){bN:FuncId}{bP bQ:Array Value}(c:aP Tryz.prog bN=true/\∀(aK:Addr->Option Value),Ext ro aK->∀(y0:bu) (z:Bool),a y0=some z->aF Tryz.prog bN (bP++#[y0.v]++bQ) ⟨aK,[]⟩ (fun v _=>v= .bool z)){r:Bool}(h:oI u0 a=some r):aF Tryz.prog 221 #[s1,.func (.func bN) bP bQ] ⟨ro,[]⟩ (fun v _=>v= .bool r):=by
 obtain ⟨d3,c4,rfl,f,g,i⟩:=id b;unfold oI at h;refine aF.go Tryz.func221 rfl Tryz.ntmps221 Tryz.results221 aB fun main J hJ A j hd hs=>?_;have k:=hs 0;have k1:=hs 1;clear hs;refine af hJ ?_;refine ah hJ ?_;apply aa _;refine af hJ ?_;refine ah hJ ?_;have h':=av h;clear h;obtain ⟨l,d,h⟩:=h';apply aa _;refine bl hJ _ (za (bN:=bN) (bP:=bP) (bQ:=bQ) u0 (b.mono aX) a ⟨c.1,fun _ e=>c.2 _ (Ext.trans aX e)⟩ d) (aQ ?_);try apply aa _
 have h':=Option.some.inj h;clear h;subst h';refine aI ?_;simp only[*,go_sem]
def kR (u0:bu)(a:bu):Option Bool:=
 some (u0.bH==a.bH)
theorem Eo {ro:Addr->Option Value}(u0:bu)(a:bu){b:Nat}(c:ro ⟨b,0,none⟩=some (.string ⟨⟨a.bH⟩⟩))(d:ro ⟨b,1,none⟩=some (.int .i64 a.dN))(e:ro ⟨b,2,none⟩=some (.int .i64 a.row)){r:Bool}(h:kR u0 a=some r):aF Tryz.prog 222 #[.agg #[.string ⟨⟨u0.bH⟩⟩,.int .i64 u0.dN,.int .i64 u0.row],.pointer (some ⟨b,0,none⟩)] ⟨ro,[]⟩ (fun v _=>v= .bool r):=by
 unfold kR at h;refine aF.go Tryz.func222 rfl Tryz.ntmps222 Tryz.results222 aB fun main J hJ A f hd hs=>?_;have g:=hs 0;have k1:=hs 1;clear hs;refine af hJ ?_;refine ah hJ ?_;apply aa _;intro i f1;have r1:=aT f1;have n1:=aU f1;try simp only[aN] at n1
 try apply aa _
 refine af hJ ?_;refine ah hJ ?_;apply aa _;have h':=Option.some.inj h;clear h;subst h';refine aI ?_;simp only[*,go_sem]
def oJ (i10:Nat)(a:bp)(st:Int):Option (Fl Int Int):=
 some (.nx (IntKind.i64.wrap (st*(IntKind.i64.wrap ((IntKind.i64.wrap ((IntKind.i64.wrap (a.from_.high - a.from_.low))+1))*(IntKind.i64.wrap ((IntKind.i64.wrap (a.aC.high - a.aC.low))+1)))))))
def me (u0:aH):Option Int:=
 ak (bX (oJ) 0 u0.aj 1) fun o=>aJ o (fun a=>cond (decide (200<a)) (some 2) (some 0)) (fun _ _=>none) (fun r=>some r)
theorem Ep {ro:Addr->Option Value}(u0:aH){s1:Value}(l:aG bJ ro s1 u0.aj){r:Int}(h:me u0=some r):aF Tryz.prog 218 #[.agg #[.int .i64 u0.steps,.int .i64 u0.an,s1]] ⟨ro,[]⟩ (fun v _=>v= .int .i64 r):=by
 obtain ⟨d3,c4,rfl,O,o,p⟩:=id l;unfold me at h;refine aF.go Tryz.func218 rfl Tryz.ntmps218 Tryz.results218 aB fun main J hJ A q hd hs=>?_;have s:=hs 0;clear hs;refine af hJ ?_;refine ah hJ ?_;apply aa _;intro t f8;have P:=aT f8;have u:=aU f8;try simp only[aN] at u
 try apply aa _
 refine af hJ ?_;refine ah hJ ?_;apply aa _;refine af hJ ?_;refine af hJ ?_;refine ah hJ ?_;apply aa _;refine bf hJ ?_;have h':=av h;clear h;obtain ⟨w,a,y⟩:=h';have h:=True.intro;refine bO hJ [3,5,10,11,12,13,14,15,16,17,18,19,20,21,22,23,24,25,26,27,28,29,30,31,32,33] (fun m j F'=>∃(i10:Nat) (e:Int),m=u0.aj.length - i10/\i10<=u0.aj.length/\bX (oJ) i10 (u0.aj.drop i10) e=some w/\F'=⟨ro,(t,.cells #[.int .i64 u0.steps,.int .i64 u0.an,.slice d3 u0.aj.length c4] 87)::[]⟩/\slot j 10= .int .i64 (i10:Int)/\slot j 3= .int .i64 e) u0.aj.length ?_ ?_
 .refine ⟨0,1,(Nat.sub_zero _).symm,Nat.zero_le _,a,rfl,?_⟩;simp only[*,go_sem,-h]
 rintro Q d F' c ⟨i10,e,rfl,R,a,rfl,S,T⟩;have h:=True.intro;have U:sz d=36:=by rw[c.size];simp only[*,go_sem,-h]
 have V:d.defers=[]:=by rw[c.defers];simp only[*,go_sem,-h]
 have W:slot d 2= .int .i64 0:=by rw[c.aA 2 ay];simp only[*,go_sem,-h]
 have X:slot d 8= .slice d3 u0.aj.length c4:=by rw[c.aA 8 ay];simp only[*,go_sem,-h]
 have Y:slot d 9= .int .i64 (u0.aj.length:Int):=by rw[c.aA 9 ay];simp only[*,go_sem,-h]
 clear c q hd s;refine af hJ ?_;refine ah hJ ?_;apply aa _;refine af hJ ?_;rcases Nat.lt_or_ge i10 u0.aj.length with z|k
 .refine aL hJ au ?_;refine aR hJ ?_;obtain ⟨f,g⟩:∃x,u0.aj[i10]?=some x:=⟨_,List.getElem?_eq_getElem z⟩
  rw[ey g] at a;have h':=av a;clear a h;obtain ⟨Z,h,B⟩:=h';unfold oJ at h;try dsimp only at h
  obtain ⟨ab,ad,C,D,b⟩:=p _ _ g;obtain ⟨ae,rfl,E⟩:=D;obtain ⟨d19,al,rfl,ao,ar,a0⟩:=id E;cases C;have F:=b 0 _ rfl;simp only[go_sem] at F;have G:=b 1 _ rfl;simp only[go_sem] at G;have H:=b 2 _ rfl;simp only[go_sem] at H;have I:=b 3 _ rfl;simp only[go_sem] at I;have K:=b 4 _ rfl;simp only[go_sem] at K;have L:=b 5 _ rfl;simp only[go_sem] at L;have M:=b 6 _ rfl;simp only[go_sem] at M;clear b g;refine af hJ ?_;refine bf hJ ?_;refine af hJ ?_;refine ah hJ ?_;apply aa _;intro a2 f25;have a3:=aT f25;have N:=aU f25;try simp only[aN] at N
  try apply aa _
  refine ah hJ ?_;apply aa _;have h':=Option.some.inj h;clear h;subst h';have h:=True.intro;have a4:=dH (n:=i10) (by have:=o;omega);refine ah hJ ?_;apply aa _;refine ⟨u0.aj.length - (i10+1),ai,_,Le.sub (List.Sublist.cons _ (List.Sublist.refl _)),i10+1,(IntKind.i64.wrap (e*(IntKind.i64.wrap ((IntKind.i64.wrap ((IntKind.i64.wrap (f.from_.high - f.from_.low))+1))*(IntKind.i64.wrap ((IntKind.i64.wrap (f.aC.high - f.aC.low))+1)))))),rfl,ai,B,rfl,?_⟩;simp only[*,go_sem,-h]
 have a5:=Nat.not_lt.2 k;refine aM hJ au ?_;rw[List.drop_eq_nil_of_le k] at a;have h':=Option.some.inj a;clear a h;subst h';have h:=y;dsimp only[aJ] at h;refine bM ?_;simp only[go_sem];refine af hJ ?_;refine af hJ ?_;refine ah hJ ?_;apply aa _;have h':=aD h;clear h;rcases h' with ⟨i,h⟩|⟨i,h⟩
 .try simp only[Int.ofNat_lt] at i
  refine aL hJ au ?_;refine af hJ ?_;refine ah hJ ?_;apply aa _;have h':=Option.some.inj h;clear h;subst h';refine aI ?_;simp only[*,go_sem]
 try simp only[Int.ofNat_lt] at i
 refine aM hJ au ?_;refine aR hJ ?_;refine af hJ ?_;refine ah hJ ?_;apply aa _;have h':=Option.some.inj h;clear h;subst h';refine aI ?_;simp only[*,go_sem]
def oK (b:bp)(i43:Nat)(a:bu)(st:Int):Option (Fl Int Int):=
 ak (lY a.bH) fun c=>cond (!c) (some (.rt 4)) (ak (kH b.marks 0 (i43:Int)) fun d=>ak (oI d (fun y0=>kR y0 a)) fun e=>cond (e) (some (.rt 5)) (ak (fD a.dN 0 (IntKind.i64.wrap (b.wide - 1))) fun f=>cond (!f) (some (.rt 1)) (ak (fD a.row (-9) 9) fun g=>cond (!g) (some (.rt 1)) (some (.nx st)))))
def oL (u0:aH)(i12:Nat)(a:bp)(st:(Int×(List ((List UInt8)×Bool)))):Option (Fl (Int×(List ((List UInt8)×Bool))) Int):=
 ak (lY a.name) fun b=>cond (!b) (some (.rt 4)) (cond (((cE st.2 a.name).getD false)) (some (.rt 5)) (ak (lW a.from_ 0 (IntKind.i64.wrap (u0.steps - 1)) 3) fun c=>cond (!c) (some (.rt 1)) (ak (fD a.wide 1 u0.steps) fun d=>cond (!d) (some (.rt 1)) (ak (lW a.aC (-3) 3 3) fun e=>cond (!e) (some (.rt 1)) (cond (decide (4<(a.marks.length:Int))) (some (.rt 2)) (ak (bX (oK a) 0 a.marks st.1) fun o=>aJ o (fun f=>some (.nx (f,(cC st.2 a.name true)))) (fun _ _=>none) (fun r=>some (.rt r))))))))
def mg (u0:aH):Option Int:=
 ak (bX (oL u0) 0 u0.aj (0,([]:(List ((List UInt8)×Bool))))) fun o=>aJ o (fun a=>some 0) (fun _ _=>none) (fun r=>some r)
theorem Er {ro:Addr->Option Value}(u0:aH){s1:Value}(X:aG bJ ro s1 u0.aj){r:Int}(h:mg u0=some r):aF Tryz.prog 217 #[.agg #[.int .i64 u0.steps,.int .i64 u0.an,s1]] ⟨ro,[]⟩ (fun v _=>v= .int .i64 r):=by
 obtain ⟨d3,c4,rfl,eb,Y,Z⟩:=id X;unfold mg at h;refine aF.go Tryz.func217 rfl Tryz.ntmps217 Tryz.results217 aB fun main J hJ A ab hd hs=>?_;have ad:=hs 0;clear hs;refine af hJ ?_;refine ah hJ ?_;apply aa _;intro i f8;have ec:=aT f8;have ae:=aU f8;try simp only[aN] at ae
 try apply aa _
 refine af hJ ?_;refine ah hJ ?_;apply aa _;refine DW fun s f9=>?_;have ed:=aT f9;have al:=aU f9;try simp only[aN] at al
 refine aQ ?_;try apply aa _
 refine af hJ ?_;refine af hJ ?_;refine ah hJ ?_;apply aa _;refine bf hJ ?_;have h':=av h;clear h;obtain ⟨ao,j,e⟩:=h';have h:=True.intro;refine bO hJ [2,5,6,7,13,14,15,16,17,18,19,20,21,22,23,24,25,26,27,28,29,30,31,32,33,34,35,36,37,38,39,40,41,42,43,44,45,46,47,48,49,50,51,52,53,54,55,56,57,58,59,60,61,62,63,64,65,66,67,68,69,70,71,72,73,74,75,76,77,78,79,80,81,82,83,84,85,86,87,88,89,90,91,92,93,94] (fun m u F'=>∃(i12:Nat) (v10:Int) (v11:(List ((List UInt8)×Bool))),m=u0.aj.length - i12/\i12<=u0.aj.length/\bX (oL u0) i12 (u0.aj.drop i12) (v10,v11)=some ao/\F'=⟨ro,(s,lV v11)::(i,.cells #[.int .i64 u0.steps,.int .i64 u0.an,.slice d3 u0.aj.length c4] 87)::[]⟩/\slot u 13= .int .i64 (i12:Int)/\slot u 2= .int .i64 v10) u0.aj.length ?_ ?_
 .refine ⟨0,0,([]:(List ((List UInt8)×Bool))),(Nat.sub_zero _).symm,Nat.zero_le _,j,rfl,?_⟩;simp only[*,go_sem,-h]
 rintro eh p F' q ⟨i12,v10,v11,rfl,et,j,rfl,ar,a0⟩;have h:=True.intro;have a2:sz p=95:=by rw[q.size];simp only[*,go_sem,-h]
 have a3:p.defers=[]:=by rw[q.defers];simp only[*,go_sem,-h]
 have a4:slot p 1= .pointer (some ⟨i,0,none⟩):=by rw[q.aA 1 ay];simp only[*,go_sem,-h]
 have a5:slot p 3= .map (some s):=by rw[q.aA 3 ay];simp only[*,go_sem,-h]
 have a6:slot p 11= .slice d3 u0.aj.length c4:=by rw[q.aA 11 ay];simp only[*,go_sem,-h]
 have a7:slot p 12= .int .i64 (u0.aj.length:Int):=by rw[q.aA 12 ay];simp only[*,go_sem,-h]
 clear q ab hd ad;refine af hJ ?_;refine ah hJ ?_;apply aa _;refine af hJ ?_;rcases Nat.lt_or_ge i12 u0.aj.length with a8|Q
 .refine aL hJ au ?_;refine aR hJ ?_;obtain ⟨c,C⟩:∃x,u0.aj[i12]?=some x:=⟨_,List.getElem?_eq_getElem a8⟩
  rw[ey C] at j;have h':=av j;clear j h;obtain ⟨ev,h,d⟩:=h';unfold oL at h;try dsimp only at h
  obtain ⟨R,eQ,a9,ba,k⟩:=Z _ _ C;obtain ⟨eS,rfl,S⟩:=ba;obtain ⟨d21,w,rfl,e0,bb,bc⟩:=id S;cases a9;have bd:=k 0 _ rfl;simp only[go_sem] at bd;have bj:=k 1 _ rfl;simp only[go_sem] at bj;have bk:=k 2 _ rfl;simp only[go_sem] at bk;have bm:=k 3 _ rfl;simp only[go_sem] at bm;have bo:=k 4 _ rfl;simp only[go_sem] at bo;have br:=k 5 _ rfl;simp only[go_sem] at br;have bs:=k 6 _ rfl;simp only[go_sem] at bs;clear k C;refine af hJ ?_;refine bf hJ ?_;refine af hJ ?_;refine ah hJ ?_;apply aa _;intro f f27;have e1:=aT f27;have b0:=aU f27;try simp only[aN] at b0
  try apply aa _
  refine af hJ ?_;refine bf hJ ?_;refine af hJ ?_;refine ah hJ ?_;have h':=av h;clear h;obtain ⟨b1,b2,h⟩:=h';apply aa _;refine bl hJ _ (y7 c.name b2) (aQ ?_);try apply aa _
  have h':=aD h;clear h;rcases h' with ⟨D,h⟩|⟨D,h⟩
  ·(try simp only[Int.ofNat_lt] at D);refine aL hJ au ?_;refine af hJ ?_;refine ah hJ ?_;apply aa _;have h':=Option.some.inj h;clear h;subst h';have h':=Option.some.inj d;clear d;subst h';have h:=e;dsimp only[aJ] at h;have h':=Option.some.inj h;clear h;subst h';refine aI ?_;simp only[*,go_sem]
  try simp only[Int.ofNat_lt] at D
  refine aM hJ au ?_;refine af hJ ?_;refine ah hJ ?_;apply aa _;refine DX (l:=v11) au ?_;try refine aQ ?_
  try apply aa _
  have h':=aD h;clear h;rcases h' with ⟨E,h⟩|⟨E,h⟩
  ·(try simp only[Int.ofNat_lt] at E);refine aL hJ au ?_;refine af hJ ?_;refine ah hJ ?_;apply aa _;have h':=Option.some.inj h;clear h;subst h';have h':=Option.some.inj d;clear d;subst h';have h:=e;dsimp only[aJ] at h;have h':=Option.some.inj h;clear h;subst h';refine aI ?_;simp only[*,go_sem]
  try simp only[Int.ofNat_lt] at E
  refine aM hJ au ?_;refine af hJ ?_;refine ah hJ ?_;have h':=av h;clear h;obtain ⟨b3,b4,h⟩:=h';apply aa _;refine bl hJ _ (y5 c.from_ 0 (IntKind.i64.wrap (u0.steps - 1)) 3 b4) (aQ ?_);have h':=aD h;clear h;rcases h' with ⟨F,h⟩|⟨F,h⟩
  ·(try simp only[Int.ofNat_lt] at F);(try apply aa _);refine aL hJ au ?_;refine af hJ ?_;refine ah hJ ?_;apply aa _;have h':=Option.some.inj h;clear h;subst h';have h':=Option.some.inj d;clear d;subst h';have h:=e;dsimp only[aJ] at h;have h':=Option.some.inj h;clear h;subst h';refine aI ?_;simp only[*,go_sem]
  try simp only[Int.ofNat_lt] at F
  have h':=av h;clear h;obtain ⟨ca,cb,h⟩:=h';try apply aa _
  refine bl hJ _ (gM c.wide 1 u0.steps cb) (aQ ?_);have h':=aD h;clear h;rcases h' with ⟨G,h⟩|⟨G,h⟩
  ·(try simp only[Int.ofNat_lt] at G);(try apply aa _);refine aL hJ au ?_;refine af hJ ?_;refine ah hJ ?_;apply aa _;have h':=Option.some.inj h;clear h;subst h';have h':=Option.some.inj d;clear d;subst h';have h:=e;dsimp only[aJ] at h;have h':=Option.some.inj h;clear h;subst h';refine aI ?_;simp only[*,go_sem]
  try simp only[Int.ofNat_lt] at G
  have h':=av h;clear h;obtain ⟨cc,cd,h⟩:=h';try apply aa _
  refine bl hJ _ (y5 c.aC (-3) 3 3 cd) (aQ ?_);try apply aa _
  have h':=aD h;clear h;rcases h' with ⟨H,h⟩|⟨H,h⟩
  ·(try simp only[Int.ofNat_lt] at H);refine aL hJ au ?_;refine af hJ ?_;refine ah hJ ?_;apply aa _;have h':=Option.some.inj h;clear h;subst h';have h':=Option.some.inj d;clear d;subst h';have h:=e;dsimp only[aJ] at h;have h':=Option.some.inj h;clear h;subst h';refine aI ?_;simp only[*,go_sem]
  try simp only[Int.ofNat_lt] at H
  refine aM hJ au ?_;refine af hJ ?_;refine ah hJ ?_;apply aa _;have h':=aD h;clear h;rcases h' with ⟨I,h⟩|⟨I,h⟩
  ·(try simp only[Int.ofNat_lt] at I);refine aL hJ au ?_;refine af hJ ?_;refine ah hJ ?_;apply aa _;have h':=Option.some.inj h;clear h;subst h';have h':=Option.some.inj d;clear d;subst h';have h:=e;dsimp only[aJ] at h;have h':=Option.some.inj h;clear h;subst h';refine aI ?_;simp only[*,go_sem]
  try simp only[Int.ofNat_lt] at I
  refine aM hJ au ?_;refine aR hJ ?_;refine af hJ ?_;refine ah hJ ?_;apply aa _;refine DY (l:=v11) (v:=true) au ?_;try refine aQ ?_
  try apply aa _
  refine af hJ ?_;refine ah hJ ?_;apply aa _;refine bf hJ ?_;have h':=av h;clear h;obtain ⟨cf,o,y⟩:=h';have h:=True.intro;refine bO hJ [2,6,7,62,63,64,65,66,67,68,69,70,71,72,73,74,75,76,77,78,79,80,81,82,83,84,85,86,87,88,89,90,91,92,93] (fun m u F'=>∃(i43:Nat) (z:Int),m=c.marks.length - i43/\i43<=c.marks.length/\bX (oK c) i43 (c.marks.drop i43) z=some cf/\F'=⟨ro,(f,.cells #[.string ⟨⟨c.name⟩⟩,.int .i64 c.from_.low,.int .i64 c.from_.high,.int .i64 c.wide,.int .i64 c.aC.low,.int .i64 c.aC.high,.slice d21 c.marks.length w] 56)::(s,lV (cC v11 c.name true))::(i,.cells #[.int .i64 u0.steps,.int .i64 u0.an,.slice (some R) u0.aj.length c4] 87)::[]⟩/\slot u 62= .int .i64 (i43:Int)/\slot u 2= .int .i64 z) c.marks.length ?_ ?_
  .refine ⟨0,v10,(Nat.sub_zero _).symm,Nat.zero_le _,o,rfl,?_⟩;simp only[*,go_sem,-h]
  rintro m2 b F' a ⟨i43,z,rfl,e2,o,rfl,e3,fa⟩;have h:=True.intro;have fb:sz b=95:=by rw[a.size];simp only[*,go_sem,-h]
  have fc:b.defers=[]:=by rw[a.defers];simp only[*,go_sem,-h]
  have fg:slot b 1= .pointer (some ⟨i,0,none⟩):=by rw[a.aA 1 ay];simp only[*,go_sem,-h]
  have fh:slot b 3= .map (some s):=by rw[a.aA 3 ay];simp only[*,go_sem,-h]
  have fi:slot b 5= .pointer (some ⟨f,0,none⟩):=by rw[a.aA 5 ay];simp only[*,go_sem,-h]
  have fj:slot b 11= .slice (some R) u0.aj.length c4:=by rw[a.aA 11 ay];simp only[*,go_sem,-h]
  have fl:slot b 12= .int .i64 (u0.aj.length:Int):=by rw[a.aA 12 ay];simp only[*,go_sem,-h]
  have fp:slot b 13= .int .i64 (i12:Int):=by rw[a.aA 13 ay];simp only[*,go_sem,-h]
  have fr:slot b 14= .bool true:=by rw[a.aA 14 ay];simp only[*,go_sem,-h]
  have fs:slot b 16= .agg #[.string ⟨⟨c.name⟩⟩,.int .i64 c.from_.low,.int .i64 c.from_.high,.int .i64 c.wide,.int .i64 c.aC.low,.int .i64 c.aC.high,.slice d21 c.marks.length w]:=by rw[a.aA 16 ay];simp only[*,go_sem,-h]
  have ft:slot b 17= .bool false:=by rw[a.aA 17 ay];simp only[*,go_sem,-h]
  have fu:slot b 18= .pointer (some ⟨f,0,none⟩):=by rw[a.aA 18 ay];simp only[*,go_sem,-h]
  have fv:slot b 19= .string ⟨⟨c.name⟩⟩:=by rw[a.aA 19 ay];simp only[*,go_sem,-h]
  have fw:slot b 20= .bool b1:=by rw[a.aA 20 ay];simp only[*,go_sem,-h]
  have fx:slot b 21= .bool false:=by rw[a.aA 21 ay];simp only[*,go_sem,-h]
  have fz:slot b 22= .bool false:=by rw[a.aA 22 ay];simp only[*,go_sem,-h]
  have gg:slot b 23= .map (some s):=by rw[a.aA 23 ay];simp only[*,go_sem,-h]
  have gj:slot b 24= .pointer (some ⟨f,0,none⟩):=by rw[a.aA 24 ay];simp only[*,go_sem,-h]
  have gl:slot b 25= .string ⟨⟨c.name⟩⟩:=by rw[a.aA 25 ay];simp only[*,go_sem,-h]
  have gn:slot b 26= .bool false:=by rw[a.aA 26 ay];simp only[*,go_sem,-h]
  have gp:slot b 27= .bool false:=by rw[a.aA 27 ay];simp only[*,go_sem,-h]
  have gy:slot b 28= .pointer (some ⟨f,1,none⟩):=by rw[a.aA 28 ay];simp only[*,go_sem,-h]
  have g0:slot b 29= .agg #[.int .i64 c.from_.low,.int .i64 c.from_.high]:=by rw[a.aA 29 ay];simp only[*,go_sem,-h]
  have g1:slot b 30= .pointer (some ⟨i,0,none⟩):=by rw[a.aA 30 ay];simp only[*,go_sem,-h]
  have g2:slot b 31= .pointer (some ⟨i,0,none⟩):=by rw[a.aA 31 ay];simp only[*,go_sem,-h]
  have g3:slot b 32= .int .i64 u0.steps:=by rw[a.aA 32 ay];simp only[*,go_sem,-h]
  have g4:slot b 33= .int .i64 (IntKind.i64.wrap (u0.steps - 1)):=by rw[a.aA 33 ay];simp only[*,go_sem,-h]
  have g7:slot b 34= .bool b3:=by rw[a.aA 34 ay];simp only[*,go_sem,-h]
  have ha:slot b 35= .bool false:=by rw[a.aA 35 ay];simp only[*,go_sem,-h]
  have hc:slot b 36= .bool false:=by rw[a.aA 36 ay];simp only[*,go_sem,-h]
  have hf:slot b 37= .pointer (some ⟨f,3,none⟩):=by rw[a.aA 37 ay];simp only[*,go_sem,-h]
  have hg:slot b 38= .int .i64 c.wide:=by rw[a.aA 38 ay];simp only[*,go_sem,-h]
  have hh:slot b 39= .pointer (some ⟨i,0,none⟩):=by rw[a.aA 39 ay];simp only[*,go_sem,-h]
  have hi:slot b 40= .pointer (some ⟨i,0,none⟩):=by rw[a.aA 40 ay];simp only[*,go_sem,-h]
  have hj:slot b 41= .int .i64 u0.steps:=by rw[a.aA 41 ay];simp only[*,go_sem,-h]
  have hk:slot b 42= .bool ca:=by rw[a.aA 42 ay];simp only[*,go_sem,-h]
  have hl:slot b 43= .bool false:=by rw[a.aA 43 ay];simp only[*,go_sem,-h]
  have hn:slot b 44= .bool false:=by rw[a.aA 44 ay];simp only[*,go_sem,-h]
  have ho:slot b 45= .bool false:=by rw[a.aA 45 ay];simp only[*,go_sem,-h]
  have hp:slot b 46= .pointer (some ⟨f,4,none⟩):=by rw[a.aA 46 ay];simp only[*,go_sem,-h]
  have hq:slot b 47= .agg #[.int .i64 c.aC.low,.int .i64 c.aC.high]:=by rw[a.aA 47 ay];simp only[*,go_sem,-h]
  have hr:slot b 48= .bool cc:=by rw[a.aA 48 ay];simp only[*,go_sem,-h]
  have ht:slot b 49= .bool false:=by rw[a.aA 49 ay];simp only[*,go_sem,-h]
  have hv:slot b 50= .bool false:=by rw[a.aA 50 ay];simp only[*,go_sem,-h]
  have hx:slot b 51= .bool false:=by rw[a.aA 51 ay];simp only[*,go_sem,-h]
  have hy:slot b 52= .pointer (some ⟨f,6,none⟩):=by rw[a.aA 52 ay];simp only[*,go_sem,-h]
  have hz:slot b 53= .slice d21 c.marks.length w:=by rw[a.aA 53 ay];simp only[*,go_sem,-h]
  have hA:slot b 54= .int .i64 (c.marks.length:Int):=by rw[a.aA 54 ay];simp only[*,go_sem,-h]
  have hB:slot b 55= .bool false:=by rw[a.aA 55 ay];simp only[*,go_sem,-h]
  have hD:slot b 56= .map (some s):=by rw[a.aA 56 ay];simp only[*,go_sem,-h]
  have hE:slot b 57= .pointer (some ⟨f,0,none⟩):=by rw[a.aA 57 ay];simp only[*,go_sem,-h]
  have hF:slot b 58= .string ⟨⟨c.name⟩⟩:=by rw[a.aA 58 ay];simp only[*,go_sem,-h]
  have hG:slot b 59= .pointer (some ⟨f,6,none⟩):=by rw[a.aA 59 ay];simp only[*,go_sem,-h]
  have hH:slot b 60= .slice d21 c.marks.length w:=by rw[a.aA 60 ay];simp only[*,go_sem,-h]
  have hI:slot b 61= .int .i64 (c.marks.length:Int):=by rw[a.aA 61 ay];simp only[*,go_sem,-h]
  have hK:cq [2,5,6,7,13,14,15,16,17,18,19,20,21,22,23,24,25,26,27,28,29,30,31,32,33,34,35,36,37,38,39,40,41,42,43,44,45,46,47,48,49,50,51,52,53,54,55,56,57,58,59,60,61,62,63,64,65,66,67,68,69,70,71,72,73,74,75,76,77,78,79,80,81,82,83,84,85,86,87,88,89,90,91,92,93,94] b p:=(a.eg ay).trans au;clear a a2 a3 a4 a5 a6 a7 a0 ar;refine af hJ ?_;refine ah hJ ?_;apply aa _;refine af hJ ?_;rcases Nat.lt_or_ge i43 c.marks.length with ck|T
  .refine aL hJ au ?_;refine aR hJ ?_;obtain ⟨t,K⟩:∃x,c.marks[i43]?=some x:=⟨_,List.getElem?_eq_getElem ck⟩
   rw[ey K] at o;have h':=av o;clear o h;obtain ⟨hL,h,g⟩:=h';unfold oK at h;(try dsimp only at h);obtain ⟨hM,cl,cv,cy,B⟩:=bc _ _ K;obtain rfl:cl=t.cells:=cy;cases cv;have c0:=B 0 _ rfl;simp only[go_sem] at c0;have da:=B 1 _ rfl;simp only[go_sem] at da;have db:=B 2 _ rfl;simp only[go_sem] at db;clear B K;refine af hJ ?_;refine bf hJ ?_;refine af hJ ?_;refine ah hJ ?_;apply aa _;intro dd f51;have hN:=aT f51;have df:=aU f51;(try simp only[aN] at df);(try apply aa _);refine bf hJ ?_;refine af hJ ?_;refine ah hJ ?_;have h':=av h;clear h;obtain ⟨hP,dk,h⟩:=h';apply aa _;refine bl hJ _ (y7 t.bH dk) (aQ ?_);(try apply aa _);have h':=aD h;clear h;rcases h' with ⟨L,h⟩|⟨L,h⟩
   ·(try simp only[Int.ofNat_lt] at L);refine aL hJ au ?_;refine af hJ ?_;refine ah hJ ?_;apply aa _;have h':=Option.some.inj h;clear h;subst h';have h':=Option.some.inj g;clear g;subst h';have h:=y;dsimp only[aJ] at h;have h':=Option.some.inj h;clear h;subst h';have h':=Option.some.inj d;clear d;subst h';have h:=e;dsimp only[aJ] at h;have h':=Option.some.inj h;clear h;subst h';refine aI ?_;simp only[*,go_sem]
   (try simp only[Int.ofNat_lt] at L);refine aM hJ au ?_;refine af hJ ?_;refine ah hJ ?_;have h':=av h;clear h;obtain ⟨dp,dq,h⟩:=h';obtain ⟨hQ,hR,hS,U⟩:=yb dq;have V:(0:Int).toNat<=((i43:Int)).toNat:=ai;have ds:((i43:Int)).toNat<=w:=ai;have hT:0<=((i43:Int)):=ai;obtain ⟨d56,dt,du,W⟩:=aG.yd S (0:Int).toNat ((i43:Int)).toNat V ai U;simp only[go_sem] at dt du V ds;obtain ⟨_,_,dv,hV,hX,hY⟩:=id W;cases dv;clear U;have h':=av h;clear h;obtain ⟨hZ,dC,h⟩:=h';(try apply aa _);refine bl hJ _ (En (bN:=222) (bP:=#[]) (bQ:=#[.pointer (some ⟨dd,0,none⟩)]) dp (W.mono aX) (fun y0=>kR y0 t) ⟨by simp only[go_sem],fun h0 M y0 h1 dE=>by simp only[go_sem];exact Eo y0 t (M _ _ (by simp only[ag.dz,go_sem, *,-h])) (M _ _ (by simp only[ag.dz,go_sem, *,-h])) (M _ _ (by simp only[ag.dz,go_sem, *,-h])) dE⟩ dC) (aQ ?_);(try apply aa _);have h':=aD h;clear h;rcases h' with ⟨N,h⟩|⟨N,h⟩
   ·(try simp only[Int.ofNat_lt] at N);refine aL hJ au ?_;refine af hJ ?_;refine ah hJ ?_;apply aa _;have h':=Option.some.inj h;clear h;subst h';have h':=Option.some.inj g;clear g;subst h';have h:=y;dsimp only[aJ] at h;have h':=Option.some.inj h;clear h;subst h';have h':=Option.some.inj d;clear d;subst h';have h:=e;dsimp only[aJ] at h;have h':=Option.some.inj h;clear h;subst h';refine aI ?_;simp only[*,go_sem]
   (try simp only[Int.ofNat_lt] at N);refine aM hJ au ?_;refine af hJ ?_;refine ah hJ ?_;have h':=av h;clear h;obtain ⟨h2,dT,h⟩:=h';apply aa _;refine bl hJ _ (gM t.dN 0 (IntKind.i64.wrap (c.wide - 1)) dT) (aQ ?_);have h':=aD h;clear h;rcases h' with ⟨O,h⟩|⟨O,h⟩
   ·(try simp only[Int.ofNat_lt] at O);(try apply aa _);refine aL hJ au ?_;refine af hJ ?_;refine ah hJ ?_;apply aa _;have h':=Option.some.inj h;clear h;subst h';have h':=Option.some.inj g;clear g;subst h';have h:=y;dsimp only[aJ] at h;have h':=Option.some.inj h;clear h;subst h';have h':=Option.some.inj d;clear d;subst h';have h:=e;dsimp only[aJ] at h;have h':=Option.some.inj h;clear h;subst h';refine aI ?_;simp only[*,go_sem]
   (try simp only[Int.ofNat_lt] at O);have h':=av h;clear h;obtain ⟨h3,ea,h⟩:=h';(try apply aa _);refine bl hJ _ (gM t.row (-9) 9 ea) (aQ ?_);(try apply aa _);have h':=aD h;clear h;rcases h' with ⟨P,h⟩|⟨P,h⟩
   ·(try simp only[Int.ofNat_lt] at P);refine aL hJ au ?_;refine af hJ ?_;refine ah hJ ?_;apply aa _;have h':=Option.some.inj h;clear h;subst h';have h':=Option.some.inj g;clear g;subst h';have h:=y;dsimp only[aJ] at h;have h':=Option.some.inj h;clear h;subst h';have h':=Option.some.inj d;clear d;subst h';have h:=e;dsimp only[aJ] at h;have h':=Option.some.inj h;clear h;subst h';refine aI ?_;simp only[*,go_sem]
   (try simp only[Int.ofNat_lt] at P);refine aM hJ au ?_;refine aR hJ ?_;have h':=Option.some.inj h;clear h;subst h';have h:=True.intro;have h4:=dH (n:=i43) (by have:=bb;omega);refine ah hJ ?_;apply aa _;refine ⟨c.marks.length - (i43+1),ai,_,Le.sub (List.Sublist.cons _ (List.Sublist.refl _)),i43+1,z,rfl,ai,g,rfl,?_⟩;simp only[*,go_sem,-h]
  have h5:=Nat.not_lt.2 T;refine aM hJ au ?_;rw[List.drop_eq_nil_of_le T] at o;have h':=Option.some.inj o;clear o h;subst h';have h:=y;dsimp only[aJ] at h;refine bM ?_;simp only[go_sem];have h':=Option.some.inj h;clear h;subst h';have h:=True.intro;have h6:=dH (n:=i12) (by have:=Y;omega);refine ah hJ ?_;apply aa _;refine ⟨u0.aj.length - (i12+1),ai,_,Le.sub (List.Sublist.cons _ (List.Sublist.refl _)),i12+1,z,(cC v11 c.name true),rfl,ai,d,rfl,?_⟩;simp only[*,go_sem,-h]
 have h7:=Nat.not_lt.2 Q;refine aM hJ au ?_;rw[List.drop_eq_nil_of_le Q] at j;have h':=Option.some.inj j;clear j h;subst h';have h:=e;dsimp only[aJ] at h;refine bM ?_;simp only[go_sem];refine af hJ ?_;refine ah hJ ?_;apply aa _;have h':=Option.some.inj h;clear h;subst h';refine aI ?_;simp only[*,go_sem]
def mh (u0:aH)(c:bg)(i13:Nat)(i34:Nat)(a:bu)(st:(Bool×(List ((List UInt8)×aV)))):Option (Fl (Bool×(List ((List UInt8)×aV))) Bool):=
 ak (kN u0 c (i13:Int) a) fun b=>cond (((cE st.2 a.bH).isSome)) (cond (!(((((cE st.2 a.bH).getD (⟨0,0⟩:aV)).step)==b.step)&&((((cE st.2 a.bH).getD (⟨0,0⟩:aV)).cu)==b.cu))) (some (.rt false)) (some (.nx (st.1,(cC st.2 a.bH b))))) (some (.nx (st.1,(cC st.2 a.bH b))))
def jW (u0:aH)(a:bg)(i13:Nat)(c:bp)(st:(Bool×(List ((List UInt8)×aV)))):Option (Fl (Bool×(List ((List UInt8)×aV))) Bool):=
 ak (iR a (i13:Int)) fun d=>cond (d) (some (.nx (st.1,st.2))) (ak (bX (mh u0 a i13) 0 c.marks (st.1,st.2)) fun o=>aJ o (fun b=>some (.nx (b.1,b.2))) (fun _ _=>none) (fun r=>some (.rt r)))
def iy (u0:aH)(a:bg):Option Bool:=
 ak (bX (jW u0 a) 0 u0.aj (false,([]:(List ((List UInt8)×aV))))) fun o=>aJ o (fun b=>some true) (fun _ _=>none) (fun r=>some r)
theorem ze {ro:Addr->Option Value}(u0:aH){s1:Value}(L:aG bJ ro s1 u0.aj)(a:bg){r:Bool}(h:iy u0 a=some r):aF Tryz.prog 59 #[.agg #[.int .i64 u0.steps,.int .i64 u0.an,s1],.agg #[.int .i64 a.ax.e0,.int .i64 a.ax.e1,.int .i64 a.ax.e2,.int .i64 a.ax.e3,.int .i64 a.az.e0,.int .i64 a.az.e1,.int .i64 a.az.e2,.int .i64 a.az.e3,.int .u64 a.an]] ⟨ro,[]⟩ (fun v _=>v= .bool r):=by
 obtain ⟨d3,c4,rfl,cv,M,T⟩:=id L;unfold iy at h;refine aF.go Tryz.func59 rfl Tryz.ntmps59 Tryz.results59 aB fun main J hJ A U hd hs=>?_;have V:=hs 0;have k1:=hs 1;clear hs;refine af hJ ?_;refine ah hJ ?_;apply aa _;intro s f8;have cy:=aT f8;have W:=aU f8;try simp only[aN] at W
 intro t f9;have c0:=aT f9;have X:=aU f9;try simp only[aN] at X
 try apply aa _
 refine af hJ ?_;refine ah hJ ?_;apply aa _;refine DU fun u f10=>?_;have da:=aT f10;have Y:=aU f10;try simp only[aN] at Y
 refine aQ ?_;try apply aa _
 refine af hJ ?_;refine af hJ ?_;refine ah hJ ?_;apply aa _;refine bf hJ ?_;have h':=av h;clear h;obtain ⟨Z,f,N⟩:=h';have h:=True.intro;refine bO hJ [4,6,7,9,10,11,12,18,19,20,21,22,23,24,25,26,27,28,29,30,31,32,33,34,35,36,37,38,39,40,41,42,43,44,45,46,47,48,49,50,51,52,53,54,55,56] (fun m p F'=>∃(i13:Nat) (v11:Bool) (q:(List ((List UInt8)×aV))),m=u0.aj.length - i13/\i13<=u0.aj.length/\bX (jW u0 a) i13 (u0.aj.drop i13) (v11,q)=some Z/\F'=⟨ro,(u,lU q)::(t,.cells #[.int .i64 a.ax.e0,.int .i64 a.ax.e1,.int .i64 a.ax.e2,.int .i64 a.ax.e3,.int .i64 a.az.e0,.int .i64 a.az.e1,.int .i64 a.az.e2,.int .i64 a.az.e3,.int .u64 a.an] 84)::(s,.cells #[.int .i64 u0.steps,.int .i64 u0.an,.slice d3 u0.aj.length c4] 87)::[]⟩/\slot p 18= .int .i64 (i13:Int)/\slot p 4= .bool v11) u0.aj.length ?_ ?_
 .refine ⟨0,false,([]:(List ((List UInt8)×aV))),(Nat.sub_zero _).symm,Nat.zero_le _,f,rfl,?_⟩;simp only[*,go_sem,-h]
 rintro db g F' i ⟨i13,v11,q,rfl,dd,f,rfl,ab,ad⟩;have h:=True.intro;have ae:sz g=57:=by rw[i.size];simp only[*,go_sem,-h]
 have al:g.defers=[]:=by rw[i.defers];simp only[*,go_sem,-h]
 have ao:slot g 2= .pointer (some ⟨s,0,none⟩):=by rw[i.aA 2 ay];simp only[*,go_sem,-h]
 have ar:slot g 3= .pointer (some ⟨t,0,none⟩):=by rw[i.aA 3 ay];simp only[*,go_sem,-h]
 have a0:slot g 5= .map (some u):=by rw[i.aA 5 ay];simp only[*,go_sem,-h]
 have a2:slot g 16= .slice d3 u0.aj.length c4:=by rw[i.aA 16 ay];simp only[*,go_sem,-h]
 have a3:slot g 17= .int .i64 (u0.aj.length:Int):=by rw[i.aA 17 ay];simp only[*,go_sem,-h]
 clear i U hd V k1;refine af hJ ?_;refine ah hJ ?_;apply aa _;refine af hJ ?_;rcases Nat.lt_or_ge i13 u0.aj.length with a4|O
 .refine aL hJ au ?_;refine aR hJ ?_;obtain ⟨b,D⟩:∃x,u0.aj[i13]?=some x:=⟨_,List.getElem?_eq_getElem a4⟩
  rw[ey D] at f;have h':=av f;clear f h;obtain ⟨df,h,w⟩:=h';unfold jW at h;try dsimp only at h
  obtain ⟨P,dk,a5,a6,j⟩:=T _ _ D;obtain ⟨dp,rfl,a7⟩:=a6;obtain ⟨d22,E,rfl,dq,Q,a8⟩:=id a7;cases a5;have a9:=j 0 _ rfl;simp only[go_sem] at a9;have ba:=j 1 _ rfl;simp only[go_sem] at ba;have bb:=j 2 _ rfl;simp only[go_sem] at bb;have bc:=j 3 _ rfl;simp only[go_sem] at bc;have bd:=j 4 _ rfl;simp only[go_sem] at bd;have bj:=j 5 _ rfl;simp only[go_sem] at bj;have bk:=j 6 _ rfl;simp only[go_sem] at bk;clear j D;refine af hJ ?_;refine bf hJ ?_;refine af hJ ?_;refine ah hJ ?_;apply aa _;intro F f28;have ds:=aT f28;have bm:=aU f28;try simp only[aN] at bm
  try apply aa _
  refine af hJ ?_;refine af hJ ?_;refine ah hJ ?_;have h':=av h;clear h;obtain ⟨dt,bo,h⟩:=h';apply aa _;refine bl hJ _ (qw a (i13:Int) bo) ?_;try apply aa _
  have h':=aD h;clear h;rcases h' with ⟨G,h⟩|⟨G,h⟩
  ·(try simp only[Int.ofNat_lt] at G);refine aL hJ au ?_;refine bM ?_;simp only[go_sem];have h':=Option.some.inj h;clear h;subst h';have h:=True.intro;have br:=dH (n:=i13) (by have:=M;omega);refine ah hJ ?_;apply aa _;refine ⟨u0.aj.length - (i13+1),ai,_,Le.sub (List.Sublist.cons _ (List.Sublist.refl _)),i13+1,v11,q,rfl,ai,w,rfl,?_⟩;simp only[*,go_sem,-h]
  try simp only[Int.ofNat_lt] at G
  refine aM hJ au ?_;refine aR hJ ?_;refine af hJ ?_;refine ah hJ ?_;apply aa _;refine bf hJ ?_;have h':=av h;clear h;obtain ⟨bs,k,R⟩:=h';have h:=True.intro;refine bO hJ [4,9,10,11,12,29,30,31,32,33,34,35,36,37,38,39,40,41,42,43,44,45,46,47,48,49,50,51,52,53,54,55] (fun m p F'=>∃(i34:Nat) (o:Bool) (e:(List ((List UInt8)×aV))),m=b.marks.length - i34/\i34<=b.marks.length/\bX (mh u0 a i13) i34 (b.marks.drop i34) (o,e)=some bs/\F'=⟨ro,(F,.cells #[.string ⟨⟨b.name⟩⟩,.int .i64 b.from_.low,.int .i64 b.from_.high,.int .i64 b.wide,.int .i64 b.aC.low,.int .i64 b.aC.high,.slice d22 b.marks.length E] 56)::(u,lU e)::(t,.cells #[.int .i64 a.ax.e0,.int .i64 a.ax.e1,.int .i64 a.ax.e2,.int .i64 a.ax.e3,.int .i64 a.az.e0,.int .i64 a.az.e1,.int .i64 a.az.e2,.int .i64 a.az.e3,.int .u64 a.an] 84)::(s,.cells #[.int .i64 u0.steps,.int .i64 u0.an,.slice (some P) u0.aj.length c4] 87)::[]⟩/\slot p 29= .int .i64 (i34:Int)/\slot p 4= .bool o) b.marks.length ?_ ?_
  .refine ⟨0,v11,q,(Nat.sub_zero _).symm,Nat.zero_le _,k,rfl,?_⟩;simp only[*,go_sem,-h]
  rintro m2 d F' c ⟨i34,o,e,rfl,du,k,rfl,dv,dC⟩;have h:=True.intro;have dE:sz d=57:=by rw[c.size];simp only[*,go_sem,-h]
  have dT:d.defers=[]:=by rw[c.defers];simp only[*,go_sem,-h]
  have ea:slot d 2= .pointer (some ⟨s,0,none⟩):=by rw[c.aA 2 ay];simp only[*,go_sem,-h]
  have eb:slot d 3= .pointer (some ⟨t,0,none⟩):=by rw[c.aA 3 ay];simp only[*,go_sem,-h]
  have ec:slot d 5= .map (some u):=by rw[c.aA 5 ay];simp only[*,go_sem,-h]
  have ed:slot d 6= .int .i64 (i13:Int):=by rw[c.aA 6 ay];simp only[*,go_sem,-h]
  have eh:slot d 7= .pointer (some ⟨F,0,none⟩):=by rw[c.aA 7 ay];simp only[*,go_sem,-h]
  have et:slot d 16= .slice (some P) u0.aj.length c4:=by rw[c.aA 16 ay];simp only[*,go_sem,-h]
  have ev:slot d 17= .int .i64 (u0.aj.length:Int):=by rw[c.aA 17 ay];simp only[*,go_sem,-h]
  have eQ:slot d 18= .int .i64 (i13:Int):=by rw[c.aA 18 ay];simp only[*,go_sem,-h]
  have eS:slot d 19= .bool true:=by rw[c.aA 19 ay];simp only[*,go_sem,-h]
  have fa:slot d 20= .int .i64 (i13:Int):=by rw[c.aA 20 ay];simp only[*,go_sem,-h]
  have fb:slot d 22= .agg #[.string ⟨⟨b.name⟩⟩,.int .i64 b.from_.low,.int .i64 b.from_.high,.int .i64 b.wide,.int .i64 b.aC.low,.int .i64 b.aC.high,.slice d22 b.marks.length E]:=by rw[c.aA 22 ay];simp only[*,go_sem,-h]
  have fc:slot d 23= .agg #[.int .i64 a.ax.e0,.int .i64 a.ax.e1,.int .i64 a.ax.e2,.int .i64 a.ax.e3,.int .i64 a.az.e0,.int .i64 a.az.e1,.int .i64 a.az.e2,.int .i64 a.az.e3,.int .u64 a.an]:=by rw[c.aA 23 ay];simp only[*,go_sem,-h]
  have fg:slot d 24= .int .i64 (i13:Int):=by rw[c.aA 24 ay];simp only[*,go_sem,-h]
  have fh:slot d 25= .bool false:=by rw[c.aA 25 ay];simp only[*,go_sem,-h]
  have fi:slot d 26= .pointer (some ⟨F,6,none⟩):=by rw[c.aA 26 ay];simp only[*,go_sem,-h]
  have fj:slot d 27= .slice d22 b.marks.length E:=by rw[c.aA 27 ay];simp only[*,go_sem,-h]
  have fl:slot d 28= .int .i64 (b.marks.length:Int):=by rw[c.aA 28 ay];simp only[*,go_sem,-h]
  have fp:cq [4,6,7,9,10,11,12,18,19,20,21,22,23,24,25,26,27,28,29,30,31,32,33,34,35,36,37,38,39,40,41,42,43,44,45,46,47,48,49,50,51,52,53,54,55,56] d g:=(c.eg ay).trans au;clear c ae al ao ar a0 a2 a3 ad ab;refine af hJ ?_;refine ah hJ ?_;apply aa _;refine af hJ ?_;rcases Nat.lt_or_ge i34 b.marks.length with b0|S
  .refine aL hJ au ?_;refine aR hJ ?_;obtain ⟨y,H⟩:∃x,b.marks[i34]?=some x:=⟨_,List.getElem?_eq_getElem b0⟩
   rw[ey H] at k;have h':=av k;clear k h;obtain ⟨fr,h,z⟩:=h';unfold mh at h;(try dsimp only at h);obtain ⟨fs,b1,b2,b3,B⟩:=a8 _ _ H;obtain rfl:b1=y.cells:=b3;cases b2;have b4:=B 0 _ rfl;simp only[go_sem] at b4;have ca:=B 1 _ rfl;simp only[go_sem] at ca;have cb:=B 2 _ rfl;simp only[go_sem] at cb;clear B H;refine af hJ ?_;refine bf hJ ?_;refine af hJ ?_;refine ah hJ ?_;apply aa _;intro ft f42;have fu:=aT f42;have cc:=aU f42;(try simp only[aN] at cc);(try apply aa _);refine af hJ ?_;refine ah hJ ?_;have h':=av h;clear h;obtain ⟨C,cd,h⟩:=h';apply aa _;refine bl hJ _ (tT u0 (L.mono aX) a (i13:Int) y cd) (aQ ?_);(try apply aa _);intro fv f45;have fw:=aT f45;have cf:=aU f45;(try simp only[aN] at cf);(try apply aa _);refine af hJ ?_;refine af hJ ?_;refine ah hJ ?_;apply aa _;refine DV (l:=e) au ?_;(try refine aQ ?_);(try apply aa _);intro fx f46;have fz:=aT f46;have ck:=aU f46;(try simp only[aN] at ck);(try apply aa _);refine af hJ ?_;refine ah hJ ?_;have h':=aD h;clear h;rcases h' with ⟨I,h⟩|⟨I,h⟩
   ·(try simp only[Int.ofNat_lt] at I);(try apply aa _);have h':=aD h;clear h;rcases h' with ⟨K,h⟩|⟨K,h⟩
    ·(try simp only[Int.ofNat_lt] at K);refine aL hJ au ?_;refine af hJ ?_;refine ah hJ ?_;apply aa _;have h':=Option.some.inj h;clear h;subst h';have h':=Option.some.inj z;clear z;subst h';have h:=R;dsimp only[aJ] at h;have h':=Option.some.inj h;clear h;subst h';have h':=Option.some.inj w;clear w;subst h';have h:=N;dsimp only[aJ] at h;have h':=Option.some.inj h;clear h;subst h';refine aI ?_;simp only[*,go_sem]
    (try simp only[Int.ofNat_lt] at K);refine aM hJ au ?_;refine aR hJ ?_;refine ah hJ ?_;apply aa _;refine y4 (l:=e) (v:=C) au ?_;(try refine aQ ?_);(try apply aa _);have h':=Option.some.inj h;clear h;subst h';have h:=True.intro;have cl:=dH (n:=i34) (by have:=Q;omega);refine ah hJ ?_;apply aa _;refine ⟨b.marks.length - (i34+1),ai,_,Le.sub (List.Sublist.cons _ (List.Sublist.cons _ (List.Sublist.cons _ (List.Sublist.refl _)))),i34+1,o,(cC e y.bH C),rfl,ai,z,rfl,?_⟩;simp only[*,go_sem,-h]
   (try simp only[Int.ofNat_lt] at I);(try apply aa _);refine aM hJ au ?_;refine aR hJ ?_;refine ah hJ ?_;apply aa _;refine y4 (l:=e) (v:=C) au ?_;(try refine aQ ?_);(try apply aa _);have h':=Option.some.inj h;clear h;subst h';have h:=True.intro;have cl:=dH (n:=i34) (by have:=Q;omega);refine ah hJ ?_;apply aa _;refine ⟨b.marks.length - (i34+1),ai,_,Le.sub (List.Sublist.cons _ (List.Sublist.cons _ (List.Sublist.cons _ (List.Sublist.refl _)))),i34+1,o,(cC e y.bH C),rfl,ai,z,rfl,?_⟩;simp only[*,go_sem,-h]
  have gg:=Nat.not_lt.2 S;refine aM hJ au ?_;rw[List.drop_eq_nil_of_le S] at k;have h':=Option.some.inj k;clear k h;subst h';have h:=R;dsimp only[aJ] at h;refine bM ?_;simp only[go_sem];have h':=Option.some.inj h;clear h;subst h';have h:=True.intro;have br:=dH (n:=i13) (by have:=M;omega);refine ah hJ ?_;apply aa _;refine ⟨u0.aj.length - (i13+1),ai,_,Le.sub (List.Sublist.cons _ (List.Sublist.refl _)),i13+1,o,e,rfl,ai,w,rfl,?_⟩;simp only[*,go_sem,-h]
 have gj:=Nat.not_lt.2 O;refine aM hJ au ?_;rw[List.drop_eq_nil_of_le O] at f;have h':=Option.some.inj f;clear f h;subst h';have h:=N;dsimp only[aJ] at h;refine bM ?_;simp only[go_sem];refine af hJ ?_;refine ah hJ ?_;apply aa _;have h':=Option.some.inj h;clear h;subst h';refine aI ?_;simp only[*,go_sem]
end Go.Proofs.YtcoalekambhghaaGreatDoor
end

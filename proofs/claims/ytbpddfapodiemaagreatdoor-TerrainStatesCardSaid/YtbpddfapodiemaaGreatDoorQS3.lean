/- A part of the proof: QS3. -/
import Derived.Test.YtbpddfapodiemaaGreatDoorQS2
set_option linter.all false
section
namespace Go.Sep
open Go Go.Conc
def qW (ops:Array Oper)(cr:List Nat)(i:Nat):Bool:=cr.all fun j=>match ops[j]? with
 |some o=>o.after.any fun e=>Region.binds .any e&&e.on==i
 |none=>true
section
variable {P:Program}{main:Bool}{J:Goroutine->af->Prop}{ops:Array Oper}{Q:Act->af->Prop}{S:af->Prop}{cr:List Nat}
def eG (P:Program)(J:Goroutine->af->Prop)(ops:Array Oper)(Q:Act->af->Prop)(S:af->Prop)(cr:List Nat):Nat->Array Bool->Act->af->Prop
 |0,listed,a,F=>Region.ready .any ops listed=[]/\Q a F
 |fuel+1,listed,a,F=>(Region.ready .any ops listed=[]->Q a F)/\
  ∀i∈Region.ready .any ops listed,ej P J ops i (fun b F'=>(¬i∈cr->S F->S F')/\eG P J ops Q S cr fuel (listed.setIfInBounds i true) b F') a F
theorem GP:∀(fuel t:Nat) (listed:Array Bool) (a:Act) (F:af),eG P J ops Q S cr fuel listed a F->
  gw P J ops Q (Region.linearise.go .any ops fuel t listed []) a F:=by
 intro fuel
 induction fuel with
 |zero=>intro t listed a F h;simpa [Region.linearise.go,gw] using h.2
 |succ fuel ih=>
  intro t listed a F h
  obtain ⟨b,c⟩:=h
  simp only[Region.linearise.go]
  change gw P J ops Q (match (Region.ready .any ops listed)[t % (Region.ready .any ops listed).length]? with
   |some i=>Region.linearise.go .any ops fuel (t/(Region.ready .any ops listed).length) (listed.setIfInBounds i true) [i]
   |none=>[].reverse) a F
  cases hi:(Region.ready .any ops listed)[t % (Region.ready .any ops listed).length]? with
  |none=>
   have d:Region.ready .any ops listed=[]:=by
    cases e:Region.ready .any ops listed with
    |nil=>rfl
    |cons x xs=>
     rw[e] at hi
     have f:t % (x::xs).length<(x::xs).length:=Nat.mod_lt _ ax
     simp at hi
     simp at f
     omega
   simpa [gw] using b d
  |some i=>
   simp only[]
   rw[linearise_go_acc,List.reverse_singleton,List.singleton_append]
   exact qw (fun a F h=>ih _ _ a F h.2) (c i (List.mem_of_getElem? hi))
theorem GQ {i:Nat}{l:Oper}{v:Value}(hi:ops[i]?=some l)(m:qW ops cr i=true)(w:∀(j:Nat) (o:Oper) cs b,ops[j]?=some o->o.op≠ .select cs b):
  ∀(fuel:Nat) (listed:Array Bool) (a:Act) (F:af),
   (∀j f,ops[j]?=some f->j≠i->listed.getD j true=false->(∀e∈f.after,Region.binds .any e=true->e.on≠i)->l.apart ops f=true)->
   i∈Region.ready .any ops listed->gh P J ops S l v a->S F->
   eG P J ops Q S cr fuel (listed.setIfInBounds i true) (a.put l.dst v) F->eG P J ops Q S cr (fuel+1) listed a F:=by
 intro fuel
 induction fuel with
 |zero=>
  intro listed a F _ g n p H
  refine ⟨fun h=>(by rw[h] at g;cases g),fun j q=>?_⟩
  by_cases d:j=i
  .subst d;exact n.oE hi p ⟨fun _ h=>h,H⟩
  .have:=ready_mono q d
   rw[H.1] at this
   cases this
 |succ fuel ih=>
  intro listed a F y g n p H
  refine ⟨fun h=>(by rw[h] at g;cases g),fun j q=>?_⟩
  by_cases d:j=i
  .subst d;exact n.oE hi p ⟨fun _ h=>h,H⟩
  .have c:=H.2 j (ready_mono q d)
   obtain ⟨z,f,r,E⟩:=mem_ready.1 q
   have A:∀e∈f.after,Region.binds .any e=true->e.on≠i:=fun e he hb heq=>by
    have c:=E e he hb
    have B:=(mem_ready.1 g).1
    rw[heq] at c
    rcases Nat.lt_or_ge i listed.size with t|t
    .simp[t] at B c;rw[B] at c;cases c
    .simp[Array.getElem?_eq_none t] at c
   have G:¬j∈cr:=fun e=>by
    have m:=List.all_eq_true.1 m j e
    simp only[r,Array.any_eq_true,Bool.and_eq_true,beq_iff_eq] at m
    obtain ⟨x,I,c,u⟩:=m
    exact A _ (Array.getElem_mem I) c u
   have u:=vU r (y j f r d z A) (fun cs b=>w i l cs b hi) (fun cs b=>w j f cs b r) n c
   have K:∀k ok,ops[k]?=some ok->k≠i->(listed.setIfInBounds j true).getD k true=false->
     (∀e∈ok.after,Region.binds .any e=true->e.on≠i)->l.apart ops ok=true:=fun k ok L M C N=>by
    refine y k ok L M ?_ N
    by_cases D:j=k
    .subst D;exact z
    .rw[getD_set_ne true D] at C;exact C
   refine qw (fun O F' s=>⟨s.2.1,ih (listed.setIfInBounds j true) O F' K (ready_mono g (Ne.symm d)) s.1 (s.2.1 G p) ?_⟩) u
   rw[Array.setIfInBounds_comm _ _ d]
   exact s.2.2
theorem GR {i:Nat}{l:Oper}{v:Value}(hi:ops[i]?=some l)(s:∀(j:Nat) (o:Oper) cs b,ops[j]?=some o->o.op≠ .select cs b):
  ∀(fuel:Nat) (listed:Array Bool) (a:Act) (F:af),
   (∀j d,ops[j]?=some d->j≠i->listed.getD j true=false->(∀e∈d.after,Region.binds .any e=true->e.on≠i)->l.apart ops d=true)->
   i∈Region.ready .any ops listed->gh P J ops (fun _=>True) l v a->
   eG P J ops Q S cr fuel (listed.setIfInBounds i true) (a.put l.dst v) F->eG P J ops Q S cr (fuel+1) listed a F:=by
 intro fuel
 induction fuel with
 |zero=>
  intro listed a F _ f m H
  refine ⟨fun h=>(by rw[h] at f;cases f),fun j n=>?_⟩
  by_cases c:j=i
  .subst c;exact m.oE hi trivial ⟨fun _ h=>h,H⟩
  .have:=ready_mono n c
   rw[H.1] at this
   cases this
 |succ fuel ih=>
  intro listed a F t f m H
  refine ⟨fun h=>(by rw[h] at f;cases f),fun j n=>?_⟩
  by_cases c:j=i
  .subst c;exact m.oE hi trivial ⟨fun _ h=>h,H⟩
  .have g:=H.2 j (ready_mono n c)
   obtain ⟨u,d,p,z⟩:=mem_ready.1 n
   have A:∀e∈d.after,Region.binds .any e=true->e.on≠i:=fun e he hb heq=>by
    have g:=z e he hb
    have w:=(mem_ready.1 f).1
    rw[heq] at g
    rcases Nat.lt_or_ge i listed.size with q|q
    .simp[q] at w g;rw[w] at g;cases g
    .simp[Array.getElem?_eq_none q] at g
   have B:=vU p (t j d p c u A) (fun cs b=>s i l cs b hi) (fun cs b=>s j d cs b p) m g
   have C:∀k ok,ops[k]?=some ok->k≠i->(listed.setIfInBounds j true).getD k true=false->
     (∀e∈ok.after,Region.binds .any e=true->e.on≠i)->l.apart ops ok=true:=fun k ok D E x G=>by
    refine t k ok D E ?_ G
    by_cases y:j=k
    .subst y;exact u
    .rw[getD_set_ne true y] at x;exact x
   refine qw (fun I F' r=>⟨r.2.1,ih (listed.setIfInBounds j true) I F' C (ready_mono f (Ne.symm c)) r.1 ?_⟩) B
   rw[Array.setIfInBounds_comm _ _ c]
   exact r.2.2
theorem BJ (i:Nat){c:Oper}(v:Value){fuel:Nat}{listed:Array Bool}{a:Act}{F:af}(hi:ops[i]?=some c)
  (b:(Region.noSelect ops&&Region.free .any ops listed i&&(Region.ready .any ops listed).contains i)=true)
  (d:qW ops cr i=true) (e:gh P J ops S c v a) (f:S F)
  (h:eG P J ops Q S cr fuel (listed.setIfInBounds i true) (a.put c.dst v) F):eG P J ops Q S cr (fuel+1) listed a F:=by
 simp only[Bool.and_eq_true] at b
 exact GQ hi d (Region.noSelect_spec b.1.1) fuel listed a F (Region.free_spec hi b.1.2) (by simpa using b.2) e f h
theorem w9 {rs:List Nat}{fuel:Nat}{listed:Array Bool}{a:Act}{F:af}(b:Region.ready .any ops listed=rs)(aN:rs≠[])
  (h:∀i∈rs,ej P J ops i (fun c F'=>(¬i∈cr->S F->S F')/\eG P J ops Q S cr fuel (listed.setIfInBounds i true) c F') a F):eG P J ops Q S cr (fuel+1) listed a F:=
 ⟨fun d=>absurd (b▸d) aN,b▸h⟩
theorem BK (i:Nat){fuel:Nat}{listed:Array Bool}{a:Act}{F:af}(b:Region.ready .any ops listed=[i])
  (h:ej P J ops i (fun c F'=>(¬i∈cr->S F->S F')/\eG P J ops Q S cr fuel (listed.setIfInBounds i true) c F') a F):eG P J ops Q S cr (fuel+1) listed a F:=
 w9 b ax (by simpa using h)
theorem BL {listed:Array Bool}{a:Act}{F:af}(b:Region.ready .any ops listed=[])(h:Q a F):∀fuel,eG P J ops Q S cr fuel listed a F
 |0=>⟨b,h⟩
 |_+1=>⟨fun _=>h,by rw[b];simp⟩
end
theorem xb {P:Program}{J:Goroutine->af->Prop}{ops:Array Oper}{Q:Act->af->Prop}{S:af->Prop}{cr:List Nat}(i:Nat){b:Oper}(v:Value){fuel:Nat}{listed:Array Bool}{a:Act}{F:af}(hi:ops[i]?=some b)
  (d:(Region.noSelect ops&&Region.free .any ops listed i&&(Region.ready .any ops listed).contains i)=true)
  (e:qW ops cr i=true) (hg:cQ ops b a=some true) (f:∀F R,S F->R v F->c5 P J b R a F) (c:S F)
  (h:eG P J ops Q S cr fuel (listed.setIfInBounds i true) (bB a b.dst v) F):eG P J ops Q S cr (fuel+1) listed a F:=
 BJ i v hi d e (.inl ⟨cB hg,fun F R c g=>lV (f F R c g)⟩) c h
theorem GU {P:Program}{J:Goroutine->af->Prop}{ops:Array Oper}{Q:Act->af->Prop}{S:af->Prop}{cr:List Nat}(i:Nat){b:Oper}{fuel:Nat}{listed:Array Bool}{a:Act}{F:af}(hi:ops[i]?=some b)
  (c:(Region.noSelect ops&&Region.free .any ops listed i&&(Region.ready .any ops listed).contains i)=true)
  (d:qW ops cr i=true) (hg:cQ ops b a=some false) (e:S F)
  (h:eG P J ops Q S cr fuel (listed.setIfInBounds i true) (bB a b.dst undef) F):eG P J ops Q S cr (fuel+1) listed a F:=
 BJ i undef hi c d (.inr ⟨cB hg,rfl⟩) e h
theorem BM {P:Program}{J:Goroutine->af->Prop}{ops:Array Oper}{Q:Act->af->Prop}{S:af->Prop}{cr:List Nat}(i:Nat){c:Oper}(v:Value){fuel:Nat}{listed:Array Bool}{a:Act}{F:af}(hi:ops[i]?=some c)
  (b:(Region.noSelect ops&&Region.free .any ops listed i&&(Region.ready .any ops listed).contains i)=true)
  (d:gh P J ops (fun _=>True) c v a)
  (h:eG P J ops Q S cr fuel (listed.setIfInBounds i true) (bB a c.dst v) F):eG P J ops Q S cr (fuel+1) listed a F:=by
 simp only[Bool.and_eq_true] at b
 exact GR hi (Region.noSelect_spec b.1.1) fuel listed a F (Region.free_spec hi b.1.2) (by simpa using b.2) d h
inductive cC where
 |done
 |rd (i:Nat) (p:cC)
 |one (i:Nat) (p:cC)
 |two (i:Nat) (p:cC) (j:Nat) (q:cC)
 |three (i:Nat) (p:cC) (j:Nat) (q:cC) (k:Nat) (r:cC)
 |last (i:Nat) (p:cC)
 |pure (i:Nat) (p:cC)
inductive gr where
 |done
 |rd (o:Oper) (p:gr)
 |one (o:Oper) (p:gr)
 |two (o:Oper) (p:gr) (o':Oper) (q:gr)
 |three (o:Oper) (p:gr) (o':Oper) (q:gr) (j3:Oper) (r:gr)
 |last (o:Oper) (p:gr)
 |pure (o:Oper) (p:gr)
 |bad
def cC.opers (ops:Array Oper):cC->gr
 | .done=>.done
 | .rd i p=>match ops[i]? with
  |some o=>.rd o (p.opers ops)
  |none=>.bad
 | .one i p=>match ops[i]? with
  |some o=>.one o (p.opers ops)
  |none=>.bad
 | .two i p j q=>match ops[i]?,ops[j]? with
  |some o,some o'=>.two o (p.opers ops) o' (q.opers ops)
  |_,_=>.bad
 | .three i p j q k r=>match ops[i]?,ops[j]?,ops[k]? with
  |some o,some o',some j3=>.three o (p.opers ops) o' (q.opers ops) j3 (r.opers ops)
  |_,_,_=>.bad
 | .last i p=>match ops[i]? with
  |some o=>.last o (p.opers ops)
  |none=>.bad
 | .pure i p=>match ops[i]? with
  |some o=>.pure o (p.opers ops)
  |none=>.bad
def cC.tl:cC->Bool
 | .done=>true
 | .last _ p=>p.tl
 | .pure _ p=>p.tl
 |_=>false
def cC.ok (ops:Array Oper)(cr:List Nat):cC->Array Bool->Bool
 | .done,L=>decide (Region.ready .any ops L=[])
 | .rd i p,L=>Region.free .any ops L i&&(Region.ready .any ops L).contains i&&(ops[i]?).isSome&&qW ops cr i&&p.ok ops cr (L.setIfInBounds i true)
 | .one i p,L=>decide (Region.ready .any ops L=[i])&&(ops[i]?).isSome&&p.ok ops cr (L.setIfInBounds i true)
 | .two i p j q,L=>decide (Region.ready .any ops L=[i,j])&&(ops[i]?).isSome&&(ops[j]?).isSome&&p.ok ops cr (L.setIfInBounds i true)&&q.ok ops cr (L.setIfInBounds j true)
 | .three i p j q k r,L=>decide (Region.ready .any ops L=[i,j,k])&&(ops[i]?).isSome&&(ops[j]?).isSome&&(ops[k]?).isSome&&p.ok ops cr (L.setIfInBounds i true)&&q.ok ops cr (L.setIfInBounds j true)&&r.ok ops cr (L.setIfInBounds k true)
 | .pure i p,L=>Region.free .any ops L i&&(Region.ready .any ops L).contains i&&(ops[i]?).isSome&&p.ok ops cr (L.setIfInBounds i true)
 | .last i p,L=>cr.contains i&&decide (Region.ready .any ops L=[i])&&p.tl&&(ops[i]?).isSome&&p.ok ops cr (L.setIfInBounds i true)
def cC.len:cC->Nat
 | .done=>0
 | .rd _ p=>p.len+1
 | .one _ p=>p.len+1
 | .two _ p _ q=>max p.len q.len+1
 | .three _ p _ q _ r=>max p.len (max q.len r.len)+1
 | .last _ p=>p.len+1
 | .pure _ p=>p.len+1
def cz (P:Program)(J:Goroutine->af->Prop)(ops:Array Oper)(F0:af)(Q:Act->af->Prop):gr->Bool->Act->af->Prop
 | .done,_,a,F=>Q a F
 | .bad,_,_,_=>False
 | .rd o p,_,a,F=>match cQ ops o a with
  |some false=>cz P J ops F0 Q p true (bB a o.dst undef) F
  |some true=>match o.op with
   | .load t x=>match ev a x with
    | .pointer (some ad)=>match fR P F0 t ad with
     |some v=>cz P J ops F0 Q p true (bB a o.dst v) F
     |none=>False
    |_=>False
   | .call {callee:=.value x,args, ..}=>match ev a x with
    | .func (.func fn) first captured=>aS P fn=true/\∃v,Plain P J F0 fn (first++args.map (ev a)++captured) v/\cz P J ops F0 Q p false (bB a o.dst v) F
    |_=>False
   |_=>match jy P o a with
    |some v=>cz P J ops F0 Q p true (bB a o.dst v) F
    |none=>False
  |none=>False
 | .one o p,_,a,F=>match cQ ops o a with
  |some true=>c5 P J o (fun v F'=>Knows F0 F'/\cz P J ops F0 Q p (!Oper.calls o) (bB a o.dst v) F') a F
  |some false=>cz P J ops F0 Q p true (bB a o.dst undef) F
  |none=>False
 | .two o p o' q,_,a,F=>(match cQ ops o a with
  |some true=>c5 P J o (fun v F'=>Knows F0 F'/\cz P J ops F0 Q p (!Oper.calls o) (bB a o.dst v) F') a F
  |some false=>cz P J ops F0 Q p true (bB a o.dst undef) F
  |none=>False)/\(match cQ ops o' a with
  |some true=>c5 P J o' (fun v F'=>Knows F0 F'/\cz P J ops F0 Q q (!Oper.calls o') (bB a o'.dst v) F') a F
  |some false=>cz P J ops F0 Q q true (bB a o'.dst undef) F
  |none=>False)
 | .three o p o' q j3 r,_,a,F=>(match cQ ops o a with
  |some true=>c5 P J o (fun v F'=>Knows F0 F'/\cz P J ops F0 Q p (!Oper.calls o) (bB a o.dst v) F') a F
  |some false=>cz P J ops F0 Q p true (bB a o.dst undef) F
  |none=>False)/\(match cQ ops o' a with
  |some true=>c5 P J o' (fun v F'=>Knows F0 F'/\cz P J ops F0 Q q (!Oper.calls o') (bB a o'.dst v) F') a F
  |some false=>cz P J ops F0 Q q true (bB a o'.dst undef) F
  |none=>False)/\(match cQ ops j3 a with
  |some true=>c5 P J j3 (fun v F'=>Knows F0 F'/\cz P J ops F0 Q r (!Oper.calls j3) (bB a j3.dst v) F') a F
  |some false=>cz P J ops F0 Q r true (bB a j3.dst undef) F
  |none=>False)
 | .pure o p,_,a,F=>match cQ ops o a with
  |some false=>cz P J ops F0 Q p true (bB a o.dst undef) F
  |some true=>match jy P o a with
   |some v=>cz P J ops F0 Q p true (bB a o.dst v) F
   |none=>False
  |none=>False
 | .last o p,_,a,F=>match cQ ops o a with
  |some true=>c5 P J o (fun v F'=>cz P J ops F0 Q p (!Oper.calls o) (bB a o.dst v) F') a F
  |_=>False
section
variable {P:Program}{main:Bool}{J:Goroutine->af->Prop}{ops:Array Oper}{Q:Act->af->Prop}{F0:af}{cr:List Nat}
theorem oP {p:cC}{i:Nat}{o:Oper}{fuel:Nat}{L:Array Bool}{a:Act}{F:af}(b:ops[i]?=some o)(d:Knows F0 F)
  (ih:∀go a F,Knows F0 F->cz P J ops F0 Q (p.opers ops) go a F->eG P J ops Q (Knows F0) cr fuel (L.setIfInBounds i true) a F)
  (h:match cQ ops o a with
   |some true=>c5 P J o (fun v F'=>Knows F0 F'/\cz P J ops F0 Q (p.opers ops) (!Oper.calls o) (bB a o.dst v) F') a F
   |some false=>cz P J ops F0 Q (p.opers ops) true (bB a o.dst undef) F
   |none=>False):ej P J ops i (fun e F'=>(¬i∈cr->Knows F0 F->Knows F0 F')/\eG P J ops Q (Knows F0) cr fuel (L.setIfInBounds i true) e F') a F:=by
 split at h
 .rename_i hg
  unfold ej
  simp only[b]
  rw[if_pos (cB hg)]
  refine lV (m5.tf ?_ h)
  rintro v F' ⟨c,f⟩
  exact ⟨fun _ _=>c,ih _ _ F' c f⟩
 .rename_i hg
  unfold ej
  simp only[b]
  rw[if_neg (by rw[cB hg];exact Bool.false_ne_true)]
  exact ⟨fun _ g=>g,ih _ _ F d h⟩
 .exact h.elim
theorem BN {p:cC}{i:Nat}{fuel:Nat}{L:Array Bool}{go:Bool}{a:Act}{F:af}(d:Region.noSelect ops=true)(hc:(cC.pure i p).ok ops cr L=true)
  (ih:∀go v a,p.ok ops cr (L.setIfInBounds i true)=true->cz P J ops F0 Q (p.opers ops) go (bB a ((ops[i]?).bind (·.dst)) v) F->eG P J ops Q (Knows F0) cr fuel (L.setIfInBounds i true) (bB a ((ops[i]?).bind (·.dst)) v) F)
  (h:cz P J ops F0 Q ((cC.pure i p).opers ops) go a F):eG P J ops Q (Knows F0) cr (fuel+1) L a F:=by
 simp only[cC.ok,Bool.and_eq_true] at hc
 obtain ⟨⟨⟨c1,c2⟩,c3⟩,c4⟩:=hc
 obtain ⟨o,b⟩:=Option.isSome_iff_exists.1 c3
 have c:(Region.noSelect ops&&Region.free .any ops L i&&(Region.ready .any ops L).contains i)=true:=by rw[d,c1,c2];rfl
 have e:cC.opers ops (.pure i p)= .pure o (p.opers ops):=by simp only[cC.opers,b]
 rw[e] at h
 have hd:(ops[i]?).bind (·.dst)=o.dst:=by rw[b];rfl
 rw[hd] at ih
 unfold cz at h
 split at h
 .rename_i hg
  exact BM i undef b c (.inr ⟨cB hg,rfl⟩) (ih _ _ _ c4 h)
 .rename_i hg
  split at h
  .rename_i v f
   exact BM i v b c (.inl ⟨cB hg,fun F R _ g=>lV (s9 f g)⟩) (ih _ _ _ c4 h)
  .exact h.elim
 .exact h.elim
theorem xd (c:Region.noSelect ops=true):∀(p:cC) (fuel:Nat) (L:Array Bool) (go:Bool) (a:Act) (F:af),p.tl=true->p.len<=fuel->p.ok ops cr L=true->cz P J ops F0 Q (p.opers ops) go a F->eG P J ops Q (Knows F0) cr fuel L a F
 | .done,fuel,L,go,a,F,_,b,hc,h=>by
  simp only[cC.ok,decide_eq_true_eq] at hc
  unfold cC.opers cz at h
  exact BL hc h _
 | .last i p,fuel,L,go,a,F,ht,b,hc,h=>by
  simp only[cC.ok,Bool.and_eq_true,decide_eq_true_eq] at hc
  obtain ⟨⟨⟨⟨c1,c2⟩,c3⟩,c4⟩,e⟩:=hc
  obtain ⟨o,d⟩:=Option.isSome_iff_exists.1 c4
  have g:cC.opers ops (.last i p)= .last o (p.opers ops):=by simp only[cC.opers,d]
  rw[g] at h
  simp only[cC.len] at b
  obtain ⟨fuel,rfl⟩:∃f,fuel=f+1:=⟨fuel - 1,aa⟩
  unfold cz at h
  refine BK i c2 ?_
  split at h
  .rename_i hg
   unfold ej
   simp only[d]
   rw[if_pos (cB hg)]
   refine lV (m5.tf ?_ h)
   exact fun v F' j=>⟨fun aN _=>absurd (by simpa using c1) aN,xd c p fuel _ _ _ F' c3 aa e j⟩
  .exact h.elim
 | .pure i p,fuel,L,go,a,F,ht,b,hc,h=>by
  simp only[cC.len] at b
  obtain ⟨fuel,rfl⟩:∃f,fuel=f+1:=⟨fuel - 1,aa⟩
  exact BN c hc (fun go v a c4 k=>xd c p fuel _ go _ F ht aa c4 k) h
 | .rd _ _,_,_,_,_,_,ht,_,_,_=>by cases ht
 | .one _ _,_,_,_,_,_,ht,_,_,_=>by cases ht
 | .two ..,_,_,_,_,_,ht,_,_,_=>by cases ht
 | .three ..,_,_,_,_,_,ht,_,_,_=>by cases ht
theorem kV (e:Region.noSelect ops=true):∀(p:cC) (fuel:Nat) (L:Array Bool) (go:Bool) (a:Act) (F:af),Knows F0 F->p.len<=fuel->p.ok ops cr L=true->cz P J ops F0 Q (p.opers ops) go a F->eG P J ops Q (Knows F0) cr fuel L a F
 | .done,fuel,L,go,a,F,b,d,hc,h=>by
  simp only[cC.ok,decide_eq_true_eq] at hc
  unfold cC.opers cz at h
  exact BL hc h _
 | .rd i p,fuel,L,go,a,F,b,d,hc,h=>by
  simp only[cC.ok,Bool.and_eq_true] at hc
  obtain ⟨⟨⟨⟨c1,c2⟩,c3⟩,g⟩,c4⟩:=hc
  obtain ⟨o,c⟩:=Option.isSome_iff_exists.1 c3
  have w:(Region.noSelect ops&&Region.free .any ops L i&&(Region.ready .any ops L).contains i)=true:=by rw[e,c1,c2];rfl
  have l:cC.opers ops (.rd i p)= .rd o (p.opers ops):=by simp only[cC.opers,c]
  rw[l] at h
  simp only[cC.len] at d
  obtain ⟨fuel,rfl⟩:∃f,fuel=f+1:=⟨fuel - 1,aa⟩
  have next:∀go v,cz P J ops F0 Q (p.opers ops) go (bB a o.dst v) F->eG P J ops Q (Knows F0) cr fuel (L.setIfInBounds i true) (bB a o.dst v) F:=fun go v m=>
   kV e p fuel _ go _ F b aa c4 m
  unfold cz at h
  split at h
  .rename_i hg
   exact GU i c w g hg b (next true undef h)
  .rename_i hg
   split at h
   .rename_i t x z
    split at h
    case h_2=>exact h.elim
    rename_i ad B
    split at h
    case h_2=>exact h.elim
    rename_i v m
    refine xb i v c w g hg (fun F R y s=>?_) b (next _ v h)
    unfold c5
    simp only[z,B,y.fR m]
    exact s
   .rename_i x args argTypes z
    split at h
    case h_2=>exact h.elim
    rename_i fn first captured n
    obtain ⟨C,v,D,h⟩:=h
    refine xb i v c w g hg (fun F R y s=>?_) b (next _ v h)
    unfold c5
    simp only[z,n]
    exact ⟨C,(D F y).mono fun I F' E=>by obtain ⟨rfl,rfl⟩:=E;exact s⟩
   .split at h
    case h_2=>exact h.elim
    rename_i v m
    exact xb i v c w g hg (fun F R y s=>s9 m s) b (next _ v h)
  .exact h.elim
 | .one i p,fuel,L,go,a,F,b,d,hc,h=>by
  simp only[cC.ok,Bool.and_eq_true,decide_eq_true_eq] at hc
  obtain ⟨⟨c1,c3⟩,c4⟩:=hc
  obtain ⟨o,c⟩:=Option.isSome_iff_exists.1 c3
  have l:cC.opers ops (.one i p)= .one o (p.opers ops):=by simp only[cC.opers,c]
  rw[l] at h
  simp only[cC.len] at d
  obtain ⟨fuel,rfl⟩:∃f,fuel=f+1:=⟨fuel - 1,aa⟩
  unfold cz at h
  exact BK i c1 (oP c b (fun go a F b h=>kV e p fuel _ go a F b aa c4 h) h)
 | .two i p j q,fuel,L,go,a,F,b,d,hc,h=>by
  simp only[cC.ok,Bool.and_eq_true,decide_eq_true_eq] at hc
  obtain ⟨⟨⟨⟨c1,c2⟩,c3⟩,c4⟩,g⟩:=hc
  obtain ⟨o,c⟩:=Option.isSome_iff_exists.1 c2
  obtain ⟨o',u⟩:=Option.isSome_iff_exists.1 c3
  have l:cC.opers ops (.two i p j q)= .two o (p.opers ops) o' (q.opers ops):=by simp only[cC.opers,c,u]
  rw[l] at h
  simp only[cC.len] at d
  obtain ⟨fuel,rfl⟩:∃f,fuel=f+1:=⟨fuel - 1,aa⟩
  unfold cz at h
  refine w9 c1 ax fun x n=>?_
  simp only[List.mem_cons,List.not_mem_nil,or_false] at n
  rcases n with rfl|rfl
  .exact oP c b (fun go a F b h=>kV e p fuel _ go a F b aa c4 h) h.1
  .exact oP u b (fun go a F b h=>kV e q fuel _ go a F b aa g h) h.2
 | .three i p j q k r,fuel,L,go,a,F,b,d,hc,h=>by
  simp only[cC.ok,Bool.and_eq_true,decide_eq_true_eq] at hc
  obtain ⟨⟨⟨⟨⟨⟨c1,c2⟩,c3⟩,c4⟩,g⟩,G⟩,H⟩:=hc
  obtain ⟨o,c⟩:=Option.isSome_iff_exists.1 c2
  obtain ⟨o',u⟩:=Option.isSome_iff_exists.1 c3
  obtain ⟨j3,A⟩:=Option.isSome_iff_exists.1 c4
  have l:cC.opers ops (.three i p j q k r)= .three o (p.opers ops) o' (q.opers ops) j3 (r.opers ops):=by simp only[cC.opers,c,u,A]
  rw[l] at h
  simp only[cC.len] at d
  obtain ⟨fuel,rfl⟩:∃f,fuel=f+1:=⟨fuel - 1,aa⟩
  unfold cz at h
  refine w9 c1 ax fun x n=>?_
  simp only[List.mem_cons,List.not_mem_nil,or_false] at n
  rcases n with rfl|rfl|rfl
  .exact oP c b (fun go a F b h=>kV e p fuel _ go a F b aa g h) h.1
  .exact oP u b (fun go a F b h=>kV e q fuel _ go a F b aa G h) h.2.1
  .exact oP A b (fun go a F b h=>kV e r fuel _ go a F b aa H h) h.2.2
 | .last i p,fuel,L,go,a,F,b,d,hc,h=>xd e (.last i p) fuel L go a F (by simp only[cC.ok,Bool.and_eq_true] at hc;exact hc.1.1.2) d hc h
 | .pure i p,fuel,L,go,a,F,b,d,hc,h=>by
  simp only[cC.len] at d
  obtain ⟨fuel,rfl⟩:∃f,fuel=f+1:=⟨fuel - 1,aa⟩
  exact BN e hc (fun go v a c4 m=>kV e p fuel _ go _ F b aa c4 m) h
theorem eW {Q:Ex->Act->af->Prop}(hJ:Closed P main J)(d:P.follows .mixedOrders=true)(cr:List Nat)(p:cC){id:Nat}{a:Act}{F:af}(F0:af)(e:Knows F0 F)
  (c:(Region.noSelect ops&&decide (p.len<=ops.size)&&p.ok ops cr (Array.replicate ops.size false))=true)
  (h:cz P J ops F0 (Q .normal) (p.opers ops) true a F):Wp J (.region id ops true) Q a F:=by
 simp only[Bool.and_eq_true,decide_eq_true_eq] at c
 obtain ⟨⟨f,g⟩,i⟩:=c
 intro b k cs hb j
 refine hJ.step fun w hw=>?_
 refine ⟨_,_,_,F,Av,.drawn _ _ _,hw.drawn _,ax,?_⟩
 refine sO (K:=Q .normal) hJ (vX hb) (fun l F' m=>j .normal l F' m) _ _ _ ?_
 simp only[Region.schedule,d,Bool.true_or,if_true]
 exact GP ops.size _ _ a F (kV (cr:=cr) f p ops.size _ true a F e g i h)
end
theorem GV {P:Program}{J:Goroutine->af->Prop}{ops:Array Oper}{F0:af}{Q:Act->af->Prop}{go:Bool}{a:Act}{F:af}:cz P J ops F0 Q .done go a F=Q a F:=rfl
theorem GW {P:Program}{J:Goroutine->af->Prop}{ops:Array Oper}{F0:af}{Q:Act->af->Prop}{o:Oper}{p:gr}{a:Act}{F:af}:cz P J ops F0 Q (.rd o p) true a F=match cQ ops o a with
  |some false=>cz P J ops F0 Q p true (bB a o.dst undef) F
  |some true=>match o.op with
   | .load t x=>match ev a x with
    | .pointer (some ad)=>match fR P F0 t ad with
     |some v=>cz P J ops F0 Q p true (bB a o.dst v) F
     |none=>False
    |_=>False
   | .call {callee:=.value x,args, ..}=>match ev a x with
    | .func (.func fn) first captured=>aS P fn=true/\∃v,Plain P J F0 fn (first++args.map (ev a)++captured) v/\cz P J ops F0 Q p false (bB a o.dst v) F
    |_=>False
   |_=>match jy P o a with
    |some v=>cz P J ops F0 Q p true (bB a o.dst v) F
    |none=>False
  |none=>False:=(Eq.refl _).trans (Eq.refl _)
theorem BO {P:Program}{J:Goroutine->af->Prop}{ops:Array Oper}{F0:af}{Q:Act->af->Prop}{o:Oper}{p:gr}{a:Act}{F:af}:cz P J ops F0 Q (.one o p) true a F=match cQ ops o a with
  |some true=>c5 P J o (fun v F'=>Knows F0 F'/\cz P J ops F0 Q p (!Oper.calls o) (bB a o.dst v) F') a F
  |some false=>cz P J ops F0 Q p true (bB a o.dst undef) F
  |none=>False:=(Eq.refl _).trans (Eq.refl _)
theorem kW {P:Program}{J:Goroutine->af->Prop}{ops:Array Oper}{F0:af}{Q:Act->af->Prop}{o o':Oper}{p q:gr}{go:Bool}{a:Act}{F:af}(b:cz P J ops F0 Q (.one o p) true a F)(c:cz P J ops F0 Q (.one o' q) true a F):cz P J ops F0 Q (.two o p o' q) go a F:=by
 rw[BO] at b c;unfold cz;exact ⟨b,c⟩
theorem GX {P:Program}{J:Goroutine->af->Prop}{ops:Array Oper}{F0:af}{Q:Act->af->Prop}{o:Oper}{p:gr}{a:Act}{F:af}:cz P J ops F0 Q (.last o p) true a F=match cQ ops o a with
  |some true=>c5 P J o (fun v F'=>cz P J ops F0 Q p (!Oper.calls o) (bB a o.dst v) F') a F
  |_=>False:=(Eq.refl _).trans (Eq.refl _)
theorem GY {P:Program}{J:Goroutine->af->Prop}{ops:Array Oper}{F0:af}{Q:Act->af->Prop}{o:Oper}{p:gr}{a:Act}{F:af}:cz P J ops F0 Q (.pure o p) true a F=match cQ ops o a with
  |some false=>cz P J ops F0 Q p true (bB a o.dst undef) F
  |some true=>match jy P o a with
   |some v=>cz P J ops F0 Q p true (bB a o.dst v) F
   |none=>False
  |none=>False:=(Eq.refl _).trans (Eq.refl _)
theorem cj {P:Program}{J:Goroutine->af->Prop}{ops:Array Oper}{F0:af}{Q:Act->af->Prop}:∀{p:gr} {go:Bool} {a:Act} {F:af},cz P J ops F0 Q p true a F->cz P J ops F0 Q p go a F
 | .done,_,_,_,h=>h
 | .bad,_,_,_,h=>h
 | .rd ..,_,_,_,h=>h
 | .one ..,_,_,_,h=>h
 | .two ..,_,_,_,h=>h
 | .three ..,_,_,_,h=>h
 | .last ..,_,_,_,h=>h
 | .pure ..,_,_,_,h=>h
attribute [irreducible] cz
attribute [go_sem] GV GW BO GX GY cC.opers
theorem e7 {ro aW:Addr->Option Value}{l:List (Nat×Obj)}(a:Ext ro aW)(b:aJ aW l)(own:List (Nat×Obj)):Knows ⟨ro,l⟩ ⟨aW,own⟩=jx l own:=
 propext ⟨fun h=>h.2.2,FX a b⟩
section
variable {P:Program}{main:Bool}{J:Goroutine->af->Prop}{a:Act}{F:af}
def kX (l:Nat)(R:Value->af->Prop)(st:LoopState)(jump:Option Code)(F:af):Prop:=
 ∃lo,F.fL l=some (.loop lo)/\R (.bool jump.isNone) (F.put l (.loop {lo with state:=st,pending:=jump}))
def oQ (l:Nat)(R:Value->af->Prop):Ex->Act->af->Prop
 | .normal,_,F=>kX l R .ready none F
 | .exit id,_,F=>kX l R .done (some (.exit id)) F
 | .ret,_,F=>kX l R .done (some .ret) F
def oR (J:Goroutine->af->Prop)(l:Nat)(body:Code)(R:Value->af->Prop):Ex->Act->af->Prop
 | .normal,a,F=>∃lo,F.fL l=some (.loop lo)/\lo.state= .ready/\Wp J body (oQ l R) a (F.put l (.loop {lo with state:=.busy}))
 |_,_,_=>False
theorem xe {l:Nat}{R:Value->af->Prop}{st:LoopState}{jump:Option Code}(c:st=if jump.isNone then .ready else .done)(h:kX l R st jump F):bq P (Instr.endRound l jump) R F:=by
 obtain ⟨lo,a,b⟩:=h;simp only[Instr.endRound,Instr.getLoop,bH,oF];refine ⟨_,a,?_⟩;simp only[bT,bH,mQ,a,Option.isSome_some,Obj.isChan,true_and];rw[c] at b;exact b
theorem xg (hJ:Closed P main J){l:Nat}{b:Frame}{a:Act}{todo:List Item}{jump:Option Code}{c:Frame}{cs:List Frame}(f:b.kind= .normal)
  (hs:∀w,stepG P main (G (on b a todo) (c::cs)) w=GStep.after (seen P b.fn ((Instr.endRound l jump).runT P w #[]).2) (match ((Instr.endRound l jump).runT P w #[]).1 with
    | .ok v w=>doReturn P main (on b a todo) (c::cs) none v w
    | .halt _ w=>.ended (.stuck "range over a function: no such loop" ((on b a todo).pos P)) w))
  (h:bq P (Instr.endRound l jump) (fun v F'=>J (G (c.finish v) cs) F') F):J (G (on b a todo) (c::cs)) F:=by
 refine hJ.step fun w hw=>?_
 obtain ⟨v,w',F',es,H⟩:=lS _ F w #[] h hw
 have d:=H.run
 rw[Array.empty_append] at d
 refine ⟨G (c.finish v) cs,w',seen P b.fn es,F',?_,H.upd,H.has,fun e he=>H.iO e (mem_seen he),H.post⟩
 rw[hs w,d]
 have g:(on b a todo).kind= .normal:=f
 simp only[doReturn,g,GStep.after,G]
 simp
theorem jX.of_wp (hJ:Closed P main J){l:Nat}{f:FuncId}{tmps:Array Value}{assign body:Code}{R:Value->af->Prop}(hd:gi assign=true)(q:gi body=true)
  (h:Wp J assign (oR J l body R) {tmps:=tmps,defers:=[]} F):jX J l f tmps assign body F R:=by
 intro c cs j
 let b:Frame:={(default:Frame) with fn:=f,kind:=.normal,roundOf:=some l}
 have he:Frame.round l f tmps assign body .normal=on b {tmps:=tmps,defers:=[]} (.code assign::[.beginRound,.code body]):=rfl
 rw[he]
 refine h b [.beginRound,.code body] (c::cs) ⟨by simp[b],.inr hd⟩ fun e m F' d=>?_
 cases e with
 |exit i=>exact d.elim
 |ret=>exact d.elim
 |normal=>
  obtain ⟨lo,a,g,r⟩:=d
  show J (G (on b m [.beginRound,.code body]) (c::cs)) F'
  have s:bq P (do Instr.beginRound l;pure Next.skip:Sem Next) (fun n k=>n= .skip/\k=F'.put l (.loop {lo with state:=.busy})) F':=by
   simp only[Instr.beginRound,Instr.getLoop,bH,oF]
   refine ⟨_,a,?_⟩
   simp only[bT,bH,mQ,a,Option.isSome_some,Obj.isChan,true_and,g]
   all_goals first|trivial|exact ⟨rfl,rfl⟩
  refine hJ.step fun w hw=>?_
  obtain ⟨n,w',k,es,H⟩:=lS _ F' w #[] s hw
  have o:=H.run
  rw[Array.empty_append] at o
  obtain ⟨rfl,rfl⟩:=H.post
  refine ⟨G (on b m [.code body]) (c::cs),w',seen P b.fn es,_,?_,H.upd,H.has,fun e he=>H.iO e (mem_seen he),?_⟩
  .have t:b.roundOf=some l:=rfl
   simp only[G,stepG,stepG.exec,on,t,Option.elim,stepG.apply,if_true]
   have u:(b.kind==CallKind.early)=false:=rfl
   simp only[o,u,Bool.false_eq_true,if_false,GStep.after]
   simp[Frame.finish,undef]
  .refine r b [] (c::cs) ⟨by simp[b],.inr q⟩ fun e a2 k d=>?_
   cases e with
   |normal=>
    refine xg hJ (l:=l) (jump:=none) rfl (fun w=>?_) (xe rfl (R:=fun v F'=>J (G (c.finish v) cs) F') ?_)
    .simp only[G,stepG,stepG.exec,on]
     rfl
    .obtain ⟨lo,a,g⟩:=d
     exact ⟨lo,a,j _ _ g⟩
   |exit i=>
    intro p x
    refine xg hJ (l:=l) (jump:=some (.exit i)) rfl (fun w=>?_) (xe rfl (R:=fun v F'=>J (G (c.finish v) cs) F') ?_)
    .have y:exitTo i p=none:=x
     simp only[G,stepG,stepG.exec,on,y,Option.elim]
     rfl
    .obtain ⟨lo,a,g⟩:=d
     exact ⟨lo,a,j _ _ g⟩
   |ret=>
    intro p
    refine xg hJ (l:=l) (jump:=some .ret) rfl (fun w=>?_) (xe rfl (R:=fun v F'=>J (G (c.finish v) cs) F') ?_)
    .simp only[G,stepG,stepG.exec,on]
     rfl
    .obtain ⟨lo,a,g⟩:=d
     exact ⟨lo,a,j _ _ g⟩
def tA (Q:Ex->Act->af->Prop)(a:Act)(F:af):Option Code->Prop
 |none=>Q .normal a F
 |some (.exit id)=>Q (.exit id) a F
 |some .ret=>Q .ret a F
 |_=>False
def oS (b:FuncId)(a:Act)(params:Array Tmp)(assign body:Code)(d:Nat):Loop:={state:=.ready,pending:=none,fn:=b,tmps:=a.tmps,params:=params,assign:=assign,body:=body,defers:=d}
theorem GZ (hJ:Closed P main J){x:Operand}{params:Array Tmp}{assign body:Code}{Q:Ex->Act->af->Prop}{fn:FuncId}{first captured:Array Value}
  (E:ev a x= .func (.func fn) first captured) (I:aS P fn=true)
  (L:∀M d l,eC F d->eC (F.push d (.deferred (some []))) l->
   dr P J fn (first++#[.func (.yield l) #[] #[]]++captured) ((F.push d (.deferred (some []))).push l (.loop (oS M a params assign body d)))
    (fun _ F'=>∃lo,F'.fL l=some (.loop lo)/\lo.state≠ .busy/\tA Q {a with defers:=⟨.collected d,#[]⟩::a.defers} (F'.put l (.loop {lo with state:=.exhausted})) lo.pending)):
  Wp J (.rangeFunc x params assign body) Q a F:=by
 intro b k cs hb p
 have t:b.roundOf=none:=hb.round.elim id fun h=>by simp[gi] at h
 obtain ⟨u,N,O,R,S,q,a4⟩:=b
 simp only at t
 subst t
 let b:Frame:=⟨u,N,O,R,S,q,none⟩
 have T:a.eval x= .func (.func fn) first captured:=E
 have i:=I
 unfold aS at i
 split at i
 case h_2=>cases i
 rename_i a5 U
 simp only[Bool.not_eq_true',Bool.or_eq_false_iff] at i
 let K:Nat×List Deferred->af->Prop:=fun r F'=>∃d l,r=(l,[⟨.collected d,#[]⟩])/\eC F d/\eC (F.push d (.deferred (some []))) l/\F'=(F.push d (.deferred (some []))).push l (.loop (oS b.fn a params assign body d))
 have V:bq P (Instr.enterLoop b.fn a.tmps params assign body none) K F:=by
  simp only[Instr.enterLoop,bH,qy,bT]
  exact ⟨rfl,fun d hd=>⟨rfl,fun l s=>⟨d,l,rfl,hd,s,rfl⟩⟩⟩
 refine hJ.step fun w hw=>?_
 obtain ⟨r,w1,a6,z,H1⟩:=lS _ F w #[] V hw
 have A:=H1.run
 rw[Array.empty_append] at A
 obtain ⟨d,l,rfl,hd,s,rfl⟩:=H1.post
 let fr':Frame:={on b a (.inRangeFunc l::k) with defers:=[⟨.collected d,#[]⟩]++a.defers}
 have W:fr'=on b {a with defers:=⟨.collected d,#[]⟩::a.defers} (.inRangeFunc l::k):=rfl
 have X:fr'.eval x= .func (.func fn) first captured:=by rw[W,vQ];exact T
 have Y:bq P (do let m<-resolve fr'.eval {callee:=.value x,args:=#[.const (.func (.yield l) #[] #[])],argTypes:=#[]} 0;invoke m.target m.args:Sem Next)
   (fun n o=>n= .enter fn (first++#[.func (.yield l) #[] #[]]++captured)/\o=(F.push d (.deferred (some []))).push l (.loop (oS b.fn a params assign body d))) ((F.push d (.deferred (some []))).push l (.loop (oS b.fn a params assign body d))):=by
  have Z:fr'.eval (.const (.func (.yield l) #[] #[]))= .func (.yield l) #[] #[]:=rfl
  simp only[resolve,X,Deferred.ofValue,bH,bT,invoke,callFunc,kN,U,i.1,i.2,Bool.false_eq_true,if_false,List.map_toArray,List.map_cons,List.map_nil,Z]
  simp
 obtain ⟨n,w2,o,ab,g⟩:=lS _ _ w1 #[] Y H1.has
 have B:=g.run
 rw[Array.empty_append] at B
 obtain ⟨rfl,rfl⟩:=g.post
 refine ⟨G (Frame.enter P fn (first++#[.func (.yield l) #[] #[]]++captured) .normal) (fr'::cs),w2,seen P b.fn z++seen P b.fn ab,_,?_,H1.upd.trans g.upd,g.has,fun e he=>?_,?_⟩
 .have ad:(q==CallKind.early)=false:=by have:=hb.kind;cases q<;>simp_all
  have hs:∀e:Array Event,stepG P main (G (on b a (.code (.rangeFunc x params assign body)::k)) cs) w=GStep.after (seen P u z) (stepG.apply P true fr' cs none (do let m<-resolve fr'.eval {callee:=.value x,args:=#[.const (.func (.yield l) #[] #[])],argTypes:=#[]} 0;invoke m.target m.args) w1):=fun _=>by
   simp only[G,stepG,stepG.exec,on,b]
   rw[A]
   rfl
  show stepG P main (G (on b a (.code (.rangeFunc x params assign body)::k)) cs) w=_
  rw[hs #[]]
  unfold stepG.apply
  simp only[if_true,B]
  have ae:(fr'.kind==CallKind.early)=false:=ad
  simp only[ae,Bool.false_eq_true,if_false,GStep.after]
  rfl
 .rcases Array.mem_append.1 he with h|h
  .refine (H1.iO e (mem_seen h)).mono (fun _ x=>x) fun b hb=>hb.imp id fun y=>⟨y.1,Nat.lt_of_lt_of_le y.2 g.upd.size⟩
  .refine (g.iO e (mem_seen h)).mono (fun a al=>al) fun b hb=>?_
   rcases hb with hb|hb
   .rcases H1.upd.own b hb with x|x
    .exact .inl x
    .exact .inr ⟨x,Nat.lt_of_lt_of_le (H1.has.lt hb) g.upd.size⟩
   .exact .inr ⟨Nat.le_trans H1.upd.size hb.1,hb.2⟩
 .refine L b.fn d l hd s fr' cs fun v F' ao=>?_
  obtain ⟨lo,C,ar,f⟩:=ao
  have a0:fr'.finish v=on b {a with defers:=⟨.collected d,#[]⟩::a.defers} (.endRangeFunc l::k):=rfl
  rw[a0]
  have a2:bq P (Instr.endLoop l) (fun j o=>j=lo.pending/\o=F'.put l (.loop {lo with state:=.exhausted})) F':=by
   simp only[Instr.endLoop,Instr.getLoop,bH,oF]
   refine ⟨_,C,?_⟩
   have a3:¬(lo.state== .busy)=true:=by simpa using ar
   simp only[bT,bH,mQ,C,Option.isSome_some,Obj.isChan,true_and,dR,a3]
   all_goals first|trivial|exact ⟨rfl,rfl⟩
  refine hJ.step fun w hw=>?_
  obtain ⟨j,w',a7,es,H⟩:=lS _ F' w #[] a2 hw
  have D:=H.run
  rw[Array.empty_append] at D
  obtain ⟨rfl,rfl⟩:=H.post
  refine ⟨G (on b {a with defers:=⟨.collected d,#[]⟩::a.defers} ((lo.pending.map Item.code).toList++k)) cs,w',seen P b.fn es,_,?_,H.upd,H.has,fun e he=>H.iO e (mem_seen he),?_⟩
  .simp only[G,stepG,stepG.exec,on,D,GStep.after]
   simp
  .revert f
   cases lo.pending with
   |none=>exact fun f=>p .normal _ _ f
   |some c=>
    intro f
    cases c<;>simp only[tA] at f<;>first
     |exact f.elim
     |exact p (.exit _) _ _ f k rfl
     |exact p .ret _ _ f k
end
def fM {H σ:Type}(step:σ->H->Option (Bool×σ)):List (Option H)->σ->Option (Bool×σ)
 |[],s=>some (true,s)
 |none::_,_=>none
 |some x::l,s=>match step s x with
  |some (true,s')=>fM step l s'
  |some (false,s')=>some (false,s')
  |none=>none
theorem BP {H σ:Type}(step:σ->H->Option (Bool×σ)):∀(l l':List (Option H)) (s:σ),fM step (l++l') s=match fM step l s with
  |some (true,s')=>fM step l' s'
  |some (false,s')=>some (false,s')
  |none=>none
 |[],l',s=>rfl
 |none::l,l',s=>rfl
 |some x::l,l',s=>by
  simp only[List.cons_append,fM]
  split<;>first|rfl|exact BP step l l' _
def fT {H σ ρ:Type}(f:H->σ->Option (Fl σ ρ)):List (Option H)->σ->Option (Fl σ ρ)
 |[],s=>some (.nx s)
 |none::_,_=>none
 |some x::l,s=>ai (f x s) fun o=>match o with
  | .nx s'=>fT f l s'
  | .bk s'=>some (.nx s')
  | .br k s'=>some (.br k s')
  | .rt _=>none
def xh {H σ:Type}(P:Program)(y:Value)(enc:H->Value)(step:σ->H->Option (Bool×σ))(ro:Addr->Option Value)(I:σ->List (Nat×Obj)->Prop):Prop:=
 ∀s x b s',step s x=some (b,s')->∀(main:Bool) (J:Goroutine->af->Prop),Closed P main J->∀own,I s own->
  hU P J y #[enc x] ⟨ro,own⟩ (fun v F'=>∃a,Le ⟨ro,a⟩ F'/\v= .bool b/\I s' a)
def nc {H:Type}(P:Program)(f:FuncId)(first cap:Array Value)(enc:H->Value)(L:List (Option H))(ro:Addr->Option Value):Prop:=
 aS P f=true/\∀(aW:Addr->Option Value),Ext ro aW->∀(σ:Type) (step:σ->H->Option (Bool×σ)) (I:σ->List (Nat×Obj)->Prop) (a:Fn) (c d:Array Value),xh P (.func a c d) enc step aW I->
  ∀s b s',fM step L s=some (b,s')->∀(main:Bool) (J:Goroutine->af->Prop),Closed P main J->∀own,I s own->
   dr P J f (first++#[.func a c d]++cap) ⟨aW,own⟩ (fun _ F'=>∃e,Le ⟨aW,e⟩ F'/\I s' e)
theorem nc.mono {H:Type}{P:Program}{f:FuncId}{first cap:Array Value}{enc:H->Value}{L:List (Option H)}{ro a:Addr->Option Value}(h:nc P f first cap enc L ro)(b:Ext ro a):nc P f first cap enc L a:=
 ⟨h.1,fun aW c=>h.2 aW (b.trans c)⟩
def qX:Nat:=1000000000
def ng (k:Nat):Code:=if k=qX then .ret else .exit k
def tB (Q:Ex->Act->af->Prop)(k:Nat):Act->af->Prop:=if k=qX then Q .ret else Q (.exit k)
def BQ {σ ρ:Type}(c:Nat)(ro:Addr->Option Value)(l d:Nat)(S:σ->List (Nat×Obj)->Prop)(lo:Loop)(b:Fl σ ρ)(v:Value)(F:af):Prop:=
 ∃a,Le ⟨ro,(l,.loop {lo with state:=(match b with| .nx _=>.ready|_=>.done),pending:=(match b with| .nx _=>none| .bk _=>some (ng c)| .br k _=>some (ng k)| .rt _=>none)})::(d,.deferred (some []))::a⟩ F/\
  match b with
  | .nx s'=>v= .bool true/\S s' a
  | .bk s'=>v= .bool false/\S s' a
  | .br _ s'=>v= .bool false/\S s' a
  | .rt _=>False
section
variable {P:Program}{main:Bool}{J:Goroutine->af->Prop}{a:Act}
theorem BR {H σ ρ:Type}{f:H->σ->Option (Fl σ ρ)}(a:Nat):∀(L:List (Option H)) (s:σ) (o:Fl σ ρ),fT f L s=some o->
  ∃b s' pend,fM (σ:=σ×Option Nat) (fun st x=>match st with
   |(s,none)=>match f x s with
    |some (.nx s')=>some (true,(s',none))
    |some (.bk s')=>some (false,(s',some a))
    |some (.br k s')=>some (false,(s',some k))
    |_=>none
   |_=>none) L (s,none)=some (b,(s',pend))/\((o= .nx s'/\(pend=none\/pend=some a))\/∃k,o= .br k s'/\pend=some k)
 |[],s,o,h=>by
  cases h
  exact ⟨true,s,none,rfl,.inl ⟨rfl,.inl rfl⟩⟩
 |none::L,s,o,h=>by cases h
 |some x::L,s,o,h=>by
  unfold fT at h
  obtain ⟨e,d,c⟩:=gx h
  cases e with
  |nx s'=>
   obtain ⟨b,s2,pend,g,i⟩:=BR a L s' o c
   refine ⟨b,s2,pend,?_,i⟩
   unfold fM
   simp only[d]
   exact g
  |bk s'=>
   cases c
   refine ⟨false,s',some a,?_,.inl ⟨rfl,.inr rfl⟩⟩
   unfold fM
   simp only[d]
  |br k s'=>
   cases c
   refine ⟨false,s',some k,?_,.inr ⟨k,rfl,rfl⟩⟩
   unfold fM
   simp only[d]
  |rt r=>cases c
theorem BS {ro:Addr->Option Value}{l:Nat}{o:Obj}{own:List (Nat×Obj)}(a:Obj.qu o=false)(b:o.isChan=false):af.fL ⟨ro,(l,o)::own⟩ l=some o:=by
 simp[af.fL,lk,a,b]
def qY (a:Act)(d:Nat):Act:={a with defers:=⟨.collected d,#[]⟩::a.defers}
theorem G0 (a:Act)(d i:Nat):slot (qY a d) i=slot a i:=rfl
theorem G1 (a:Act)(d:Nat):sz (qY a d)=sz a:=rfl
theorem G2 (a:Act)(d:Nat):(qY a d).defers=⟨.collected d,#[]⟩::a.defers:=rfl
def l7 (a:Act)(p:Tmp)(v:Value):Act:={tmps:=a.tmps.setIfInBounds p v,defers:=[]}
theorem j4 (a:Act)(p:Tmp)(v:Value)(i:Nat):slot (l7 a p v) i=slot (bB a (some p) v) i:=rfl
theorem tC (a:Act)(p:Tmp)(v:Value):sz (l7 a p v)=sz a:=by simp[sz,l7]
theorem tD {H σ ρ:Type}(hJ:Closed P main J){x:Operand}{p:Tmp}{assign body:Code}{Q:Ex->Act->af->Prop}{fn:FuncId}{first captured:Array Value}{ro:Addr->Option Value}{own:List (Nat×Obj)}{g:Nat}
  (enc:H->Value) {L:List (Option H)} (U:ev a x= .func (.func fn) first captured) (K:nc P fn first captured enc L ro)
  (V:gi assign=true) (W:gi body=true)
  (S:σ->List (Nat×Obj)->Prop) {f:H->σ->Option (Fl σ ρ)} {z:σ} {o:Fl σ ρ} (X:fT f L z=some o) (Y:S z own)
  (Z:∀(d l:Nat) (lo:Loop),lo.state= .ready->∀(s:σ) (y:H) (q:Fl σ ρ),f y s=some q->∀(main:Bool) (J:Goroutine->af->Prop),Closed P main J->∀own,S s own->
   Wp J assign (oR J l body (BQ g ro l d S lo q)) (l7 a p (enc y)) ⟨ro,(l,.loop lo)::(d,.deferred (some []))::own⟩)
  (ab:¬g=qX)
  (ad:∀d l lo j s',S s' j->bh (keys ((l,.loop lo)::(d,.deferred (some []))::j))->aJ ro ((l,.loop lo)::(d,.deferred (some []))::j)->(o= .nx s'->Q .normal (qY a d) ⟨ro,(l,.loop lo)::(d,.deferred (some []))::j⟩)/\
   (∀k,o= .br k s'->tB Q k (qY a d) ⟨ro,(l,.loop lo)::(d,.deferred (some []))::j⟩))
  (ae:∀k s',o= .br k s'->¬k=g):Wp J (.block g (.rangeFunc x #[p] assign body)) Q a ⟨ro,own⟩:=by
 refine aV hJ (Wp.mono (Q:=fun e A F'=>match e with| .exit i=>if i=g then Q .normal A F' else Q (.exit i) A F'|e=>Q e A F') ?_ fun e a F h=>by cases e<;>exact h)
 obtain ⟨b,s',pend,al,ao⟩:=BR g L z o X
 refine GZ hJ U K.1 fun B d l hd ba=>?_
 let lo:Loop:=oS B a #[p] assign body d
 let n:Option Nat->Loop:=fun pend=>{lo with state:=(match pend with|none=>.ready|some _=>.done),pending:=pend.map ng}
 let I:σ×Option Nat->List (Nat×Obj)->Prop:=fun st ar=>∃bu,ar=(l,.loop (n st.2))::(d,.deferred (some []))::bu/\S st.1 bu
 have a0:xh P (.func (.yield l) #[] #[]) enc (fun (st:σ×Option Nat) x=>match st with
   |(s,none)=>match f x s with
    |some (.nx s')=>some (true,(s',none))
    |some (.bk s')=>some (false,(s',some g))
    |some (.br k s')=>some (false,(s',some k))
    |_=>none
   |_=>none) ro I:=by
  rintro ⟨s,pend⟩ y bb ⟨s1,bc⟩ m a2 M N a3 ⟨bu,rfl,a4⟩
  cases pend with
  |some k=>cases m
  |none=>
   simp only at m
   refine ⟨rfl,rfl,lo,BS rfl rfl,rfl,?_⟩
   cases C:f y s with
   |none=>rw[C] at m;cases m
   |some q=>
    have D:=jX.of_wp N (R:=BQ g ro l d S lo q) (f:=B) V W (Z d l lo rfl s y q C a2 M N bu a4)
    rw[C] at m
    have a5:(lo.params.zip #[enc y]).foldl (fun tmps (t,a)=>tmps.setIfInBounds t a) lo.tmps=a.tmps.setIfInBounds p (enc y):=by simp[lo,oS]
    show jX M l B ((lo.params.zip #[enc y]).foldl (fun tmps (t,a)=>tmps.setIfInBounds t a) lo.tmps) assign body _ _
    rw[a5]
    refine D.mono fun v F' E=>?_
    obtain ⟨j,hle,hm⟩:=E
    cases q with
    |nx s2=>
     simp only[Option.some.injEq,Prod.mk.injEq] at m
     obtain ⟨rfl,rfl,rfl⟩:=m
     exact ⟨_,hle,hm.1,j,rfl,hm.2⟩
    |bk s2=>
     simp only[Option.some.injEq,Prod.mk.injEq] at m
     obtain ⟨rfl,rfl,rfl⟩:=m
     exact ⟨_,hle,hm.1,j,rfl,hm.2⟩
    |br k s2=>
     simp only[Option.some.injEq,Prod.mk.injEq] at m
     obtain ⟨rfl,rfl,rfl⟩:=m
     exact ⟨_,hle,hm.1,j,rfl,hm.2⟩
    |rt r=>exact hm.elim
 have hc:=K.2 ro (Ext.refl ro) _ _ I _ _ _ a0 (z,none) b (s',pend) al main J hJ ((l,.loop lo)::(d,.deferred (some []))::own) ⟨own,rfl,Y⟩
 intro c cs hK
 refine hc c cs fun v F' E=>?_
 obtain ⟨a3,hle,j,rfl,a6⟩:=E
 by_cases hw:∃w,Has F' w
 case neg=>exact hJ.step fun w a7=>absurd ⟨w,a7⟩ hw
 obtain ⟨w,hw⟩:=hw
 have O:=hle.has w hw
 refine hJ.mono hle (hK v _ ⟨n pend,BS rfl rfl,?_,?_⟩)
 .cases pend<;>simp[n]
 .obtain ⟨T,a8⟩:=ad d l {n pend with state:=.exhausted} j s' a6 ⟨O.nodup⟩ (fun b hb off sp=>by
   cases D:ro ⟨b,off,sp⟩ with
   |none=>rfl
   |some v=>exact absurd hb (O.apart _ v D))
  have a9:af.put ⟨ro,(l,.loop (n pend))::(d,.deferred (some []))::j⟩ l (.loop {n pend with state:=.exhausted})=⟨ro,(l,.loop {n pend with state:=.exhausted})::(d,.deferred (some []))::j⟩:=by simp[af.put,jq]
  rw[a9]
  rcases ao with ⟨rfl,rfl|rfl⟩|⟨k,rfl,rfl⟩
  .exact T rfl
  .show tA _ _ _ (some (ng g))
   have:ng g= .exit g:=if_neg ab
   rw[this]
   show (if g=g then Q .normal _ _ else Q (.exit g) _ _)
   rw[if_pos rfl]
   exact T rfl
  .have u:=a8 k rfl
   show tA _ _ _ (some (ng k))
   unfold tB at u
   unfold ng
   split
   .rename_i G
    rw[if_pos G] at u
    exact u
   .rename_i G
    rw[if_neg G] at u
    show (if k=g then Q .normal _ _ else Q (.exit k) _ _)
    rw[if_neg (ae k s' rfl)]
    exact u
theorem G3 {R:List Deferred->af->Prop}{r:Nat}{F:af}:bq P (Instr.takeDeferred r) R F=match F.fL r with
  |some (.deferred (some a))=>R a (F.put r (.deferred none))
  |_=>False:=by
 unfold Instr.takeDeferred
 rw[bH,oF]
 refine propext ⟨fun ⟨o,d,b⟩=>?_,fun h=>?_⟩
 .rw[d]
  cases o<;>first|exact (show False from b).elim|skip
  rename_i a
  cases a with
  |none=>exact (show False from b).elim
  |some a=>
   simp only[bH,mQ,bT] at b
   exact b.2.2
 .split at h
  .rename_i a c
   refine ⟨_,c,?_⟩
   simp only[bH,mQ,bT]
   exact ⟨rfl,by rw[c];rfl,h⟩
  .exact h.elim
theorem G4 (hJ:Closed P main J){y:Value}{args:Array Value}{ro:Addr->Option Value}{own:List (Nat×Obj)}{R:Value->List (Nat×Obj)->Prop}(pre:List (Nat×Obj))
  (h:∀(main:Bool) (J:Goroutine->af->Prop),Closed P main J->hU P J y args ⟨ro,own⟩ (fun v F'=>∃a,Le ⟨ro,a⟩ F'/\R v a)) (p:bh (keys (pre++own))) {K:Value->af->Prop}
  (s:∀v a,R v a->bh (keys (pre++a))->K v ⟨ro,pre++a⟩):hU P J y args ⟨ro,pre++own⟩ K:=by
 have key:∀j0:Frame,(∀(main:Bool) (J:Goroutine->af->Prop),Closed P main J->tv J j0 ⟨ro,own⟩ (fun v F'=>∃a,Le ⟨ro,a⟩ F'/\R v a))->tv J j0 ⟨ro,pre++own⟩ K:=fun j0 d=>
  BH hJ pre [] ax R (fun m e f c cs hK=>d m e f c cs fun v F' t=>hK v F' (by obtain ⟨o,b,g⟩:=t;exact ⟨o,g,b⟩)) fun v u w a k i=>by
   rw[List.append_nil] at k
   subst k
   exact ⟨_,Le.refl _,s v u w i⟩
 have d:=h main J hJ
 unfold hU at d ⊢
 split at d
 .rename_i fn first captured
  refine ⟨d.1,key _ fun m e f=>?_⟩
  have:=h m e f
  unfold hU at this
  exact this.2
 .rename_i l first captured
  obtain ⟨e1,e2,r,b,g,_⟩:=d
  refine ⟨e1,e2,r,?_,g,key _ fun m e f=>?_⟩
  .have hm:l∈keys own:=by
    unfold af.fL at b
    split at b
    .rename_i o x;exact fC (iA x)
    .cases b
   have i:l∉keys pre:=fun z=>by
    have:=p.nd
    rw[cE] at this
    exact (List.nodup_append.1 this).2.2 l z l hm rfl
   have A:∀(pre:List (Nat×Obj)),l∉keys pre->lk (pre++own) l=lk own l:=fun pre=>by
    induction pre with
    |nil=>intro _;rfl
    |cons q pre ih=>
     intro j
     simp only[keys,List.map_cons,List.mem_cons,not_or] at j
     simp only[List.cons_append,lk,if_neg (Ne.symm j.1)]
     exact ih j.2
   unfold af.fL at b ⊢
   simp only at b ⊢
   rw[A pre i]
   exact b
  .have:=h m e f
   unfold hU at this
   obtain ⟨_,_,C,n,D,B⟩:=this
   rw[b] at n
   cases n
   exact B
 .exact d.elim
theorem dr.less (hJ:Closed P main J){f:FuncId}{args:Array Value}{F:af}{R:Value->af->Prop}(h:dr P J f args F (fun v F'=>∃F0,Le F0 F'/\R v F0)):dr P J f args F R:=
 fun c cs hK=>h c cs fun v F' ⟨F0,hle,a⟩=>hJ.mono hle (hK v F0 a)
def BT (P:Program)(rs:List ResultVar)(R:Value->af->Prop):Ex->Act->af->Prop
 | .exit _,_,_=>False
 |_,a,F=>iP P a.defers (fun F=>match m3 P F a rs with|some v=>R v F|none=>False) F
theorem BU {K b:af->Prop}(h:∀F,K F->b F):∀(a:List Deferred) (F:af),iP P a K F->iP P a b F
 |[],F,x=>h F x
 |d::a,F,⟨r,e,f⟩=>⟨r,e,iD (fun calls F' c=>⟨c.1,BU h a F' c.2⟩) _ _ f⟩
theorem aE.tE {f:FuncId}{fn:Func}{c:Code}{n:Nat}{rs:List ResultVar}{args:Array Value}{F:af}{R:Value->af->Prop}(g:P.funcs[f]?=some fn)(hb:fn.body=some c)(j:fn.ntmps=n)(k:fn.results=rs.toArray)(l:args.size<=n)
  (h:∀main J,Closed P main J->∀A:Act,sz A=n->A.defers=[]->(∀i,slot A i=args.getD i undef)->Wp J c (BT P rs R) A F):aE P f args F R:=
 aE.start g hb j l fun main J hJ A m o p=>(h main J hJ A m o p).mono fun e a F b=>by
  have key:iP P a.defers (fun F=>match m3 P F a rs with|some v=>R v F|none=>False) F->iP P a.defers (fun F=>bq P (results fn a.tmps) R F) F:=BU (fun F d=>by
   split at d
   .rename_i v q;exact s8 k q d
   .exact d.elim) _ _
  cases e with
  |exit i=>exact b
  |normal=>exact key b
  |ret=>exact key b
theorem dr.go (hJ:Closed P main J){f:FuncId}{fn:Func}{c:Code}{n:Nat}{rs:List ResultVar}{args:Array Value}{F:af}{R:Value->af->Prop}(j:P.funcs[f]?=some fn)(hb:fn.body=some c)(d:fn.ntmps=n)(k:fn.results=rs.toArray)(m:args.size<=n)
  (h:∀A:Act,sz A=n->A.defers=[]->(∀i,slot A i=args.getD i undef)->Wp J c (jw P rs R) A F):dr P J f args F R:=by
 refine dr.of_wp hJ j hb ?_
 refine (h _ (by simp[sz,d];omega) rfl fun i=>?_).mono fun e a F g=>?_
 .simp only[slot,d,Array.getD_eq_getD_getElem?]
  rcases Nat.lt_or_ge i args.size with hi|hi
  .rw[Array.getElem?_append_left hi]
  .rw[Array.getElem?_append_right hi,Array.getElem?_replicate,Array.getElem?_eq_none hi]
   split<;>rfl
 .cases e with
  |exit i=>exact g
  |_=>
   obtain ⟨hd,b⟩:=g
   split at b
   .rename_i v l
    show iP P a.defers _ F
    rw[hd]
    exact s8 k l b
   .exact b.elim
theorem G5 {d:Nat}{X:Nat->Prop}:(∃r,Target.collected d=Target.collected r/\X r)=X d:=propext ⟨fun ⟨r,a,b⟩=>by cases a;exact b,fun h=>⟨d,rfl,h⟩⟩
attribute [go_sem] G5 G0 G1 G2 BT G3 af.fL Obj.qu Obj.isChan
end
section
variable {P:Program}
theorem BV {argTypes:Array TypeId}{t e ty:TypeId}{R:Value->af->Prop}{F:af}{ad:Option Addr}{n c:Nat}(ht:argTypes[0]?=some t)(hu:P.underlying t=some (.slice e))(h:R (.int .i64 c) F):fh P (Builtin.cap_ argTypes ty #[.slice ad n c]) R F:=by
 unfold fh;simp only[Builtin.cap_,ht,List.getElem?_toArray,List.getElem?_cons_zero,bH,dS,hu,bT];exact h
theorem G6 (z:Value)(n:Nat):(Builtin.zeroCells #[z] n).toList=List.replicate n z:=by
 simp only[Builtin.zeroCells,List.size_toArray,List.length_cons,List.length_nil,Nat.zero_add,Nat.mul_one,Nat.mod_one];rw[Array.toList_map,Array.toList_range];apply List.ext_getElem
 .simp
 .intro i a b;simp
theorem G7 {ro:Addr->Option Value}{pre bC:List (Nat×Obj)}{argTypes:Array TypeId}{t e ty:TypeId}{R:Value->af->Prop}{b off n c:Nat}{arr:Array Value}{z zc:Value}(ht:argTypes[0]?=some t)(hu:P.underlying t=some (.slice e))(a:zeroOf P e=some z)(d:z.cells=#[zc])(f:bV zc=true)
  (l:0<n) (g:av pre b) (i:off+n<=arr.size)
  (h:R (.tuple #[]) ⟨ro,pre++((b,.cells (cY arr off (List.replicate n zc)) e)::bC)⟩):
  fh P (Builtin.clear_ argTypes ty #[.slice (some ⟨b,off,none⟩) n c]) R ⟨ro,pre++((b,.cells arr e)::bC)⟩:=by
 unfold fh
 have m:n≠0:=aa
 obtain ⟨k,rfl⟩:∃k,n=k+1:=⟨n - 1,aa⟩
 simp only[Builtin.clear_,ht,List.getElem?_toArray,List.getElem?_cons_zero,bH,dS,hu,mR,a,d]
 refine qA _ _ 0 _ ⟨ro,pre++((b,.cells (cY arr off (List.replicate (k+1) zc)) e)::bC)⟩ ?_ ?_
 .rw[G6]
  have:=tu (ro:=ro) (bC:=bC) (e:=e) g off (List.replicate (k+1) zc) arr 0 (fun v j=>by rw[List.eq_of_mem_replicate j];exact f) (by simpa using i)
  simpa using this
 .simp only[bT]
  exact h
end
theorem bg.BW {T:Type}{r:cw T}{ro:Addr->Option Value}{e:TypeId}{v:Value}{l:List T}{bu:List (Nat×Obj)}(h:bg r ro e v l bu){own:List (Nat×Obj)}(pre bC:List (Nat×Obj))(f:own=pre++(bu++bC))(g:bh (keys own)):aI r (af.cM ⟨ro,own⟩).ro v l:=by
 subst f;obtain ⟨ls,hg,c,hm,k⟩:=h;rcases hg with ⟨rfl,rfl,rfl⟩|⟨b,arr,cap,rfl,rfl,hs,hle,ht,d,m⟩
 .have:l=[]:=List.eq_nil_of_length_eq_zero (by simpa using c.symm);subst this;exact aI.nil r _
 .have o:av pre b:=Nd.fresh g.nd b (by simp[keys]);refine ⟨some ⟨b,0,none⟩,cap,by rw[c],aa,aa,fun i x hi=>?_⟩;obtain ⟨cs,p,q⟩:=k i x hi;refine ⟨_,cs,rfl,r.mono aZ q,fun j v s=>?_⟩;have a:=qP ls i cs d p j v s;rw[lW,lX,Nat.zero_add];have t:i*r.n+j<ls.length*r.n:=by
   have:=(List.getElem?_eq_some_iff.1 a).1;rw[iQ d] at this;exact this
  rw[<-ht,List.getElem?_take_of_lt t] at a;show af.get ⟨ro,pre++([(b,Obj.cells arr e)]++bC)⟩ ⟨b,i*r.n+j,none⟩=some v;simp only[af.get,m,if_true,List.cons_append,List.nil_append,tr o,Option.bind_some,cellOf];simpa using a
theorem aI.two {T:Type}{r:cw T}{ro:Addr->Option Value}{own:List (Nat×Obj)}{b:Nat}{x y:T}{v u:Value}{e:TypeId}(c:∀off sp,ro ⟨b,off,sp⟩=none)(f:lk own b=some (.cells #[v,u] e))(d:r.n=1)(h:r.rel ro x [v])(k:r.rel ro y [u]):
  aI r (b7 ro b (.cells #[v,u] e)) (.slice (some ⟨b,0,none⟩) 2 2) [x,y]:=by
 refine ⟨some ⟨b,0,none⟩,2,rfl,Nat.le_refl _,ax,fun i z hi=>?_⟩
 have:(i=0/\z=x)\/(i=1/\z=y):=by
  cases i with
  |zero=>simp at hi;exact .inl ⟨rfl,hi.symm⟩
  |succ i=>cases i with
   |zero=>simp at hi;exact .inr ⟨rfl,hi.symm⟩
   |succ i=>simp at hi
 rcases this with ⟨rfl,rfl⟩|⟨rfl,rfl⟩
 .refine ⟨_,_,rfl,r.mono (gP _ _ _) h,fun j w a=>?_⟩
  cases j with
  |zero=>
   rw[Nat.zero_mul,add_zero',lX,Nat.zero_add,fF c]
   simpa [cellOf] using a
  |succ j=>simp at a
 .refine ⟨_,_,rfl,r.mono (gP _ _ _) k,fun j w a=>?_⟩
  cases j with
  |zero=>
   rw[d,lW,lX,fF c]
   simpa [cellOf] using a
  |succ j=>simp at a
theorem bg.clear {ro:Addr->Option Value}{e:TypeId}{b n cap k:Nat}{x:List Int}{arr:Array Value}(h:bg rI ro e (.slice (some ⟨b,0,none⟩) n cap) x [(b,.cells arr e)])(t:k<=x.length):
  bg rI ro e (.slice (some ⟨b,0,none⟩) k cap) (x.take k) [(b,.cells (cY arr k (List.replicate (n - k) (.int .i64 0))) e)]:=by
 obtain ⟨ls,hg,u,hm,l⟩:=h
 rcases hg with ⟨a,_,_⟩|⟨w,y,m,a,o,hs,hle,ht,f,p⟩
 .cases a
 .cases o
  obtain ⟨rfl,rfl⟩:n=ls.length/\cap=m:=by cases a;exact ⟨rfl,rfl⟩
  have d:rI.n=1:=rfl
  rw[d] at hs ht f
  simp only[Nat.mul_one] at hs ht
  have c:(ls.take k).length=k:=by rw[List.length_take];omega
  refine ⟨ls.take k,.inr ⟨b,_,cap,by rw[c],rfl,by rw[s3];rw[d,Nat.mul_one];exact hs,by rw[c];omega,?_,?_,p⟩,by rw[c,List.length_take];omega,by rw[List.length_take];omega,?_⟩
  .rw[s4 _ _ _ (by simp;omega),c,d,Nat.mul_one,List.append_assoc,List.take_append_of_le_length (by rw[List.length_take,Array.length_toList];omega),List.take_take,Nat.min_self]
   have e1:arr.toList.take k=(arr.toList.take ls.length).take k:=by rw[List.take_take,Nat.min_eq_left aa]
   rw[e1,ht]
   have e2:ls.flatten=(ls.take k).flatten++(ls.drop k).flatten:=by rw[<-List.flatten_append,List.take_append_drop]
   have j:(ls.take k).flatten.length=k:=by rw[iQ (size:=1) (fun z g=>f z (List.mem_of_mem_take g)),c,Nat.mul_one]
   rw[e2,List.take_append_of_le_length (Nat.le_of_eq j.symm),List.take_of_length_le (Nat.le_of_eq j)]
  .intro z g
   rw[d];exact f z (List.mem_of_mem_take g)
  .intro i v a
   obtain ⟨hi,q⟩:i<k/\x[i]?=some v:=by
    rw[List.getElem?_take] at a
    split at a
    .exact ⟨‹_›,a⟩
    .cases a
   obtain ⟨cs,r,s⟩:=l i v q
   exact ⟨cs,by rw[List.getElem?_take,if_pos hi];exact r,s⟩
section
variable {P:Program}
theorem G8 {t:TypeId}{R:Value->af->Prop}{F:af}(h:∀b,eC F b->R (.map (some b)) (F.push b (.map #[] 0))):fh P (Instr.makeMap t none) R F:=by
 unfold fh;simp only[Instr.makeMap,bH,qy,bT];exact ⟨rfl,h⟩
theorem G9 {argTypes:Array TypeId}{t a b ty:TypeId}{r:Nat}{es:Array MapEntry}{clock:Nat}{R:Value->af->Prop}{F:af}(ht:argTypes[0]?=some t)(hu:P.underlying t=some (.map a b))(c:F.fL r=some (.map es clock))(h:R (.int .i64 (es.size:Int)) F):
  fh P (Builtin.len_ argTypes ty #[.map (some r)]) R F:=by
 unfold fh
 simp only[Builtin.len_,ht,List.getElem?_toArray,List.getElem?_cons_zero,bH,dS,hu,oF]
 exact ⟨_,c,h⟩
theorem BX {d:TypeId}{key:Value}{F:af}{Q:Option (Nat×Value)->af->Prop}:∀(l:List MapEntry) (i:Nat),
  (∀e∈l,∃b,(∀(Q:Bool->af->Prop),Q b F->bq P (Op.equal d key e.key) Q F)/\(b=true↔e.key=key))->
  (∀j e,l[j]?=some e->e.key=key->Q (some (i+j,e.val)) F)->((∀e∈l,¬e.key=key)->Q none F)->bq P (Instr.findAsking d key l i) Q F
 |[],i,_,_,a=>a ax
 |e::l,i,f,g,a=>by
  obtain ⟨b,hb,h⟩:=f e ax
  simp only[Instr.findAsking,bH]
  refine hb _ ?_
  cases b with
  |true=>exact g 0 e rfl (h.1 rfl)
  |false=>
   have aN:¬e.key=key:=fun x=>by have:=h.2 x;cases this
   refine BX l (i+1) (fun x c=>f x (by simp[c])) (fun j x c he=>?_) (fun k=>a (by simpa [aN] using k))
   have:=g (j+1) x (by simpa using c) he
   rwa [show i+1+j=i+(j+1) by omega]
theorem modify_keys {es:Array MapEntry}{i:Nat}{key val:Value}{e:MapEntry}(hi:es[i]?=some e)(he:e.key=key):(es.modify i fun e=>{e with key:=key,val:=val}).toList.map (·.key)=es.toList.map (·.key):=by
 apply List.ext_getElem?;intro j;simp only[List.getElem?_map,Array.toList_modify,List.getElem?_modify];by_cases a:i=j
 .subst a;have:es.toList[i]?=some e:=by simpa using hi
  simp[this,he]
 .simp[a]
theorem He {t c q f n:TypeId}{r:Nat}{es:Array MapEntry}{clock:Nat}{key val:Value}{R:Value->af->Prop}{F:af}(hu:P.underlying t=some (.map c q))(g:F.fL r=some (.map es clock))
  (s:∀Q:Unit->af->Prop,Q () F->bq P (Instr.checkKey false 10000 c key) Q F) (u:P.underlying c=some (.array n f))
  (v:∀e∈es.toList,∃b,(∀(Q:Bool->af->Prop),Q b F->bq P (Op.equal c key e.key) Q F)/\(b=true↔e.key=key))
  (h:∀d w,((key∈es.toList.map (·.key)/\d.toList.map (·.key)=es.toList.map (·.key))\/(key∉es.toList.map (·.key)/\d.toList.map (·.key)=es.toList.map (·.key)++[key]))->R undef (F.put r (.map d w))):
  fh P (Instr.mapUpdate t (.map (some r)) key val>>= fun _=>pure undef) R F:=by
 unfold fh
 simp only[Instr.mapUpdate,bH,dS,hu,oF]
 refine ⟨_,g,?_⟩
 simp only[bH]
 refine s _ ?_
 have k:(F.fL r).isSome=true:=by rw[g];rfl
 have step:bq P (Instr.findAsking c key es.toList) (fun a G=>bq P (match a with
   |some (i,_)=>do
    let key<-Instr.keyThatStays (((es[i]?).map (·.key)).getD key) key
    setObj r (.map (es.modify i fun e=>{e with key,val}) clock)
   |none=>setObj r (.map (es.push {key,val,born:=clock}) (clock+1))) (fun _ G=>bq P (pure undef) R G) G) F:=by
  refine BX _ 0 v (fun j e m he=>?_) (fun x=>?_)
  .simp only[Nat.zero_add,bH]
   have o:es[j]?=some e:=by simpa using m
   rw[o]
   simp only[Option.map_some,Option.getD_some,he]
   have fin:bq P (setObj r (.map (es.modify j fun e=>{e with key:=key,val:=val}) clock)) (fun _ G=>bq P (pure undef) R G) F:=by
    simp only[mQ,bT]
    refine ⟨rfl,k,h _ _ (.inl ⟨?_,modify_keys o he⟩)⟩
    rw[<-he]
    exact List.mem_map_of_mem (List.mem_of_getElem? m)
   unfold Instr.keyThatStays
   rw[dR]
   split
   .exact fin
   .simp only[bH,v8]
    split
    .simp only[bT,ite_self];exact fin
    .intro t;simp only[bT,ite_self];exact fin
  .simp only[mQ,bT]
   refine ⟨rfl,k,h _ _ (.inr ⟨?_,ax⟩)⟩
   intro hm
   obtain ⟨e,he,y⟩:=List.mem_map.1 hm
   exact x e he y
 unfold Instr.findKey
 simp only[bH,dS,u]
 cases p:es.toList with
 |nil=>
  rw[p] at step
  exact step
 |cons e l=>
  have:Instr.findNow (.array n f) key (e::l) 0=none:=rfl
  rw[this]
  rw[p] at step
  exact step
end
theorem bS {α β:Type}{x:Option α}{f:α->Option β}{r:β}{G:Prop}(k:∀a,x=some a->f a=some r->G)(h:ai x f=some r):G:=by
 obtain ⟨a,b,c⟩:=gx h;exact k a b c
def bM:Code->Code
 | .seq _ b=>b
 |c=>c
theorem sI {α:Type}{x r:α}(h:some x=some r):x=r:=Option.some.inj h
theorem az {ro:Addr->Option Value}{own:List (Nat×Obj)}{G:Nat->Prop}(h:∀b,(∀off sp,ro ⟨b,off,sp⟩=none)->av own b->G b):∀b,eC ⟨ro,own⟩ b->G b:=fun b f=>h b (fj f) (gk f)
theorem bE:(∀(ro:Addr->Option Value) (b:Nat) (o:Obj) (l:List (Nat×Obj)),aJ ro ((b,o)::l)=((∀off sp,ro ⟨b,off,sp⟩=none)/\aJ ro l))/\(∀l:List (Nat×Obj),[]++l=l)/\(∀l:List (Nat×Obj),l++[]=l)/\
  (∀(x:Nat×Obj) (l m:List (Nat×Obj)),x::l++m=x::(l++m))/\∀l m n:List (Nat×Obj),l++m++n=l++(m++n):=
 ⟨fun _ _ _ _=>propext ⟨fun h=>⟨h.hd,h.tl⟩,fun h=>aJ.cons h.1 h.2⟩,fun _=>rfl,List.append_nil,fun _ _ _=>rfl,List.append_assoc⟩
theorem aI.el {T:Type}{r:cw T}{ro:Addr->Option Value}{ad:Option Addr}{n cap:Nat}{l:List T}(h:aI r ro (.slice ad n cap) l):
  ∀i x,l[i]?=some x->∃p cs,ad=some p/\r.rel ro x cs/\∀j v,cs[j]?=some v->ro ((p.add (i*r.n)).add j)=some v:=by
 obtain ⟨a,b,e,_,_,h⟩:=h
 cases e
 exact h
theorem bh.tl {b:Nat}{ks:List Nat}(h:bh (b::ks)):bh ks:=⟨(List.nodup_cons.1 h.nd).2⟩
theorem bh.cut {l:List (Nat×Obj)}(h:bh (keys l))(i n:Nat):bh (keys (l.take i++l.drop (i+n))):=
 ⟨(((List.Sublist.append_left (show (l.drop (i+n)).Sublist (l.drop i) by rw[<-List.drop_drop];exact List.drop_sublist _ _) (l.take i)).trans (by rw[List.take_append_drop];exact List.Sublist.refl _)).map _).nodup h.nd⟩
theorem bg.eL {T:Type}{r:cw T}{ro:Addr->Option Value}{e:TypeId}{v:Value}{l:List T}{bu:List (Nat×Obj)}(h:bg r ro e v l bu){own:List (Nat×Obj)}(pre bC:List (Nat×Obj))(a:bh (keys own))(b:aJ ro (pre++bC))
  (c:own=pre++(bu++bC):=by first|rfl|simp only[bn]|(simp only[bn];rfl)):
  ∃aW,Ext ro aW/\aJ aW (pre++bC)/\aI r aW v l/\Le ⟨aW,pre++bC⟩ ⟨ro,own⟩:=h.l6 _ pre bC c rfl a b
theorem aI.oc {T:Type}{r:cw T}{ro:Addr->Option Value}{s:Value}{l:List T}(h:aI r ro s l):bV s=true:=by
 obtain ⟨_,_,e,_⟩:=h;rw[e];rfl
theorem Hf {p:Nat->Prop}{a:Nat}{l:List Nat}:(∀i,i∈a::l->p i)=(p a/\∀i,i∈l->p i):=propext List.forall_mem_cons
theorem Hg {p:Nat->Prop}:(∀i,i∈([]:List Nat)->p i)=True:=propext ⟨fun _=>trivial,fun _ _ h=>(by cases h)⟩
section
variable {P:Program}{main:Bool}{J:Goroutine->af->Prop}{Q:Ex->Act->af->Prop}{a:Act}{F:af}
theorem cm (hJ:Closed P main J){f:FuncId}{args:Array Value}{ro:Addr->Option Value}{own:List (Nat×Obj)}{K:Value->af->Prop}(R:Value->(Addr->Option Value)->Prop)(h:eJ P f args ro R)
  (a:∀v aW,Ext ro aW->aJ aW own->R v aW->K v ⟨aW,own⟩):dr P J f args ⟨ro,own⟩ K:=wO hJ R h a
theorem tF {Φ:Goroutine->af->Prop}{f:FuncId}{args:Array Value}{ro:Addr->Option Value}{own:List (Nat×Obj)}{K:Value->af->Prop}(R:Value->(Addr->Option Value)->Prop)(h:qS P f args ro R)
  (a:∀v aW,Ext ro aW->aJ aW own->R v aW->K v ⟨aW,own⟩):dr P (eK P Φ) f args ⟨ro,own⟩ K:=Gf R h a
theorem cS {α:Type}{b:Bool}{e1 e2:Option α}{r:α}{G:Prop}(c:b=true->e1=some r->G)(d:b=false->e2=some r->G)(h:cond b e1 e2=some r):G:=by
 rcases jz h with ⟨a,b⟩|⟨a,b⟩
 .exact c a b
 .exact d a b
theorem jC {α:Type}(hJ:Closed P main J){c:Operand}{x y:Code}{b:Bool}{e1 e2:Option α}{r:α}(hc:ev a c= .bool b)(d:b=true->e1=some r->Wp J x Q a F)(f:b=false->e2=some r->Wp J y Q a F)(h:cond b e1 e2=some r):Wp J (.cond c x y) Q a F:=by
 refine F3 hJ b hc (fun e=>d e ?_) fun e=>f e ?_
 .rw[e] at h;exact h
 .rw[e] at h;exact h
theorem cJ (hJ:Closed P main J){c:Operand}{x y:Code}(h:Wp J x Q a F)(hc:ev a c= .bool true:=by simp (maxSteps:=9^9) only[*,go_sem]):Wp J (.cond c x y) Q a F:=eD hJ hc h
theorem cF (hJ:Closed P main J){c:Operand}{x y:Code}(h:Wp J y Q a F)(hc:ev a c= .bool false:=by simp (maxSteps:=9^9) only[*,go_sem]):Wp J (.cond c x y) Q a F:=eu hJ hc h
theorem aT {α:Type}(hJ:Closed P main J){c:Operand}{x y:Code}{b:Bool}{e1 e2:Option α}{r:α}(d:b=true->e1=some r->Wp J x Q a F)(e:b=false->e2=some r->Wp J y Q a F)(hc:ev a c= .bool b:=by simp (maxSteps:=9^9) only[*,go_sem]):cond b e1 e2=some r->Wp J (.cond c x y) Q a F:=jC hJ hc d e
structure xj (Q:Ex->Act->af->Prop)(K:Act->af->Prop):Prop where
 go:∀{a F},Q .normal a F->K a F
theorem cV (hJ:Closed P main J)(b:P.follows .mixedOrders=true)(m n:Nat){id:Nat}{ops:Array Oper}(c:Knows ⟨F.ro,F.own.take n⟩ F)(d:oK ops m=true)
  (h:eI P J ops ⟨F.ro,F.own.take n⟩ (fun e=>fl P J ops ⟨F.ro,F.own.take n⟩ (Q .normal) (ops.toList.drop m) true e F) (ops.toList.take m) true a):Wp J (.region id ops true) Q a F:=ef hJ b m _ c d h
theorem qZ (hJ:Closed P main J)(b:P.follows .mixedOrders=true)(m n:Nat){id:Nat}{ops:Array Oper}(c:Knows ⟨F.ro,F.own.take n⟩ F)(d:oK ops m=true)
  (h:∀K,xj Q K->eI P J ops ⟨F.ro,F.own.take n⟩ (fun e=>fl P J ops ⟨F.ro,F.own.take n⟩ K (ops.toList.drop m) true e F) (ops.toList.take m) true a):Wp J (.region id ops true) Q a F:=ef hJ b m _ c d (h _ ⟨fun h=>h⟩)
theorem eX (hJ:Closed P main J){id:Nat}{ops:Array Oper}(h:∀K,xj Q K->fD P J ops K ops.toList true a F):Wp J (.region id ops false) Q a F:=aR hJ (h _ ⟨fun h=>h⟩)
theorem kY (hJ:Closed P main J)(b:P.follows .mixedOrders=true)(cr:List Nat)(p:cC){id:Nat}{ops:Array Oper}(F0:af)(c:Knows F0 F)
  (d:(Region.noSelect ops&&decide (p.len<=ops.size)&&p.ok ops cr (Array.replicate ops.size false))=true)
  (h:∀K,xj Q K->cz P J ops F0 K (p.opers ops) true a F):Wp J (.region id ops true) Q a F:=eW hJ b cr p F0 c d (h _ ⟨fun h=>h⟩)
theorem e8 {c:Code}(L:List Nat){a:Act}(h:∀A,sz A=sz a->A.defers=a.defers->(∀i∈L,slot A i=slot a i)->Wp J c Q A F):Wp J c Q a F:=h a rfl rfl fun _ _=>rfl
theorem cR.pick {ws:List Nat}{A a:Act}(h:cR ws A a)(L:List Nat)(b:(L.all fun i=>!iE ws i)=true):sz A=sz a/\A.defers=a.defers/\∀i∈L,slot A i=slot a i:=
 ⟨h.size,h.defers,fun i hi=>h.fS i fun x=>by
  have c:=List.all_eq_true.1 b i hi
  have d:iE ws i=true:=by
   unfold In at x
   exact x
  simp[d] at c⟩
theorem dP {T:Type}{r:cw T}{ro:Addr->Option Value}{bu:List (Nat×Obj)}{R:Value->af->Prop}{argTypes:Array TypeId}{d f e h e2:TypeId}{a b:Nat}{s z:Value}{l:List T}{x:T}{cs:Array Value}{own:List (Nat×Obj)}(pre bC:List (Nat×Obj))
  (hg:bg r ro e s l bu) (i:bh (keys own)) (j:l.length+[x].length<=1000000) (k:r.rel ro x cs.toList) (m:lk pre b=some (.cells cs e2)) (o:∀off sp,ro ⟨b,off,sp⟩=none)
  (p:argTypes[0]?=some d) (q:argTypes[1]?=some f) (he:dH P d=some e) (t:dH P f=some h) (hs:cq P e=some r.n) (u:zeroOf P e=some z) (w:z.cells.size=r.n) (hb:bytesOf P e=some a)
  (y:0<a) (A:a<=10000)
  (B:∀v g,bg r ro e v (l++[x]) g->∀c,c=pre++(g++bC)->bh (keys c)->∃F0,Le F0 ⟨ro,c⟩/\R v F0)
  (C:own=pre++(bu++bC):=by first|rfl|simp only[bn]|(simp only[bn];rfl)):mZ P argTypes s (.slice (some ⟨b,0,none⟩) 1 1) R ⟨ro,own⟩:=
 BG pre bC C hg i j k m o p q he t hs u w hb y A B
theorem oT {T:Type}{r:cw T}{ro:Addr->Option Value}{bu:List (Nat×Obj)}{R:Value->af->Prop}{argTypes:Array TypeId}{d f e h:TypeId}{a c:Nat}{ad:Option Addr}{s z:Value}{l xs:List T}{own:List (Nat×Obj)}(pre bC:List (Nat×Obj))
  (hg:bg r ro e s l bu) (i:bh (keys own)) (j:l.length+xs.length<=1000000) (k:aI r ro (.slice ad xs.length c) xs)
  (m:argTypes[0]?=some d) (o:argTypes[1]?=some f) (he:dH P d=some e) (p:dH P f=some h) (hs:cq P e=some r.n) (q:zeroOf P e=some z) (t:z.cells.size=r.n) (hb:bytesOf P e=some a)
  (u:0<a) (w:a<=10000)
  (x:∀v g,bg r ro e v (l++xs) g->∀b,b=pre++(g++bC)->bh (keys b)->∃F0,Le F0 ⟨ro,b⟩/\R v F0)
  (y:own=pre++(bu++bC):=by first|rfl|simp only[bn]|(simp only[bn];rfl)):mZ P argTypes s (.slice ad xs.length c) R ⟨ro,own⟩:=
 GN pre bC y hg i j k m o he p hs q t hb u w x
theorem ew (hJ:Closed P main J){f:FuncId}{args:Array Value}{ro:Addr->Option Value}{bu:List (Nat×Obj)}{K:Value->af->Prop}{own:List (Nat×Obj)}(pre bC:List (Nat×Obj))(R:Value->List (Nat×Obj)->Prop)(h:aE P f args ⟨ro,bu⟩ (fun v G=>∃a,R v a/\Le ⟨ro,a⟩ G))
  (c:∀v a,R v a->∀b,b=pre++(a++bC)->bh (keys b)->∃F0,Le F0 ⟨ro,b⟩/\K v F0)
  (d:own=pre++(bu++bC):=by first|rfl|simp only[bn]|(simp only[bn];rfl)):dr P J f args ⟨ro,own⟩ K:=GO hJ pre bC d R h c
end
end Go.Sep
end
section
namespace Go.Proofs.YtbpddfapodiemaaGreatDoor
open Go Go.Sep Go.Proofs
set_option maxRecDepth 100000
attribute [go_sem] aI.nil
theorem tG:rI.n=1:=rfl
theorem xk:rB.n=1:=rfl
theorem Hh {T:Type}(r:cw T):(rL r).n=1:=rfl
attribute [go_sem] tG xk Hh
structure au where
 num:Int
 den:Int
 deriving DecidableEq
def au.v (x:au):Value:=.agg #[.int .i64 x.num,.int .i64 x.den]
def au.cells (x:au):List Value:=[.int .i64 x.num,.int .i64 x.den]
def l8:cw au:=ia 2 au.cells (fun _=>rfl) (fun _ v a=>by simp only[au.cells,List.mem_cons,List.not_mem_nil,or_false] at a;rcases a with rfl|rfl<;>rfl)
theorem Hi:l8.n=2:=rfl
attribute [go_sem] au.v au.cells Hi
structure cx where
 aX:Int
 high:Int
 deriving DecidableEq
def cx.cells (x:cx):List Value:=[.int .i64 x.aX,.int .i64 x.high]
def fI:cw cx:=ia 2 cx.cells (fun _=>rfl) (fun _ v a=>by simp only[cx.cells,List.mem_cons,List.not_mem_nil,or_false] at a;rcases a with rfl|rfl<;>rfl)
theorem Hj:fI.n=2:=rfl
attribute [go_sem] cx.cells Hj
structure cK where
 place:Int
 dV:Int
 deriving DecidableEq
def cK.cells (x:cK):List Value:=[.int .i64 x.place,.int .i64 x.dV]
def eY:cw cK:=ia 2 cK.cells (fun _=>rfl) (fun _ v a=>by simp only[cK.cells,List.mem_cons,List.not_mem_nil,or_false] at a;rcases a with rfl|rfl<;>rfl)
theorem Hl:eY.n=2:=rfl
attribute [go_sem] cK.cells Hl
structure dI where
 low:Int
 high:Int
 deriving DecidableEq
def dI.v (x:dI):Value:=.agg #[.int .i64 x.low,.int .i64 x.high]
def dI.cells (x:dI):List Value:=[.int .i64 x.low,.int .i64 x.high]
def Ho:cw dI:=ia 2 dI.cells (fun _=>rfl) (fun _ v a=>by simp only[dI.cells,List.mem_cons,List.not_mem_nil,or_false] at a;rcases a with rfl|rfl<;>rfl)
theorem Hp:Ho.n=2:=rfl
attribute [go_sem] dI.v dI.cells Hp
structure cu where
 back:Int
 high:dI
 deriving DecidableEq
def cu.cells (x:cu):List Value:=[.int .i64 x.back,.int .i64 x.high.low,.int .i64 x.high.high]
def fq:cw cu:=ia 3 cu.cells (fun _=>rfl) (fun _ v a=>by simp only[cu.cells,List.mem_cons,List.not_mem_nil,or_false] at a;rcases a with rfl|rfl|rfl<;>rfl)
theorem Hq:fq.n=3:=rfl
attribute [go_sem] cu.cells Hq
structure cn where
 bA:Int
 bJ:Bool
 deriving DecidableEq
def cn.v (x:cn):Value:=.agg #[.int .i64 x.bA,.bool x.bJ]
def cn.cells (x:cn):List Value:=[.int .i64 x.bA,.bool x.bJ]
def dL:cw cn:=ia 2 cn.cells (fun _=>rfl) (fun _ v a=>by simp only[cn.cells,List.mem_cons,List.not_mem_nil,or_false] at a;rcases a with rfl|rfl<;>rfl)
theorem Hr:dL.n=2:=rfl
attribute [go_sem] cn.v cn.cells Hr
structure an where
 bZ:Int
 b6:Int
 bw:au
 aK:(List cx)
 props:(List cK)
 aH:(List cu)
 told:(List cn)
 deriving DecidableEq
def an.rel (ro:Addr->Option Value)(x:an)(cs:List Value):Prop:=∃a b c d,cs=[.int .i64 x.bZ,.int .i64 x.b6,.int .i64 x.bw.num,.int .i64 x.bw.den,a,b,c,d]/\aI fI ro a x.aK/\aI eY ro b x.props/\aI fq ro c x.aH/\aI dL ro d x.told
theorem an.q2 {ro:Addr->Option Value}{x:an}{cs:List Value}(h:an.rel ro x cs):∀v∈cs,bV v=true:=by
 obtain ⟨b,c,d,e,rfl,⟨_,_,rfl,_⟩,⟨_,_,rfl,_⟩,⟨_,_,rfl,_⟩,⟨_,_,rfl,_⟩⟩:=h;intro v a;simp only[List.mem_cons,List.not_mem_nil,or_false] at a;rcases a with rfl|rfl|rfl|rfl|rfl|rfl|rfl|rfl<;>rfl
def Hs:cw an:=⟨8,an.rel,fun a ⟨b,c,d,f,e,g,h,i,j⟩=>⟨b,c,d,f,e,g.mono a,h.mono a,i.mono a,j.mono a⟩,fun ⟨b,c,d,f,e,_⟩=>by rw[e];rfl,an.q2⟩
theorem Ht:Hs.n=8:=rfl
attribute [go_sem] Ht
structure bx where
 back:Int
 high:Int
 deriving DecidableEq
def bx.v (x:bx):Value:=.agg #[.int .i64 x.back,.int .i64 x.high]
def bx.cells (x:bx):List Value:=[.int .i64 x.back,.int .i64 x.high]
def jE:cw bx:=ia 2 bx.cells (fun _=>rfl) (fun _ v a=>by simp only[bx.cells,List.mem_cons,List.not_mem_nil,or_false] at a;rcases a with rfl|rfl<;>rfl)
theorem Hu:jE.n=2:=rfl
attribute [go_sem] bx.v bx.cells Hu
structure bp where
 e0:Int
 e1:Int
 e2:Int
 deriving DecidableEq
def bp.v (x:bp):Value:=.agg #[.int .i64 x.e0,.int .i64 x.e1,.int .i64 x.e2]
def bp.cells (x:bp):List Value:=[.int .i64 x.e0,.int .i64 x.e1,.int .i64 x.e2]
def iG:cw bp:=ia 3 bp.cells (fun _=>rfl) (fun _ v a=>by simp only[bp.cells,List.mem_cons,List.not_mem_nil,or_false] at a;rcases a with rfl|rfl|rfl<;>rfl)
theorem Hv:iG.n=3:=rfl
attribute [go_sem] bp.v bp.cells Hv
def bp.get (x:bp)(i:Int):Option Int:=if i=0 then some x.e0 else if i=1 then some x.e1 else if i=2 then some x.e2 else none
theorem bp.get_some {x:bp}{i:Int}{y:Int}(h:bp.get x i=some y):0<=i/\i<((3:Nat):Int)/\([.int .i64 x.e0,.int .i64 x.e1,.int .i64 x.e2]:List Value)[i.toNat]?=some (.int .i64 y):=by
 unfold bp.get at h;by_cases a:i=0
 .subst a;simp at h;subst h;exact ⟨aa,aa,rfl⟩
 by_cases b:i=1
 .subst b;simp at h;subst h;exact ⟨aa,aa,rfl⟩
 by_cases c:i=2
 .subst c;simp at h;subst h;exact ⟨aa,aa,rfl⟩
 simp[a,b,c] at h
theorem bp.Hw {ro:Addr->Option Value}{b:Nat}{x:bp}{i:Int}{y:Int}(h:bp.get x i=some y)(g0:ro ⟨b,0,none⟩=some (.int .i64 x.e0))(e:ro ⟨b,1,none⟩=some (.int .i64 x.e1))(f:ro ⟨b,2,none⟩=some (.int .i64 x.e2)):ro ⟨b,i.toNat,none⟩=some (.int .i64 y):=by
 unfold bp.get at h;by_cases a:i=0
 .subst a;simp at h;subst h;exact g0
 by_cases c:i=1
 .subst c;simp at h;subst h;exact e
 by_cases d:i=2
 .subst d;simp at h;subst h;exact f
 simp[a,c,d] at h
structure dh where
 book:an
 all:(List bp)
 deriving DecidableEq
def dh.rel (ro:Addr->Option Value)(x:dh)(cs:List Value):Prop:=∃a b c d e,cs=[.int .i64 x.book.bZ,.int .i64 x.book.b6,.int .i64 x.book.bw.num,.int .i64 x.book.bw.den,a,b,c,d,e]/\aI fI ro a x.book.aK/\aI eY ro b x.book.props/\aI fq ro c x.book.aH/\aI dL ro d x.book.told/\aI iG ro e x.all
theorem dh.q2 {ro:Addr->Option Value}{x:dh}{cs:List Value}(h:dh.rel ro x cs):∀v∈cs,bV v=true:=by
 obtain ⟨b,c,d,e,f,rfl,⟨_,_,rfl,_⟩,⟨_,_,rfl,_⟩,⟨_,_,rfl,_⟩,⟨_,_,rfl,_⟩,⟨_,_,rfl,_⟩⟩:=h;intro v a;simp only[List.mem_cons,List.not_mem_nil,or_false] at a;rcases a with rfl|rfl|rfl|rfl|rfl|rfl|rfl|rfl|rfl<;>rfl
def Hx:cw dh:=⟨9,dh.rel,fun a ⟨b,c,d,f,g,e,h,i,j,k,l⟩=>⟨b,c,d,f,g,e,h.mono a,i.mono a,j.mono a,k.mono a,l.mono a⟩,fun ⟨b,c,d,f,g,e,_⟩=>by rw[e];rfl,dh.q2⟩
theorem Hy:Hx.n=9:=rfl
attribute [go_sem] Hy
structure iH where
 aX:Int
 high:au
 deriving DecidableEq
def iH.cells (x:iH):List Value:=[.int .i64 x.aX,.int .i64 x.high.num,.int .i64 x.high.den]
def Hz:cw iH:=ia 3 iH.cells (fun _=>rfl) (fun _ v a=>by simp only[iH.cells,List.mem_cons,List.not_mem_nil,or_false] at a;rcases a with rfl|rfl|rfl<;>rfl)
theorem HA:Hz.n=3:=rfl
attribute [go_sem] iH.cells HA
structure bQ where
 spot:iH
 at_:Int
 high:au
 deriving DecidableEq
def bQ.v (x:bQ):Value:=.agg #[.int .i64 x.spot.aX,.int .i64 x.spot.high.num,.int .i64 x.spot.high.den,.int .i64 x.at_,.int .i64 x.high.num,.int .i64 x.high.den]
def bQ.cells (x:bQ):List Value:=[.int .i64 x.spot.aX,.int .i64 x.spot.high.num,.int .i64 x.spot.high.den,.int .i64 x.at_,.int .i64 x.high.num,.int .i64 x.high.den]
def kZ:cw bQ:=ia 6 bQ.cells (fun _=>rfl) (fun _ v a=>by simp only[bQ.cells,List.mem_cons,List.not_mem_nil,or_false] at a;rcases a with rfl|rfl|rfl|rfl|rfl|rfl<;>rfl)
theorem HB:kZ.n=6:=rfl
attribute [go_sem] bQ.v bQ.cells HB
def dx.rel (ro:Addr->Option Value)(g:(an->Option Int))(cs:List Value):Prop:=∃(b:FuncId) (c d:Array Value),cs=[.func (.func b) c d]/\aS Tryz.prog b=true/\∀(aW:Addr->Option Value),Ext ro aW->∀(a:an) (e:Value) (f:Value) (h:Value) (i:Value) (z:Int),aI fI aW e a.aK->aI eY aW f a.props->aI fq aW h a.aH->aI dL aW i a.told->g a=some z->aE Tryz.prog b (c++#[.agg #[.int .i64 a.bZ,.int .i64 a.b6,.int .i64 a.bw.num,.int .i64 a.bw.den,e,f,h,i]]++d) ⟨aW,[]⟩ (fun v _=>v= .int .i64 z)
theorem dx.HC {ro aW:Addr->Option Value}{g:(an->Option Int)}{cs:List Value}(b:Ext ro aW)(h:dx.rel ro g cs):dx.rel aW g cs:=by
 obtain ⟨f,a,c,e,d,i⟩:=h;exact ⟨f,a,c,e,d,fun j k=>i j (b.trans k)⟩
theorem dx.HD {ro:Addr->Option Value}{g:(an->Option Int)}{cs:List Value}(h:dx.rel ro g cs):cs.length=1:=by
 obtain ⟨f,a,c,e,_⟩:=h;rw[e];rfl
theorem dx.q2 {ro:Addr->Option Value}{g:(an->Option Int)}{cs:List Value}(h:dx.rel ro g cs):∀v∈cs,bV v=true:=by
 obtain ⟨f,a,c,e,_⟩:=h;intro v b;rw[e] at b;simp at b;subst b;rfl
def dx:cw (an->Option Int):=⟨1,dx.rel,dx.HC,dx.HD,dx.q2⟩
theorem HE:dx.n=1:=rfl
attribute [go_sem] HE
abbrev sl {T:Type}(d:Option Addr)(l:List T)(c:Nat):Value:=.slice d l.length c
abbrev bk (x:an)(a b c d:Value):Obj:=.cells #[.int .i64 x.bZ,.int .i64 x.b6,.int .i64 x.bw.num,.int .i64 x.bw.den,a,b,c,d] 29
abbrev bl (x:an)(a b c d:Value):Obj:=.cells #[.int .i64 x.bZ,.int .i64 x.b6,.int .i64 x.bw.num,.int .i64 x.bw.den,a,b,c,d] 92
abbrev bz (t:Nat):Obj:=.cells #[.int .i64 0,.int .i64 0,.int .i64 0,.int .i64 0,.slice none 0 0,.slice none 0 0,.slice none 0 0,.slice none 0 0] t
abbrev kn (x:dh)(a b c d e:Value):Obj:=.cells #[.int .i64 x.book.bZ,.int .i64 x.book.b6,.int .i64 x.book.bw.num,.int .i64 x.book.bw.den,a,b,c,d,e] 95
abbrev rt (a b:Int):Obj:=.cells #[.int .i64 a,.int .i64 b] 23
abbrev ic (a:Int):Obj:=.cells #[.int .i64 a] 3
abbrev bv (x:an)(a b c d:Value):Value:=.agg #[.int .i64 x.bZ,.int .i64 x.b6,.int .i64 x.bw.num,.int .i64 x.bw.den,a,b,c,d]
attribute [go_sem] sl bk bl bz kn rt ic bv Hf Hg List.cons_append List.nil_append List.append_nil List.append_assoc
structure bO (ro:Addr->Option Value)(u:an)(a b c d:Value):Prop where
 e:aI fI ro a u.aK
 p:aI eY ro b u.props
 y:aI fq ro c u.aH
 t:aI dL ro d u.told
theorem bO.oc {ro:Addr->Option Value}{u:an}{a b c d:Value}(h:bO ro u a b c d):bV a=true/\bV b=true/\bV c=true/\bV d=true:=⟨h.e.oc,h.p.oc,h.y.oc,h.t.oc⟩
theorem bO.mono {ro aW:Addr->Option Value}{u:an}{a b c d:Value}(h:bO ro u a b c d)(f:Ext ro aW):bO aW u a b c d:=⟨h.e.mono f,h.p.mono f,h.y.mono f,h.t.mono f⟩
end Go.Proofs.YtbpddfapodiemaaGreatDoor
end
section
namespace Go.Proofs.YtbpddfapodiemaaGreatDoor
open Go Go.Sep Go.Proofs
set_option maxRecDepth 100000
set_option maxHeartbeats 4000000
def fU (u0:Int)(a:Int)(b:Int):Option Bool:=
 cond (decide (a<=u0)) (some (decide (u0<=b))) (some false)
theorem gQ {ro:Addr->Option Value}(u0:Int)(a:Int)(b:Int){r:Bool}(h:fU u0 a b=some r):aE Tryz.prog 80 #[.int .i64 u0,.int .i64 a,.int .i64 b] ⟨ro,[]⟩ (fun v _=>v= .bool r):=by
 unfold fU at h;refine aE.go Tryz.func80 rfl Tryz.ntmps80 Tryz.results80 ax fun main J hJ A d hd hs=>?_;have e:=hs 0;have k1:=hs 1;have f:=hs 2;clear hs;apply ay hJ _;apply aC hJ;revert h;refine cS (fun c h=>?_) fun c h=>?_
 .cases h;apply ag _;apply aQ;simp only[*,go_sem]
 cases h;apply ag _;apply aQ;simp only[*,go_sem]
def gE (u0:Int):Option au:=
 some (⟨u0,1⟩:au)
theorem j5 {ro:Addr->Option Value}(u0:Int){r:au}(h:gE u0=some r):aE Tryz.prog 102 #[.int .i64 u0] ⟨ro,[]⟩ (fun v _=>v=r.v):=by
 unfold gE at h;cases h;refine aE.go Tryz.func102 rfl Tryz.ntmps102 Tryz.results102 ax fun main J hJ A a hd hs=>?_;have b:=hs 0;clear hs;apply ay hJ _;refine az fun c r1 n1=>?_;try simp only[av] at n1
 apply ay hJ _;apply aQ;simp only[*,go_sem]
def eZ (u0:au)(a:au):Option Bool:=
 some (decide ((IntKind.i64.wrap (u0.num*a.den))<(IntKind.i64.wrap (a.num*u0.den))))
theorem jF {ro:Addr->Option Value}(u0:au)(a:au){r:Bool}(h:eZ u0 a=some r):aE Tryz.prog 61 #[.agg #[.int .i64 u0.num,.int .i64 u0.den],.agg #[.int .i64 a.num,.int .i64 a.den]] ⟨ro,[]⟩ (fun v _=>v= .bool r):=by
 unfold eZ at h;cases h;refine aE.go Tryz.func61 rfl Tryz.ntmps61 Tryz.results61 ax fun main J hJ A b hd hs=>?_;have c:=hs 0;have k1:=hs 1;clear hs;apply ay hJ _;refine az fun d r1 n1=>?_;try simp only[av] at n1
 refine az fun b2 r2 n2=>?_;try simp only[av] at n2
 apply ay hJ _;apply aQ;simp only[*,go_sem]
def q3 (u0:dI)(a:Int)(b:Int):Option Bool:=
 cond (decide (a<=u0.low)) (cond (decide (u0.low<=u0.high)) (some (decide (u0.high<=b))) (some false)) (some false)
theorem BY {ro:Addr->Option Value}(u0:dI)(a:Int)(b:Int){r:Bool}(h:q3 u0 a b=some r):aE Tryz.prog 118 #[.agg #[.int .i64 u0.low,.int .i64 u0.high],.int .i64 a,.int .i64 b] ⟨ro,[]⟩ (fun v _=>v= .bool r):=by
 unfold q3 at h;refine aE.go Tryz.func118 rfl Tryz.ntmps118 Tryz.results118 ax fun main J hJ A e hd hs=>?_;have f:=hs 0;have k1:=hs 1;have g:=hs 2;clear hs;apply ay hJ _;refine az fun i r1 n1=>?_;try simp only[av] at n1
 apply aC hJ;revert h;refine cS (fun c h=>?_) fun c h=>?_
 .revert h;refine cS (fun d h=>?_) fun d h=>?_
  .cases h;apply ag _;apply aQ;simp only[*,go_sem]
  cases h;apply ag _;apply aQ;simp only[*,go_sem]
 cases h;apply ag _;apply aQ;simp only[*,go_sem]
def jG (u0:bQ)(a:bQ):Option Bool:=
 ai (eZ u0.high a.high) fun b=>some b
theorem tH {ro:Addr->Option Value}(u0:bQ)(a:bQ){r:Bool}(h:jG u0 a=some r):aE Tryz.prog 57 #[.agg #[.int .i64 u0.spot.aX,.int .i64 u0.spot.high.num,.int .i64 u0.spot.high.den,.int .i64 u0.at_,.int .i64 u0.high.num,.int .i64 u0.high.den],.agg #[.int .i64 a.spot.aX,.int .i64 a.spot.high.num,.int .i64 a.spot.high.den,.int .i64 a.at_,.int .i64 a.high.num,.int .i64 a.high.den]] ⟨ro,[]⟩ (fun v _=>v= .bool r):=by
 unfold jG at h;refine aE.go Tryz.func57 rfl Tryz.ntmps57 Tryz.results57 ax fun main J hJ A c hd hs=>?_;have d:=hs 0;have k1:=hs 1;clear hs;apply ay hJ _;refine az fun e r1 n1=>?_;try simp only[av] at n1
 refine az fun b2 r2 n2=>?_;try simp only[av] at n2
 apply aC hJ;revert h;refine bS fun f b h=>?_;cases h;apply ag _;refine bf hJ _ (jF u0.high a.high b) (aP ?_);apply ag _;apply aQ;simp only[*,go_sem]
def iI (u0:Int)(b:an):Option Int:=
 ai (fU u0 1 20) fun a=>cond (!a) (some 1) (some 0)
theorem xl {ro:Addr->Option Value}(u0:Int)(b:an){s1 c d f:Value}(a:bO ro b s1 c d f){r:Int}(h:iI u0 b=some r):aE Tryz.prog 68 #[.int .i64 u0,bv b s1 c d f] ⟨ro,[]⟩ (fun v _=>v= .int .i64 r):=by
 obtain ⟨d3,c4,rfl,k,l,-⟩:=id a.e;obtain ⟨d10,m,rfl,n,o,-⟩:=id a.p;obtain ⟨d17,q,rfl,s,u,-⟩:=id a.y;obtain ⟨d24,w,rfl,x,z,-⟩:=id a.t;unfold iI at h;refine aE.go Tryz.func68 rfl Tryz.ntmps68 Tryz.results68 ax fun main J hJ A B hd hs=>?_;have C:=hs 0;have k1:=hs 1;clear hs;apply ay hJ _;refine az fun D E g=>?_;try simp only[av] at g
 refine ah hJ (aC hJ ?_);revert h;refine bS fun F i h=>?_;apply ag _;refine bf hJ _ (gQ u0 1 20 i) (aP ?_);apply ag _;revert h;refine aT hJ (fun j h=>?_) fun j h=>?_
 .cases h;apply ay hJ _;apply aQ;simp only[*,go_sem]
 cases h;refine aO hJ (ah hJ ?_);apply aF hJ _;apply aQ;simp only[*,go_sem]
def fV (u0:bx)(c:an):Option Int:=
 ai (fU u0.back 1 20) fun a=>cond (!a) (some 1) (ai (fU u0.high 0 60) fun b=>cond (!b) (some 1) (some 0))
theorem tJ {ro:Addr->Option Value}(u0:bx)(b:an){s1 c d f:Value}(a:bO ro b s1 c d f){r:Int}(h:fV u0 b=some r):aE Tryz.prog 107 #[.agg #[.int .i64 u0.back,.int .i64 u0.high],bv b s1 c d f] ⟨ro,[]⟩ (fun v _=>v= .int .i64 r):=by
 obtain ⟨d3,c4,rfl,n,o,-⟩:=id a.e;obtain ⟨d10,q,rfl,s,u,-⟩:=id a.p;obtain ⟨d17,w,rfl,x,z,-⟩:=id a.y;obtain ⟨d24,B,rfl,C,D,-⟩:=id a.t;unfold fV at h;refine aE.go Tryz.func107 rfl Tryz.ntmps107 Tryz.results107 ax fun main J hJ A E hd hs=>?_;have F:=hs 0;have k1:=hs 1;clear hs;apply ay hJ _;refine az fun G H g=>?_;try simp only[av] at g
 refine az fun I K i=>?_;try simp only[av] at i
 refine ah hJ (aC hJ ?_);revert h;refine bS fun L j h=>?_;apply ag _;refine bf hJ _ (gQ u0.back 1 20 j) (aP ?_);revert h;refine cS (fun k h=>?_) fun k h=>?_
 .cases h;apply ag _;refine cJ hJ ?_;apply ay hJ _;apply aQ;simp only[*,go_sem]
 revert h;refine bS fun M l h=>?_;apply ag _;refine bf hJ _ (gQ u0.high 0 60 l) (aP ?_);apply ag _;revert h;refine aT hJ (fun m h=>?_) fun m h=>?_
 .cases h;apply ay hJ _;apply aQ;simp only[*,go_sem]
 cases h;refine aO hJ (ah hJ ?_);apply aF hJ _;apply aQ;simp only[*,go_sem]
def oU (u0:an)(a:Int):Option Bool:=
 ai (fU a 0 (IntKind.i64.wrap ((u0.aH.length:Int) - 1))) fun b=>some b
theorem BZ {ro:Addr->Option Value}(u0:an){s1 c d f:Value}(a:bO ro u0 s1 c d f)(b:Int){r:Bool}(h:oU u0 b=some r):aE Tryz.prog 141 #[bv u0 s1 c d f,.int .i64 b] ⟨ro,[]⟩ (fun v _=>v= .bool r):=by
 obtain ⟨d3,c4,rfl,j,k,-⟩:=id a.e;obtain ⟨d10,l,rfl,m,n,-⟩:=id a.p;obtain ⟨d17,o,rfl,q,s,-⟩:=id a.y;obtain ⟨d24,u,rfl,w,x,-⟩:=id a.t;unfold oU at h;refine aE.go Tryz.func141 rfl Tryz.ntmps141 Tryz.results141 ax fun main J hJ A z hd hs=>?_;have B:=hs 0;have k1:=hs 1;clear hs;apply ay hJ _;refine az fun C D g=>?_;try simp only[av] at g
 apply aC hJ;revert h;refine bS fun E i h=>?_;cases h;apply ag _;refine bf hJ _ (gQ b 0 (IntKind.i64.wrap ((u0.aH.length:Int) - 1)) i) (aP ?_);apply ag _;apply aQ;simp only[*,go_sem]
def gR (u0:an)(a:Int):Option Bool:=
 ai (bt u0.aK 0) fun b=>ai (bt u0.aK (IntKind.i64.wrap ((u0.aK.length:Int) - 1))) fun c=>ai (fU a b.aX c.aX) fun d=>some d
theorem tK {ro:Addr->Option Value}(u0:an){s1 f g i:Value}(a:bO ro u0 s1 f g i)(b:Int){r:Bool}(h:gR u0 b=some r):aE Tryz.prog 134 #[bv u0 s1 f g i,.int .i64 b] ⟨ro,[]⟩ (fun v _=>v= .bool r):=by
 obtain ⟨d3,c4,rfl,E,G,-⟩:=id a.e;unfold gR at h;refine aE.go Tryz.func134 rfl Tryz.ntmps134 Tryz.results134 ax fun main J hJ A H hd hs=>?_;have I:=hs 0;have k1:=hs 1;clear hs;apply ay hJ _;refine az fun K L n=>?_;try simp only[av] at n
 apply ah hJ;refine cV hJ mixed 20 1 aM aj ?_;revert h;refine bS fun j o h=>?_;obtain ⟨M,N,k⟩:=cv o;obtain ⟨O,p,q,s,c⟩:=a.e.el _ _ k;obtain rfl:p=j.cells:=s;cases q;have t:=c 0 _ rfl;simp only[go_sem] at t;have u:=c 1 _ rfl;simp only[go_sem] at u;clear c k;revert h;refine bS fun l w h=>?_;obtain ⟨P,Q,m⟩:=cv w;obtain ⟨R,x,y,z,d⟩:=a.e.el _ _ m;obtain rfl:x=l.cells:=z;cases y;have B:=d 0 _ rfl;simp only[go_sem] at B;have C:=d 1 _ rfl;simp only[go_sem] at C;clear d m;revert h;refine bS fun S D h=>?_;cases h;apply ag _;refine ⟨_,bI hJ fun F T=>gQ b j.aX l.aX D,ck ?_⟩;apply ag _;apply aQ;simp only[*,go_sem]
def e9 (u0:Int)(a:an):Option Int:=
 ai (oU a u0) fun b=>cond (!b) (some 6) (some 0)
theorem tL {ro:Addr->Option Value}(u0:Int)(b:an){s1 c d f:Value}(a:bO ro b s1 c d f){r:Int}(h:e9 u0 b=some r):aE Tryz.prog 86 #[.int .i64 u0,bv b s1 c d f] ⟨ro,[]⟩ (fun v _=>v= .int .i64 r):=by
 obtain ⟨d3,c4,rfl,k,l,-⟩:=id a.e;obtain ⟨d10,m,rfl,n,o,-⟩:=id a.p;obtain ⟨d17,q,rfl,s,u,-⟩:=id a.y;obtain ⟨d24,w,rfl,x,z,-⟩:=id a.t;unfold e9 at h;refine aE.go Tryz.func86 rfl Tryz.ntmps86 Tryz.results86 ax fun main J hJ A B hd hs=>?_;have C:=hs 0;have k1:=hs 1;clear hs;apply ay hJ _;refine az fun D E g=>?_;try simp only[av] at g
 refine ah hJ (aC hJ ?_);revert h;refine bS fun F i h=>?_;apply ag _;refine bf hJ _ (BZ b (a.mono aZ) u0 i) (aP ?_);apply ag _;revert h;refine aT hJ (fun j h=>?_) fun j h=>?_
 .cases h;apply ay hJ _;apply aQ;simp only[*,go_sem]
 cases h;refine aO hJ (ah hJ ?_);apply aF hJ _;apply aQ;simp only[*,go_sem]
def oV (u0:Int)(a:an):Option Int:=
 ai (gR a u0) fun b=>cond (!b) (some 6) (some 0)
theorem HF {ro:Addr->Option Value}(u0:Int)(b:an){s1 c d f:Value}(a:bO ro b s1 c d f){r:Int}(h:oV u0 b=some r):aE Tryz.prog 112 #[.int .i64 u0,bv b s1 c d f] ⟨ro,[]⟩ (fun v _=>v= .int .i64 r):=by
 obtain ⟨d3,c4,rfl,k,l,-⟩:=id a.e;obtain ⟨d10,m,rfl,n,o,-⟩:=id a.p;obtain ⟨d17,q,rfl,s,u,-⟩:=id a.y;obtain ⟨d24,w,rfl,x,z,-⟩:=id a.t;unfold oV at h;refine aE.go Tryz.func112 rfl Tryz.ntmps112 Tryz.results112 ax fun main J hJ A B hd hs=>?_;have C:=hs 0;have k1:=hs 1;clear hs;apply ay hJ _;refine az fun D E g=>?_;try simp only[av] at g
 refine ah hJ (aC hJ ?_);revert h;refine bS fun F i h=>?_;apply ag _;refine bf hJ _ (tK b (a.mono aZ) u0 i) (aP ?_);apply ag _;revert h;refine aT hJ (fun j h=>?_) fun j h=>?_
 .cases h;apply ay hJ _;apply aQ;simp only[*,go_sem]
 cases h;refine aO hJ (ah hJ ?_);apply aF hJ _;apply aQ;simp only[*,go_sem]
def q4 (st:(Int×Int)):Option (Fl (Int×Int) au):=
 cond ((st.2 != 0)) (ai (m7 st.1 st.2) fun a=>some (.nx (st.2,a))) (some (.bk (st.1,st.2)))
def k3 (u0:Int)(a:Int):Option au:=
 ai (aY (q4) fu ((if u0<IntKind.i64.wrap (0 - u0) then IntKind.i64.wrap (0 - u0) else u0),a)) fun o=>aG o (fun b=>ai (gm u0 b.1) fun c=>ai (gm a b.1) fun d=>some (⟨c,d⟩:au)) (fun _ _=>none) (fun r=>some r)
theorem q5 {ro:Addr->Option Value}(u0:Int)(c:Int){r:au}(h:k3 u0 c=some r):aE Tryz.prog 123 #[.int .i64 u0,.int .i64 c] ⟨ro,[]⟩ (fun v _=>v=r.v):=by
 unfold k3 at h;refine aE.go Tryz.func123 rfl Tryz.ntmps123 Tryz.results123 ax fun main J hJ A l hd hs=>?_;have n:=hs 0;have k1:=hs 1;clear hs;apply ay hJ _;refine az fun o r1 n1=>?_;try simp only[av] at n1
 apply ay hJ _;refine ah hJ (aV hJ ?_);revert h;refine bS fun o4 a p=>?_;refine bY hJ (rg 12 6 [5,6]) (fun m f F'=>∃(v2:Int) (b:Int),aY (q4) m (v2,b)=some o4/\F'=⟨ro,(o,rt 0 0)::[]⟩/\slot f 5= .int .i64 v2/\slot f 6= .int .i64 b) fu ?_ ?_
 .refine ⟨(if u0<IntKind.i64.wrap (0 - u0) then IntKind.i64.wrap (0 - u0) else u0),c,a,rfl,?_⟩;simp only[*,go_sem]
 rintro d x F' g ⟨v2,b,a,rfl,y,z⟩;obtain ⟨q,s,t⟩:=g.pick [0,1,4] aB;simp only[*,go_sem] at q s t;clear g l hd n k1;obtain _|d:=d
 .exact absurd a (by simp only[aY,reduceCtorEq,not_false_eq_true])
 revert a;refine bS fun B h e=>?_;unfold q4 at h;try dsimp only at h
 refine ah hJ (aC hJ ?_);apply ag _;revert h;refine aT hJ (fun u h=>?_) fun u h=>?_
 .refine aO hJ (aV hJ ?_);refine cV hJ mixed 6 1 aM aj ?_;revert h;refine bS fun w i h=>?_;cases h;obtain ⟨C,D⟩:=wP i;clear i;apply ag _;refine ⟨d,Nat.lt_succ_self _,_,Le.sub (List.Sublist.refl _),b,w,e,rfl,?_⟩;simp only[*,go_sem]
 cases h;apply bR;simp only[go_sem];obtain rfl:=sI e;clear e;have h:=p;dsimp only[aG] at h;apply ah hJ;refine cV hJ mixed 7 0 aM aj ?_;revert h;refine bS fun E j h=>?_;obtain ⟨F,G⟩:=kR j;clear j;revert h;refine bS fun H k h=>?_;cases h;obtain ⟨I,K⟩:=kR k;clear k;apply ag _;apply aQ;simp only[*,go_sem]
def j6 (u0:au)(a:au):Option au:=
 ai (k3 (IntKind.i64.wrap ((IntKind.i64.wrap (u0.num*a.den))+(IntKind.i64.wrap (a.num*u0.den)))) (IntKind.i64.wrap (u0.den*a.den))) fun b=>some b
theorem q6 {ro:Addr->Option Value}(u0:au)(a:au){r:au}(h:j6 u0 a=some r):aE Tryz.prog 60 #[.agg #[.int .i64 u0.num,.int .i64 u0.den],.agg #[.int .i64 a.num,.int .i64 a.den]] ⟨ro,[]⟩ (fun v _=>v=r.v):=by
 unfold j6 at h;refine aE.go Tryz.func60 rfl Tryz.ntmps60 Tryz.results60 ax fun main J hJ A c hd hs=>?_;have d:=hs 0;have k1:=hs 1;clear hs;apply ay hJ _;refine az fun e r1 n1=>?_;try simp only[av] at n1
 refine az fun b2 r2 n2=>?_;try simp only[av] at n2
 refine az fun b3 r3 n3=>?_;try simp only[av] at n3
 apply aC hJ;revert h;refine bS fun f b h=>?_;cases h;apply ag _;refine bf hJ _ (q5 (IntKind.i64.wrap ((IntKind.i64.wrap (u0.num*a.den))+(IntKind.i64.wrap (a.num*u0.den)))) (IntKind.i64.wrap (u0.den*a.den)) b) (aP ?_);apply ag _;apply aQ;simp only[*,go_sem]
def j7 (u0:au)(a:au):Option au:=
 ai (j6 u0 (⟨IntKind.i64.wrap (0 - a.num),a.den⟩:au)) fun b=>some b
theorem q7 {ro:Addr->Option Value}(u0:au)(a:au){r:au}(h:j7 u0 a=some r):aE Tryz.prog 59 #[.agg #[.int .i64 u0.num,.int .i64 u0.den],.agg #[.int .i64 a.num,.int .i64 a.den]] ⟨ro,[]⟩ (fun v _=>v=r.v):=by
 unfold j7 at h;refine aE.go Tryz.func59 rfl Tryz.ntmps59 Tryz.results59 ax fun main J hJ A c hd hs=>?_;have d:=hs 0;have k1:=hs 1;clear hs;apply ay hJ _;refine az fun e r1 n1=>?_;try simp only[av] at n1
 refine az fun b2 r2 n2=>?_;try simp only[av] at n2
 refine az fun b3 r3 n3=>?_;try simp only[av] at n3
 apply aC hJ;revert h;refine bS fun f b h=>?_;cases h;apply ag _;refine bf hJ _ (q6 u0 (⟨IntKind.i64.wrap (0 - a.num),a.den⟩:au) b) (aP ?_);apply ag _;apply aQ;simp only[*,go_sem]
def k4 (u0:an)(a:bx)(e:Int)(b:iH):Option bQ:=
 ai (gE a.high) fun f=>ai (j7 b.high f) fun c=>ai (k3 (IntKind.i64.wrap (u0.bZ+a.back)) (IntKind.i64.wrap (b.aX+a.back))) fun d=>ai (gE a.high) fun g=>ai (k3 (IntKind.i64.wrap (c.num*d.num)) (IntKind.i64.wrap (c.den*d.den))) fun h=>ai (j6 g h) fun i=>some (⟨b,e,i⟩:bQ)
theorem B1 {ro:Addr->Option Value}(u0:an){s1 c d e:Value}(K:bO ro u0 s1 c d e)(b:bx)(j:Int)(a:iH){r:bQ}(h:k4 u0 b j a=some r):aE Tryz.prog 122 #[bv u0 s1 c d e,.agg #[.int .i64 b.back,.int .i64 b.high],.int .i64 j,.agg #[.int .i64 a.aX,.int .i64 a.high.num,.int .i64 a.high.den]] ⟨ro,[]⟩ (fun v _=>v=r.v):=by
 unfold k4 at h;refine aE.go Tryz.func122 rfl Tryz.ntmps122 Tryz.results122 ax fun main J hJ A L hd hs=>?_;have M:=hs 0;have k1:=hs 1;have N:=hs 2;have O:=hs 3;clear hs;apply ay hJ _;refine az fun k P n=>?_;try simp only[av] at n
 refine az fun l Q o=>?_;try simp only[av] at o
 refine az fun m R p=>?_;try simp only[av] at p
 refine az fun q S s=>?_;try simp only[av] at s
 apply ah hJ;refine ef hJ mixed 6 ⟨ro,[(q,.cells #[.int .i64 0,.int .i64 0,.int .i64 0,.int .i64 0,.int .i64 0,.int .i64 0] 105),(m,.cells #[.int .i64 a.aX,.int .i64 a.high.num,.int .i64 a.high.den] 103),(l,.cells #[.int .i64 b.back,.int .i64 b.high] 101),(k,bl u0 s1 c d e)]⟩ aM aj ?_;revert h;refine bS fun t u h=>?_;apply ag _;refine ⟨_,bI hJ fun F f=>j5 b.high u,ck ?_⟩;revert h;refine bS fun g w h=>?_;apply ag _;refine ⟨_,bI hJ fun F f=>q7 a.high t w,?_⟩;apply ag _;refine az fun x T y=>?_;try simp only[av] at y
 apply ag _;apply aC hJ;revert h;refine bS fun i z h=>?_;apply ag _;refine bf hJ _ (q5 (IntKind.i64.wrap (u0.bZ+b.back)) (IntKind.i64.wrap (a.aX+b.back)) z) (aP ?_);apply ag _;refine az fun B U C=>?_;try simp only[av] at C
 apply ah hJ;refine ef hJ mixed 18 ⟨ro,[(B,rt i.num i.den),(x,rt g.num g.den),(m,.cells #[.int .i64 a.aX,.int .i64 a.high.num,.int .i64 a.high.den] 103),(l,.cells #[.int .i64 b.back,.int .i64 b.high] 101),(k,bl u0 s1 c d e)]⟩ aM aj ?_;revert h;refine bS fun D E h=>?_;apply ag _;refine ⟨_,bI hJ fun F f=>j5 b.high E,ck ?_⟩;revert h;refine bS fun G H h=>?_;apply ag _;refine ⟨_,bI hJ fun F f=>q5 (IntKind.i64.wrap (g.num*i.num)) (IntKind.i64.wrap (g.den*i.den)) H,ck ?_⟩;revert h;refine bS fun V I h=>?_;cases h;apply ag _;refine ⟨_,bI hJ fun F f=>q6 D G I,ck ?_⟩;apply ag _;apply aQ;simp only[*,go_sem]
def ij (u0:an)(a:Int)(b:Int):Option bx:=
 ai (bt u0.aH a) fun c=>some (⟨c.back,b⟩:bx)
theorem nh {ro:Addr->Option Value}(u0:an){s1 c d f:Value}(a:bO ro u0 s1 c d f)(g:Int)(i:Int){r:bx}(h:ij u0 g i=some r):aE Tryz.prog 91 #[bv u0 s1 c d f,.int .i64 g,.int .i64 i] ⟨ro,[]⟩ (fun v _=>v=r.v):=by
 obtain ⟨d3,c4,rfl,z,B,-⟩:=id a.e;obtain ⟨d10,C,rfl,D,E,-⟩:=id a.p;obtain ⟨d17,F,rfl,G,H,-⟩:=id a.y;obtain ⟨d24,I,rfl,K,L,-⟩:=id a.t;unfold ij at h;refine aE.go Tryz.func91 rfl Tryz.ntmps91 Tryz.results91 ax fun main J hJ A M hd hs=>?_;have N:=hs 0;have k1:=hs 1;have O:=hs 2;clear hs;apply ay hJ _;refine az fun P Q k=>?_;try simp only[av] at k
 refine az fun R S l=>?_;try simp only[av] at l
 apply aC hJ;revert h;refine bS fun m n h=>?_;cases h;obtain ⟨T,U,j⟩:=cv n;obtain ⟨V,o,q,s,b⟩:=a.y.el _ _ j;obtain rfl:o=m.cells:=s;cases q;have u:=b 0 _ rfl;simp only[go_sem] at u;have w:=b 1 _ rfl;simp only[go_sem] at w;have x:=b 2 _ rfl;simp only[go_sem] at x;clear b j;apply ag _;apply aQ;simp only[*,go_sem]
def q8 (u0:(bQ->bQ->Option Bool))(i11:Nat)(a:bQ)(st:bQ):Option (Fl bQ bQ):=
 ai (u0 st a) fun b=>cond (b) (some (.nx a)) (some (.nx st))
def ni (u0:(bQ->bQ->Option Bool))(a:bQ)(b:(List bQ)):Option bQ:=
 ai (bU (q8 u0) 0 b a) fun o=>aG o (fun c=>some c) (fun _ _=>none) (fun r=>some r)
theorem tN {ro:Addr->Option Value}(u0:(bQ->bQ->Option Bool)){ey:FuncId}{eM eN:Array Value}(s:aS Tryz.prog ey=true/\∀(aW:Addr->Option Value),Ext ro aW->∀(i:bQ) (j:bQ) (z:Bool),u0 i j=some z->aE Tryz.prog ey (eM++#[i.v,j.v]++eN) ⟨aW,[]⟩ (fun v _=>v= .bool z))(c:bQ)(b:(List bQ)){s1:Value}(k:aI kZ ro s1 b){r:bQ}(h:ni u0 c b=some r):aE Tryz.prog 56 #[.func (.func ey) eM eN,.agg #[.int .i64 c.spot.aX,.int .i64 c.spot.high.num,.int .i64 c.spot.high.den,.int .i64 c.at_,.int .i64 c.high.num,.int .i64 c.high.den],s1] ⟨ro,[]⟩ (fun v _=>v=r.v):=by
 obtain ⟨d3,c4,rfl,Z,l,-⟩:=id k;unfold ni at h;refine aE.go Tryz.func56 rfl Tryz.ntmps56 Tryz.results56 ax fun main J hJ A t hd hs=>?_;have u:=hs 0;have k1:=hs 1;have w:=hs 2;clear hs;apply ay hJ _;refine az fun y ab B=>?_;try simp only[av] at B
 refine az fun C ad D=>?_;try simp only[av] at D
 refine ah hJ (aC hJ ?_);apply ag _;apply aV hJ;revert h;refine bS fun E d F=>?_;refine bY hJ (rg 11 10 [8]) (fun m G F'=>∃(i11:Nat) (v10:bQ),m=b.length - i11/\i11<=b.length/\bU (q8 u0) i11 (b.drop i11) v10=some E/\F'=⟨ro,(C,.cells #[.int .i64 0,.int .i64 0,.int .i64 0,.int .i64 0,.int .i64 0,.int .i64 0] 105)::(y,.cells #[.int .i64 v10.spot.aX,.int .i64 v10.spot.high.num,.int .i64 v10.spot.high.den,.int .i64 v10.at_,.int .i64 v10.high.num,.int .i64 v10.high.den] 105)::[]⟩/\slot G 11= .int .i64 (i11:Int)) b.length ?_ ?_
 .refine ⟨0,c,(Nat.sub_zero _).symm,Nat.zero_le _,d,rfl,?_⟩;simp only[*,go_sem]
 rintro ae al F' o ⟨i11,v10,rfl,ao,d,rfl,ar⟩;obtain ⟨H,I,K⟩:=o.pick [0,4,6,9,10] aB;simp only[*,go_sem] at H I K;clear o t hd u k1 w;apply ay hJ _;apply ah hJ;rcases Nat.lt_or_ge i11 b.length with L|p
 .refine cJ hJ ?_;apply aO hJ;obtain ⟨f,g⟩:∃x,b[i11]?=some x:=⟨_,List.getElem?_eq_getElem L⟩
  rw[dK g] at d;revert d;refine bS fun a0 h q=>?_;unfold q8 at h;try dsimp only at h
  obtain ⟨a2,M,N,O,e⟩:=k.el _ _ g;obtain rfl:M=f.cells:=O;cases N;have P:=e 0 _ rfl;simp only[go_sem] at P;have Q:=e 1 _ rfl;simp only[go_sem] at Q;have R:=e 2 _ rfl;simp only[go_sem] at R;have S:=e 3 _ rfl;simp only[go_sem] at S;have T:=e 4 _ rfl;simp only[go_sem] at T;have U:=e 5 _ rfl;simp only[go_sem] at U;clear e g;refine ah hJ (aV hJ (ah hJ ?_));apply aF hJ _;refine az fun a3 a4 V=>?_;try simp only[av] at V
  apply aC hJ;revert h;refine bS fun a5 W h=>?_;apply ag _;refine bf hJ _ (s.2 _ (fun a v h=>aZ a v h) v10 f _ W) ?_;revert h;refine aT hJ (fun X h=>?_) fun X h=>?_
  .cases h;apply aF hJ _;have Y:=cI (n:=i11) (by have:=l;omega);apply aF hJ _;refine ⟨b.length - (i11+1),aa,_,Le.sub (List.Sublist.cons _ (List.Sublist.refl _)),i11+1,f,rfl,aa,q,rfl,?_⟩;simp only[*,go_sem]
  cases h;apply aO hJ;have Y:=cI (n:=i11) (by have:=l;omega);apply aF hJ _;refine ⟨b.length - (i11+1),aa,_,Le.sub (List.Sublist.cons _ (List.Sublist.refl _)),i11+1,v10,rfl,aa,q,rfl,?_⟩;simp only[*,go_sem]
 have a6:=Nat.not_lt.2 p;refine cF hJ ?_;rw[List.drop_eq_nil_of_le p] at d;obtain rfl:=sI d;clear d;have h:=F;dsimp only[aG] at h;cases h;apply bR;simp only[go_sem];apply ay hJ _;apply aQ;simp only[*,go_sem]
def k5 (u0:(au->au->Option Bool))(i11:Nat)(a:au)(st:au):Option (Fl au au):=
 ai (u0 st a) fun b=>cond (b) (some (.nx a)) (some (.nx st))
def gF (u0:(au->au->Option Bool))(a:au)(b:(List au)):Option au:=
 ai (bU (k5 u0) 0 b a) fun o=>aG o (fun c=>some c) (fun _ _=>none) (fun r=>some r)
theorem oW {ro:Addr->Option Value}(u0:(au->au->Option Bool)){ey:FuncId}{eM eN:Array Value}(s:aS Tryz.prog ey=true/\∀(aW:Addr->Option Value),Ext ro aW->∀(i:au) (j:au) (z:Bool),u0 i j=some z->aE Tryz.prog ey (eM++#[i.v,j.v]++eN) ⟨aW,[]⟩ (fun v _=>v= .bool z))(d:au)(b:(List au)){s1:Value}(k:aI l8 ro s1 b){r:au}(h:gF u0 d b=some r):aE Tryz.prog 93 #[.func (.func ey) eM eN,.agg #[.int .i64 d.num,.int .i64 d.den],s1] ⟨ro,[]⟩ (fun v _=>v=r.v):=by
 obtain ⟨d3,c4,rfl,V,l,-⟩:=id k;unfold gF at h;refine aE.go Tryz.func93 rfl Tryz.ntmps93 Tryz.results93 ax fun main J hJ A t hd hs=>?_;have u:=hs 0;have k1:=hs 1;have w:=hs 2;clear hs;apply ay hJ _;refine az fun y W B=>?_;try simp only[av] at B
 refine az fun C X D=>?_;try simp only[av] at D
 refine ah hJ (aC hJ ?_);apply ag _;apply aV hJ;revert h;refine bS fun E c F=>?_;refine bY hJ (rg 11 10 [8]) (fun m G F'=>∃(i11:Nat) (v10:au),m=b.length - i11/\i11<=b.length/\bU (k5 u0) i11 (b.drop i11) v10=some E/\F'=⟨ro,(C,rt 0 0)::(y,rt v10.num v10.den)::[]⟩/\slot G 11= .int .i64 (i11:Int)) b.length ?_ ?_
 .refine ⟨0,d,(Nat.sub_zero _).symm,Nat.zero_le _,c,rfl,?_⟩;simp only[*,go_sem]
 rintro Y Z F' o ⟨i11,v10,rfl,ab,c,rfl,ad⟩;obtain ⟨H,I,K⟩:=o.pick [0,4,6,9,10] aB;simp only[*,go_sem] at H I K;clear o t hd u k1 w;apply ay hJ _;apply ah hJ;rcases Nat.lt_or_ge i11 b.length with L|p
 .refine cJ hJ ?_;apply aO hJ;obtain ⟨e,f⟩:∃x,b[i11]?=some x:=⟨_,List.getElem?_eq_getElem L⟩
  rw[dK f] at c;revert c;refine bS fun ae h q=>?_;unfold k5 at h;try dsimp only at h
  obtain ⟨al,M,N,O,g⟩:=k.el _ _ f;obtain rfl:M=e.cells:=O;cases N;have P:=g 0 _ rfl;simp only[go_sem] at P;have Q:=g 1 _ rfl;simp only[go_sem] at Q;clear g f;refine ah hJ (aV hJ (ah hJ ?_));apply aF hJ _;refine az fun ao ar R=>?_;try simp only[av] at R
  apply aC hJ;revert h;refine bS fun a0 S h=>?_;apply ag _;refine bf hJ _ (s.2 _ (fun a v h=>aZ a v h) v10 e _ S) ?_;revert h;refine aT hJ (fun T h=>?_) fun T h=>?_
  .cases h;apply aF hJ _;have U:=cI (n:=i11) (by have:=l;omega);apply aF hJ _;refine ⟨b.length - (i11+1),aa,_,Le.sub (List.Sublist.cons _ (List.Sublist.refl _)),i11+1,e,rfl,aa,q,rfl,?_⟩;simp only[*,go_sem]
  cases h;apply aO hJ;have U:=cI (n:=i11) (by have:=l;omega);apply aF hJ _;refine ⟨b.length - (i11+1),aa,_,Le.sub (List.Sublist.cons _ (List.Sublist.refl _)),i11+1,v10,rfl,aa,q,rfl,?_⟩;simp only[*,go_sem]
 have a2:=Nat.not_lt.2 p;refine cF hJ ?_;rw[List.drop_eq_nil_of_le p] at c;obtain rfl:=sI c;clear c;have h:=F;dsimp only[aG] at h;cases h;apply bR;simp only[go_sem];apply ay hJ _;apply aQ;simp only[*,go_sem]
def tO (u0:bQ)(a:bQ):Option Bool:=
 ai (jG a u0) fun b=>some b
theorem HG {ro:Addr->Option Value}(u0:bQ)(a:bQ){r:Bool}(h:tO u0 a=some r):aE Tryz.prog 58 #[.agg #[.int .i64 u0.spot.aX,.int .i64 u0.spot.high.num,.int .i64 u0.spot.high.den,.int .i64 u0.at_,.int .i64 u0.high.num,.int .i64 u0.high.den],.agg #[.int .i64 a.spot.aX,.int .i64 a.spot.high.num,.int .i64 a.spot.high.den,.int .i64 a.at_,.int .i64 a.high.num,.int .i64 a.high.den]] ⟨ro,[]⟩ (fun v _=>v= .bool r):=by
 unfold tO at h;refine aE.go Tryz.func58 rfl Tryz.ntmps58 Tryz.results58 ax fun main J hJ A c hd hs=>?_;have d:=hs 0;have k1:=hs 1;clear hs;apply ay hJ _;refine az fun e r1 n1=>?_;try simp only[av] at n1
 refine az fun b2 r2 n2=>?_;try simp only[av] at n2
 apply aC hJ;revert h;refine bS fun f b h=>?_;cases h;apply ag _;refine bf hJ _ (tH a u0 b) (aP ?_);apply ag _;apply aQ;simp only[*,go_sem]
def nj (u0:au)(a:au):Option Bool:=
 ai (eZ a u0) fun b=>some b
theorem HH {ro:Addr->Option Value}(u0:au)(a:au){r:Bool}(h:nj u0 a=some r):aE Tryz.prog 92 #[.agg #[.int .i64 u0.num,.int .i64 u0.den],.agg #[.int .i64 a.num,.int .i64 a.den]] ⟨ro,[]⟩ (fun v _=>v= .bool r):=by
 unfold nj at h;refine aE.go Tryz.func92 rfl Tryz.ntmps92 Tryz.results92 ax fun main J hJ A c hd hs=>?_;have d:=hs 0;have k1:=hs 1;clear hs;apply ay hJ _;refine az fun e r1 n1=>?_;try simp only[av] at n1
 refine az fun b2 r2 n2=>?_;try simp only[av] at n2
 apply aC hJ;revert h;refine bS fun f b h=>?_;cases h;apply ag _;refine bf hJ _ (jF a u0 b) (aP ?_);apply ag _;apply aQ;simp only[*,go_sem]
def tP (u0:an)(i32:Nat)(a:cn)(st:Int):Option (Fl Int Int):=
 ai (oU u0 a.bA) fun b=>cond (!b) (some (.rt 6)) (some (.nx st))
def nk (u0:an):Option Int:=
 cond (decide (3<(u0.told.length:Int))) (some 2) (ai (bU (tP u0) 0 u0.told 0) fun o=>aG o (fun a=>some 0) (fun _ _=>none) (fun r=>some r))
theorem HI {ro:Addr->Option Value}(u0:an){s1 c d j:Value}(e:bO ro u0 s1 c d j){r:Int}(h:nk u0=some r):aE Tryz.prog 235 #[bv u0 s1 c d j] ⟨ro,[]⟩ (fun v _=>v= .int .i64 r):=by
 obtain ⟨d24,s,rfl,R,u,-⟩:=id e.t;unfold nk at h;refine aE.go Tryz.func235 rfl Tryz.ntmps235 Tryz.results235 ax fun main J hJ A w hd hs=>?_;have y:=hs 0;clear hs;apply ay hJ _;refine az fun z S B=>?_;try simp only[av] at B
 refine ah hJ (aC hJ ?_);apply ag _;revert h;refine aT hJ (fun C h=>?_) fun C h=>?_
 .cases h;apply ay hJ _;apply aQ;simp only[*,go_sem]
 refine aO hJ (ah hJ ?_);apply ay hJ _;apply aV hJ;revert h;refine bS fun D a k=>?_;refine bY hJ (rg 14 10 [2,4]) (fun m l F'=>∃(i32:Nat) (b:Int),m=u0.told.length - i32/\i32<=u0.told.length/\bU (tP u0) i32 (u0.told.drop i32) b=some D/\F'=⟨ro,(z,bl u0 s1 c d (sl d24 u0.told s))::[]⟩/\slot l 14= .int .i64 (i32:Int)/\slot l 2= .int .i64 b) u0.told.length ?_ ?_
 .refine ⟨0,0,(Nat.sub_zero _).symm,Nat.zero_le _,a,rfl,?_⟩;simp only[*,go_sem]
 rintro T U F' o ⟨i32,b,rfl,V,a,rfl,W,X⟩;obtain ⟨E,F,G⟩:=o.pick [1,12,13] aB;simp only[*,go_sem] at E F G;clear o w hd y;apply ay hJ _;apply ah hJ;rcases Nat.lt_or_ge i32 u0.told.length with H|p
 .refine cJ hJ ?_;apply aO hJ;obtain ⟨q,f⟩:∃x,u0.told[i32]?=some x:=⟨_,List.getElem?_eq_getElem H⟩
  rw[dK f] at a;revert a;refine bS fun Y h g=>?_;unfold tP at h;try dsimp only at h
  obtain ⟨Z,I,K,L,i⟩:=e.t.el _ _ f;obtain rfl:I=q.cells:=L;cases K;have M:=i 0 _ rfl;simp only[go_sem] at M;have N:=i 1 _ rfl;simp only[go_sem] at N;clear i f;refine ah hJ (aV hJ (ah hJ ?_));apply aF hJ _;refine az fun ab ad O=>?_;try simp only[av] at O
  apply aC hJ;revert h;refine bS fun ae P h=>?_;apply ag _;refine bf hJ _ (BZ u0 (e.mono aZ) q.bA P) (aP ?_);apply ag _;revert h;refine aT hJ (fun Q h=>?_) fun Q h=>?_
  .cases h;apply ay hJ _;obtain rfl:=sI g;clear g;have h:=k;dsimp only[aG] at h;cases h;apply aQ;simp only[*,go_sem]
  cases h;apply aO hJ;have al:=cI (n:=i32) (by have:=u;omega);apply aF hJ _;refine ⟨u0.told.length - (i32+1),aa,_,Le.sub (List.Sublist.cons _ (List.Sublist.refl _)),i32+1,b,rfl,aa,g,rfl,?_⟩;simp only[*,go_sem]
 have ao:=Nat.not_lt.2 p;refine cF hJ ?_;rw[List.drop_eq_nil_of_le p] at a;obtain rfl:=sI a;clear a;have h:=k;dsimp only[aG] at h;cases h;apply bR;simp only[go_sem];apply ay hJ _;apply aQ;simp only[*,go_sem]
def tQ (i34:Nat)(a:cu)(st:Int):Option (Fl Int Int):=
 ai (fU a.back 1 20) fun b=>cond (!b) (some (.rt 1)) (ai (q3 a.high 0 60) fun c=>cond (!c) (some (.rt 1)) (cond (decide (3<=(IntKind.i64.wrap (a.high.high - a.high.low)))) (some (.rt 1)) (some (.nx st))))
def nq (u0:an):Option Int:=
 ai (fU (u0.aH.length:Int) 1 3) fun a=>cond (!a) (some 2) (ai (bU (tQ) 0 u0.aH 0) fun o=>aG o (fun b=>some 0) (fun _ _=>none) (fun r=>some r))
theorem HJ {ro:Addr->Option Value}(u0:an){s1 f k g:Value}(l:bO ro u0 s1 f k g){r:Int}(h:nq u0=some r):aE Tryz.prog 234 #[bv u0 s1 f k g] ⟨ro,[]⟩ (fun v _=>v= .int .i64 r):=by
 obtain ⟨d17,s,rfl,W,t,-⟩:=id l.y;unfold nq at h;refine aE.go Tryz.func234 rfl Tryz.ntmps234 Tryz.results234 ax fun main J hJ A u hd hs=>?_;have w:=hs 0;clear hs;apply ay hJ _;refine az fun z X B=>?_;try simp only[av] at B
 refine ah hJ (aC hJ ?_);revert h;refine bS fun Y C h=>?_;apply ag _;refine bf hJ _ (gQ (u0.aH.length:Int) 1 3 C) (aP ?_);apply ag _;revert h;refine aT hJ (fun D h=>?_) fun D h=>?_
 .cases h;apply ay hJ _;apply aQ;simp only[*,go_sem]
 refine aO hJ (ah hJ ?_);apply ay hJ _;apply aV hJ;revert h;refine bS fun E a c=>?_;refine bY hJ (rg 15 25 [2,4]) (fun m o F'=>∃(i34:Nat) (d:Int),m=u0.aH.length - i34/\i34<=u0.aH.length/\bU (tQ) i34 (u0.aH.drop i34) d=some E/\F'=⟨ro,(z,bl u0 s1 f (sl d17 u0.aH s) g)::[]⟩/\slot o 15= .int .i64 (i34:Int)/\slot o 2= .int .i64 d) u0.aH.length ?_ ?_
 .refine ⟨0,0,(Nat.sub_zero _).symm,Nat.zero_le _,a,rfl,?_⟩;simp only[*,go_sem]
 rintro Z ab F' p ⟨i34,d,rfl,ad,a,rfl,ae,al⟩;obtain ⟨F,G,H⟩:=p.pick [13,14] aB;simp only[*,go_sem] at F G H;clear p u hd w;apply ay hJ _;apply ah hJ;rcases Nat.lt_or_ge i34 u0.aH.length with I|q
 .refine cJ hJ ?_;apply aO hJ;obtain ⟨i,j⟩:∃x,u0.aH[i34]?=some x:=⟨_,List.getElem?_eq_getElem I⟩
  rw[dK j] at a;revert a;refine bS fun ao h b=>?_;unfold tQ at h;try dsimp only at h
  obtain ⟨ar,K,L,M,e⟩:=l.y.el _ _ j;obtain rfl:K=i.cells:=M;cases L;have N:=e 0 _ rfl;simp only[go_sem] at N;have O:=e 1 _ rfl;simp only[go_sem] at O;have P:=e 2 _ rfl;simp only[go_sem] at P;clear e j;refine ah hJ (aV hJ (ah hJ ?_));apply aF hJ _;refine az fun a0 a2 Q=>?_;try simp only[av] at Q
  apply aC hJ;revert h;refine bS fun a3 R h=>?_;apply ag _;refine bf hJ _ (gQ i.back 1 20 R) (aP ?_);revert h;refine cS (fun S h=>?_) fun S h=>?_
  .cases h;apply ag _;refine cJ hJ ?_;apply ay hJ _;obtain rfl:=sI b;clear b;have h:=c;dsimp only[aG] at h;cases h;apply aQ;simp only[*,go_sem]
  revert h;refine bS fun a4 T h=>?_;apply ag _;refine bf hJ _ (BY i.high 0 60 T) (aP ?_);revert h;refine cS (fun U h=>?_) fun U h=>?_
  .cases h;apply ag _;refine cJ hJ ?_;apply ay hJ _;obtain rfl:=sI b;clear b;have h:=c;dsimp only[aG] at h;cases h;apply aQ;simp only[*,go_sem]
  apply ag _;revert h;refine aT hJ (fun V h=>?_) fun V h=>?_
  .cases h;apply ay hJ _;obtain rfl:=sI b;clear b;have h:=c;dsimp only[aG] at h;cases h;apply aQ;simp only[*,go_sem]
  cases h;apply aO hJ;have a5:=cI (n:=i34) (by have:=t;omega);apply aF hJ _;refine ⟨u0.aH.length - (i34+1),aa,_,Le.sub (List.Sublist.cons _ (List.Sublist.refl _)),i34+1,d,rfl,aa,b,rfl,?_⟩;simp only[*,go_sem]
 have a6:=Nat.not_lt.2 q;refine cF hJ ?_;rw[List.drop_eq_nil_of_le q] at a;obtain rfl:=sI a;clear a;have h:=c;dsimp only[aG] at h;cases h;apply bR;simp only[go_sem];apply ay hJ _;apply aQ;simp only[*,go_sem]
def tR (u0:an)(i32:Nat)(a:cK)(st:Int):Option (Fl Int Int):=
 ai (gR u0 a.place) fun c=>cond (!c) (some (.rt 6)) (ai (iI a.dV u0) fun b=>cond ((b != 0)) (some (.rt b)) (some (.nx st)))
def nt (u0:an):Option Int:=
 cond (decide (3<(u0.props.length:Int))) (some 2) (ai (bU (tR u0) 0 u0.props 0) fun o=>aG o (fun a=>some 0) (fun _ _=>none) (fun r=>some r))
theorem HK {ro:Addr->Option Value}(u0:an){s1 l e f:Value}(c:bO ro u0 s1 l e f){r:Int}(h:nt u0=some r):aE Tryz.prog 233 #[bv u0 s1 l e f] ⟨ro,[]⟩ (fun v _=>v= .int .i64 r):=by
 obtain ⟨d10,t,rfl,T,u,-⟩:=id c.p;unfold nt at h;refine aE.go Tryz.func233 rfl Tryz.ntmps233 Tryz.results233 ax fun main J hJ A w hd hs=>?_;have y:=hs 0;clear hs;apply ay hJ _;refine az fun z U B=>?_;try simp only[av] at B
 refine ah hJ (aC hJ ?_);apply ag _;revert h;refine aT hJ (fun C h=>?_) fun C h=>?_
 .cases h;apply ay hJ _;apply aQ;simp only[*,go_sem]
 refine aO hJ (ah hJ ?_);apply ay hJ _;apply aV hJ;revert h;refine bS fun D a g=>?_;refine bY hJ (rg 15 17 [2,4,5]) (fun m o F'=>∃(i32:Nat) (d:Int),m=u0.props.length - i32/\i32<=u0.props.length/\bU (tR u0) i32 (u0.props.drop i32) d=some D/\F'=⟨ro,(z,bl u0 s1 (sl d10 u0.props t) e f)::[]⟩/\slot o 15= .int .i64 (i32:Int)/\slot o 2= .int .i64 d) u0.props.length ?_ ?_
 .refine ⟨0,0,(Nat.sub_zero _).symm,Nat.zero_le _,a,rfl,?_⟩;simp only[*,go_sem]
 rintro V W F' q ⟨i32,d,rfl,X,a,rfl,Y,Z⟩;obtain ⟨E,F,G⟩:=q.pick [1,13,14] aB;simp only[*,go_sem] at E F G;clear q w hd y;apply ay hJ _;apply ah hJ;rcases Nat.lt_or_ge i32 u0.props.length with H|s
 .refine cJ hJ ?_;apply aO hJ;obtain ⟨i,j⟩:∃x,u0.props[i32]?=some x:=⟨_,List.getElem?_eq_getElem H⟩
  rw[dK j] at a;revert a;refine bS fun ab h b=>?_;unfold tR at h;try dsimp only at h
  obtain ⟨ad,I,K,L,k⟩:=c.p.el _ _ j;obtain rfl:I=i.cells:=L;cases K;have M:=k 0 _ rfl;simp only[go_sem] at M;have N:=k 1 _ rfl;simp only[go_sem] at N;clear k j;refine ah hJ (aV hJ (ah hJ ?_));apply aF hJ _;refine az fun ae al O=>?_;try simp only[av] at O
  refine ah hJ (aC hJ ?_);revert h;refine bS fun ao P h=>?_;apply ag _;refine bf hJ _ (tK u0 (c.mono aZ) i.place P) (aP ?_);apply ag _;revert h;refine aT hJ (fun Q h=>?_) fun Q h=>?_
  .cases h;apply ay hJ _;obtain rfl:=sI b;clear b;have h:=g;dsimp only[aG] at h;cases h;apply aQ;simp only[*,go_sem]
  refine aO hJ (ah hJ ?_);apply aR hJ;revert h;refine bS fun ar R h=>?_;apply ag _;refine bf hJ _ (xl i.dV u0 (c.mono aZ) R) (aP ?_);apply ag _;apply ay hJ _;revert h;refine aT hJ (fun S h=>?_) fun S h=>?_
  .cases h;apply ay hJ _;obtain rfl:=sI b;clear b;have h:=g;dsimp only[aG] at h;cases h;apply aQ;simp only[*,go_sem]
  cases h;apply aO hJ;have a0:=cI (n:=i32) (by have:=u;omega);apply aF hJ _;refine ⟨u0.props.length - (i32+1),aa,_,Le.sub (List.Sublist.cons _ (List.Sublist.refl _)),i32+1,d,rfl,aa,b,rfl,?_⟩;simp only[*,go_sem]
 have a2:=Nat.not_lt.2 s;refine cF hJ ?_;rw[List.drop_eq_nil_of_le s] at a;obtain rfl:=sI a;clear a;have h:=g;dsimp only[aG] at h;cases h;apply bR;simp only[go_sem];apply ay hJ _;apply aQ;simp only[*,go_sem]
def tS (u0:an)(i34:Nat)(a:cx)(st:Int):Option (Fl Int Int):=
 ai (fU a.aX 0 (IntKind.i64.wrap (u0.bZ - 1))) fun b=>cond (!b) (some (.rt 1)) (ai (fU a.high 0 60) fun c=>cond (!c) (some (.rt 1)) (cond (decide (0<(i34:Int))) (ai (bt u0.aK (IntKind.i64.wrap ((i34:Int) - 1))) fun d=>cond (decide (a.aX<=d.aX)) (some (.rt 7)) (some (.nx st))) (some (.nx st))))
def l9 (u0:an):Option Int:=
 ai (fU (u0.aK.length:Int) 2 5) fun a=>cond (!a) (some 2) (ai (bU (tS u0) 0 u0.aK 0) fun o=>aG o (fun b=>some 0) (fun _ _=>none) (fun r=>some r))
theorem HL {ro:Addr->Option Value}(u0:an){s1 f g i:Value}(j:bO ro u0 s1 f g i){r:Int}(h:l9 u0=some r):aE Tryz.prog 232 #[bv u0 s1 f g i] ⟨ro,[]⟩ (fun v _=>v= .int .i64 r):=by
 obtain ⟨d3,c4,rfl,ar,q,-⟩:=id j.e;unfold l9 at h;refine aE.go Tryz.func232 rfl Tryz.ntmps232 Tryz.results232 ax fun main J hJ A y hd hs=>?_;have z:=hs 0;clear hs;apply ay hJ _;refine az fun B a0 C=>?_;try simp only[av] at C
 refine ah hJ (aC hJ ?_);revert h;refine bS fun a2 D h=>?_;apply ag _;refine bf hJ _ (gQ (u0.aK.length:Int) 2 5 D) (aP ?_);apply ag _;revert h;refine aT hJ (fun E h=>?_) fun E h=>?_
 .cases h;apply ay hJ _;apply aQ;simp only[*,go_sem]
 refine aO hJ (ah hJ ?_);apply ay hJ _;apply aV hJ;revert h;refine bS fun F b d=>?_;refine bY hJ (rg 15 35 [2,3,4]) (fun m s F'=>∃(i34:Nat) (c:Int),m=u0.aK.length - i34/\i34<=u0.aK.length/\bU (tS u0) i34 (u0.aK.drop i34) c=some F/\F'=⟨ro,(B,bl u0 (sl d3 u0.aK c4) f g i)::[]⟩/\slot s 15= .int .i64 (i34:Int)/\slot s 2= .int .i64 c) u0.aK.length ?_ ?_
 .refine ⟨0,0,(Nat.sub_zero _).symm,Nat.zero_le _,b,rfl,?_⟩;simp only[*,go_sem]
 rintro a3 a4 F' t ⟨i34,c,rfl,a5,b,rfl,a6,a7⟩;obtain ⟨G,H,I⟩:=t.pick [1,13,14] aB;simp only[*,go_sem] at G H I;clear t y hd z;apply ay hJ _;apply ah hJ;rcases Nat.lt_or_ge i34 u0.aK.length with K|u
 .refine cJ hJ ?_;apply aO hJ;obtain ⟨k,l⟩:∃x,u0.aK[i34]?=some x:=⟨_,List.getElem?_eq_getElem K⟩
  rw[dK l] at b;revert b;refine bS fun a8 h a=>?_;unfold tS at h;try dsimp only at h
  obtain ⟨a9,L,M,N,o⟩:=j.e.el _ _ l;obtain rfl:L=k.cells:=N;cases M;have O:=o 0 _ rfl;simp only[go_sem] at O;have P:=o 1 _ rfl;simp only[go_sem] at P;clear o l;refine ah hJ (aV hJ (ah hJ ?_));apply aF hJ _;refine az fun ba bb Q=>?_;try simp only[av] at Q
  refine aV hJ (ah hJ ?_);apply aC hJ;revert h;refine bS fun bc R h=>?_;apply ag _;refine bf hJ _ (gQ k.aX 0 (IntKind.i64.wrap (u0.bZ - 1)) R) (aP ?_);apply ag _;revert h;refine aT hJ (fun S h=>?_) fun S h=>?_
  .cases h;apply aO hJ;refine cJ hJ ?_;apply ay hJ _;obtain rfl:=sI a;clear a;have h:=d;dsimp only[aG] at h;cases h;apply aQ;simp only[*,go_sem]
  apply aR hJ;revert h;refine bS fun bd T h=>?_;apply ag _;refine bf hJ _ (gQ k.high 0 60 T) (aP ?_);apply ag _;revert h;refine aT hJ (fun U h=>?_) fun U h=>?_
  .cases h;apply ay hJ _;obtain rfl:=sI a;clear a;have h:=d;dsimp only[aG] at h;cases h;apply aQ;simp only[*,go_sem]
  apply ah hJ;refine cV hJ mixed 16 2 aM aj ?_;revert h;refine cS (fun V h=>?_) fun V h=>?_
  .revert h;refine bS fun W X h=>?_;obtain ⟨bj,bk,w⟩:=cv X;obtain ⟨bm,Y,Z,ab,p⟩:=j.e.el _ _ w;obtain rfl:Y=W.cells:=ab;cases Z;have ad:=p 0 _ rfl;simp only[go_sem] at ad;have ae:=p 1 _ rfl;simp only[go_sem] at ae;clear p w;apply ag _;revert h;refine aT hJ (fun al h=>?_) fun al h=>?_
   .cases h;apply ay hJ _;obtain rfl:=sI a;clear a;have h:=d;dsimp only[aG] at h;cases h;apply aQ;simp only[*,go_sem]
   cases h;apply aO hJ;have ao:=cI (n:=i34) (by have:=q;omega);apply aF hJ _;refine ⟨u0.aK.length - (i34+1),aa,_,Le.sub (List.Sublist.cons _ (List.Sublist.refl _)),i34+1,c,rfl,aa,a,rfl,?_⟩;simp only[*,go_sem]
  cases h;apply ag _;refine cF hJ ?_;apply aO hJ;have ao:=cI (n:=i34) (by have:=q;omega);apply aF hJ _;refine ⟨u0.aK.length - (i34+1),aa,_,Le.sub (List.Sublist.cons _ (List.Sublist.refl _)),i34+1,c,rfl,aa,a,rfl,?_⟩;simp only[*,go_sem]
 have bo:=Nat.not_lt.2 u;refine cF hJ ?_;rw[List.drop_eq_nil_of_le u] at b;obtain rfl:=sI b;clear b;have h:=d;dsimp only[aG] at h;cases h;apply bR;simp only[go_sem];apply ay hJ _;apply aQ;simp only[*,go_sem]
def oX (u0:an):Option Int:=
 ai (fU u0.bZ 2 60) fun b=>cond (!b) (some 1) (ai (fU u0.b6 0 60) fun c=>cond (!c) (some 1) (ai (fU u0.bw.den 1 20) fun d=>cond (!d) (some 1) (ai (fU u0.bw.num 0 20) fun e=>cond (!e) (some 1) (ai (k3 u0.bw.num u0.bw.den) fun a=>cond (!((a.num==u0.bw.num)&&(a.den==u0.bw.den))) (some 3) (some 0)))))
theorem HM {ro:Addr->Option Value}(u0:an){s1 a b c:Value}(z:bO ro u0 s1 a b c){r:Int}(h:oX u0=some r):aE Tryz.prog 231 #[bv u0 s1 a b c] ⟨ro,[]⟩ (fun v _=>v= .int .i64 r):=by
 unfold oX at h;refine aE.go Tryz.func231 rfl Tryz.ntmps231 Tryz.results231 ax fun main J hJ A d hd hs=>?_;have e:=hs 0;clear hs;apply ay hJ _;refine az fun B C f=>?_;try simp only[av] at f
 refine ah hJ (aV hJ (ah hJ ?_));apply aC hJ;revert h;refine bS fun D g h=>?_;apply ag _;refine bf hJ _ (gQ u0.bZ 2 60 g) (aP ?_);apply ag _;revert h;refine aT hJ (fun i h=>?_) fun i h=>?_
 .cases h;apply aO hJ;refine cJ hJ ?_;apply ay hJ _;apply aQ;simp only[*,go_sem]
 apply aC hJ;revert h;refine bS fun E j h=>?_;apply ag _;refine bf hJ _ (gQ u0.b6 0 60 j) (aP ?_);apply ag _;revert h;refine aT hJ (fun k h=>?_) fun k h=>?_
 .cases h;apply aO hJ;refine cJ hJ ?_;apply ay hJ _;apply aQ;simp only[*,go_sem]
 apply aC hJ;revert h;refine bS fun G l h=>?_;apply ag _;refine bf hJ _ (gQ u0.bw.den 1 20 l) (aP ?_);apply ag _;revert h;refine aT hJ (fun m h=>?_) fun m h=>?_
 .cases h;apply aO hJ;refine cJ hJ ?_;apply ay hJ _;apply aQ;simp only[*,go_sem]
 apply aR hJ;revert h;refine bS fun H n h=>?_;apply ag _;refine bf hJ _ (gQ u0.bw.num 0 20 n) (aP ?_);apply ag _;revert h;refine aT hJ (fun o h=>?_) fun o h=>?_
 .cases h;apply ay hJ _;apply aQ;simp only[*,go_sem]
 apply ah hJ;refine cV hJ mixed 14 1 aM aj ?_;revert h;refine bS fun I p h=>?_;apply ag _;refine ⟨_,bI hJ fun F K=>q5 u0.bw.num u0.bw.den p,ck ?_⟩;apply ag _;revert h;refine aT hJ (fun q h=>?_) fun q h=>?_
 .cases h;apply ah hJ;refine e8 [2] fun L s t u=>?_;simp only[*,go_sem] at s t u;clear d hd e;apply aF hJ _;apply aQ;simp only[*,go_sem]
 cases h;refine aO hJ (ah hJ ?_);refine e8 [2] fun M w x y=>?_;simp only[*,go_sem] at w x y;clear d hd e;apply aF hJ _;apply aQ;simp only[*,go_sem]
def dM (ro:Addr->Option Value):Prop:=
 ro ⟨0,0,none⟩=some (.func (.func 231) #[] #[])/\ro ⟨0,1,none⟩=some (.func (.func 232) #[] #[])/\ro ⟨0,2,none⟩=some (.func (.func 233) #[] #[])/\ro ⟨0,3,none⟩=some (.func (.func 234) #[] #[])/\ro ⟨0,4,none⟩=some (.func (.func 235) #[] #[])
theorem dM.mono {ro aW:Addr->Option Value}(h:dM ro)(a:Ext ro aW):dM aW:=
 ⟨a _ _ h.1,a _ _ h.2.1,a _ _ h.2.2.1,a _ _ h.2.2.2.1,a _ _ h.2.2.2.2⟩
def q9 (_:an):Option Int:=some 0
def oY (b:an):Option Int:=ai (nk b) fun x=>cond (x != 0) (some x) (q9 b)
def oZ (b:an):Option Int:=ai (nq b) fun x=>cond (x != 0) (some x) (oY b)
def o3 (b:an):Option Int:=ai (nt b) fun x=>cond (x != 0) (some x) (oZ b)
def o5 (b:an):Option Int:=ai (l9 b) fun x=>cond (x != 0) (some x) (o3 b)
def nu (b:an):Option Int:=ai (oX b) fun x=>cond (x != 0) (some x) (o5 b)
def fN (b:an):Option Int:=nu b
def tT:Nat->an->Option Int
 |0=>nu|1=>o5|2=>o3|3=>oZ|4=>oY|_=>q9
theorem B2 {ro:Addr->Option Value}(n:dM ro)(u0:an){s1:Value}(d:aI fI ro s1 u0.aK){s2:Value}(e:aI eY ro s2 u0.props){f:Value}(g:aI fq ro f u0.aH){j:Value}(k:aI dL ro j u0.told){r:Int}(h:fN u0=some r):
  aE Tryz.prog 115 #[.agg #[.int .i64 u0.bZ,.int .i64 u0.b6,.int .i64 u0.bw.num,.int .i64 u0.bw.den,s1,s2,f,j]] ⟨ro,[]⟩ (fun v _=>v= .int .i64 r):=by
 obtain ⟨p,s,t,u,w⟩:=n
 replace h:tT 0 u0=some r:=h
 refine aE.go Tryz.func115 rfl Tryz.ntmps115 Tryz.results115 ax fun main J hJ A o hd hs=>?_
 have y:=hs 0
 clear hs
 first|refine aR hJ ?_|refine aC hJ ?_|refine ah hJ (aC hJ ?_)|refine ah hJ (ah hJ (aC hJ ?_))
 apply ag _
 intro c f1;have r1:=fj f1;have n1:=gk f1;simp only[av] at n1
 first|refine aR hJ ?_|refine aC hJ ?_|refine ah hJ (aC hJ ?_)|refine ah hJ (ah hJ (aC hJ ?_))
 apply ag _
 first|refine aV hJ (wM hJ (fun m a F=>∃i:Nat,F=⟨ro,[(c,.cells #[.int .i64 u0.bZ,.int .i64 u0.b6,.int .i64 u0.bw.num,.int .i64 u0.bw.den,s1,s2,f,j] 29)]⟩/\m=5 - i/\sz a=18/\a.defers=[]/\slot a 1= .pointer (some ⟨c,0,none⟩)/\slot a 6= .agg #[.func (.func 231) #[] #[],.func (.func 232) #[] #[],.func (.func 233) #[] #[],.func (.func 234) #[] #[],.func (.func 235) #[] #[]]/\slot a 7= .int .i64 i/\i<=5/\tT i u0=some r) (5) ?_ ?_)|refine ah hJ (aV hJ (wM hJ (fun m a F=>∃i:Nat,F=⟨ro,[(c,.cells #[.int .i64 u0.bZ,.int .i64 u0.b6,.int .i64 u0.bw.num,.int .i64 u0.bw.den,s1,s2,f,j] 29)]⟩/\m=5 - i/\sz a=18/\a.defers=[]/\slot a 1= .pointer (some ⟨c,0,none⟩)/\slot a 6= .agg #[.func (.func 231) #[] #[],.func (.func 232) #[] #[],.func (.func 233) #[] #[],.func (.func 234) #[] #[],.func (.func 235) #[] #[]]/\slot a 7= .int .i64 i/\i<=5/\tT i u0=some r) (5) ?_ ?_))|refine ah hJ (ah hJ (aV hJ (wM hJ (fun m a F=>∃i:Nat,F=⟨ro,[(c,.cells #[.int .i64 u0.bZ,.int .i64 u0.b6,.int .i64 u0.bw.num,.int .i64 u0.bw.den,s1,s2,f,j] 29)]⟩/\m=5 - i/\sz a=18/\a.defers=[]/\slot a 1= .pointer (some ⟨c,0,none⟩)/\slot a 6= .agg #[.func (.func 231) #[] #[],.func (.func 232) #[] #[],.func (.func 233) #[] #[],.func (.func 234) #[] #[],.func (.func 235) #[] #[]]/\slot a 7= .int .i64 i/\i<=5/\tT i u0=some r) (5) ?_ ?_)))
 .refine ⟨0,rfl,rfl,?_⟩
  apply bW _
  first|exact ⟨Nat.zero_le _,h⟩|exact h
 .clear h
  rintro m a F ⟨i,rfl,rfl,o,hd,z,B,C,hi,h⟩
  rcases i with _|_|_|_|_|i
  .replace h:ai (oX u0) (fun x=>cond (x != 0) (some x) (o5 u0))=some r:=h
   have b:=gx h;clear h;obtain ⟨x,q,h⟩:=b
   have l:((0:Nat):Int)=0:=rfl
   first|refine aR hJ ?_|refine aC hJ ?_|refine ah hJ (aC hJ ?_)|refine ah hJ (ah hJ (aC hJ ?_))
   apply bW _
   apply ah hJ
   refine eD hJ dG ?_
   apply aO hJ
   refine ah hJ (aV hJ ?_)
   first|refine aR hJ ?_|refine aC hJ ?_|refine ah hJ (aC hJ ?_)|refine ah hJ (ah hJ (aC hJ ?_))
   apply bW _
   first|refine aR hJ ?_|refine aC hJ ?_|refine ah hJ (aC hJ ?_)|refine ah hJ (ah hJ (aC hJ ?_))
   apply bW _
   refine bf hJ _ (HM u0 ⟨(d.mono aZ),(e.mono aZ),(g.mono aZ),(k.mono aZ)⟩ q) (aP ?_)
   apply bW _
   first|refine aR hJ ?_|refine aC hJ ?_|refine ah hJ (aC hJ ?_)|refine ah hJ (ah hJ (aC hJ ?_))
   apply bW _
   have b:=jz h;clear h;rcases b with ⟨hc,h⟩|⟨hc,h⟩
   .refine eD hJ dG ?_
    first|refine aR hJ ?_|refine aC hJ ?_|refine ah hJ (aC hJ ?_)|refine ah hJ (ah hJ (aC hJ ?_))
    apply bW _
    have b:=Option.some.inj h;clear h;subst b
    apply aQ
    simp only[*,go_sem]
   .refine eu hJ dG ?_
    apply aO hJ
    apply aR hJ
    apply bW _
    refine ⟨5 - 1,aa,_,Le.refl _,1,rfl,rfl,?_⟩
    have hw:IntKind.i64.wrap (0+1)=((1:Nat):Int):=aB
    apply bW _
    first|exact ⟨aa,h⟩|exact h
  .replace h:ai (l9 u0) (fun x=>cond (x != 0) (some x) (o3 u0))=some r:=h
   have b:=gx h;clear h;obtain ⟨x,q,h⟩:=b
   have l:((0+1:Nat):Int)=1:=rfl
   first|refine aR hJ ?_|refine aC hJ ?_|refine ah hJ (aC hJ ?_)|refine ah hJ (ah hJ (aC hJ ?_))
   apply bW _
   apply ah hJ
   refine eD hJ dG ?_
   apply aO hJ
   refine ah hJ (aV hJ ?_)
   first|refine aR hJ ?_|refine aC hJ ?_|refine ah hJ (aC hJ ?_)|refine ah hJ (ah hJ (aC hJ ?_))
   apply bW _
   first|refine aR hJ ?_|refine aC hJ ?_|refine ah hJ (aC hJ ?_)|refine ah hJ (ah hJ (aC hJ ?_))
   apply bW _
   refine bf hJ _ (HL u0 ⟨(d.mono aZ),(e.mono aZ),(g.mono aZ),(k.mono aZ)⟩ q) (aP ?_)
   apply bW _
   first|refine aR hJ ?_|refine aC hJ ?_|refine ah hJ (aC hJ ?_)|refine ah hJ (ah hJ (aC hJ ?_))
   apply bW _
   have b:=jz h;clear h;rcases b with ⟨hc,h⟩|⟨hc,h⟩
   .refine eD hJ dG ?_
    first|refine aR hJ ?_|refine aC hJ ?_|refine ah hJ (aC hJ ?_)|refine ah hJ (ah hJ (aC hJ ?_))
    apply bW _
    have b:=Option.some.inj h;clear h;subst b
    apply aQ
    simp only[*,go_sem]
   .refine eu hJ dG ?_
    apply aO hJ
    apply aR hJ
    apply bW _
    refine ⟨5 - 2,aa,_,Le.refl _,2,rfl,rfl,?_⟩
    have hw:IntKind.i64.wrap (1+1)=((2:Nat):Int):=aB
    apply bW _
    first|exact ⟨aa,h⟩|exact h
  .replace h:ai (nt u0) (fun x=>cond (x != 0) (some x) (oZ u0))=some r:=h
   have b:=gx h;clear h;obtain ⟨x,q,h⟩:=b
   have l:((0+1+1:Nat):Int)=2:=rfl
   first|refine aR hJ ?_|refine aC hJ ?_|refine ah hJ (aC hJ ?_)|refine ah hJ (ah hJ (aC hJ ?_))
   apply bW _
   apply ah hJ
   refine eD hJ dG ?_
   apply aO hJ
   refine ah hJ (aV hJ ?_)
   first|refine aR hJ ?_|refine aC hJ ?_|refine ah hJ (aC hJ ?_)|refine ah hJ (ah hJ (aC hJ ?_))
   apply bW _
   first|refine aR hJ ?_|refine aC hJ ?_|refine ah hJ (aC hJ ?_)|refine ah hJ (ah hJ (aC hJ ?_))
   apply bW _
   refine bf hJ _ (HK u0 ⟨(d.mono aZ),(e.mono aZ),(g.mono aZ),(k.mono aZ)⟩ q) (aP ?_)
   apply bW _
   first|refine aR hJ ?_|refine aC hJ ?_|refine ah hJ (aC hJ ?_)|refine ah hJ (ah hJ (aC hJ ?_))
   apply bW _
   have b:=jz h;clear h;rcases b with ⟨hc,h⟩|⟨hc,h⟩
   .refine eD hJ dG ?_
    first|refine aR hJ ?_|refine aC hJ ?_|refine ah hJ (aC hJ ?_)|refine ah hJ (ah hJ (aC hJ ?_))
    apply bW _
    have b:=Option.some.inj h;clear h;subst b
    apply aQ
    simp only[*,go_sem]
   .refine eu hJ dG ?_
    apply aO hJ
    apply aR hJ
    apply bW _
    refine ⟨5 - 3,aa,_,Le.refl _,3,rfl,rfl,?_⟩
    have hw:IntKind.i64.wrap (2+1)=((3:Nat):Int):=aB
    apply bW _
    first|exact ⟨aa,h⟩|exact h
  .replace h:ai (nq u0) (fun x=>cond (x != 0) (some x) (oY u0))=some r:=h
   have b:=gx h;clear h;obtain ⟨x,q,h⟩:=b
   have l:((0+1+1+1:Nat):Int)=3:=rfl
   first|refine aR hJ ?_|refine aC hJ ?_|refine ah hJ (aC hJ ?_)|refine ah hJ (ah hJ (aC hJ ?_))
   apply bW _
   apply ah hJ
   refine eD hJ dG ?_
   apply aO hJ
   refine ah hJ (aV hJ ?_)
   first|refine aR hJ ?_|refine aC hJ ?_|refine ah hJ (aC hJ ?_)|refine ah hJ (ah hJ (aC hJ ?_))
   apply bW _
   first|refine aR hJ ?_|refine aC hJ ?_|refine ah hJ (aC hJ ?_)|refine ah hJ (ah hJ (aC hJ ?_))
   apply bW _
   refine bf hJ _ (HJ u0 ⟨(d.mono aZ),(e.mono aZ),(g.mono aZ),(k.mono aZ)⟩ q) (aP ?_)
   apply bW _
   first|refine aR hJ ?_|refine aC hJ ?_|refine ah hJ (aC hJ ?_)|refine ah hJ (ah hJ (aC hJ ?_))
   apply bW _
   have b:=jz h;clear h;rcases b with ⟨hc,h⟩|⟨hc,h⟩
   .refine eD hJ dG ?_
    first|refine aR hJ ?_|refine aC hJ ?_|refine ah hJ (aC hJ ?_)|refine ah hJ (ah hJ (aC hJ ?_))
    apply bW _
    have b:=Option.some.inj h;clear h;subst b
    apply aQ
    simp only[*,go_sem]
   .refine eu hJ dG ?_
    apply aO hJ
    apply aR hJ
    apply bW _
    refine ⟨5 - 4,aa,_,Le.refl _,4,rfl,rfl,?_⟩
    have hw:IntKind.i64.wrap (3+1)=((4:Nat):Int):=aB
    apply bW _
    first|exact ⟨aa,h⟩|exact h
  .replace h:ai (nk u0) (fun x=>cond (x != 0) (some x) (q9 u0))=some r:=h
   have b:=gx h;clear h;obtain ⟨x,q,h⟩:=b
   have l:((0+1+1+1+1:Nat):Int)=4:=rfl
   first|refine aR hJ ?_|refine aC hJ ?_|refine ah hJ (aC hJ ?_)|refine ah hJ (ah hJ (aC hJ ?_))
   apply bW _
   apply ah hJ
   refine eD hJ dG ?_
   apply aO hJ
   refine ah hJ (aV hJ ?_)
   first|refine aR hJ ?_|refine aC hJ ?_|refine ah hJ (aC hJ ?_)|refine ah hJ (ah hJ (aC hJ ?_))
   apply bW _
   first|refine aR hJ ?_|refine aC hJ ?_|refine ah hJ (aC hJ ?_)|refine ah hJ (ah hJ (aC hJ ?_))
   apply bW _
   refine bf hJ _ (HI u0 ⟨(d.mono aZ),(e.mono aZ),(g.mono aZ),(k.mono aZ)⟩ q) (aP ?_)
   apply bW _
   first|refine aR hJ ?_|refine aC hJ ?_|refine ah hJ (aC hJ ?_)|refine ah hJ (ah hJ (aC hJ ?_))
   apply bW _
   have b:=jz h;clear h;rcases b with ⟨hc,h⟩|⟨hc,h⟩
   .refine eD hJ dG ?_
    first|refine aR hJ ?_|refine aC hJ ?_|refine ah hJ (aC hJ ?_)|refine ah hJ (ah hJ (aC hJ ?_))
    apply bW _
    have b:=Option.some.inj h;clear h;subst b
    apply aQ
    simp only[*,go_sem]
   .refine eu hJ dG ?_
    apply aO hJ
    apply aR hJ
    apply bW _
    refine ⟨5 - 5,aa,_,Le.refl _,5,rfl,rfl,?_⟩
    have hw:IntKind.i64.wrap (4+1)=((5:Nat):Int):=aB
    apply bW _
    first|exact ⟨aa,h⟩|exact h
  .have:i=0:=aa
   subst this
   replace h:some 0=some r:=h
   have l:((0+1+1+1+1+1:Nat):Int)=5:=rfl
   first|refine aR hJ ?_|refine aC hJ ?_|refine ah hJ (aC hJ ?_)|refine ah hJ (ah hJ (aC hJ ?_))
   apply bW _
   apply ah hJ
   refine eu hJ dG ?_
   apply bR
   simp only[go_sem]
   first|refine aR hJ ?_|refine aC hJ ?_|refine ah hJ (aC hJ ?_)|refine ah hJ (ah hJ (aC hJ ?_))
   apply bW _
   have b:=Option.some.inj h;clear h;subst b
   apply aQ
   simp only[*,go_sem]
end Go.Proofs.YtbpddfapodiemaaGreatDoor
end
section
namespace Go.Sep
open Go Go.Conc
variable {P:Program}{main:Bool}{J:Goroutine->af->Prop}{Q:Ex->Act->af->Prop}{a:Act}{F:af}
def Qn (E:Act->af->Prop)(Q:Ex->Act->af->Prop):Ex->Act->af->Prop
 | .normal,a,F=>∃F0,Le F0 F/\E a F0
 | .exit i,a,F=>Q (.exit i) a F
 | .ret,a,F=>Q .ret a F
theorem HN (E:Act->af->Prop)(Q:Ex->Act->af->Prop)(i:Nat)(a:Act)(F:af):Qn E Q (.exit i) a F=Q (.exit i) a F:=Eq.trans rfl rfl
theorem HO (E:Act->af->Prop)(Q:Ex->Act->af->Prop)(a:Act)(F:af):Qn E Q .ret a F=Q .ret a F:=Eq.trans rfl rfl
attribute [go_sem] HN HO
theorem Qn.intro {E:Act->af->Prop}(h:∃F0,Le F0 F/\E a F0):Qn E Q .normal a F:=h
theorem gS (hJ:Closed P main J){x y:Code}(E:Act->af->Prop)(c:Wp J x (Qn E Q) a F)(d:∀a F,E a F->Wp J y Q a F):Wp J (.seq x y) Q a F:=
 ah hJ (c.mono fun e a F b=>by
  cases e with
  |normal=>obtain ⟨F0,hle,f⟩:=b;exact cH hJ hle (d a F0 f)
  |exit i=>exact b
  |ret=>exact b)
theorem bg.di {ro:Addr->Option Value}{e:TypeId}{b n cap:Nat}{l:List Int}{arr:Array Value}(h:bg rI ro e (.slice (some ⟨b,0,none⟩) n cap) l [(b,.cells arr e)]){i x:Int}(q:bt l i=some x):
  0<=i/\i<((n:Nat):Int)/\arr[i.toNat]?=some (.int .i64 x)/\i.toNat<arr.size:=by
 obtain ⟨a,f,c⟩:=cv q
 have hc:=h.count
 obtain ⟨cs,d,hm⟩:=h.jD c
 obtain rfl:cs=[.int .i64 x]:=d
 have m:=hm 0 _ rfl
 have m:arr[i.toNat*1+0]?=some (.int .i64 x):=m
 rw[Nat.mul_one,Nat.add_zero] at m
 exact ⟨a,aa,m,(Array.getElem?_eq_some_iff.1 m).1⟩
theorem bg.gG {ro:Addr->Option Value}{e:TypeId}{b n cap:Nat}{l:List Int}{arr:Array Value}(h:bg rI ro e (.slice (some ⟨b,0,none⟩) n cap) l [(b,.cells arr e)]){i:Int}(a:0<=i)(c:i<((n:Nat):Int))(y:Int):
  bg rI ro e (.slice (some ⟨b,0,none⟩) n cap) (l.set i.toNat y) [(b,.cells (cY arr i.toNat [.int .i64 y]) e)]:=by
 have hc:=h.count
 have:=h.tw (i:=i.toNat) (y:=y) aa (cs:=[.int .i64 y]) rfl
 rwa [show i.toNat*rI.n=i.toNat from Nat.mul_one _] at this
variable {P:Program}{main:Bool}{J:Goroutine->af->Prop}{Q:Ex->Act->af->Prop}{a:Act}{F:af}
def HP:cw Int:=ia 1 (fun n=>[.int .u16 n]) (fun _=>rfl) (fun _ v a=>by simp at a;subst a;rfl)
def HQ:cw Int:=ia 1 (fun n=>[.int .u8 n]) (fun _=>rfl) (fun _ v a=>by simp at a;subst a;rfl)
@[go_sem] theorem Td:HP.n=1:=rfl
@[go_sem] theorem Te:HQ.n=1:=rfl
end Go.Sep
end
section
namespace Go.Proofs.YtbpddfapodiemaaGreatDoor
open Go Go.Sep Go.Proofs
set_option maxRecDepth 100000
set_option maxHeartbeats 4000000
def o6 (u0:an)(b:bx)(i39:Nat)(a:cx)(st:(List bQ)):Option (Fl (List bQ) bQ):=
 ai (gE a.high) fun c=>ai (k4 u0 b (i39:Int) (⟨a.aX,c⟩:iH)) fun d=>ai (dc st ([d])) fun e=>some (.nx e)
def mb (u0:an)(b:bx):Option bQ:=
 ai (bU (o6 u0 b) 0 u0.aK ([]:List bQ)) fun o=>aG o (fun a=>ai (bt a 0) fun c=>ai (jA a 1 (a.length:Int)) fun d=>ai (ni jG c d) fun e=>some e) (fun _ _=>none) (fun r=>some r)
theorem tU {ro:Addr->Option Value}(u0:an){s1 f g i:Value}(u:bO ro u0 s1 f g i)(b:bx){r:bQ}(h:mb u0 b=some r):aE Tryz.prog 55 #[bv u0 s1 f g i,.agg #[.int .i64 b.back,.int .i64 b.high]] ⟨ro,[]⟩ (fun v _=>v=r.v):=by
 obtain ⟨d3,c4,rfl,dT,W,-⟩:=id u.e;unfold mb at h;refine aE.go Tryz.func55 rfl Tryz.ntmps55 Tryz.results55 ax fun main J hJ A X hd hs=>?_;have Y:=hs 0;have k1:=hs 1;clear hs;apply ay hJ _;refine az fun o Z ab=>?_;try simp only[av] at ab
 refine az fun p ad ae=>?_;try simp only[av] at ae
 refine az fun q al ao=>?_;try simp only[av] at ao
 apply ay hJ _;refine ah hJ (aC hJ ?_);apply ag _;apply aV hJ;revert h;refine bS fun ar j a0=>?_;refine bY hJ (rg 12 19 [5,6,7]) (fun m G F'=>∃(i39:Nat) (d33:Option Addr) (s:Nat) (w:List (Nat×Obj)) (c:(List bQ)),m=u0.aK.length - i39/\i39<=u0.aK.length/\bU (o6 u0 b) i39 (u0.aK.drop i39) c=some ar/\F'=⟨ro,(q,.cells #[.int .i64 0,.int .i64 0,.int .i64 0,.int .i64 0,.int .i64 0,.int .i64 0] 105)::(p,.cells #[.int .i64 b.back,.int .i64 b.high] 101)::(o,bl u0 (sl d3 u0.aK c4) f g i)::w⟩/\bg kZ ro 105 (.slice d33 c.length s) c w/\c.length<=s/\slot G 12= .int .i64 (i39:Int)/\slot G 5= .slice d33 c.length s) u0.aK.length ?_ ?_
 .refine ⟨0,none,0,[],([]:List bQ),(Nat.sub_zero _).symm,Nat.zero_le _,j,rfl,bg.nil _ _ _,Nat.le_refl _,?_⟩;simp only[*,go_sem]
 rintro ea eb F' H ⟨i39,d33,s,w,c,rfl,ec,j,rfl,I,ed,eh,et⟩;obtain ⟨a2,a3,a4⟩:=H.pick [2,3,4,10,11] aB;simp only[*,go_sem] at a2 a3 a4;clear H X hd Y k1;apply ay hJ _;apply ah hJ;rcases Nat.lt_or_ge i39 u0.aK.length with a5|K
 .refine cJ hJ ?_;apply aO hJ;obtain ⟨d,y⟩:∃x,u0.aK[i39]?=some x:=⟨_,List.getElem?_eq_getElem a5⟩
  rw[dK y] at j;revert j;refine bS fun ev h a6=>?_;unfold o6 at h;try dsimp only at h
  obtain ⟨z,a7,a8,a9,B⟩:=u.e.el _ _ y;obtain rfl:a7=d.cells:=a9;cases a8;have ba:=B 0 _ rfl;simp only[go_sem] at ba;have bb:=B 1 _ rfl;simp only[go_sem] at bb;clear B y;refine ah hJ (aV hJ (ah hJ ?_));refine aD hJ fun bc=>?_;apply aF hJ _;refine az fun C eQ L=>?_;have eS:=bh.cons L bc;try simp only[av] at L
  refine aD hJ fun bd=>?_;refine ef hJ mixed 11 ⟨ro,[(C,.cells #[.int .i64 d.aX,.int .i64 d.high] 125),(q,.cells #[.int .i64 0,.int .i64 0,.int .i64 0,.int .i64 0,.int .i64 0,.int .i64 0] 105),(p,.cells #[.int .i64 b.back,.int .i64 b.high] 101),(o,bl u0 (sl (some z) u0.aK c4) f g i)]⟩ aM aj ?_;revert h;refine bS fun bj bk h=>?_;apply ag _;refine ⟨_,bI hJ fun F t=>j5 d.high bk,ck ?_⟩;revert h;refine bS fun a bm h=>?_;apply ag _;refine ⟨_,bI hJ fun F t=>B1 u0 (u.mono (cg t)) b (i39:Int) (⟨d.aX,bj⟩:iH) bm,?_⟩;revert h;refine bS fun bo br h=>?_;cases h;obtain ⟨bs,M⟩:=dg br;apply ag _;refine az fun N bz O=>?_;have b0:=bh.cons O bd;try simp only[av] at O
  apply ag _;refine dP (r:=kZ) (l:=c) (x:=a) (cs:=#[.int .i64 a.spot.aX,.int .i64 a.spot.high.num,.int .i64 a.spot.high.den,.int .i64 a.at_,.int .i64 a.high.num,.int .i64 a.high.den]) (e2:=105) [(N,.cells #[.int .i64 a.spot.aX,.int .i64 a.spot.high.num,.int .i64 a.spot.high.den,.int .i64 a.at_,.int .i64 a.high.num,.int .i64 a.high.den] 105),(C,.cells #[.int .i64 d.aX,.int .i64 d.high] 125),(q,.cells #[.int .i64 0,.int .i64 0,.int .i64 0,.int .i64 0,.int .i64 0,.int .i64 0] 105),(p,.cells #[.int .i64 b.back,.int .i64 b.high] 101),(o,bl u0 (sl (some z) u0.aK c4) f g i)] [] I b0 bs rfl aM bz rfl rfl oO oO wW wY rfl wX aB aB (fun e0 P D b1 b2 e1=>?_);simp only[bn] at b2;subst b1;rw[<-M] at D;clear M;obtain ⟨d63,b3,rfl,b4⟩:=D.len;refine ⟨⟨ro,(N,.cells #[.int .i64 a.spot.aX,.int .i64 a.spot.high.num,.int .i64 a.spot.high.den,.int .i64 a.at_,.int .i64 a.high.num,.int .i64 a.high.den] 105)::(C,.cells #[.int .i64 d.aX,.int .i64 d.high] 125)::(q,.cells #[.int .i64 0,.int .i64 0,.int .i64 0,.int .i64 0,.int .i64 0,.int .i64 0] 105)::(p,.cells #[.int .i64 b.back,.int .i64 b.high] 101)::(o,bl u0 (sl (some z) u0.aK c4) f g i)::P⟩,Le.refl _,?_⟩;refine ⟨aM,m4 ?_⟩;apply ag _;have e3:=cI (n:=i39) (by have:=W;omega);apply aF hJ _;refine ⟨u0.aK.length - (i39+1),aa,_,Le.sub (List.Sublist.cons _ (List.Sublist.cons _ (List.Sublist.refl _))),i39+1,d63,b3,P,bo,rfl,aa,a6,rfl,D,b4,?_⟩;simp only[*,go_sem]
 have fa:=Nat.not_lt.2 K;refine cF hJ ?_;rw[List.drop_eq_nil_of_le K] at j;obtain rfl:=sI j;clear j;have h:=a0;dsimp only[aG] at h;apply bR;simp only[go_sem];apply ah hJ;refine aD hJ fun Q=>?_;obtain ⟨b5,fb,ca,E,cb⟩:=I.eL [(q,.cells #[.int .i64 0,.int .i64 0,.int .i64 0,.int .i64 0,.int .i64 0,.int .i64 0] 105),(p,.cells #[.int .i64 b.back,.int .i64 b.high] 101),(o,bl u0 (sl d3 u0.aK c4) f g i)] [] Q (aJ.cons al (aJ.cons ad (aJ.cons Z (aJ.nil _))));clear Q;refine cH hJ cb ?_;obtain ⟨fg,fi,-⟩:=E.op;simp only[bE] at ca;refine ef hJ mixed 6 ⟨b5,[(p,.cells #[.int .i64 b.back,.int .i64 b.high] 101),(o,bl u0 (sl d3 u0.aK c4) f g i)]⟩ aM aj ?_;revert h;refine bS fun R cd h=>?_;obtain ⟨fp,fr,S⟩:=cv cd;obtain ⟨fs,cf,cl,cy,k⟩:=E.el _ _ S;obtain rfl:cf=R.cells:=cy;cases cl;have cS:=k 0 _ rfl;simp only[go_sem] at cS;have c0:=k 1 _ rfl;simp only[go_sem] at c0;have da:=k 2 _ rfl;simp only[go_sem] at da;have db:=k 3 _ rfl;simp only[go_sem] at db;have dd:=k 4 _ rfl;simp only[go_sem] at dd;have df:=k 5 _ rfl;simp only[go_sem] at df;clear k S;revert h;refine bS fun dk dp h=>?_;obtain ⟨ft,fu,fv,T⟩:=qN dp;have U:(1:Int).toNat<=((c.length:Int)).toNat:=aa;have dq:((c.length:Int)).toNat<=s:=aa;have fw:0<=((c.length:Int)):=aa;obtain ⟨d80,ds,dt,V⟩:=aI.qQ E (1:Int).toNat ((c.length:Int)).toNat U aa T;simp only[go_sem] at ds dt U dq;obtain ⟨_,_,du,fx,fz,gg⟩:=id V;cases du;clear T;revert h;refine bS fun gl dv h=>?_;cases h;apply ag _;refine ⟨_,bI hJ fun F t=>tN (ey:=57) (eM:=#[]) (eN:=#[]) jG ⟨by simp only[go_sem],fun gn gp dC dE _ h=>by simp only[go_sem];exact tH dC dE h⟩ R dk (V.mono (cg t)) dv,?_⟩;apply ag _;apply aQ;simp only[*,go_sem]
def nv (u0:an)(a:bx):Option au:=
 ai (gE u0.b6) fun b=>ai (mb u0 a) fun c=>ai (j7 b c.high) fun d=>some d
theorem B3 {ro:Addr->Option Value}(u0:an){s1 b c d:Value}(f:bO ro u0 s1 b c d)(a:bx){r:au}(h:nv u0 a=some r):aE Tryz.prog 90 #[bv u0 s1 b c d,.agg #[.int .i64 a.back,.int .i64 a.high]] ⟨ro,[]⟩ (fun v _=>v=r.v):=by
 unfold nv at h;refine aE.go Tryz.func90 rfl Tryz.ntmps90 Tryz.results90 ax fun main J hJ A s hd hs=>?_;have t:=hs 0;have k1:=hs 1;clear hs;apply ay hJ _;refine az fun g u i=>?_;try simp only[av] at i
 refine az fun j w k=>?_;try simp only[av] at k
 refine az fun x y l=>?_;try simp only[av] at l
 apply ah hJ;refine ef hJ mixed 9 ⟨ro,[(j,.cells #[.int .i64 a.back,.int .i64 a.high] 101),(g,bl u0 s1 b c d)]⟩ aM aj ?_;revert h;refine bS fun m n h=>?_;apply ag _;refine ⟨_,bI hJ fun F e=>j5 u0.b6 n,ck ?_⟩;revert h;refine bS fun o p h=>?_;apply ag _;refine ⟨_,bI hJ fun F e=>tU u0 (f.mono (cg e)) a p,ck ?_⟩;revert h;refine bS fun z q h=>?_;cases h;apply ag _;refine ⟨_,bI hJ fun F e=>q7 m o.high q,?_⟩;apply ag _;apply aQ;simp only[*,go_sem]
def o7 (u0:an)(a:Int)(st:Int):Option (Fl Int au):=
 ai (bt u0.aK st) fun b=>cond (decide (b.aX<a)) (some (.nx (IntKind.i64.wrap (st+1)))) (some (.bk st))
def jH (u0:an)(b:Int):Option au:=
 ai (aY (o7 u0 b) fu 1) fun o=>aG o (fun c=>ai (bt u0.aK (IntKind.i64.wrap (c - 1))) fun a=>ai (bt u0.aK c) fun d=>ai (gE a.high) fun e=>ai (k3 (IntKind.i64.wrap ((IntKind.i64.wrap (d.high - a.high))*(IntKind.i64.wrap (b - a.aX)))) (IntKind.i64.wrap (d.aX - a.aX))) fun f=>ai (j6 e f) fun g=>some g) (fun _ _=>none) (fun r=>some r)
theorem B4 {ro:Addr->Option Value}(u0:an){s1 b c d:Value}(g:bO ro u0 s1 b c d)(i:Int){r:au}(h:jH u0 i=some r):aE Tryz.prog 113 #[bv u0 s1 b c d,.int .i64 i] ⟨ro,[]⟩ (fun v _=>v=r.v):=by
 obtain ⟨d3,c4,rfl,bc,bd,-⟩:=id g.e;unfold jH at h;refine aE.go Tryz.func113 rfl Tryz.ntmps113 Tryz.results113 ax fun main J hJ A E hd hs=>?_;have G:=hs 0;have k1:=hs 1;clear hs;apply ay hJ _;refine az fun l bj H=>?_;try simp only[av] at H
 refine az fun t bk I=>?_;try simp only[av] at I
 apply ay hJ _;refine ah hJ (aV hJ ?_);revert h;refine bS fun K j L=>?_;refine bY hJ (rg 8 11 [5]) (fun m M F'=>∃(k:Int),aY (o7 u0 i) m k=some K/\F'=⟨ro,(t,rt 0 0)::(l,bl u0 (sl d3 u0.aK c4) b c d)::[]⟩/\slot M 5= .int .i64 k) fu ?_ ?_
 .refine ⟨1,j,rfl,?_⟩;simp only[*,go_sem]
 rintro n bm F' u ⟨k,j,rfl,bo⟩;obtain ⟨N,O,P⟩:=u.pick [1,2,4] aB;simp only[*,go_sem] at N O P;clear u E hd G k1;obtain _|n:=n
 .exact absurd j (by simp only[aY,reduceCtorEq,not_false_eq_true])
 revert j;refine bS fun br h o=>?_;unfold o7 at h;try dsimp only at h
 refine ah hJ (aC hJ ?_);revert h;refine bS fun Q R h=>?_;obtain ⟨bs,bz,w⟩:=cv R;obtain ⟨x,S,T,U,p⟩:=g.e.el _ _ w;obtain rfl:S=Q.cells:=U;cases T;have y:=p 0 _ rfl;simp only[go_sem] at y;have z:=p 1 _ rfl;simp only[go_sem] at z;clear p w;apply ag _;revert h;refine aT hJ (fun V h=>?_) fun V h=>?_
 .cases h;refine aO hJ (aV hJ ?_);apply aF hJ _;refine ⟨n,Nat.lt_succ_self _,_,Le.sub (List.Sublist.refl _),(IntKind.i64.wrap (k+1)),o,rfl,?_⟩;simp only[*,go_sem]
 cases h;apply bR;simp only[go_sem];obtain rfl:=sI o;clear o;have h:=L;dsimp only[aG] at h;clear y z;apply ah hJ;refine tn hJ mixed 13 ⟨ro,[(t,rt 0 0),(l,bl u0 (sl (some x) u0.aK c4) b c d)]⟩ aM aj 125 rfl wZ ?_;revert h;refine bS fun a W h=>?_;obtain ⟨b0,b1,B⟩:=cv W;obtain ⟨b2,X,Y,Z,q⟩:=g.e.el _ _ B;obtain rfl:X=a.cells:=Z;cases Y;have ab:=q 0 _ rfl;simp only[go_sem] at ab;have ad:=q 1 _ rfl;simp only[go_sem] at ad;clear q B;revert h;refine bS fun f ae h=>?_;obtain ⟨b3,b4,C⟩:=cv ae;obtain ⟨b5,al,ao,ar,s⟩:=g.e.el _ _ C;obtain rfl:al=f.cells:=ar;cases ao;have a0:=s 0 _ rfl;simp only[go_sem] at a0;have a2:=s 1 _ rfl;simp only[go_sem] at a2;clear s C;apply ag _;refine az fun a3 ca a4=>?_;try simp only[av] at a4
 apply ag _;refine az fun a5 cb a6=>?_;try simp only[av] at a6
 apply ag _;apply ah hJ;refine ef hJ mixed 20 ⟨ro,[(a5,.cells #[.int .i64 f.aX,.int .i64 f.high] 125),(a3,.cells #[.int .i64 a.aX,.int .i64 a.high] 125),(l,bl u0 (sl (some x) u0.aK c4) b c d)]⟩ aM aj ?_;revert h;refine bS fun a7 a8 h=>?_;apply ag _;refine ⟨_,bI hJ fun F D=>j5 a.high a8,ck ?_⟩;revert h;refine bS fun a9 ba h=>?_;apply ag _;refine ⟨_,bI hJ fun F D=>q5 (IntKind.i64.wrap ((IntKind.i64.wrap (f.high - a.high))*(IntKind.i64.wrap (i - a.aX)))) (IntKind.i64.wrap (f.aX - a.aX)) ba,ck ?_⟩;revert h;refine bS fun cd bb h=>?_;cases h;apply ag _;refine ⟨_,bI hJ fun F D=>q6 a7 a9 bb,?_⟩;apply ag _;apply aQ;simp only[*,go_sem]
def rf (c:cK)(b:au)(i59:Nat)(a:bQ)(st:Unit):Option (Fl Unit (List bQ)):=
 cond (((a.spot.aX==c.place)&&((a.spot.high.num==b.num)&&(a.spot.high.den==b.den)))) (some (.br 1 ())) (some (.nx ()))
def ri (u0:an)(c:bx)(i38:Nat)(a:cK)(st:(List bQ)):Option (Fl (List bQ) (List bQ)):=
 ai (jH u0 a.place) fun d=>ai (gE a.dV) fun e=>ai (j6 d e) fun b=>ai (bU (rf a b) 0 st ()) fun o=>aG o (fun h=>ai (k4 u0 c (i38:Int) (⟨a.place,b⟩:iH)) fun f=>ai (dc st ([f])) fun g=>some (.nx g)) (fun _ i=>some (.nx st)) (fun r=>some (.rt r))
def j8 (u0:an)(a:bx):Option (List bQ):=
 ai (bU (ri u0 a) 0 u0.props ([]:List bQ)) fun o=>aG o (fun b=>some b) (fun _ _=>none) (fun r=>some r)
theorem xm {ro:Addr->Option Value}(u0:an){s1 O f g:Value}(w:bO ro u0 s1 O f g)(b:bx){r:(List bQ)}(h:j8 u0 b=some r):eJ Tryz.prog 114 #[bv u0 s1 O f g,.agg #[.int .i64 b.back,.int .i64 b.high]] ro (fun v aW=>∃P,v=P/\aI kZ aW P r):=by
 obtain ⟨d10,o,rfl,fi,Q,-⟩:=id w.p;unfold j8 at h;refine aE.go Tryz.func114 rfl Tryz.ntmps114 Tryz.results114 ax fun main J hJ A ba hd hs=>?_;have bb:=hs 0;have k1:=hs 1;clear hs;apply ay hJ _;refine az fun q bc bj=>?_;try simp only[av] at bj
 refine az fun s bk bm=>?_;try simp only[av] at bm
 refine Fu hJ (ah hJ ?_);apply aF hJ _;apply ah hJ;refine Ft hJ ?_;refine ah hJ (aC hJ ?_);apply ag _;apply aV hJ;revert h;refine bS fun bo i br=>?_;refine bY hJ (rg 15 36 [5,6,7,8,10]) (fun m y F'=>∃(i38:Nat) (d32:Option Addr) (t:Nat) (z:List (Nat×Obj)) (c:(List bQ)),m=u0.props.length - i38/\i38<=u0.props.length/\bU (ri u0 b) i38 (u0.props.drop i38) c=some bo/\F'=⟨ro,(s,.cells #[.int .i64 b.back,.int .i64 b.high] 101)::(q,bl u0 s1 (sl d10 u0.props o) f g)::z⟩/\bg kZ ro 105 (.slice d32 c.length t) c z/\c.length<=t/\slot y 15= .int .i64 (i38:Int)/\slot y 5= .slice d32 c.length t) u0.props.length ?_ ?_
 .refine ⟨0,none,0,[],([]:List bQ),(Nat.sub_zero _).symm,Nat.zero_le _,i,rfl,bg.nil _ _ _,Nat.le_refl _,?_⟩;simp only[*,go_sem]
 rintro fp bs F' R ⟨i38,d32,t,z,c,rfl,fr,i,rfl,u,bz,b0,b1⟩;obtain ⟨S,T,U⟩:=R.pick [2,3,4,13,14] aB;simp only[*,go_sem] at S T U;clear R ba hd bb k1;apply ay hJ _;apply ah hJ;rcases Nat.lt_or_ge i38 u0.props.length with b2|V
 .refine cJ hJ ?_;apply aO hJ;obtain ⟨d,B⟩:∃x,u0.props[i38]?=some x:=⟨_,List.getElem?_eq_getElem b2⟩
  rw[dK B] at i;revert i;refine bS fun fs h W=>?_;unfold ri at h;try dsimp only at h
  obtain ⟨C,b3,b4,b5,D⟩:=w.p.el _ _ B;obtain rfl:b3=d.cells:=b5;cases b4;have ca:=D 0 _ rfl;simp only[go_sem] at ca;have cb:=D 1 _ rfl;simp only[go_sem] at cb;clear D B;refine ah hJ (aV hJ (ah hJ ?_));refine aD hJ fun cd=>?_;apply aF hJ _;refine az fun E ft X=>?_;have fu:=bh.cons X cd;try simp only[av] at X
  apply ah hJ;refine aD hJ fun cf=>?_;refine cV hJ mixed 11 3 aM aj ?_;revert h;refine bS fun cl cy h=>?_;apply ag _;refine ⟨_,bI hJ fun F G=>B4 u0 (w.mono (cg G)) d.place cy,ck ?_⟩;revert h;refine bS fun cS c0 h=>?_;apply ag _;refine ⟨_,bI hJ fun F G=>j5 d.dV c0,ck ?_⟩;revert h;refine bS fun e da h=>?_;apply ag _;refine ⟨_,bI hJ fun F G=>q6 cl cS da,ck ?_⟩;apply ag _;refine az fun H fv Y=>?_;have fw:=bh.cons Y cf;try simp only[av] at Y
  apply ag _;refine ah hJ (ah hJ ?_);refine aD hJ fun fx=>?_;apply aF hJ _;apply aV hJ;revert h;refine bS fun db j Z=>?_;refine bY hJ (rg 33 9 [10]) (fun m y F'=>∃(i59:Nat),m=c.length - i59/\i59<=c.length/\bU (rf d e) i59 (c.drop i59) ()=some db/\F'=⟨ro,(H,.cells #[.int .i64 d.place,.int .i64 e.num,.int .i64 e.den] 103)::(E,.cells #[.int .i64 d.place,.int .i64 d.dV] 159)::(s,.cells #[.int .i64 b.back,.int .i64 b.high] 101)::(q,bl u0 s1 (sl (some C) u0.props o) f g)::z⟩/\slot y 33= .int .i64 (i59:Int)) c.length ?_ ?_
  .refine ⟨0,(Nat.sub_zero _).symm,Nat.zero_le _,j,rfl,?_⟩;simp only[*,go_sem]
  rintro fz dd F' I ⟨i59,rfl,gg,j,rfl,gl⟩;obtain ⟨df,dk,dp⟩:=I.pick [2,3,4,5,6,7,8,13,14,15,16,17,19,20,21,22,23,24,25,26,27,28,29,30,31,32] aB;simp only[*,go_sem] at df dk dp;have gn:cR (rg 15 36 [5,6,7,8,10]) dd bs:=(I.fE aB).trans aM;clear I S T U b1 b0;apply ay hJ _;apply ah hJ;rcases Nat.lt_or_ge i59 c.length with dq|ab
  .refine cJ hJ ?_;apply aO hJ;obtain ⟨ds,K⟩:∃x,c[i59]?=some x:=⟨_,List.getElem?_eq_getElem dq⟩
   rw[dK K] at j;revert j;refine bS fun gp h L=>?_;unfold rf at h;(try dsimp only at h);refine aD hJ fun M=>?_;obtain ⟨ad,dt,gB,du,dv,rfl,gC,dC,k⟩:=u.elem K;obtain rfl:du=ds.cells:=dC;cases dv;replace M:=M.nd;simp only[keys,List.map_cons,List.map_nil,List.map_append,List.cons_append,List.nil_append,List.nodup_cons,List.mem_cons,List.mem_append,List.not_mem_nil,or_false,not_or] at M;have ae:=k 0 _ rfl;simp only[go_sem] at ae;have al:=k 1 _ rfl;simp only[go_sem] at al;have ao:=k 2 _ rfl;simp only[go_sem] at ao;have ar:=k 3 _ rfl;simp only[go_sem] at ar;have a0:=k 4 _ rfl;simp only[go_sem] at a0;have a2:=k 5 _ rfl;simp only[go_sem] at a2;clear k K;refine ah hJ (aV hJ (ah hJ ?_));refine aD hJ fun dE=>?_;apply aF hJ _;refine az fun gM gT a3=>?_;have gV:=bh.cons a3 dE;try simp only[av] at a3
   apply ah hJ;refine aD hJ fun g0=>?_;apply aF hJ _;revert h;refine aT hJ (fun dT h=>?_) fun dT h=>?_
   .cases h;apply bR;simp only[go_sem];obtain rfl:=sI L;clear L;have h:=Z;dsimp only[aG] at h;cases h;clear ae al ao ar a0 a2;have ea:=cI (n:=i38) (by have:=Q;omega);apply aF hJ _;refine ⟨u0.props.length - (i38+1),aa,_,Le.sub (List.Sublist.cons _ (List.Sublist.cons _ (List.Sublist.cons _ (List.Sublist.refl _)))),i38+1,(some ⟨ad,0,none⟩),t,[(ad,Obj.cells dt 105)],c,rfl,aa,W,rfl,u,bz,?_⟩;simp only[*,go_sem]
   cases h;apply aO hJ;have g1:=cI (n:=i59) (by have:=u.bd;omega);apply aF hJ _;refine ⟨c.length - (i59+1),aa,_,Le.sub (List.Sublist.cons _ (List.Sublist.refl _)),i59+1,rfl,aa,L,rfl,?_⟩;simp only[*,go_sem]
  have g2:=Nat.not_lt.2 ab;refine cF hJ ?_;rw[List.drop_eq_nil_of_le ab] at j;obtain rfl:=sI j;clear j;have h:=Z;dsimp only[aG] at h;apply bR;simp only[go_sem];refine aD hJ fun eb=>?_;apply aR hJ;revert h;refine bS fun a ec h=>?_;apply ag _;refine bf hJ _ (B1 u0 (w.mono aZ) b (i38:Int) (⟨d.place,e⟩:iH) ec) (aP ?_);revert h;refine bS fun ed eh h=>?_;cases h;obtain ⟨et,a4⟩:=dg eh;apply ag _;refine az fun a5 ev a6=>?_;have eQ:=bh.cons a6 eb;try simp only[av] at a6
  refine dP (r:=kZ) (l:=c) (x:=a) (cs:=#[.int .i64 a.spot.aX,.int .i64 a.spot.high.num,.int .i64 a.spot.high.den,.int .i64 a.at_,.int .i64 a.high.num,.int .i64 a.high.den]) (e2:=105) [(a5,.cells #[.int .i64 a.spot.aX,.int .i64 a.spot.high.num,.int .i64 a.spot.high.den,.int .i64 a.at_,.int .i64 a.high.num,.int .i64 a.high.den] 105),(H,.cells #[.int .i64 d.place,.int .i64 e.num,.int .i64 e.den] 103),(E,.cells #[.int .i64 d.place,.int .i64 d.dV] 159),(s,.cells #[.int .i64 b.back,.int .i64 b.high] 101),(q,bl u0 s1 (sl (some C) u0.props o) f g)] [] u eQ et rfl aM ev rfl rfl oO oO wW wY rfl wX aB aB (fun g3 a7 N eS e0 g4=>?_);simp only[bn] at e0;subst eS;rw[<-a4] at N;clear a4;obtain ⟨d83,e1,rfl,e3⟩:=N.len;refine ⟨⟨ro,(a5,.cells #[.int .i64 a.spot.aX,.int .i64 a.spot.high.num,.int .i64 a.spot.high.den,.int .i64 a.at_,.int .i64 a.high.num,.int .i64 a.high.den] 105)::(H,.cells #[.int .i64 d.place,.int .i64 e.num,.int .i64 e.den] 103)::(E,.cells #[.int .i64 d.place,.int .i64 d.dV] 159)::(s,.cells #[.int .i64 b.back,.int .i64 b.high] 101)::(q,bl u0 s1 (sl (some C) u0.props o) f g)::a7⟩,Le.refl _,?_⟩;apply aP;apply ag _;have ea:=cI (n:=i38) (by have:=Q;omega);apply aF hJ _;refine ⟨u0.props.length - (i38+1),aa,_,Le.sub (List.Sublist.cons _ (List.Sublist.cons _ (List.Sublist.cons _ (List.Sublist.refl _)))),i38+1,d83,e1,a7,ed,rfl,aa,W,rfl,N,e3,?_⟩;simp only[*,go_sem]
 have ha:=Nat.not_lt.2 V;refine cF hJ ?_;rw[List.drop_eq_nil_of_le V] at i;obtain rfl:=sI i;clear i;have h:=br;dsimp only[aG] at h;cases h;apply bR;simp only[go_sem];apply ah hJ;refine aD hJ fun hc=>?_;apply aF hJ _;refine aD hJ fun a8=>?_;obtain ⟨hf,fa,fb,a9,fg⟩:=u.eL [(s,.cells #[.int .i64 b.back,.int .i64 b.high] 101),(q,bl u0 s1 (sl d10 u0.props o) f g)] [] a8 (aJ.cons bk (aJ.cons bc (aJ.nil _)));clear a8;refine cH hJ fg ?_;obtain ⟨hg,hh,-⟩:=a9.op;simp only[bE] at fb;refine b9 ?_;exact ⟨_,fa,Le.sub (List.nil_sublist _),_,rfl,a9⟩
def ny (i54:Nat)(a:bQ)(st:au):Option (Fl au au):=
 ai (gF eZ st ([a.high])) fun b=>some (.nx b)
def nB (i100:Nat)(a:bQ)(st:au):Option (Fl au au):=
 ai (gF eZ st ([a.high])) fun b=>some (.nx b)
def k6 (u0:an)(a:bx):Option au:=
 ai (gE u0.b6) fun b=>ai (mb u0 a) fun c=>ai (eZ c.high b) fun d=>cond (d) (ai (j8 u0 a) fun e=>ai (bU (ny) 0 e c.high) fun o=>aG o (fun f=>ai (j7 b f) fun g=>ai (gE 0) fun h=>ai (gF eZ g ([h])) fun i=>some i) (fun _ _=>none) (fun r=>some r)) (ai (j8 u0 a) fun j=>ai (bU (nB) 0 j b) fun o=>aG o (fun k=>ai (j7 c.high k) fun l=>ai (gE 0) fun m=>ai (gF eZ l ([m])) fun n=>some n) (fun _ _=>none) (fun r=>some r))
theorem tV {ro:Addr->Option Value}(u0:an){s1 p q s:Value}(t:bO ro u0 s1 p q s)(a:bx){r:au}(h:k6 u0 a=some r):aE Tryz.prog 103 #[bv u0 s1 p q s,.agg #[.int .i64 a.back,.int .i64 a.high]] ⟨ro,[]⟩ (fun v _=>v=r.v):=by
 unfold k6 at h;refine aE.go Tryz.func103 rfl Tryz.ntmps103 Tryz.results103 ax fun main J hJ A O hd hs=>?_;have P:=hs 0;have k1:=hs 1;clear hs;apply ay hJ _;refine az fun D fu al=>?_;try simp only[av] at al
 refine az fun E fv ao=>?_;try simp only[av] at ao
 refine az fun G fw ar=>?_;try simp only[av] at ar
 apply ah hJ;refine tn hJ mixed 8 ⟨ro,[(G,rt 0 0),(E,.cells #[.int .i64 a.back,.int .i64 a.high] 101),(D,bl u0 s1 p q s)]⟩ aM aj 23 rfl wV ?_;revert h;refine bS fun u a0 h=>?_;apply ag _;refine ⟨_,bI hJ fun F Q=>j5 u0.b6 a0,ck ?_⟩;revert h;refine bS fun w a2 h=>?_;apply ag _;refine ⟨_,bI hJ fun F Q=>tU u0 (t.mono (cg Q)) a a2,ck ?_⟩;apply ag _;refine az fun R fx a3=>?_;try simp only[av] at a3
 apply ag _;refine az fun S fz a4=>?_;try simp only[av] at a4
 apply ag _;refine ah hJ (aC hJ ?_);revert h;refine bS fun gg a5 h=>?_;apply ag _;refine bf hJ _ (jF w.high u a5) ?_;revert h;refine aT hJ (fun a6 h=>?_) fun a6 h=>?_
 .apply aF hJ _;refine ah hJ (aC hJ ?_);revert h;refine bS fun b a7 h=>?_;apply ag _;refine cm hJ _ (xm u0 t a a7) fun v a8 a9 ba H=>?_;obtain ⟨gl,rfl,T⟩:=H;replace t:=t.mono a9;simp only[bE] at ba;obtain ⟨d48,gn,rfl,gp,bb,-⟩:=id T;apply aP;apply ag _;apply aV hJ;revert h;refine bS fun bc c bd=>?_;refine bY hJ (rg 26 10 [8]) (fun m I F'=>∃(i54:Nat) (l:au),m=b.length - i54/\i54<=b.length/\bU (ny) i54 (b.drop i54) l=some bc/\F'=⟨a8,(S,rt u.num u.den)::(R,rt l.num l.den)::(G,rt 0 0)::(E,.cells #[.int .i64 a.back,.int .i64 a.high] 101)::(D,bl u0 s1 p q s)::[]⟩/\slot I 26= .int .i64 (i54:Int)) b.length ?_ ?_
  .refine ⟨0,w.high,(Nat.sub_zero _).symm,Nat.zero_le _,c,rfl,?_⟩;simp only[*,go_sem]
  rintro gB gC F' U ⟨i54,l,rfl,gM,c,rfl,gT⟩;obtain ⟨bj,bk,bm⟩:=U.pick [4,5,6,24,25] aB;simp only[*,go_sem] at bj bk bm;clear U O hd P k1;apply ay hJ _;apply ah hJ;rcases Nat.lt_or_ge i54 b.length with bo|V
  .refine cJ hJ ?_;apply aO hJ;obtain ⟨y,K⟩:∃x,b[i54]?=some x:=⟨_,List.getElem?_eq_getElem bo⟩
   rw[dK K] at c;revert c;refine bS fun gV h br=>?_;unfold ny at h;(try dsimp only at h);obtain ⟨g0,bs,bz,b0,d⟩:=T.el _ _ K;obtain rfl:bs=y.cells:=b0;cases bz;have b1:=d 0 _ rfl;simp only[go_sem] at b1;have b2:=d 1 _ rfl;simp only[go_sem] at b2;have b3:=d 2 _ rfl;simp only[go_sem] at b3;have b4:=d 3 _ rfl;simp only[go_sem] at b4;have b5:=d 4 _ rfl;simp only[go_sem] at b5;have ca:=d 5 _ rfl;simp only[go_sem] at ca;clear d K;refine ah hJ (aV hJ (ah hJ ?_));apply aF hJ _;refine az fun g1 g2 cb=>?_;try simp only[av] at cb
   refine aD hJ fun cd=>?_;apply aR hJ;revert h;refine bS fun cf cl h=>?_;cases h;apply ag _;refine az fun g3 cy W=>?_;have g4:=bh.cons W cd;try simp only[av] at W
   refine bf hJ _ (oW (ey:=61) (eM:=#[]) (eN:=#[]) eZ ⟨by simp only[go_sem],fun L M f g _ h=>by simp only[go_sem];exact jF f g h⟩ l ([y.high]) ((aI.flat (r:=l8) (e:=23) (cs:=#[.int .i64 y.high.num,.int .i64 y.high.den]) au.cells ([y.high]) (fun _=>rfl) cy rfl ax).mono (kS aM)) cl) (aP ?_);apply ag _;have ha:=cI (n:=i54) (by have:=bb;omega);apply aF hJ _;refine ⟨b.length - (i54+1),aa,_,Le.sub (List.Sublist.cons _ (List.Sublist.cons _ (List.Sublist.refl _))),i54+1,cf,rfl,aa,br,rfl,?_⟩;simp only[*,go_sem]
  have hc:=Nat.not_lt.2 V;refine cF hJ ?_;rw[List.drop_eq_nil_of_le V] at c;obtain rfl:=sI c;clear c;have h:=bd;dsimp only[aG] at h;apply bR;simp only[go_sem];apply ah hJ;refine aD hJ fun cS=>?_;apply aR hJ;revert h;refine bS fun c0 da h=>?_;apply ag _;refine bf hJ _ (q7 u l da) (aP ?_);revert h;refine bS fun B db h=>?_;apply ag _;refine bf hJ _ (j5 0 db) (aP ?_);revert h;refine bS fun hf dd h=>?_;cases h;apply ag _;refine az fun hg df X=>?_;have hh:=bh.cons X cS;try simp only[av] at X
  refine bf hJ _ (oW (ey:=61) (eM:=#[]) (eN:=#[]) eZ ⟨by simp only[go_sem],fun L M f g _ h=>by simp only[go_sem];exact jF f g h⟩ c0 ([B]) ((aI.flat (r:=l8) (e:=23) (cs:=#[.int .i64 B.num,.int .i64 B.den]) au.cells ([B]) (fun _=>rfl) df rfl ax).mono (kS aM)) dd) (aP ?_);apply ag _;apply aQ;simp only[*,go_sem]
 refine aO hJ (ah hJ ?_);apply aC hJ;revert h;refine bS fun i dk h=>?_;apply ag _;refine cm hJ _ (xm u0 t a dk) fun v dp hi dq H=>?_;obtain ⟨hj,rfl,Y⟩:=H;simp only[bE] at dq;obtain ⟨d94,hk,rfl,hl,ds,-⟩:=id Y;apply aP;apply ag _;apply aV hJ;revert h;refine bS fun dt j du=>?_;refine bY hJ (rg 26 10 [8]) (fun m I F'=>∃(i100:Nat) (o:au),m=i.length - i100/\i100<=i.length/\bU (nB) i100 (i.drop i100) o=some dt/\F'=⟨dp,(S,rt w.high.num w.high.den)::(R,rt o.num o.den)::(G,rt 0 0)::(E,.cells #[.int .i64 a.back,.int .i64 a.high] 101)::(D,bl u0 s1 p q s)::[]⟩/\slot I 26= .int .i64 (i100:Int)) i.length ?_ ?_
 .refine ⟨0,u,(Nat.sub_zero _).symm,Nat.zero_le _,j,rfl,?_⟩;simp only[*,go_sem]
 rintro hn ho F' Z ⟨i100,o,rfl,hp,j,rfl,hq⟩;obtain ⟨dv,dC,dE⟩:=Z.pick [4,5,6,24,25] aB;simp only[*,go_sem] at dv dC dE;clear Z O hd P k1;apply ay hJ _;apply ah hJ;rcases Nat.lt_or_ge i100 i.length with dT|ab
 .refine cJ hJ ?_;apply aO hJ;obtain ⟨z,N⟩:∃x,i[i100]?=some x:=⟨_,List.getElem?_eq_getElem dT⟩
  rw[dK N] at j;revert j;refine bS fun hr h ea=>?_;unfold nB at h;try dsimp only at h
  obtain ⟨ht,eb,ec,ed,k⟩:=Y.el _ _ N;obtain rfl:eb=z.cells:=ed;cases ec;have eh:=k 0 _ rfl;simp only[go_sem] at eh;have et:=k 1 _ rfl;simp only[go_sem] at et;have ev:=k 2 _ rfl;simp only[go_sem] at ev;have eQ:=k 3 _ rfl;simp only[go_sem] at eQ;have eS:=k 4 _ rfl;simp only[go_sem] at eS;have e0:=k 5 _ rfl;simp only[go_sem] at e0;clear k N;refine ah hJ (aV hJ (ah hJ ?_));apply aF hJ _;refine az fun hv hx e1=>?_;try simp only[av] at e1
  refine aD hJ fun e2=>?_;apply aR hJ;revert h;refine bS fun e3 fa h=>?_;cases h;apply ag _;refine az fun hy fb ad=>?_;have hz:=bh.cons ad e2;try simp only[av] at ad
  refine bf hJ _ (oW (ey:=61) (eM:=#[]) (eN:=#[]) eZ ⟨by simp only[go_sem],fun L M f g _ h=>by simp only[go_sem];exact jF f g h⟩ o ([z.high]) ((aI.flat (r:=l8) (e:=23) (cs:=#[.int .i64 z.high.num,.int .i64 z.high.den]) au.cells ([z.high]) (fun _=>rfl) fb rfl ax).mono (kS aM)) fa) (aP ?_);apply ag _;have hA:=cI (n:=i100) (by have:=ds;omega);apply aF hJ _;refine ⟨i.length - (i100+1),aa,_,Le.sub (List.Sublist.cons _ (List.Sublist.cons _ (List.Sublist.refl _))),i100+1,e3,rfl,aa,ea,rfl,?_⟩;simp only[*,go_sem]
 have hB:=Nat.not_lt.2 ab;refine cF hJ ?_;rw[List.drop_eq_nil_of_le ab] at j;obtain rfl:=sI j;clear j;have h:=du;dsimp only[aG] at h;apply bR;simp only[go_sem];apply ah hJ;refine aD hJ fun fg=>?_;apply aR hJ;revert h;refine bS fun fi fp h=>?_;apply ag _;refine bf hJ _ (q7 w.high o fp) (aP ?_);revert h;refine bS fun C fr h=>?_;apply ag _;refine bf hJ _ (j5 0 fr) (aP ?_);revert h;refine bS fun hD fs h=>?_;cases h;apply ag _;refine az fun hE ft ae=>?_;have hF:=bh.cons ae fg;try simp only[av] at ae
 refine bf hJ _ (oW (ey:=61) (eM:=#[]) (eN:=#[]) eZ ⟨by simp only[go_sem],fun L M f g _ h=>by simp only[go_sem];exact jF f g h⟩ fi ([C]) ((aI.flat (r:=l8) (e:=23) (cs:=#[.int .i64 C.num,.int .i64 C.den]) au.cells ([C]) (fun _=>rfl) ft rfl ax).mono (kS aM)) fs) (aP ?_);apply ag _;apply aQ;simp only[*,go_sem]
def gU (u0:an)(a:bx):Option Bool:=
 ai (k6 u0 a) fun b=>ai (eZ u0.bw b) fun c=>some c
theorem nC {ro:Addr->Option Value}(u0:an){s1 b c d:Value}(f:bO ro u0 s1 b c d)(a:bx){r:Bool}(h:gU u0 a=some r):aE Tryz.prog 97 #[bv u0 s1 b c d,.agg #[.int .i64 a.back,.int .i64 a.high]] ⟨ro,[]⟩ (fun v _=>v= .bool r):=by
 unfold gU at h;refine aE.go Tryz.func97 rfl Tryz.ntmps97 Tryz.results97 ax fun main J hJ A m hd hs=>?_;have n:=hs 0;have k1:=hs 1;clear hs;apply ay hJ _;refine az fun o p g=>?_;try simp only[av] at g
 refine az fun q s i=>?_;try simp only[av] at i
 apply ah hJ;refine cV hJ mixed 8 2 aM aj ?_;revert h;refine bS fun j k h=>?_;apply ag _;refine ⟨_,bI hJ fun F e=>tV u0 (f.mono (cg e)) a k,ck ?_⟩;revert h;refine bS fun t l h=>?_;cases h;apply ag _;refine ⟨_,bI hJ fun F e=>jF u0.bw j l,ck ?_⟩;apply ag _;apply aQ;simp only[*,go_sem]
def xo (u0:((List Int)->(List Int)->Option Bool))(i22:Nat)(a:(List Int))(st:(List Int)):Option (Fl (List Int) (List Int)):=
 ai (u0 st a) fun b=>cond (b) (some (.nx a)) (some (.nx st))
def xp (u0:((List Int)->(List Int)->Option Bool))(a:(List Int))(b:(List (List Int))):Option (List Int):=
 ai (bU (xo u0) 0 b a) fun o=>aG o (fun c=>some c) (fun _ _=>none) (fun r=>some r)
theorem HR {ro:Addr->Option Value}(u0:((List Int)->(List Int)->Option Bool)){ey:FuncId}{eM eN:Array Value}(G:aS Tryz.prog ey=true/\∀(aW:Addr->Option Value),Ext ro aW->∀(k:(List Int)) (l:Value) (o:(List Int)) (p:Value) (z:Bool),aI rI aW l k->aI rI aW p o->u0 k o=some z->aE Tryz.prog ey (eM++#[l,p]++eN) ⟨aW,[]⟩ (fun v _=>v= .bool z))(g:(List Int)){s1:Value}(q:aI rI ro s1 g)(b:(List (List Int))){s:Value}(t:aI (rL rI) ro s b){r:(List Int)}(h:xp u0 g b=some r):eJ Tryz.prog 109 #[.func (.func ey) eM eN,s1,s] ro (fun v aW=>∃u,v=u/\aI rI aW u r):=by
 obtain ⟨d3,c4,rfl,Y,Z,-⟩:=id q;obtain ⟨d10,ab,rfl,ad,w,-⟩:=id t;unfold xp at h;refine aE.go Tryz.func109 rfl Tryz.ntmps109 Tryz.results109 ax fun main J hJ A H hd hs=>?_;have I:=hs 0;have k1:=hs 1;have K:=hs 2;clear hs;apply ay hJ _;refine ah hJ (aC hJ ?_);apply ag _;apply aV hJ;revert h;refine bS fun L c M=>?_;refine bY hJ (rg 11 10 [1,8]) (fun m y F'=>∃(i22:Nat) (d16:Option Addr) (e:Nat) (d:(List Int)),m=b.length - i22/\i22<=b.length/\bU (xo u0) i22 (b.drop i22) d=some L/\F'=⟨ro,[]⟩/\aI rI ro (.slice d16 d.length e) d/\slot y 11= .int .i64 (i22:Int)/\slot y 1= .slice d16 d.length e) b.length ?_ ?_
 .refine ⟨0,d3,c4,g,(Nat.sub_zero _).symm,Nat.zero_le _,c,rfl,q,?_⟩;simp only[*,go_sem]
 rintro ae al F' B ⟨i22,d16,e,d,rfl,ao,c,rfl,f,ar,a0⟩;obtain ⟨a2,a3,-⟩:=f.op;obtain ⟨N,O,P⟩:=B.pick [0,6,9,10] aB;simp only[*,go_sem] at N O P;clear B H hd I k1 K;apply ay hJ _;apply ah hJ;rcases Nat.lt_or_ge i22 b.length with Q|C
 .refine cJ hJ ?_;apply aO hJ;obtain ⟨D,i⟩:∃x,b[i22]?=some x:=⟨_,List.getElem?_eq_getElem Q⟩
  rw[dK i] at c;revert c;refine bS fun a4 h E=>?_;unfold xo at h;try dsimp only at h
  obtain ⟨a5,a6,R,S,F⟩:=t.el _ _ i;obtain ⟨a7,rfl,j⟩:=S;obtain ⟨d31,T,rfl,a8,a9,ba⟩:=id j;cases R;have U:=F 0 _ rfl;simp only[go_sem] at U;clear F i;refine ah hJ (aV hJ (ah hJ ?_));apply aF hJ _;apply aC hJ;revert h;refine bS fun bb V h=>?_;apply ag _;refine bf hJ _ (G.2 _ (fun a v h=>aZ a v h) d _ D _ _ (f.mono aZ) (j.mono aZ) V) ?_;revert h;refine aT hJ (fun W h=>?_) fun W h=>?_
  .cases h;apply aF hJ _;have X:=cI (n:=i22) (by have:=w;omega);apply aF hJ _;refine ⟨b.length - (i22+1),aa,_,Le.sub (List.Sublist.refl _),i22+1,d31,T,D,rfl,aa,E,rfl,j,?_⟩;simp only[*,go_sem]
  cases h;apply aO hJ;have X:=cI (n:=i22) (by have:=w;omega);apply aF hJ _;refine ⟨b.length - (i22+1),aa,_,Le.sub (List.Sublist.refl _),i22+1,d16,e,d,rfl,aa,E,rfl,f,?_⟩;simp only[*,go_sem]
 have bc:=Nat.not_lt.2 C;refine cF hJ ?_;rw[List.drop_eq_nil_of_le C] at c;obtain rfl:=sI c;clear c;have h:=M;dsimp only[aG] at h;cases h;apply bR;simp only[go_sem];apply ay hJ _;refine b9 ?_;exact ⟨_,Ext.refl _,Le.sub (List.nil_sublist _),_,rfl,f⟩
def rj (u0:(List Int))(a:(List Int))(st:(Bool×Int)):Option (Fl (Bool×Int) Bool):=
 cond (decide (st.2<(u0.length:Int))) (ai (bt u0 st.2) fun b=>ai (bt a st.2) fun c=>cond ((b != c)) (some (.rt false)) (some (.nx (st.1,(IntKind.i64.wrap (st.2+1)))))) (some (.bk (st.1,st.2)))
def o8 (u0:(List Int))(a:(List Int)):Option Bool:=
 cond (((u0.length:Int) != (a.length:Int))) (some false) (ai (aY (rj u0 a) fu (false,0)) fun o=>aG o (fun b=>some true) (fun _ _=>none) (fun r=>some r))
theorem B5 {ro:Addr->Option Value}(u0:(List Int)){s1:Value}(g:aI rI ro s1 u0)(e:(List Int)){i:Value}(j:aI rI ro i e){r:Bool}(h:o8 u0 e=some r):aE Tryz.prog 12 #[s1,i] ⟨ro,[]⟩ (fun v _=>v= .bool r):=by
 obtain ⟨d3,c4,rfl,R,S,-⟩:=id g;obtain ⟨d10,T,rfl,U,V,-⟩:=id j;unfold o8 at h;refine aE.go Tryz.func12 rfl Tryz.ntmps12 Tryz.results12 ax fun main J hJ A t hd hs=>?_;have u:=hs 0;have k1:=hs 1;clear hs;apply ay hJ _;refine ah hJ (aC hJ ?_);apply ag _;revert h;refine aT hJ (fun w h=>?_) fun w h=>?_
 .cases h;apply ay hJ _;apply aQ;simp only[*,go_sem]
 refine aO hJ (ah hJ ?_);apply ay hJ _;apply aV hJ;revert h;refine bS fun x b k=>?_;refine bY hJ (rg 11 15 [4,5]) (fun m l F'=>∃(c:Bool) (d:Int),aY (rj u0 e) m (c,d)=some x/\F'=⟨ro,[]⟩/\slot l 4= .bool c/\slot l 5= .int .i64 d) fu ?_ ?_
 .refine ⟨false,0,b,rfl,?_⟩;simp only[*,go_sem]
 rintro f W F' n ⟨c,d,b,rfl,X,Y⟩;obtain ⟨y,z,B⟩:=n.pick [0,1] aB;simp only[*,go_sem] at y z B;clear n t hd u k1;obtain _|f:=f
 .exact absurd b (by simp only[aY,reduceCtorEq,not_false_eq_true])
 revert b;refine bS fun Z h a=>?_;unfold rj at h;try dsimp only at h
 refine ah hJ (aC hJ ?_);apply ag _;revert h;refine aT hJ (fun C h=>?_) fun C h=>?_
 .refine aO hJ (ah hJ ?_);refine aV hJ (ah hJ ?_);refine cV hJ mixed 9 0 aM aj ?_;revert h;refine bS fun D E h=>?_;obtain ⟨ab,ad,o⟩:=cv E;obtain ⟨ae,F,G,H,p⟩:=g.el _ _ o;obtain rfl:F=[.int .i64 D]:=H;cases G;have I:=p 0 _ rfl;simp only[go_sem] at I;clear p o;revert h;refine bS fun K L h=>?_;obtain ⟨al,ao,q⟩:=cv L;obtain ⟨ar,M,N,O,s⟩:=j.el _ _ q;obtain rfl:M=[.int .i64 K]:=O;cases N;have P:=s 0 _ rfl;simp only[go_sem] at P;clear s q;apply ag _;revert h;refine aT hJ (fun Q h=>?_) fun Q h=>?_
  .cases h;apply ay hJ _;obtain rfl:=sI a;clear a;have h:=k;dsimp only[aG] at h;cases h;apply aQ;simp only[*,go_sem]
  cases h;refine aO hJ (aR hJ ?_);apply ag _;refine ⟨f,Nat.lt_succ_self _,_,Le.sub (List.Sublist.refl _),c,(IntKind.i64.wrap (d+1)),a,rfl,?_⟩;simp only[*,go_sem]
 cases h;apply bR;simp only[go_sem];obtain rfl:=sI a;clear a;have h:=k;dsimp only[aG] at h;cases h;apply ay hJ _;apply aQ;simp only[*,go_sem]
def nD (u0:(List Int))(a:(List Int)):Option Bool:=
 ai (o8 u0 a) fun b=>some b
theorem rm {ro:Addr->Option Value}(u0:(List Int)){s1:Value}(b:aI rI ro s1 u0)(a:(List Int)){c:Value}(d:aI rI ro c a){r:Bool}(h:nD u0 a=some r):aE Tryz.prog 46 #[s1,c] ⟨ro,[]⟩ (fun v _=>v= .bool r):=by
 obtain ⟨d3,c4,rfl,f,g,-⟩:=id b;obtain ⟨d10,i,rfl,j,k,-⟩:=id d;unfold nD at h;refine aE.go Tryz.func46 rfl Tryz.ntmps46 Tryz.results46 ax fun main J hJ A l hd hs=>?_;have m:=hs 0;have k1:=hs 1;clear hs;apply ay hJ _;apply aC hJ;revert h;refine bS fun n e h=>?_;cases h;apply ag _;refine bf hJ _ (B5 u0 (b.mono aZ) a (d.mono aZ) e) (aP ?_);apply ag _;apply aQ;simp only[*,go_sem]
def xq (a:bx)(i10:Nat)(b:bx)(st:Int):Option (Fl Int Int):=
 cond (((a.back==b.back)&&(a.high==b.high))) (some (.rt (i10:Int))) (some (.nx st))
def xu (u0:(List bx))(a:bx):Option Int:=
 ai (bU (xq a) 0 u0 0) fun o=>aG o (fun b=>some (-1)) (fun _ _=>none) (fun r=>some r)
theorem HS {ro:Addr->Option Value}(u0:(List bx)){s1:Value}(g:aI jE ro s1 u0)(b:bx){r:Int}(h:xu u0 b=some r):aE Tryz.prog 150 #[s1,.agg #[.int .i64 b.back,.int .i64 b.high]] ⟨ro,[]⟩ (fun v _=>v= .int .i64 r):=by
 obtain ⟨d3,c4,rfl,K,o,-⟩:=id g;unfold xu at h;refine aE.go Tryz.func150 rfl Tryz.ntmps150 Tryz.results150 ax fun main J hJ A p hd hs=>?_;have q:=hs 0;have k1:=hs 1;clear hs;apply ay hJ _;refine az fun s L t=>?_;try simp only[av] at t
 refine ah hJ (aC hJ ?_);apply ag _;apply aV hJ;revert h;refine bS fun u a i=>?_;refine bY hJ (rg 8 11 [4,5]) (fun m j F'=>∃(i10:Nat) (c:Int),m=u0.length - i10/\i10<=u0.length/\bU (xq b) i10 (u0.drop i10) c=some u/\F'=⟨ro,(s,.cells #[.int .i64 b.back,.int .i64 b.high] 101)::[]⟩/\slot j 8= .int .i64 (i10:Int)/\slot j 4= .int .i64 c) u0.length ?_ ?_
 .refine ⟨0,0,(Nat.sub_zero _).symm,Nat.zero_le _,a,rfl,?_⟩;simp only[*,go_sem]
 rintro M N F' k ⟨i10,c,rfl,O,a,rfl,P,Q⟩;obtain ⟨w,y,z⟩:=k.pick [0,3,7] aB;simp only[*,go_sem] at w y z;clear k p hd q k1;apply ay hJ _;apply ah hJ;rcases Nat.lt_or_ge i10 u0.length with B|l
 .refine cJ hJ ?_;apply aO hJ;obtain ⟨C,d⟩:∃x,u0[i10]?=some x:=⟨_,List.getElem?_eq_getElem B⟩
  rw[dK d] at a;revert a;refine bS fun R h e=>?_;unfold xq at h;try dsimp only at h
  obtain ⟨S,D,E,F,f⟩:=g.el _ _ d;obtain rfl:D=C.cells:=F;cases E;have G:=f 0 _ rfl;simp only[go_sem] at G;have H:=f 1 _ rfl;simp only[go_sem] at H;clear f d;refine ah hJ (aV hJ (ah hJ ?_));apply aF hJ _;apply ah hJ;refine cV hJ mixed 6 1 aM aj ?_;apply ag _;revert h;refine aT hJ (fun I h=>?_) fun I h=>?_
  .cases h;apply ay hJ _;obtain rfl:=sI e;clear e;have h:=i;dsimp only[aG] at h;cases h;apply aQ;simp only[*,go_sem]
  cases h;apply aO hJ;have T:=cI (n:=i10) (by have:=o;omega);apply aF hJ _;refine ⟨u0.length - (i10+1),aa,_,Le.sub (List.Sublist.refl _),i10+1,c,rfl,aa,e,rfl,?_⟩;simp only[*,go_sem]
 have U:=Nat.not_lt.2 l;refine cF hJ ?_;rw[List.drop_eq_nil_of_le l] at a;obtain rfl:=sI a;clear a;have h:=i;dsimp only[aG] at h;cases h;apply bR;simp only[go_sem];apply ay hJ _;apply aQ;simp only[*,go_sem]
def xw (u0:(List bx))(a:bx):Option Bool:=
 ai (xu u0 a) fun b=>some (decide (0<=b))
theorem HT {ro:Addr->Option Value}(u0:(List bx)){s1:Value}(b:aI jE ro s1 u0)(a:bx){r:Bool}(h:xw u0 a=some r):aE Tryz.prog 121 #[s1,.agg #[.int .i64 a.back,.int .i64 a.high]] ⟨ro,[]⟩ (fun v _=>v= .bool r):=by
 obtain ⟨d3,c4,rfl,e,f,-⟩:=id b;unfold xw at h;refine aE.go Tryz.func121 rfl Tryz.ntmps121 Tryz.results121 ax fun main J hJ A g hd hs=>?_;have i:=hs 0;have k1:=hs 1;clear hs;apply ay hJ _;refine az fun j k c=>?_;try simp only[av] at c
 apply aC hJ;revert h;refine bS fun l d h=>?_;cases h;apply ag _;refine bf hJ _ (HS u0 (b.mono aZ) a d) (aP ?_);apply ag _;apply aQ;simp only[*,go_sem]
def tX (a:(cn->Option Bool))(i9:Nat)(b:cn)(st:Int):Option (Fl Int Int):=
 ai (a b) fun c=>cond (c) (some (.rt (i9:Int))) (some (.nx st))
def tY (u0:(List cn))(a:(cn->Option Bool)):Option Int:=
 ai (bU (tX a) 0 u0 0) fun o=>aG o (fun b=>some (-1)) (fun _ _=>none) (fun r=>some r)
theorem HU {ro:Addr->Option Value}(u0:(List cn)){s1:Value}(i:aI dL ro s1 u0)(d:(cn->Option Bool)){de:FuncId}{dN dO:Array Value}(s:aS Tryz.prog de=true/\∀(aW:Addr->Option Value),Ext ro aW->∀(j:cn) (z:Bool),d j=some z->aE Tryz.prog de (dN++#[j.v]++dO) ⟨aW,[]⟩ (fun v _=>v= .bool z)){r:Int}(h:tY u0 d=some r):aE Tryz.prog 190 #[s1,.func (.func de) dN dO] ⟨ro,[]⟩ (fun v _=>v= .int .i64 r):=by
 obtain ⟨d3,c4,rfl,N,t,-⟩:=id i;unfold tY at h;refine aE.go Tryz.func190 rfl Tryz.ntmps190 Tryz.results190 ax fun main J hJ A u hd hs=>?_;have w:=hs 0;have k1:=hs 1;clear hs;apply ay hJ _;refine ah hJ (aC hJ ?_);apply ag _;apply aV hJ;revert h;refine bS fun y b k=>?_;refine bY hJ (rg 8 11 [4,5]) (fun m l F'=>∃(i9:Nat) (c:Int),m=u0.length - i9/\i9<=u0.length/\bU (tX d) i9 (u0.drop i9) c=some y/\F'=⟨ro,[]⟩/\slot l 8= .int .i64 (i9:Int)/\slot l 4= .int .i64 c) u0.length ?_ ?_
 .refine ⟨0,0,(Nat.sub_zero _).symm,Nat.zero_le _,b,rfl,?_⟩;simp only[*,go_sem]
 rintro O P F' o ⟨i9,c,rfl,Q,b,rfl,R,S⟩;obtain ⟨B,C,D⟩:=o.pick [0,1,7] aB;simp only[*,go_sem] at B C D;clear o u hd w k1;apply ay hJ _;apply ah hJ;rcases Nat.lt_or_ge i9 u0.length with E|p
 .refine cJ hJ ?_;apply aO hJ;obtain ⟨q,e⟩:∃x,u0[i9]?=some x:=⟨_,List.getElem?_eq_getElem E⟩
  rw[dK e] at b;revert b;refine bS fun T h f=>?_;unfold tX at h;try dsimp only at h
  obtain ⟨U,F,G,H,g⟩:=i.el _ _ e;obtain rfl:F=q.cells:=H;cases G;have I:=g 0 _ rfl;simp only[go_sem] at I;have K:=g 1 _ rfl;simp only[go_sem] at K;clear g e;refine ah hJ (aV hJ (ah hJ ?_));apply aF hJ _;apply aC hJ;revert h;refine bS fun V L h=>?_;apply ag _;refine bf hJ _ (s.2 _ (fun a v h=>aZ a v h) q _ L) ?_;revert h;refine aT hJ (fun M h=>?_) fun M h=>?_
  .cases h;apply ay hJ _;obtain rfl:=sI f;clear f;have h:=k;dsimp only[aG] at h;cases h;apply aQ;simp only[*,go_sem]
  cases h;apply aO hJ;have W:=cI (n:=i9) (by have:=t;omega);apply aF hJ _;refine ⟨u0.length - (i9+1),aa,_,Le.sub (List.Sublist.refl _),i9+1,c,rfl,aa,f,rfl,?_⟩;simp only[*,go_sem]
 have X:=Nat.not_lt.2 p;refine cF hJ ?_;rw[List.drop_eq_nil_of_le p] at b;obtain rfl:=sI b;clear b;have h:=k;dsimp only[aG] at h;cases h;apply bR;simp only[go_sem];apply ay hJ _;apply aQ;simp only[*,go_sem]
def rq (u0:(List cn))(a:(cn->Option Bool)):Option Bool:=
 ai (tY u0 a) fun b=>some (decide (0<=b))
theorem HV {ro:Addr->Option Value}(u0:(List cn)){s1:Value}(b:aI dL ro s1 u0)(a:(cn->Option Bool)){de:FuncId}{dN dO:Array Value}(c:aS Tryz.prog de=true/\∀(aW:Addr->Option Value),Ext ro aW->∀(d:cn) (z:Bool),a d=some z->aE Tryz.prog de (dN++#[d.v]++dO) ⟨aW,[]⟩ (fun v _=>v= .bool z)){r:Bool}(h:rq u0 a=some r):aE Tryz.prog 172 #[s1,.func (.func de) dN dO] ⟨ro,[]⟩ (fun v _=>v= .bool r):=by
 obtain ⟨d3,c4,rfl,g,i,-⟩:=id b;unfold rq at h;refine aE.go Tryz.func172 rfl Tryz.ntmps172 Tryz.results172 ax fun main J hJ A j hd hs=>?_;have k:=hs 0;have k1:=hs 1;clear hs;apply ay hJ _;apply aC hJ;revert h;refine bS fun l e h=>?_;cases h;apply ag _;refine bf hJ _ (HU (de:=de) (dN:=dN) (dO:=dO) u0 (b.mono aZ) a ⟨c.1,fun _ f=>c.2 _ (Ext.trans aZ f)⟩ e) (aP ?_);apply ag _;apply aQ;simp only[*,go_sem]
def xx (a:(bx->Option Bool))(i9:Nat)(b:bx)(st:Int):Option (Fl Int Int):=
 ai (a b) fun c=>cond (c) (some (.rt (i9:Int))) (some (.nx st))
def xy (u0:(List bx))(a:(bx->Option Bool)):Option Int:=
 ai (bU (xx a) 0 u0 0) fun o=>aG o (fun b=>some (-1)) (fun _ _=>none) (fun r=>some r)
theorem HW {ro:Addr->Option Value}(u0:(List bx)){s1:Value}(i:aI jE ro s1 u0)(d:(bx->Option Bool)){de:FuncId}{dN dO:Array Value}(s:aS Tryz.prog de=true/\∀(aW:Addr->Option Value),Ext ro aW->∀(j:bx) (z:Bool),d j=some z->aE Tryz.prog de (dN++#[j.v]++dO) ⟨aW,[]⟩ (fun v _=>v= .bool z)){r:Int}(h:xy u0 d=some r):aE Tryz.prog 184 #[s1,.func (.func de) dN dO] ⟨ro,[]⟩ (fun v _=>v= .int .i64 r):=by
 obtain ⟨d3,c4,rfl,N,t,-⟩:=id i;unfold xy at h;refine aE.go Tryz.func184 rfl Tryz.ntmps184 Tryz.results184 ax fun main J hJ A u hd hs=>?_;have w:=hs 0;have k1:=hs 1;clear hs;apply ay hJ _;refine ah hJ (aC hJ ?_);apply ag _;apply aV hJ;revert h;refine bS fun y b k=>?_;refine bY hJ (rg 8 11 [4,5]) (fun m l F'=>∃(i9:Nat) (c:Int),m=u0.length - i9/\i9<=u0.length/\bU (xx d) i9 (u0.drop i9) c=some y/\F'=⟨ro,[]⟩/\slot l 8= .int .i64 (i9:Int)/\slot l 4= .int .i64 c) u0.length ?_ ?_
 .refine ⟨0,0,(Nat.sub_zero _).symm,Nat.zero_le _,b,rfl,?_⟩;simp only[*,go_sem]
 rintro O P F' o ⟨i9,c,rfl,Q,b,rfl,R,S⟩;obtain ⟨B,C,D⟩:=o.pick [0,1,7] aB;simp only[*,go_sem] at B C D;clear o u hd w k1;apply ay hJ _;apply ah hJ;rcases Nat.lt_or_ge i9 u0.length with E|p
 .refine cJ hJ ?_;apply aO hJ;obtain ⟨q,e⟩:∃x,u0[i9]?=some x:=⟨_,List.getElem?_eq_getElem E⟩
  rw[dK e] at b;revert b;refine bS fun T h f=>?_;unfold xx at h;try dsimp only at h
  obtain ⟨U,F,G,H,g⟩:=i.el _ _ e;obtain rfl:F=q.cells:=H;cases G;have I:=g 0 _ rfl;simp only[go_sem] at I;have K:=g 1 _ rfl;simp only[go_sem] at K;clear g e;refine ah hJ (aV hJ (ah hJ ?_));apply aF hJ _;apply aC hJ;revert h;refine bS fun V L h=>?_;apply ag _;refine bf hJ _ (s.2 _ (fun a v h=>aZ a v h) q _ L) ?_;revert h;refine aT hJ (fun M h=>?_) fun M h=>?_
  .cases h;apply ay hJ _;obtain rfl:=sI f;clear f;have h:=k;dsimp only[aG] at h;cases h;apply aQ;simp only[*,go_sem]
  cases h;apply aO hJ;have W:=cI (n:=i9) (by have:=t;omega);apply aF hJ _;refine ⟨u0.length - (i9+1),aa,_,Le.sub (List.Sublist.refl _),i9+1,c,rfl,aa,f,rfl,?_⟩;simp only[*,go_sem]
 have X:=Nat.not_lt.2 p;refine cF hJ ?_;rw[List.drop_eq_nil_of_le p] at b;obtain rfl:=sI b;clear b;have h:=k;dsimp only[aG] at h;cases h;apply bR;simp only[go_sem];apply ay hJ _;apply aQ;simp only[*,go_sem]
def xz (u0:(List bx))(a:(bx->Option Bool)):Option Bool:=
 ai (xy u0 a) fun b=>some (decide (0<=b))
theorem HX {ro:Addr->Option Value}(u0:(List bx)){s1:Value}(b:aI jE ro s1 u0)(a:(bx->Option Bool)){de:FuncId}{dN dO:Array Value}(c:aS Tryz.prog de=true/\∀(aW:Addr->Option Value),Ext ro aW->∀(d:bx) (z:Bool),a d=some z->aE Tryz.prog de (dN++#[d.v]++dO) ⟨aW,[]⟩ (fun v _=>v= .bool z)){r:Bool}(h:xz u0 a=some r):aE Tryz.prog 164 #[s1,.func (.func de) dN dO] ⟨ro,[]⟩ (fun v _=>v= .bool r):=by
 obtain ⟨d3,c4,rfl,g,i,-⟩:=id b;unfold xz at h;refine aE.go Tryz.func164 rfl Tryz.ntmps164 Tryz.results164 ax fun main J hJ A j hd hs=>?_;have k:=hs 0;have k1:=hs 1;clear hs;apply ay hJ _;apply aC hJ;revert h;refine bS fun l e h=>?_;cases h;apply ag _;refine bf hJ _ (HW (de:=de) (dN:=dN) (dO:=dO) u0 (b.mono aZ) a ⟨c.1,fun _ f=>c.2 _ (Ext.trans aZ f)⟩ e) (aP ?_);apply ag _;apply aQ;simp only[*,go_sem]
def ru (a:(bp->Option Bool))(i38:Nat)(b:bp)(st:Int):Option (Fl Int Int):=
 ai (a b) fun c=>cond (c) (some (.nx (IntKind.i64.wrap (st+1)))) (some (.nx st))
def o9 (u0:dh)(b:(bp->Option Bool)):Option Int:=
 ai (bU (ru b) 0 u0.all 0) fun o=>aG o (fun a=>cond ((a==(u0.all.length:Int))) (some 1) (cond ((a==0)) (some 2) (some 0))) (fun _ _=>none) (fun r=>some r)
theorem B6 {ro:Addr->Option Value}(u0:dh){s1 e f g:Value}(Z:bO ro u0.book s1 e f g){k:Value}(l:aI iG ro k u0.all)(i:(bp->Option Bool)){de:FuncId}{dN dO:Array Value}(y:aS Tryz.prog de=true/\∀(aW:Addr->Option Value),Ext ro aW->∀(o:bp) (z:Bool),i o=some z->aE Tryz.prog de (dN++#[o.v]++dO) ⟨aW,[]⟩ (fun v _=>v= .bool z)){r:Int}(h:o9 u0 i=some r):aE Tryz.prog 95 #[.agg #[.int .i64 u0.book.bZ,.int .i64 u0.book.b6,.int .i64 u0.book.bw.num,.int .i64 u0.book.bw.den,s1,e,f,g,k],.func (.func de) dN dO] ⟨ro,[]⟩ (fun v _=>v= .int .i64 r):=by
 obtain ⟨d31,B,rfl,ab,p,-⟩:=id l;unfold o9 at h;refine aE.go Tryz.func95 rfl Tryz.ntmps95 Tryz.results95 ax fun main J hJ A C hd hs=>?_;have D:=hs 0;have k1:=hs 1;clear hs;apply ay hJ _;refine az fun E ad F=>?_;try simp only[av] at F
 apply ay hJ _;refine ah hJ (aC hJ ?_);apply ag _;apply aV hJ;revert h;refine bS fun G b H=>?_;refine bY hJ (rg 11 10 [5,7]) (fun m q F'=>∃(i38:Nat) (c:Int),m=u0.all.length - i38/\i38<=u0.all.length/\bU (ru i) i38 (u0.all.drop i38) c=some G/\F'=⟨ro,(E,kn u0 s1 e f g (sl d31 u0.all B))::[]⟩/\slot q 11= .int .i64 (i38:Int)/\slot q 5= .int .i64 c) u0.all.length ?_ ?_
 .refine ⟨0,0,(Nat.sub_zero _).symm,Nat.zero_le _,b,rfl,?_⟩;simp only[*,go_sem]
 rintro ae al F' s ⟨i38,c,rfl,ao,b,rfl,ar,a0⟩;obtain ⟨I,K,L⟩:=s.pick [1,2,4,9,10] aB;simp only[*,go_sem] at I K L;clear s C hd D k1;apply ay hJ _;apply ah hJ;rcases Nat.lt_or_ge i38 u0.all.length with M|t
 .refine cJ hJ ?_;apply aO hJ;obtain ⟨u,j⟩:∃x,u0.all[i38]?=some x:=⟨_,List.getElem?_eq_getElem M⟩
  rw[dK j] at b;revert b;refine bS fun a2 h w=>?_;unfold ru at h;try dsimp only at h
  obtain ⟨a3,N,O,P,d⟩:=l.el _ _ j;obtain rfl:N=u.cells:=P;cases O;have Q:=d 0 _ rfl;simp only[go_sem] at Q;have R:=d 1 _ rfl;simp only[go_sem] at R;have S:=d 2 _ rfl;simp only[go_sem] at S;clear d j;refine ah hJ (aV hJ (ah hJ ?_));apply aF hJ _;refine az fun a4 a5 T=>?_;try simp only[av] at T
  apply aC hJ;revert h;refine bS fun a6 U h=>?_;apply ag _;refine bf hJ _ (y.2 _ (fun a v h=>aZ a v h) u _ U) ?_;revert h;refine aT hJ (fun V h=>?_) fun V h=>?_
  .cases h;apply aF hJ _;have W:=cI (n:=i38) (by have:=p;omega);apply aF hJ _;refine ⟨u0.all.length - (i38+1),aa,_,Le.sub (List.Sublist.cons _ (List.Sublist.refl _)),i38+1,(IntKind.i64.wrap (c+1)),rfl,aa,w,rfl,?_⟩;simp only[*,go_sem]
  cases h;apply aO hJ;have W:=cI (n:=i38) (by have:=p;omega);apply aF hJ _;refine ⟨u0.all.length - (i38+1),aa,_,Le.sub (List.Sublist.cons _ (List.Sublist.refl _)),i38+1,c,rfl,aa,w,rfl,?_⟩;simp only[*,go_sem]
 have a7:=Nat.not_lt.2 t;refine cF hJ ?_;rw[List.drop_eq_nil_of_le t] at b;obtain rfl:=sI b;clear b;have h:=H;dsimp only[aG] at h;apply bR;simp only[go_sem];refine ah hJ (aC hJ ?_);apply ag _;refine aV hJ (ah hJ ?_);apply aF hJ _;revert h;refine aT hJ (fun X h=>?_) fun X h=>?_
 .cases h;apply ay hJ _;apply aQ;simp only[*,go_sem]
 apply ay hJ _;revert h;refine aT hJ (fun Y h=>?_) fun Y h=>?_
 .cases h;apply ay hJ _;apply aQ;simp only[*,go_sem]
 cases h;refine aO hJ (ah hJ ?_);apply aF hJ _;apply aQ;simp only[*,go_sem]
def ry (u0:cn)(a:an)(w1:bp):Option Bool:=
 ai (bp.get w1 u0.bA) fun b=>ai (ij a u0.bA b) fun c=>ai (gU a c) fun d=>some (!(d==u0.bJ))
theorem HY {ro:Addr->Option Value}(u0:cn)(a:an){b:Nat}(y:ro ⟨b,0,none⟩=some (.int .i64 a.bZ))(z:ro ⟨b,1,none⟩=some (.int .i64 a.b6))(B:ro ⟨b,2,none⟩=some (.int .i64 a.bw.num))(C:ro ⟨b,3,none⟩=some (.int .i64 a.bw.den)){s1:Value}(e:aI fI ro s1 a.aK)(D:ro ⟨b,4,none⟩=some (s1)){j:Value}(f:aI eY ro j a.props)(E:ro ⟨b,5,none⟩=some (j)){k:Value}(g:aI fq ro k a.aH)(G:ro ⟨b,6,none⟩=some (k)){l:Value}(i:aI dL ro l a.told)(H:ro ⟨b,7,none⟩=some (l))(w1:bp){d:Nat}(o:ro ⟨d,0,none⟩=some (.int .i64 w1.e0))(p:ro ⟨d,1,none⟩=some (.int .i64 w1.e1))(q:ro ⟨d,2,none⟩=some (.int .i64 w1.e2)){r:Bool}(h:ry u0 a w1=some r):aE Tryz.prog 173 #[.agg #[.int .i64 u0.bA,.bool u0.bJ],.pointer (some ⟨b,0,none⟩),.pointer (some ⟨d,0,none⟩)] ⟨ro,[]⟩ (fun v _=>v= .bool r):=by
 obtain ⟨d3,c4,rfl,I,K,-⟩:=id e;obtain ⟨d10,L,rfl,M,N,-⟩:=id f;obtain ⟨d17,O,rfl,P,Q,-⟩:=id g;obtain ⟨d24,R,rfl,S,T,-⟩:=id i;unfold ry at h;refine aE.go Tryz.func173 rfl Tryz.ntmps173 Tryz.results173 ax fun main J hJ A U hd hs=>?_;have V:=hs 0;have k1:=hs 1;have W:=hs 2;clear hs;apply ay hJ _;refine az fun X Y s=>?_;try simp only[av] at s
 apply ah hJ;refine cV hJ mixed 14 1 aM aj ?_;revert h;refine bS fun t m h=>?_;obtain ⟨Z,ab,n⟩:=bp.get_some m;clear n;have n:=bp.Hw m o p q;revert h;refine bS fun u w h=>?_;apply ag _;refine ⟨_,bI hJ fun F c=>nh a ⟨(e.mono (cg c)),(f.mono (cg c)),(g.mono (cg c)),(i.mono (cg c))⟩ u0.bA t w,ck ?_⟩;revert h;refine bS fun ad x h=>?_;cases h;apply ag _;refine ⟨_,bI hJ fun F c=>nC a ⟨(e.mono (cg c)),(f.mono (cg c)),(g.mono (cg c)),(i.mono (cg c))⟩ u x,ck ?_⟩;apply ag _;apply aQ;simp only[*,go_sem]
def pe (u0:an)(a:bp):Option Bool:=
 ai (rq u0.told (fun b=>ry b u0 a)) fun c=>some (!c)
theorem HZ {ro:Addr->Option Value}(u0:an){s1 f g i:Value}(b:bO ro u0 s1 f g i)(c:bp){r:Bool}(h:pe u0 c=some r):aE Tryz.prog 138 #[bv u0 s1 f g i,.agg #[.int .i64 c.e0,.int .i64 c.e1,.int .i64 c.e2]] ⟨ro,[]⟩ (fun v _=>v= .bool r):=by
 obtain ⟨d3,c4,rfl,q,s,-⟩:=id b.e;obtain ⟨d10,u,rfl,w,x,-⟩:=id b.p;obtain ⟨d17,z,rfl,B,C,-⟩:=id b.y;obtain ⟨d24,D,rfl,E,F,-⟩:=id b.t;unfold pe at h;refine aE.go Tryz.func138 rfl Tryz.ntmps138 Tryz.results138 ax fun main J hJ A G hd hs=>?_;have H:=hs 0;have k1:=hs 1;clear hs;apply ay hJ _;refine az fun j I k=>?_;try simp only[av] at k
 refine az fun l K m=>?_;try simp only[av] at m
 apply aC hJ;revert h;refine bS fun L n h=>?_;cases h;apply ag _;refine bf hJ _ (HV (de:=173) (dN:=#[]) (dO:=#[.pointer (some ⟨j,0,none⟩),.pointer (some ⟨l,0,none⟩)]) u0.told (b.t.mono aZ) (fun d=>ry d u0 c) ⟨by simp only[go_sem],fun M a d N o=>by simp only[go_sem];exact HY d u0 (a _ _ (by simp only[af.cM,go_sem, *])) (a _ _ (by simp only[af.cM,go_sem, *])) (a _ _ (by simp only[af.cM,go_sem, *])) (a _ _ (by simp only[af.cM,go_sem, *])) ((b.e.mono aZ).mono a) (a _ _ (by simp only[af.cM,go_sem, *])) ((b.p.mono aZ).mono a) (a _ _ (by simp only[af.cM,go_sem, *])) ((b.y.mono aZ).mono a) (a _ _ (by simp only[af.cM,go_sem, *])) ((b.t.mono aZ).mono a) (a _ _ (by simp only[af.cM,go_sem, *])) c (a _ _ (by simp only[af.cM,go_sem, *])) (a _ _ (by simp only[af.cM,go_sem, *])) (a _ _ (by simp only[af.cM,go_sem, *])) o⟩ n) (aP ?_);apply ag _;apply aQ;simp only[*,go_sem]
def tZ (u0:an)(a:(List bx)):Option Bool:=
 ai (xz a (gU u0)) fun b=>some (!b)
theorem H6 {ro:Addr->Option Value}(u0:an){s1 c d f:Value}(a:bO ro u0 s1 c d f)(g:(List bx)){i:Value}(j:aI jE ro i g){r:Bool}(h:tZ u0 g=some r):aE Tryz.prog 130 #[bv u0 s1 c d f,i] ⟨ro,[]⟩ (fun v _=>v= .bool r):=by
 obtain ⟨d31,n,rfl,o,q,-⟩:=id j;unfold tZ at h;refine aE.go Tryz.func130 rfl Tryz.ntmps130 Tryz.results130 ax fun main J hJ A s hd hs=>?_;have u:=hs 0;have k1:=hs 1;clear hs;apply ay hJ _;refine az fun w x k=>?_;try simp only[av] at k
 apply aC hJ;revert h;refine bS fun z l h=>?_;cases h;apply ag _;refine bf hJ _ (HX (de:=97) (dN:=#[bv u0 s1 c d f]) (dO:=#[]) g (j.mono aZ) (gU u0) ⟨by simp only[go_sem],fun B b m _ h=>by simp only[go_sem];exact nC u0 ⟨((a.e.mono aZ).mono b),((a.p.mono aZ).mono b),((a.y.mono aZ).mono b),((a.t.mono aZ).mono b)⟩ m h⟩ l) (aP ?_);apply ag _;apply aQ;simp only[*,go_sem]
def j9 (u0:bp)(a:dh)(w1:Int):Option Bool:=
 ai (bp.get u0 w1) fun b=>ai (ij a.book w1 b) fun c=>ai (gU a.book c) fun d=>some d
theorem H7 {ro:Addr->Option Value}(u0:bp)(a:dh){b:Nat}(x:ro ⟨b,0,none⟩=some (.int .i64 a.book.bZ))(y:ro ⟨b,1,none⟩=some (.int .i64 a.book.b6))(z:ro ⟨b,2,none⟩=some (.int .i64 a.book.bw.num))(B:ro ⟨b,3,none⟩=some (.int .i64 a.book.bw.den)){s1:Value}(d:aI fI ro s1 a.book.aK)(C:ro ⟨b,4,none⟩=some (s1)){i:Value}(e:aI eY ro i a.book.props)(D:ro ⟨b,5,none⟩=some (i)){j:Value}(f:aI fq ro j a.book.aH)(E:ro ⟨b,6,none⟩=some (j)){k:Value}(g:aI dL ro k a.book.told)(G:ro ⟨b,7,none⟩=some (k)){l:Value}(n:aI iG ro l a.all)(H:ro ⟨b,8,none⟩=some (l))(w1:Int){m:Nat}(I:ro ⟨m,0,none⟩=some (.int .i64 w1)){r:Bool}(h:j9 u0 a w1=some r):aE Tryz.prog 96 #[.agg #[.int .i64 u0.e0,.int .i64 u0.e1,.int .i64 u0.e2],.pointer (some ⟨b,0,none⟩),.pointer (some ⟨m,0,none⟩)] ⟨ro,[]⟩ (fun v _=>v= .bool r):=by
 obtain ⟨d3,c4,rfl,K,L,-⟩:=id d;obtain ⟨d10,M,rfl,N,O,-⟩:=id e;obtain ⟨d17,P,rfl,Q,R,-⟩:=id f;obtain ⟨d24,S,rfl,T,U,-⟩:=id g;obtain ⟨d31,V,rfl,W,X,-⟩:=id n;unfold j9 at h;refine aE.go Tryz.func96 rfl Tryz.ntmps96 Tryz.results96 ax fun main J hJ A Y hd hs=>?_;have Z:=hs 0;have k1:=hs 1;have ab:=hs 2;clear hs;apply ay hJ _;refine az fun ad ae o=>?_;try simp only[av] at o
 apply ah hJ;refine cV hJ mixed 11 1 aM aj ?_;revert h;refine bS fun p q h=>?_;obtain ⟨al,ao,s⟩:=bp.get_some q;try simp only[go_sem] at s
 revert h;refine bS fun t u h=>?_;apply ag _;refine ⟨_,bI hJ fun F c=>nh a.book ⟨(d.mono (cg c)),(e.mono (cg c)),(f.mono (cg c)),(g.mono (cg c))⟩ w1 p u,ck ?_⟩;revert h;refine bS fun ar w h=>?_;cases h;apply ag _;refine ⟨_,bI hJ fun F c=>nC a.book ⟨(d.mono (cg c)),(e.mono (cg c)),(f.mono (cg c)),(g.mono (cg c))⟩ t w,ck ?_⟩;apply ag _;apply aQ;simp only[*,go_sem]
def ua (u0:bp)(a:dh)(i38:Nat)(e:cu)(st:Bool):Option (Fl Bool Bool):=
 ai (bp.get u0 (i38:Int)) fun b=>ai (ij a.book (i38:Int) b) fun c=>ai (gU a.book c) fun d=>cond (d) (some (.rt false)) (some (.nx st))
def kg (u0:bp)(a:dh):Option Bool:=
 ai (bU (ua u0 a) 0 a.book.aH false) fun o=>aG o (fun b=>some true) (fun _ _=>none) (fun r=>some r)
theorem H8 {ro:Addr->Option Value}(u0:bp)(a:dh){b:Nat}(ae:ro ⟨b,0,none⟩=some (.int .i64 a.book.bZ))(al:ro ⟨b,1,none⟩=some (.int .i64 a.book.b6))(ao:ro ⟨b,2,none⟩=some (.int .i64 a.book.bw.num))(ar:ro ⟨b,3,none⟩=some (.int .i64 a.book.bw.den)){s1:Value}(i:aI fI ro s1 a.book.aK)(a0:ro ⟨b,4,none⟩=some (s1)){p:Value}(j:aI eY ro p a.book.props)(a2:ro ⟨b,5,none⟩=some (p)){q:Value}(e:aI fq ro q a.book.aH)(a3:ro ⟨b,6,none⟩=some (q)){s:Value}(k:aI dL ro s a.book.told)(a4:ro ⟨b,7,none⟩=some (s)){t:Value}(B:aI iG ro t a.all)(a5:ro ⟨b,8,none⟩=some (t)){r:Bool}(h:kg u0 a=some r):aE Tryz.prog 100 #[.agg #[.int .i64 u0.e0,.int .i64 u0.e1,.int .i64 u0.e2],.pointer (some ⟨b,0,none⟩)] ⟨ro,[]⟩ (fun v _=>v= .bool r):=by
 obtain ⟨d3,c4,rfl,a6,a7,-⟩:=id i;obtain ⟨d10,a8,rfl,a9,ba,-⟩:=id j;obtain ⟨d17,bb,rfl,bc,C,-⟩:=id e;obtain ⟨d24,bd,rfl,bj,bk,-⟩:=id k;obtain ⟨d31,bl,rfl,bm,bo,-⟩:=id B;unfold kg at h;refine aE.go Tryz.func100 rfl Tryz.ntmps100 Tryz.results100 ax fun main J hJ A D hd hs=>?_;have E:=hs 0;have k1:=hs 1;clear hs;apply ay hJ _;refine az fun G br H=>?_;try simp only[av] at H
 refine ah hJ (aC hJ ?_);apply ag _;apply aV hJ;revert h;refine bS fun I d u=>?_;refine bY hJ (rg 10 14 [3,4]) (fun m w F'=>∃(i38:Nat) (f:Bool),m=a.book.aH.length - i38/\i38<=a.book.aH.length/\bU (ua u0 a) i38 (a.book.aH.drop i38) f=some I/\F'=⟨ro,(G,.cells #[.int .i64 u0.e0,.int .i64 u0.e1,.int .i64 u0.e2] 133)::[]⟩/\slot w 10= .int .i64 (i38:Int)/\slot w 3= .bool f) a.book.aH.length ?_ ?_
 .refine ⟨0,false,(Nat.sub_zero _).symm,Nat.zero_le _,d,rfl,?_⟩;simp only[*,go_sem]
 rintro bs bz F' y ⟨i38,f,rfl,b0,d,rfl,b1,b2⟩;obtain ⟨K,L,M⟩:=y.pick [1,2,9] aB;simp only[*,go_sem] at K L M;clear y D hd E k1;apply ay hJ _;apply ah hJ;rcases Nat.lt_or_ge i38 a.book.aH.length with N|z
 .refine cJ hJ ?_;apply aO hJ;obtain ⟨O,l⟩:∃x,a.book.aH[i38]?=some x:=⟨_,List.getElem?_eq_getElem N⟩
  rw[dK l] at d;revert d;refine bS fun b3 h o=>?_;unfold ua at h;try dsimp only at h
  obtain ⟨b4,P,Q,R,g⟩:=e.el _ _ l;obtain rfl:P=O.cells:=R;cases Q;have S:=g 0 _ rfl;simp only[go_sem] at S;have T:=g 1 _ rfl;simp only[go_sem] at T;have U:=g 2 _ rfl;simp only[go_sem] at U;clear g l;refine ah hJ (aV hJ (ah hJ ?_));apply aF hJ _;apply ah hJ;refine cV hJ mixed 10 1 aM aj ?_;revert h;refine bS fun V W h=>?_;obtain ⟨b5,ca,X⟩:=bp.get_some W;try simp only[go_sem] at X
  revert h;refine bS fun Y Z h=>?_;apply ag _;refine ⟨_,bI hJ fun F c=>nh a.book ⟨(i.mono (cg c)),(j.mono (cg c)),(e.mono (cg c)),(k.mono (cg c))⟩ (i38:Int) V Z,ck ?_⟩;revert h;refine bS fun cb ab h=>?_;apply ag _;refine ⟨_,bI hJ fun F c=>nC a.book ⟨(i.mono (cg c)),(j.mono (cg c)),(e.mono (cg c)),(k.mono (cg c))⟩ Y ab,?_⟩;revert h;refine aT hJ (fun ad h=>?_) fun ad h=>?_
  .cases h;apply ay hJ _;obtain rfl:=sI o;clear o;have h:=u;dsimp only[aG] at h;cases h;apply aQ;simp only[*,go_sem]
  cases h;apply aO hJ;have cd:=cI (n:=i38) (by have:=C;omega);apply aF hJ _;refine ⟨a.book.aH.length - (i38+1),aa,_,Le.sub (List.Sublist.refl _),i38+1,f,rfl,aa,o,rfl,?_⟩;simp only[*,go_sem]
 have cf:=Nat.not_lt.2 z;refine cF hJ ?_;rw[List.drop_eq_nil_of_le z] at d;obtain rfl:=sI d;clear d;have h:=u;dsimp only[aG] at h;cases h;apply bR;simp only[go_sem];apply ay hJ _;apply aQ;simp only[*,go_sem]
def bp.setAt (h:bp)(i n:Int):Option bp:=if i=0 then some {h with e0:=n} else if i=1 then some {h with e1:=n} else if i=2 then some {h with e2:=n} else none
theorem bp.H9 {h a:bp}{i n:Int}(e:h.setAt i n=some a):(i=0/\a={h with e0:=n})\/(i=1/\a={h with e1:=n})\/(i=2/\a={h with e2:=n}):=by
 unfold bp.setAt at e;split at e
 .exact .inl ⟨‹_›,(Option.some.inj e).symm⟩
 .split at e
  .exact .inr (.inl ⟨‹_›,(Option.some.inj e).symm⟩)
  .split at e
   .exact .inr (.inr ⟨‹_›,(Option.some.inj e).symm⟩)
   .cases e
def jI (f:bp->List (Option bp)×bp)(i hi:Int):Nat->Int->bp->List (Option bp)×bp
 |0,_,h=>([none],h)
 |k+1,n,h=>if n<=hi then match h.setAt i n with
   |none=>([none],h)
   |some a=>((f a).1++(jI f i hi k (IntKind.i64.wrap (n+1)) (f a).2).1,(jI f i hi k (IntKind.i64.wrap (n+1)) (f a).2).2)
  else ([],h)
def fy (b:an):Nat->Int->bp->List (Option bp)×bp
 |0,_,h=>([none],h)
 |fuel+1,i,h=>if i=b.aH.length then ((match pe b h with
   |some true=>[some h]
   |some false=>[]
   |none=>[none]),h)
  else match bt b.aH i with
   |none=>([none],h)
   |some e=>jI (fy b fuel (IntKind.i64.wrap (i+1))) i e.high.high 100 e.high.low h
def mc (b:an):List (Option bp):=(fy b 5 0 ⟨0,0,0⟩).1
theorem Ia {H σ:Type}{step:σ->H->Option (Bool×σ)}{l l':List (Option H)}{s s':σ}{c:Bool}(h:fM step (l++l') s=some (c,s')):
  (∃s1,fM step l s=some (true,s1)/\fM step l' s1=some (c,s'))\/(fM step l s=some (false,s')/\c=false):=by
 rw[BP] at h
 split at h
 .rename_i s1 a;exact .inl ⟨s1,a,h⟩
 .rename_i s1 a;simp only[Option.some.injEq,Prod.mk.injEq] at h;obtain ⟨rfl,rfl⟩:=h;exact .inr ⟨a,rfl⟩
 .cases h
theorem rz {H σ:Type}{step:σ->H->Option (Bool×σ)}{s:σ}{r:Bool×σ}(h:fM step [none] s=some r):False:=by cases h
section
variable {ro:Addr->Option Value}{σ:Type}{step:σ->bp->Option (Bool×σ)}{I:σ->List (Nat×Obj)->Prop}{y:Value}
def pg (b:an)(s1 s2 a c y:Value)(b2 b3 b4 b5:Nat)(h:bp):List (Nat×Obj):=
 [(b5,.cells #[.func (.func 137) #[] #[.pointer (some ⟨b2,0,none⟩),.pointer (some ⟨b4,0,none⟩),.pointer (some ⟨b3,0,none⟩),.pointer (some ⟨b5,0,none⟩)]] 131),
  (b4,.cells #[.int .i64 h.e0,.int .i64 h.e1,.int .i64 h.e2] 133),(b3,.cells #[y] 150),
  (b2,.cells #[.int .i64 b.bZ,.int .i64 b.b6,.int .i64 b.bw.num,.int .i64 b.bw.den,s1,s2,a,c] 92)]
theorem Ib (u0:an){s1 s2 x z:Value}(F:aI fI ro s1 u0.aK)(G:aI eY ro s2 u0.props)(H:aI fq ro x u0.aH)(K:aI dL ro z u0.told)(W:xh Tryz.prog y bp.v step ro I)
  {b2 b3 b4 b5:Nat} (n1:¬b5=b4) (n2:¬b5=b3) (n3:¬b5=b2) (bc:¬b4=b3) (bd:¬b4=b2) (bj:¬b3=b2) (bk:∀off sp,ro ⟨b5,off,sp⟩=none) (bl:∀off sp,ro ⟨b4,off,sp⟩=none) (bm:∀off sp,ro ⟨b3,off,sp⟩=none) (bo:∀off sp,ro ⟨b2,off,sp⟩=none):
  ∀(fuel:Nat) (i:Int) (b:bp) (s:σ) (c:Bool) (s':σ),fM step (fy u0 fuel i b).1 s=some (c,s')->∀(main:Bool) (J:Goroutine->af->Prop),Closed Tryz.prog main J->∀own,I s own->
   dr Tryz.prog J 137 #[.int .i64 i,.pointer (some ⟨b2,0,none⟩),.pointer (some ⟨b4,0,none⟩),.pointer (some ⟨b3,0,none⟩),.pointer (some ⟨b5,0,none⟩)] ⟨ro,pg u0 s1 s2 x z y b2 b3 b4 b5 b++own⟩
    (fun v F'=>∃o q,Le ⟨ro,pg u0 s1 s2 x z y b2 b3 b4 b5 o++q⟩ F'/\v= .bool c/\I s' q/\(c=true->o=(fy u0 fuel i b).2)):=by
 intro fuel
 induction fuel with
 |zero=>intro i b s c s' h;exact (rz h).elim
 |succ fuel ih=>
  intro i b s c s' h main J hJ own j
  obtain ⟨L,M,rfl,br,bs,e1⟩:=id F
  obtain ⟨N,O,rfl,bz,bS,e2⟩:=id G
  obtain ⟨X,P,rfl,b0,b1,Y⟩:=id H
  obtain ⟨Q,R,rfl,ca,cb,cd⟩:=id K
  refine dr.go hJ Tryz.func137 rfl Tryz.ntmps137 Tryz.results137 ax fun A Z hd hs=>?_
  have ab:=hs 0
  have k1:=hs 1
  have ad:=hs 2
  have ae:=hs 3
  have al:=hs 4
  clear hs
  unfold fy at h
  have cf:(0:Int)<((3:Nat):Int):=aB
  have cl:(1:Int)<((3:Nat):Int):=aB
  have cy:(2:Int)<((3:Nat):Int):=aB
  repeat apply ah hJ
  apply aR hJ
  apply bW _
  repeat apply ah hJ
  apply aR hJ
  simp only[pg,go_sem, *,-h]
  repeat apply ah hJ
  by_cases hi:i=(u0.aH.length:Int)
  .rw[if_pos hi] at h
   repeat apply ah hJ
   refine eD hJ dG ?_
   repeat apply ah hJ
   refine aD hJ fun nd=>?_
   repeat apply ah hJ
   apply aR hJ
   apply bW _
   cases f:pe u0 b with
   |none=>rw[f] at h;exact (rz h).elim
   |some r=>
    rw[f] at h
    refine bf hJ _ (HZ u0 ⟨(F.mono aZ),(G.mono aZ),(H.mono aZ),(K.mono aZ)⟩ b f) (aP ?_)
    cases r with
    |false=>
     cases h
     apply ag _
     repeat apply ah hJ
     apply aQ
     apply ag _
     refine ⟨b,own,Le.refl _,?_⟩
     first|exact ⟨rfl,j,fun _=>by unfold fy;rw[if_pos rfl]⟩|exact ⟨j,fun _=>by unfold fy;rw[if_pos rfl]⟩|exact ⟨j,by unfold fy;rw[if_pos rfl]⟩|exact j
    |true=>
     have ao:step s b=some (c,s'):=by
      simp only[fM] at h
      split at h<;>first|(cases h;assumption)|cases h
     apply bW _
     refine G4 hJ (pg u0 (.slice L u0.aK.length M) (.slice N u0.props.length O) (.slice X u0.aH.length P) (.slice Q u0.told.length R) y b2 b3 b4 b5 b) (fun m ar a0=>W s b c s' ao m ar a0 own j) nd ?_
     rintro v q ⟨rfl,S⟩ cS
     apply aP
     apply bW _
     repeat apply ah hJ
     apply aQ
     apply bW _
     refine ⟨b,q,Le.refl _,?_⟩
     first|exact ⟨rfl,S,fun _=>by unfold fy;rw[if_pos rfl]⟩|exact ⟨S,fun _=>by unfold fy;rw[if_pos rfl]⟩
  .rw[if_neg hi] at h
   have c0:(i==(u0.aH.length:Int))=false:=by simpa using hi
   repeat apply ah hJ
   refine eu hJ dG ?_
   apply aO hJ
   cases f:bt u0.aH i with
   |none=>rw[f] at h;exact (rz h).elim
   |some e=>
    rw[f] at h
    simp only at h
    have a2:=f
    obtain ⟨da,db,T⟩:=cv f
    obtain ⟨a3,cse,a4,a5,t⟩:=Y _ _ T
    obtain rfl:cse=e.cells:=a5
    cases a4
    have a6:=t 0 _ rfl;simp only[go_sem] at a6
    have a7:=t 1 _ rfl;simp only[go_sem] at a7
    have a8:=t 2 _ rfl;simp only[go_sem] at a8
    clear t T
    repeat apply ah hJ
    apply aR hJ
    apply bW _
    repeat apply ah hJ
    apply aV hJ
    refine bY hJ [6,7,31,32,33,34,35,36,37,38,39,40,41,42,43,44,45,46,47,48,49,50] (fun m a9 F'=>∃(n:Int) (h:bp) (s:σ) (own:List (Nat×Obj)),fM step (jI (fy u0 fuel (IntKind.i64.wrap (i+1))) i e.high.high m n h).1 s=some (c,s')/\
     (c=true->(jI (fy u0 fuel (IntKind.i64.wrap (i+1))) i e.high.high m n h).2=(fy u0 (fuel+1) i b).2)/\F'=⟨ro,pg u0 (.slice L u0.aK.length M) (.slice N u0.props.length O) (.slice (some a3) u0.aH.length P) (.slice Q u0.told.length R) y b2 b3 b4 b5 h++own⟩/\I s own/\slot a9 7= .int .i64 n) 100 ?_ ?_
    .have ba:(fy u0 (fuel+1) i b).2=(jI (fy u0 fuel (IntKind.i64.wrap (i+1))) i e.high.high 100 e.high.low b).2:=by
      rw[fy,if_neg hi,a2]
     exact ⟨e.high.low,b,s,own,h,fun _=>ba.symm,rfl,j,dG⟩
    .rintro m k F' g ⟨n,o,s1,B,a,d,rfl,p,dd⟩
     clear h j
     have df:sz k=51:=by rw[g.size];simp only[*,go_sem]
     have kd:k.defers=[]:=by rw[g.defers];simp only[*,go_sem]
     have dk:slot k 0= .int .i64 i:=by rw[g.fS 0 aB];simp only[*,go_sem]
     have dp:slot k 1= .pointer (some ⟨b2,0,none⟩):=by rw[g.fS 1 aB];simp only[*,go_sem]
     have dq:slot k 2= .pointer (some ⟨b4,0,none⟩):=by rw[g.fS 2 aB];simp only[*,go_sem]
     have ds:slot k 3= .pointer (some ⟨b3,0,none⟩):=by rw[g.fS 3 aB];simp only[*,go_sem]
     have dt:slot k 4= .pointer (some ⟨b5,0,none⟩):=by rw[g.fS 4 aB];simp only[*,go_sem]
     clear g ab k1 ad ae al Z hd
     obtain _|m:=m
     .exact (rz a).elim
     unfold jI at a d
     repeat apply ah hJ
     apply aR hJ
     simp only[pg,go_sem, *,-a]
     repeat apply ah hJ
     by_cases u:n<=e.high.high
     .rw[if_pos u] at a
      rw[if_pos u] at d
      repeat apply ah hJ
      refine eD hJ (by simp only[*,go_sem,-a]) ?_
      apply aO hJ
      cases C:o.setAt i n with
      |none=>rw[C] at a;exact (rz a).elim
      |some du=>
       rw[C] at a d
       simp only at a d
       repeat apply ah hJ
       apply aV hJ
       repeat apply ah hJ
       refine aD hJ fun nd=>?_
       repeat apply ah hJ
       apply aR hJ
       rcases bp.H9 C with ⟨D,rfl⟩|⟨D,rfl⟩|⟨D,rfl⟩<;>subst D<;>
       (simp only[*,go_sem,-a]
        repeat apply ah hJ
        apply aR hJ
        simp only[*,go_sem,-a]
        have bb:=Ia a
        clear a
        rcases bb with ⟨s2,E,a⟩|⟨E,rfl⟩
        .refine dr.less hJ ((ih _ _ _ _ _ E _ J hJ B p).mono ?_)
         rintro v F' ⟨U,V,hle,rfl,l,w⟩
         have w:=w rfl
         subst w
         refine ⟨_,hle,aP ?_⟩
         simp only[*,go_sem,-a]
         repeat apply ah hJ
         refine eu hJ (by simp only[*,go_sem,-a]) ?_
         apply aO hJ
         repeat apply ah hJ
         apply aR hJ
         simp only[*,go_sem,-a]
         exact ⟨m,Nat.lt_succ_self m,_,Le.refl _,_,_,_,_,a,d,rfl,l,by simp only[*,go_sem,-a]⟩
        .refine dr.less hJ ((ih _ _ _ _ _ E _ J hJ B p).mono ?_)
         rintro v F' ⟨U,V,hle,rfl,l,w⟩
         refine ⟨_,hle,aP ?_⟩
         apply ag _
         repeat apply ah hJ
         refine eD hJ aM ?_
         repeat apply ah hJ
         apply aR hJ
         apply ag _
         repeat apply ah hJ
         apply aQ
         apply ag _
         refine ⟨U,V,Le.refl _,?_⟩
         first|exact ⟨rfl,l,fun h=>by cases h⟩|exact ⟨l,fun h=>by cases h⟩|exact l|exact ⟨l,trivial⟩)
     .rw[if_neg u] at a
      rw[if_neg u] at d
      simp only[fM,Option.some.injEq,Prod.mk.injEq] at a
      obtain ⟨rfl,rfl⟩:=a
      repeat apply ah hJ
      refine eu hJ aM ?_
      apply bR
      simp only[go_sem]
      repeat apply ah hJ
      apply aR hJ
      apply ag _
      repeat apply ah hJ
      apply aQ
      apply ag _
      refine ⟨o,B,Le.refl _,?_⟩
      first|exact ⟨rfl,p,fun h=>d h⟩|exact ⟨p,fun h=>d h⟩|exact ⟨p,d rfl⟩
theorem rA (u0:an){s1 s2 j k:Value}(e:aI fI ro s1 u0.aK)(f:aI eY ro s2 u0.props)(g:aI fq ro j u0.aH)(h:aI dL ro k u0.told):
  nc Tryz.prog 81 #[.agg #[.int .i64 u0.bZ,.int .i64 u0.b6,.int .i64 u0.bw.num,.int .i64 u0.bw.den,s1,s2,j,k]] #[] bp.v (mc u0) ro:=by
 refine ⟨by simp only[go_sem],fun aW b σ step I r t u l s c s' a main J hJ own m=>?_⟩
 replace e:=e.mono b
 replace f:=f.mono b
 replace g:=g.mono b
 replace h:=h.mono b
 refine dr.go hJ Tryz.func81 rfl Tryz.ntmps81 Tryz.results81 ax fun A w hd hs=>?_
 have x:=hs 0
 have k1:=hs 1
 clear hs
 repeat apply ah hJ
 apply aR hJ
 try simp only[*,go_sem,-a]
 intro b2 f2;have r2:=fj f2;have n2:=gk f2
 intro b3 f3;have r3:=fj f3;have n3:=gk f3
 simp only[av] at n3
 try simp only[*,go_sem,-a]
 repeat apply ah hJ
 apply aR hJ
 try simp only[*,go_sem,-a]
 intro b4 f4;have n:=fj f4;have i:=gk f4
 simp only[av] at i
 try simp only[*,go_sem,-a]
 repeat apply ah hJ
 apply aR hJ
 try simp only[*,go_sem,-a]
 intro b5 f5;have o:=fj f5;have d:=gk f5
 simp only[av] at d
 try simp only[*,go_sem,-a]
 repeat apply ah hJ
 apply aR hJ
 try simp only[*,go_sem,-a]
 repeat apply ah hJ
 apply aR hJ
 try simp only[*,go_sem,-a]
 refine dr.less hJ ((Ib u0 e f g h l (b2:=b2) (b3:=b3) (b4:=b4) (b5:=b5) d.1 d.2.1 d.2.2.1 i.1 i.2.1 n3.1 o n r3 r2 5 0 ⟨0,0,0⟩ s c s' a main J hJ own m).mono ?_)
 rintro v F' ⟨y,p,hle,rfl,q,_⟩
 exact ⟨_,hle,p,Le.sub (List.sublist_append_right _ _),q⟩
end
end Go.Proofs.YtbpddfapodiemaaGreatDoor
end

/- A part of the proof: QT3. -/
import Derived.Test.YtbpddfapodiemaaGreatDoorQT2
set_option linter.all false
section
namespace Go.Sep
open Go Go.Conc
def q3 (ops:Array Oper)(cr:List Nat)(i:Nat):Bool:=cr.all fun j=>match ops[j]? with
 |some o=>o.after.any fun e=>Region.binds .any e&&e.on==i
 |none=>true
section
variable {P:Program}{main:Bool}{J:Goroutine->af->Prop}{ops:Array Oper}{Q:Act->af->Prop}{S:af->Prop}{cr:List Nat}
def eM (P:Program)(J:Goroutine->af->Prop)(ops:Array Oper)(Q:Act->af->Prop)(S:af->Prop)(cr:List Nat):Nat->Array Bool->Act->af->Prop
 |0,listed,a,F=>Region.ready .any ops listed=[]/\Q a F
 |fuel+1,listed,a,F=>(Region.ready .any ops listed=[]->Q a F)/\
  ∀i∈Region.ready .any ops listed,ek P J ops i (fun b F'=>(¬i∈cr->S F->S F')/\eM P J ops Q S cr fuel (listed.setIfInBounds i true) b F') a F
theorem G0:∀(fuel t:Nat) (listed:Array Bool) (a:Act) (F:af),eM P J ops Q S cr fuel listed a F->
  gG P J ops Q (Region.linearise.go .any ops fuel t listed []) a F:=by
 intro fuel
 induction fuel with
 |zero=>intro t listed a F h;simpa [Region.linearise.go,gG] using h.2
 |succ fuel ih=>
  intro t listed a F h
  obtain ⟨b,c⟩:=h
  simp only[Region.linearise.go]
  change gG P J ops Q (match (Region.ready .any ops listed)[t % (Region.ready .any ops listed).length]? with
   |some i=>Region.linearise.go .any ops fuel (t/(Region.ready .any ops listed).length) (listed.setIfInBounds i true) [i]
   |none=>[].reverse) a F
  cases hi:(Region.ready .any ops listed)[t % (Region.ready .any ops listed).length]? with
  |none=>
   have d:Region.ready .any ops listed=[]:=by
    cases e:Region.ready .any ops listed with
    |nil=>rfl
    |cons x xs=>
     rw[e] at hi
     have f:t % (x::xs).length<(x::xs).length:=Nat.mod_lt _ av
     simp at hi
     simp at f
     omega
   simpa [gG] using b d
  |some i=>
   simp only[]
   rw[linearise_go_acc,List.reverse_singleton,List.singleton_append]
   exact qC (fun a F h=>ih _ _ a F h.2) (c i (List.mem_of_getElem? hi))
theorem G1 {i:Nat}{l:Oper}{v:Value}(hi:ops[i]?=some l)(m:q3 ops cr i=true)(w:∀(j:Nat) (o:Oper) cs b,ops[j]?=some o->o.op≠ .select cs b):
  ∀(fuel:Nat) (listed:Array Bool) (a:Act) (F:af),
   (∀j f,ops[j]?=some f->j≠i->listed.getD j true=false->(∀e∈f.after,Region.binds .any e=true->e.on≠i)->l.apart ops f=true)->
   i∈Region.ready .any ops listed->gu P J ops S l v a->S F->
   eM P J ops Q S cr fuel (listed.setIfInBounds i true) (a.put l.dst v) F->eM P J ops Q S cr (fuel+1) listed a F:=by
 intro fuel
 induction fuel with
 |zero=>
  intro listed a F _ g n p H
  refine ⟨fun h=>(by rw[h] at g;cases g),fun j q=>?_⟩
  by_cases d:j=i
  .subst d;exact n.oB hi p ⟨fun _ h=>h,H⟩
  .have:=ready_mono q d
   rw[H.1] at this
   cases this
 |succ fuel ih=>
  intro listed a F y g n p H
  refine ⟨fun h=>(by rw[h] at g;cases g),fun j q=>?_⟩
  by_cases d:j=i
  .subst d;exact n.oB hi p ⟨fun _ h=>h,H⟩
  .have c:=H.2 j (ready_mono q d)
   obtain ⟨z,f,r,E⟩:=mem_ready.1 q
   have A:∀e∈f.after,Region.binds .any e=true->e.on≠i:=fun e he hb heq=>by
    have c:=E e he hb
    have B:=(mem_ready.1 g).1
    rw[heq] at c
    rcases Nat.lt_or_ge i listed.size with t|t
    .simp[t] at B c;rw[B] at c;cases c
    .simp[Array.getElem?_eq_none t] at c
   have G:¬j∈cr:=fun e=>by
    have m:=List.all_eq_true.1 m j e
    simp only[r,Array.any_eq_true,Bool.and_eq_true,beq_iff_eq] at m
    obtain ⟨x,I,c,u⟩:=m
    exact A _ (Array.getElem_mem I) c u
   have u:=vQ r (y j f r d z A) (fun cs b=>w i l cs b hi) (fun cs b=>w j f cs b r) n c
   have K:∀k ok,ops[k]?=some ok->k≠i->(listed.setIfInBounds j true).getD k true=false->
     (∀e∈ok.after,Region.binds .any e=true->e.on≠i)->l.apart ops ok=true:=fun k ok hk L C M=>by
    refine y k ok hk L ?_ M
    by_cases D:j=k
    .subst D;exact z
    .rw[getD_set_ne true D] at C;exact C
   refine qC (fun N F' s=>⟨s.2.1,ih (listed.setIfInBounds j true) N F' K (ready_mono g (Ne.symm d)) s.1 (s.2.1 G p) ?_⟩) u
   rw[Array.setIfInBounds_comm _ _ d]
   exact s.2.2
theorem G2 {i:Nat}{l:Oper}{v:Value}(hi:ops[i]?=some l)(s:∀(j:Nat) (o:Oper) cs b,ops[j]?=some o->o.op≠ .select cs b):
  ∀(fuel:Nat) (listed:Array Bool) (a:Act) (F:af),
   (∀j d,ops[j]?=some d->j≠i->listed.getD j true=false->(∀e∈d.after,Region.binds .any e=true->e.on≠i)->l.apart ops d=true)->
   i∈Region.ready .any ops listed->gu P J ops (fun _=>True) l v a->
   eM P J ops Q S cr fuel (listed.setIfInBounds i true) (a.put l.dst v) F->eM P J ops Q S cr (fuel+1) listed a F:=by
 intro fuel
 induction fuel with
 |zero=>
  intro listed a F _ f m H
  refine ⟨fun h=>(by rw[h] at f;cases f),fun j n=>?_⟩
  by_cases c:j=i
  .subst c;exact m.oB hi trivial ⟨fun _ h=>h,H⟩
  .have:=ready_mono n c
   rw[H.1] at this
   cases this
 |succ fuel ih=>
  intro listed a F t f m H
  refine ⟨fun h=>(by rw[h] at f;cases f),fun j n=>?_⟩
  by_cases c:j=i
  .subst c;exact m.oB hi trivial ⟨fun _ h=>h,H⟩
  .have g:=H.2 j (ready_mono n c)
   obtain ⟨u,d,p,z⟩:=mem_ready.1 n
   have A:∀e∈d.after,Region.binds .any e=true->e.on≠i:=fun e he hb heq=>by
    have g:=z e he hb
    have w:=(mem_ready.1 f).1
    rw[heq] at g
    rcases Nat.lt_or_ge i listed.size with q|q
    .simp[q] at w g;rw[w] at g;cases g
    .simp[Array.getElem?_eq_none q] at g
   have B:=vQ p (t j d p c u A) (fun cs b=>s i l cs b hi) (fun cs b=>s j d cs b p) m g
   have C:∀k ok,ops[k]?=some ok->k≠i->(listed.setIfInBounds j true).getD k true=false->
     (∀e∈ok.after,Region.binds .any e=true->e.on≠i)->l.apart ops ok=true:=fun k ok hk D x E=>by
    refine t k ok hk D ?_ E
    by_cases y:j=k
    .subst y;exact u
    .rw[getD_set_ne true y] at x;exact x
   refine qC (fun G F' r=>⟨r.2.1,ih (listed.setIfInBounds j true) G F' C (ready_mono f (Ne.symm c)) r.1 ?_⟩) B
   rw[Array.setIfInBounds_comm _ _ c]
   exact r.2.2
theorem Bz (i:Nat){c:Oper}(v:Value){fuel:Nat}{listed:Array Bool}{a:Act}{F:af}(hi:ops[i]?=some c)
  (b:(Region.noSelect ops&&Region.free .any ops listed i&&(Region.ready .any ops listed).contains i)=true)
  (hl:q3 ops cr i=true) (d:gu P J ops S c v a) (e:S F)
  (h:eM P J ops Q S cr fuel (listed.setIfInBounds i true) (a.put c.dst v) F):eM P J ops Q S cr (fuel+1) listed a F:=by
 simp only[Bool.and_eq_true] at b
 exact G1 hi hl (Region.noSelect_spec b.1.1) fuel listed a F (Region.free_spec hi b.1.2) (by simpa using b.2) d e h
theorem wZ {rs:List Nat}{fuel:Nat}{listed:Array Bool}{a:Act}{F:af}(b:Region.ready .any ops listed=rs)(aO:rs≠[])
  (h:∀i∈rs,ek P J ops i (fun c F'=>(¬i∈cr->S F->S F')/\eM P J ops Q S cr fuel (listed.setIfInBounds i true) c F') a F):eM P J ops Q S cr (fuel+1) listed a F:=
 ⟨fun d=>absurd (b▸d) aO,b▸h⟩
theorem BA (i:Nat){fuel:Nat}{listed:Array Bool}{a:Act}{F:af}(b:Region.ready .any ops listed=[i])
  (h:ek P J ops i (fun c F'=>(¬i∈cr->S F->S F')/\eM P J ops Q S cr fuel (listed.setIfInBounds i true) c F') a F):eM P J ops Q S cr (fuel+1) listed a F:=
 wZ b av (by simpa using h)
theorem BB {listed:Array Bool}{a:Act}{F:af}(b:Region.ready .any ops listed=[])(h:Q a F):∀fuel,eM P J ops Q S cr fuel listed a F
 |0=>⟨b,h⟩
 |_+1=>⟨fun _=>h,by rw[b];simp⟩
end
theorem w5 {P:Program}{J:Goroutine->af->Prop}{ops:Array Oper}{Q:Act->af->Prop}{S:af->Prop}{cr:List Nat}(i:Nat){b:Oper}(v:Value){fuel:Nat}{listed:Array Bool}{a:Act}{F:af}(hi:ops[i]?=some b)
  (d:(Region.noSelect ops&&Region.free .any ops listed i&&(Region.ready .any ops listed).contains i)=true)
  (hl:q3 ops cr i=true) (hg:cV ops b a=some true) (e:∀F R,S F->R v F->dc P J b R a F) (c:S F)
  (h:eM P J ops Q S cr fuel (listed.setIfInBounds i true) (bB a b.dst v) F):eM P J ops Q S cr (fuel+1) listed a F:=
 Bz i v hi d hl (.inl ⟨cD hg,fun F R c f=>lT (e F R c f)⟩) c h
theorem G3 {P:Program}{J:Goroutine->af->Prop}{ops:Array Oper}{Q:Act->af->Prop}{S:af->Prop}{cr:List Nat}(i:Nat){b:Oper}{fuel:Nat}{listed:Array Bool}{a:Act}{F:af}(hi:ops[i]?=some b)
  (c:(Region.noSelect ops&&Region.free .any ops listed i&&(Region.ready .any ops listed).contains i)=true)
  (hl:q3 ops cr i=true) (hg:cV ops b a=some false) (d:S F)
  (h:eM P J ops Q S cr fuel (listed.setIfInBounds i true) (bB a b.dst undef) F):eM P J ops Q S cr (fuel+1) listed a F:=
 Bz i undef hi c hl (.inr ⟨cD hg,rfl⟩) d h
theorem BC {P:Program}{J:Goroutine->af->Prop}{ops:Array Oper}{Q:Act->af->Prop}{S:af->Prop}{cr:List Nat}(i:Nat){c:Oper}(v:Value){fuel:Nat}{listed:Array Bool}{a:Act}{F:af}(hi:ops[i]?=some c)
  (b:(Region.noSelect ops&&Region.free .any ops listed i&&(Region.ready .any ops listed).contains i)=true)
  (d:gu P J ops (fun _=>True) c v a)
  (h:eM P J ops Q S cr fuel (listed.setIfInBounds i true) (bB a c.dst v) F):eM P J ops Q S cr (fuel+1) listed a F:=by
 simp only[Bool.and_eq_true] at b
 exact G2 hi (Region.noSelect_spec b.1.1) fuel listed a F (Region.free_spec hi b.1.2) (by simpa using b.2) d h
inductive cG where
 |done
 |rd (i:Nat) (p:cG)
 |one (i:Nat) (p:cG)
 |two (i:Nat) (p:cG) (j:Nat) (q:cG)
 |three (i:Nat) (p:cG) (j:Nat) (q:cG) (k:Nat) (r:cG)
 |last (i:Nat) (p:cG)
 |pure (i:Nat) (p:cG)
inductive gD where
 |done
 |rd (o:Oper) (p:gD)
 |one (o:Oper) (p:gD)
 |two (o:Oper) (p:gD) (o':Oper) (q:gD)
 |three (o:Oper) (p:gD) (o':Oper) (q:gD) (kq:Oper) (r:gD)
 |last (o:Oper) (p:gD)
 |pure (o:Oper) (p:gD)
 |bad
def cG.opers (ops:Array Oper):cG->gD
 | .done=>.done
 | .rd i p=>match ops[i]? with
  |some o=>.rd o (p.opers ops)
  |none=>.bad
 | .one i p=>match ops[i]? with
  |some o=>.one o (p.opers ops)
  |none=>.bad
 | .two i p j q=>match ops[i]?,ops[j]? with
  |some o,some o'=>.two o (p.opers ops) o' (q.opers ops)
  |_,_=>.bad
 | .three i p j q k r=>match ops[i]?,ops[j]?,ops[k]? with
  |some o,some o',some kq=>.three o (p.opers ops) o' (q.opers ops) kq (r.opers ops)
  |_,_,_=>.bad
 | .last i p=>match ops[i]? with
  |some o=>.last o (p.opers ops)
  |none=>.bad
 | .pure i p=>match ops[i]? with
  |some o=>.pure o (p.opers ops)
  |none=>.bad
def cG.tl:cG->Bool
 | .done=>true
 | .last _ p=>p.tl
 | .pure _ p=>p.tl
 |_=>false
def cG.ok (ops:Array Oper)(cr:List Nat):cG->Array Bool->Bool
 | .done,L=>decide (Region.ready .any ops L=[])
 | .rd i p,L=>Region.free .any ops L i&&(Region.ready .any ops L).contains i&&(ops[i]?).isSome&&q3 ops cr i&&p.ok ops cr (L.setIfInBounds i true)
 | .one i p,L=>decide (Region.ready .any ops L=[i])&&(ops[i]?).isSome&&p.ok ops cr (L.setIfInBounds i true)
 | .two i p j q,L=>decide (Region.ready .any ops L=[i,j])&&(ops[i]?).isSome&&(ops[j]?).isSome&&p.ok ops cr (L.setIfInBounds i true)&&q.ok ops cr (L.setIfInBounds j true)
 | .three i p j q k r,L=>decide (Region.ready .any ops L=[i,j,k])&&(ops[i]?).isSome&&(ops[j]?).isSome&&(ops[k]?).isSome&&p.ok ops cr (L.setIfInBounds i true)&&q.ok ops cr (L.setIfInBounds j true)&&r.ok ops cr (L.setIfInBounds k true)
 | .pure i p,L=>Region.free .any ops L i&&(Region.ready .any ops L).contains i&&(ops[i]?).isSome&&p.ok ops cr (L.setIfInBounds i true)
 | .last i p,L=>cr.contains i&&decide (Region.ready .any ops L=[i])&&p.tl&&(ops[i]?).isSome&&p.ok ops cr (L.setIfInBounds i true)
def cG.len:cG->Nat
 | .done=>0
 | .rd _ p=>p.len+1
 | .one _ p=>p.len+1
 | .two _ p _ q=>max p.len q.len+1
 | .three _ p _ q _ r=>max p.len (max q.len r.len)+1
 | .last _ p=>p.len+1
 | .pure _ p=>p.len+1
def cC (P:Program)(J:Goroutine->af->Prop)(ops:Array Oper)(F0:af)(Q:Act->af->Prop):gD->Bool->Act->af->Prop
 | .done,_,a,F=>Q a F
 | .bad,_,_,_=>False
 | .rd o p,_,a,F=>match cV ops o a with
  |some false=>cC P J ops F0 Q p true (bB a o.dst undef) F
  |some true=>match o.op with
   | .load t x=>match ev a x with
    | .pointer (some ad)=>match fZ P F0 t ad with
     |some v=>cC P J ops F0 Q p true (bB a o.dst v) F
     |none=>False
    |_=>False
   | .call {callee:=.value x,args, ..}=>match ev a x with
    | .func (.func fn) first captured=>aR P fn=true/\∃v,Plain P J F0 fn (first++args.map (ev a)++captured) v/\cC P J ops F0 Q p false (bB a o.dst v) F
    |_=>False
   |_=>match jG P o a with
    |some v=>cC P J ops F0 Q p true (bB a o.dst v) F
    |none=>False
  |none=>False
 | .one o p,_,a,F=>match cV ops o a with
  |some true=>dc P J o (fun v F'=>Knows F0 F'/\cC P J ops F0 Q p (!Oper.calls o) (bB a o.dst v) F') a F
  |some false=>cC P J ops F0 Q p true (bB a o.dst undef) F
  |none=>False
 | .two o p o' q,_,a,F=>(match cV ops o a with
  |some true=>dc P J o (fun v F'=>Knows F0 F'/\cC P J ops F0 Q p (!Oper.calls o) (bB a o.dst v) F') a F
  |some false=>cC P J ops F0 Q p true (bB a o.dst undef) F
  |none=>False)/\(match cV ops o' a with
  |some true=>dc P J o' (fun v F'=>Knows F0 F'/\cC P J ops F0 Q q (!Oper.calls o') (bB a o'.dst v) F') a F
  |some false=>cC P J ops F0 Q q true (bB a o'.dst undef) F
  |none=>False)
 | .three o p o' q kq r,_,a,F=>(match cV ops o a with
  |some true=>dc P J o (fun v F'=>Knows F0 F'/\cC P J ops F0 Q p (!Oper.calls o) (bB a o.dst v) F') a F
  |some false=>cC P J ops F0 Q p true (bB a o.dst undef) F
  |none=>False)/\(match cV ops o' a with
  |some true=>dc P J o' (fun v F'=>Knows F0 F'/\cC P J ops F0 Q q (!Oper.calls o') (bB a o'.dst v) F') a F
  |some false=>cC P J ops F0 Q q true (bB a o'.dst undef) F
  |none=>False)/\(match cV ops kq a with
  |some true=>dc P J kq (fun v F'=>Knows F0 F'/\cC P J ops F0 Q r (!Oper.calls kq) (bB a kq.dst v) F') a F
  |some false=>cC P J ops F0 Q r true (bB a kq.dst undef) F
  |none=>False)
 | .pure o p,_,a,F=>match cV ops o a with
  |some false=>cC P J ops F0 Q p true (bB a o.dst undef) F
  |some true=>match jG P o a with
   |some v=>cC P J ops F0 Q p true (bB a o.dst v) F
   |none=>False
  |none=>False
 | .last o p,_,a,F=>match cV ops o a with
  |some true=>dc P J o (fun v F'=>cC P J ops F0 Q p (!Oper.calls o) (bB a o.dst v) F') a F
  |_=>False
section
variable {P:Program}{main:Bool}{J:Goroutine->af->Prop}{ops:Array Oper}{Q:Act->af->Prop}{F0:af}{cr:List Nat}
theorem oK {p:cG}{i:Nat}{o:Oper}{fuel:Nat}{L:Array Bool}{a:Act}{F:af}(b:ops[i]?=some o)(d:Knows F0 F)
  (ih:∀go a F,Knows F0 F->cC P J ops F0 Q (p.opers ops) go a F->eM P J ops Q (Knows F0) cr fuel (L.setIfInBounds i true) a F)
  (h:match cV ops o a with
   |some true=>dc P J o (fun v F'=>Knows F0 F'/\cC P J ops F0 Q (p.opers ops) (!Oper.calls o) (bB a o.dst v) F') a F
   |some false=>cC P J ops F0 Q (p.opers ops) true (bB a o.dst undef) F
   |none=>False):ek P J ops i (fun e F'=>(¬i∈cr->Knows F0 F->Knows F0 F')/\eM P J ops Q (Knows F0) cr fuel (L.setIfInBounds i true) e F') a F:=by
 split at h
 .rename_i hg
  unfold ek
  simp only[b]
  rw[if_pos (cD hg)]
  refine lT (m3.td ?_ h)
  rintro v F' ⟨c,f⟩
  exact ⟨fun _ _=>c,ih _ _ F' c f⟩
 .rename_i hg
  unfold ek
  simp only[b]
  rw[if_neg (by rw[cD hg];exact Bool.false_ne_true)]
  exact ⟨fun _ hk=>hk,ih _ _ F d h⟩
 .exact h.elim
theorem BD {p:cG}{i:Nat}{fuel:Nat}{L:Array Bool}{go:Bool}{a:Act}{F:af}(e:Region.noSelect ops=true)(c:(cG.pure i p).ok ops cr L=true)
  (ih:∀go v a,p.ok ops cr (L.setIfInBounds i true)=true->cC P J ops F0 Q (p.opers ops) go (bB a ((ops[i]?).bind (·.dst)) v) F->eM P J ops Q (Knows F0) cr fuel (L.setIfInBounds i true) (bB a ((ops[i]?).bind (·.dst)) v) F)
  (h:cC P J ops F0 Q ((cG.pure i p).opers ops) go a F):eM P J ops Q (Knows F0) cr (fuel+1) L a F:=by
 simp only[cG.ok,Bool.and_eq_true] at c
 obtain ⟨⟨⟨c1,c2⟩,c3⟩,c4⟩:=c
 obtain ⟨o,b⟩:=Option.isSome_iff_exists.1 c3
 have d:(Region.noSelect ops&&Region.free .any ops L i&&(Region.ready .any ops L).contains i)=true:=by rw[e,c1,c2];rfl
 have f:cG.opers ops (.pure i p)= .pure o (p.opers ops):=by simp only[cG.opers,b]
 rw[f] at h
 have hd:(ops[i]?).bind (·.dst)=o.dst:=by rw[b];rfl
 rw[hd] at ih
 unfold cC at h
 split at h
 .rename_i hg
  exact BC i undef b d (.inr ⟨cD hg,rfl⟩) (ih _ _ _ c4 h)
 .rename_i hg
  split at h
  .rename_i v g
   exact BC i v b d (.inl ⟨cD hg,fun F R _ j=>lT (s8 g j)⟩) (ih _ _ _ c4 h)
  .exact h.elim
 .exact h.elim
theorem w6 (c:Region.noSelect ops=true):∀(p:cG) (fuel:Nat) (L:Array Bool) (go:Bool) (a:Act) (F:af),p.tl=true->p.len<=fuel->p.ok ops cr L=true->cC P J ops F0 Q (p.opers ops) go a F->eM P J ops Q (Knows F0) cr fuel L a F
 | .done,fuel,L,go,a,F,_,hl,b,h=>by
  simp only[cG.ok,decide_eq_true_eq] at b
  unfold cG.opers cC at h
  exact BB b h _
 | .last i p,fuel,L,go,a,F,ht,hl,b,h=>by
  simp only[cG.ok,Bool.and_eq_true,decide_eq_true_eq] at b
  obtain ⟨⟨⟨⟨c1,c2⟩,c3⟩,c4⟩,e⟩:=b
  obtain ⟨o,d⟩:=Option.isSome_iff_exists.1 c4
  have g:cG.opers ops (.last i p)= .last o (p.opers ops):=by simp only[cG.opers,d]
  rw[g] at h
  simp only[cG.len] at hl
  obtain ⟨fuel,rfl⟩:∃f,fuel=f+1:=⟨fuel - 1,aa⟩
  unfold cC at h
  refine BA i c2 ?_
  split at h
  .rename_i hg
   unfold ek
   simp only[d]
   rw[if_pos (cD hg)]
   refine lT (m3.td ?_ h)
   exact fun v F' j=>⟨fun aO _=>absurd (by simpa using c1) aO,w6 c p fuel _ _ _ F' c3 aa e j⟩
  .exact h.elim
 | .pure i p,fuel,L,go,a,F,ht,hl,b,h=>by
  simp only[cG.len] at hl
  obtain ⟨fuel,rfl⟩:∃f,fuel=f+1:=⟨fuel - 1,aa⟩
  exact BD c b (fun go v a c4 k=>w6 c p fuel _ go _ F ht aa c4 k) h
 | .rd _ _,_,_,_,_,_,ht,_,_,_=>by cases ht
 | .one _ _,_,_,_,_,_,ht,_,_,_=>by cases ht
 | .two ..,_,_,_,_,_,ht,_,_,_=>by cases ht
 | .three ..,_,_,_,_,_,ht,_,_,_=>by cases ht
theorem k7 (e:Region.noSelect ops=true):∀(p:cG) (fuel:Nat) (L:Array Bool) (go:Bool) (a:Act) (F:af),Knows F0 F->p.len<=fuel->p.ok ops cr L=true->cC P J ops F0 Q (p.opers ops) go a F->eM P J ops Q (Knows F0) cr fuel L a F
 | .done,fuel,L,go,a,F,b,hl,c,h=>by
  simp only[cG.ok,decide_eq_true_eq] at c
  unfold cG.opers cC at h
  exact BB c h _
 | .rd i p,fuel,L,go,a,F,b,hl,c,h=>by
  simp only[cG.ok,Bool.and_eq_true] at c
  obtain ⟨⟨⟨⟨c1,c2⟩,c3⟩,g⟩,c4⟩:=c
  obtain ⟨o,d⟩:=Option.isSome_iff_exists.1 c3
  have w:(Region.noSelect ops&&Region.free .any ops L i&&(Region.ready .any ops L).contains i)=true:=by rw[e,c1,c2];rfl
  have l:cG.opers ops (.rd i p)= .rd o (p.opers ops):=by simp only[cG.opers,d]
  rw[l] at h
  simp only[cG.len] at hl
  obtain ⟨fuel,rfl⟩:∃f,fuel=f+1:=⟨fuel - 1,aa⟩
  have next:∀go v,cC P J ops F0 Q (p.opers ops) go (bB a o.dst v) F->eM P J ops Q (Knows F0) cr fuel (L.setIfInBounds i true) (bB a o.dst v) F:=fun go v m=>
   k7 e p fuel _ go _ F b aa c4 m
  unfold cC at h
  split at h
  .rename_i hg
   exact G3 i d w g hg b (next true undef h)
  .rename_i hg
   split at h
   .rename_i t x z
    split at h
    case h_2=>exact h.elim
    rename_i ad B
    split at h
    case h_2=>exact h.elim
    rename_i v m
    refine w5 i v d w g hg (fun F R y s=>?_) b (next _ v h)
    unfold dc
    simp only[z,B,y.fZ m]
    exact s
   .rename_i x args argTypes z
    split at h
    case h_2=>exact h.elim
    rename_i fn first captured n
    obtain ⟨C,v,D,h⟩:=h
    refine w5 i v d w g hg (fun F R y s=>?_) b (next _ v h)
    unfold dc
    simp only[z,n]
    exact ⟨C,(D F y).mono fun I F' E=>by obtain ⟨rfl,rfl⟩:=E;exact s⟩
   .split at h
    case h_2=>exact h.elim
    rename_i v m
    exact w5 i v d w g hg (fun F R y s=>s8 m s) b (next _ v h)
  .exact h.elim
 | .one i p,fuel,L,go,a,F,b,hl,c,h=>by
  simp only[cG.ok,Bool.and_eq_true,decide_eq_true_eq] at c
  obtain ⟨⟨c1,c3⟩,c4⟩:=c
  obtain ⟨o,d⟩:=Option.isSome_iff_exists.1 c3
  have l:cG.opers ops (.one i p)= .one o (p.opers ops):=by simp only[cG.opers,d]
  rw[l] at h
  simp only[cG.len] at hl
  obtain ⟨fuel,rfl⟩:∃f,fuel=f+1:=⟨fuel - 1,aa⟩
  unfold cC at h
  exact BA i c1 (oK d b (fun go a F b h=>k7 e p fuel _ go a F b aa c4 h) h)
 | .two i p j q,fuel,L,go,a,F,b,hl,c,h=>by
  simp only[cG.ok,Bool.and_eq_true,decide_eq_true_eq] at c
  obtain ⟨⟨⟨⟨c1,c2⟩,c3⟩,c4⟩,g⟩:=c
  obtain ⟨o,d⟩:=Option.isSome_iff_exists.1 c2
  obtain ⟨o',u⟩:=Option.isSome_iff_exists.1 c3
  have l:cG.opers ops (.two i p j q)= .two o (p.opers ops) o' (q.opers ops):=by simp only[cG.opers,d,u]
  rw[l] at h
  simp only[cG.len] at hl
  obtain ⟨fuel,rfl⟩:∃f,fuel=f+1:=⟨fuel - 1,aa⟩
  unfold cC at h
  refine wZ c1 av fun x n=>?_
  simp only[List.mem_cons,List.not_mem_nil,or_false] at n
  rcases n with rfl|rfl
  .exact oK d b (fun go a F b h=>k7 e p fuel _ go a F b aa c4 h) h.1
  .exact oK u b (fun go a F b h=>k7 e q fuel _ go a F b aa g h) h.2
 | .three i p j q k r,fuel,L,go,a,F,b,hl,c,h=>by
  simp only[cG.ok,Bool.and_eq_true,decide_eq_true_eq] at c
  obtain ⟨⟨⟨⟨⟨⟨c1,c2⟩,c3⟩,c4⟩,g⟩,G⟩,H⟩:=c
  obtain ⟨o,d⟩:=Option.isSome_iff_exists.1 c2
  obtain ⟨o',u⟩:=Option.isSome_iff_exists.1 c3
  obtain ⟨kq,A⟩:=Option.isSome_iff_exists.1 c4
  have l:cG.opers ops (.three i p j q k r)= .three o (p.opers ops) o' (q.opers ops) kq (r.opers ops):=by simp only[cG.opers,d,u,A]
  rw[l] at h
  simp only[cG.len] at hl
  obtain ⟨fuel,rfl⟩:∃f,fuel=f+1:=⟨fuel - 1,aa⟩
  unfold cC at h
  refine wZ c1 av fun x n=>?_
  simp only[List.mem_cons,List.not_mem_nil,or_false] at n
  rcases n with rfl|rfl|rfl
  .exact oK d b (fun go a F b h=>k7 e p fuel _ go a F b aa g h) h.1
  .exact oK u b (fun go a F b h=>k7 e q fuel _ go a F b aa G h) h.2.1
  .exact oK A b (fun go a F b h=>k7 e r fuel _ go a F b aa H h) h.2.2
 | .last i p,fuel,L,go,a,F,b,hl,c,h=>w6 e (.last i p) fuel L go a F (by simp only[cG.ok,Bool.and_eq_true] at c;exact c.1.1.2) hl c h
 | .pure i p,fuel,L,go,a,F,b,hl,c,h=>by
  simp only[cG.len] at hl
  obtain ⟨fuel,rfl⟩:∃f,fuel=f+1:=⟨fuel - 1,aa⟩
  exact BD e c (fun go v a c4 m=>k7 e p fuel _ go _ F b aa c4 m) h
theorem fC {Q:Ex->Act->af->Prop}(hJ:Closed P main J)(d:P.follows .mixedOrders=true)(cr:List Nat)(p:cG){id:Nat}{a:Act}{F:af}(F0:af)(e:Knows F0 F)
  (c:(Region.noSelect ops&&decide (p.len<=ops.size)&&p.ok ops cr (Array.replicate ops.size false))=true)
  (h:cC P J ops F0 (Q .normal) (p.opers ops) true a F):Wp J (.region id ops true) Q a F:=by
 simp only[Bool.and_eq_true,decide_eq_true_eq] at c
 obtain ⟨⟨f,g⟩,i⟩:=c
 intro b k cs hb hk
 refine hJ.step fun w hw=>?_
 refine ⟨_,_,_,F,Ak,.drawn _ _ _,hw.drawn _,av,?_⟩
 refine sM (K:=Q .normal) hJ (vT hb) (fun j F' l=>hk .normal j F' l) _ _ _ ?_
 simp only[Region.schedule,d,Bool.true_or,if_true]
 exact G0 ops.size _ _ a F (k7 (cr:=cr) f p ops.size _ true a F e g i h)
end
theorem G4 {P:Program}{J:Goroutine->af->Prop}{ops:Array Oper}{F0:af}{Q:Act->af->Prop}{go:Bool}{a:Act}{F:af}:cC P J ops F0 Q .done go a F=Q a F:=rfl
theorem G5 {P:Program}{J:Goroutine->af->Prop}{ops:Array Oper}{F0:af}{Q:Act->af->Prop}{o:Oper}{p:gD}{a:Act}{F:af}:cC P J ops F0 Q (.rd o p) true a F=match cV ops o a with
  |some false=>cC P J ops F0 Q p true (bB a o.dst undef) F
  |some true=>match o.op with
   | .load t x=>match ev a x with
    | .pointer (some ad)=>match fZ P F0 t ad with
     |some v=>cC P J ops F0 Q p true (bB a o.dst v) F
     |none=>False
    |_=>False
   | .call {callee:=.value x,args, ..}=>match ev a x with
    | .func (.func fn) first captured=>aR P fn=true/\∃v,Plain P J F0 fn (first++args.map (ev a)++captured) v/\cC P J ops F0 Q p false (bB a o.dst v) F
    |_=>False
   |_=>match jG P o a with
    |some v=>cC P J ops F0 Q p true (bB a o.dst v) F
    |none=>False
  |none=>False:=(Eq.refl _).trans (Eq.refl _)
theorem BE {P:Program}{J:Goroutine->af->Prop}{ops:Array Oper}{F0:af}{Q:Act->af->Prop}{o:Oper}{p:gD}{a:Act}{F:af}:cC P J ops F0 Q (.one o p) true a F=match cV ops o a with
  |some true=>dc P J o (fun v F'=>Knows F0 F'/\cC P J ops F0 Q p (!Oper.calls o) (bB a o.dst v) F') a F
  |some false=>cC P J ops F0 Q p true (bB a o.dst undef) F
  |none=>False:=(Eq.refl _).trans (Eq.refl _)
theorem k8 {P:Program}{J:Goroutine->af->Prop}{ops:Array Oper}{F0:af}{Q:Act->af->Prop}{o o':Oper}{p q:gD}{go:Bool}{a:Act}{F:af}(b:cC P J ops F0 Q (.one o p) true a F)(c:cC P J ops F0 Q (.one o' q) true a F):cC P J ops F0 Q (.two o p o' q) go a F:=by
 rw[BE] at b c;unfold cC;exact ⟨b,c⟩
theorem G6 {P:Program}{J:Goroutine->af->Prop}{ops:Array Oper}{F0:af}{Q:Act->af->Prop}{o:Oper}{p:gD}{a:Act}{F:af}:cC P J ops F0 Q (.last o p) true a F=match cV ops o a with
  |some true=>dc P J o (fun v F'=>cC P J ops F0 Q p (!Oper.calls o) (bB a o.dst v) F') a F
  |_=>False:=(Eq.refl _).trans (Eq.refl _)
theorem G7 {P:Program}{J:Goroutine->af->Prop}{ops:Array Oper}{F0:af}{Q:Act->af->Prop}{o:Oper}{p:gD}{a:Act}{F:af}:cC P J ops F0 Q (.pure o p) true a F=match cV ops o a with
  |some false=>cC P J ops F0 Q p true (bB a o.dst undef) F
  |some true=>match jG P o a with
   |some v=>cC P J ops F0 Q p true (bB a o.dst v) F
   |none=>False
  |none=>False:=(Eq.refl _).trans (Eq.refl _)
theorem cu {P:Program}{J:Goroutine->af->Prop}{ops:Array Oper}{F0:af}{Q:Act->af->Prop}:∀{p:gD} {go:Bool} {a:Act} {F:af},cC P J ops F0 Q p true a F->cC P J ops F0 Q p go a F
 | .done,_,_,_,h=>h
 | .bad,_,_,_,h=>h
 | .rd ..,_,_,_,h=>h
 | .one ..,_,_,_,h=>h
 | .two ..,_,_,_,h=>h
 | .three ..,_,_,_,h=>h
 | .last ..,_,_,_,h=>h
 | .pure ..,_,_,_,h=>h
attribute [irreducible] cC
attribute [go_sem] G4 G5 BE G6 G7 cG.opers
theorem fE {ro bf:Addr->Option Value}{l:List (Nat×Obj)}(a:Ext ro bf)(b:aJ bf l)(own:List (Nat×Obj)):Knows ⟨ro,l⟩ ⟨bf,own⟩=jF l own:=
 propext ⟨fun h=>h.2.2,F4 a b⟩
section
variable {P:Program}{main:Bool}{J:Goroutine->af->Prop}{a:Act}{F:af}
def m8 (l:Nat)(R:Value->af->Prop)(st:LoopState)(jump:Option Code)(F:af):Prop:=
 ∃lo,F.fR l=some (.loop lo)/\R (.bool jump.isNone) (F.put l (.loop {lo with state:=st,pending:=jump}))
def tv (l:Nat)(R:Value->af->Prop):Ex->Act->af->Prop
 | .normal,_,F=>m8 l R .ready none F
 | .exit id,_,F=>m8 l R .done (some (.exit id)) F
 | .ret,_,F=>m8 l R .done (some .ret) F
def q4 (J:Goroutine->af->Prop)(l:Nat)(body:Code)(R:Value->af->Prop):Ex->Act->af->Prop
 | .normal,a,F=>∃lo,F.fR l=some (.loop lo)/\lo.state= .ready/\Wp J body (tv l R) a (F.put l (.loop {lo with state:=.busy}))
 |_,_,_=>False
theorem w7 {l:Nat}{R:Value->af->Prop}{st:LoopState}{jump:Option Code}(c:st=if jump.isNone then .ready else .done)(h:m8 l R st jump F):bx P (Instr.endRound l jump) R F:=by
 obtain ⟨lo,a,b⟩:=h;simp only[Instr.endRound,Instr.getLoop,bG,oC];refine ⟨_,a,?_⟩;simp only[bQ,bG,mQ,a,Option.isSome_some,Obj.isChan,true_and];rw[c] at b;exact b
theorem w8 (hJ:Closed P main J){l:Nat}{b:Frame}{a:Act}{todo:List Item}{jump:Option Code}{c:Frame}{cs:List Frame}(hk:b.kind= .normal)
  (hs:∀w,stepG P main (G (on b a todo) (c::cs)) w=GStep.after (seen P b.fn ((Instr.endRound l jump).runT P w #[]).2) (match ((Instr.endRound l jump).runT P w #[]).1 with
    | .ok v w=>doReturn P main (on b a todo) (c::cs) none v w
    | .halt _ w=>.ended (.stuck "range over a function: no such loop" ((on b a todo).pos P)) w))
  (h:bx P (Instr.endRound l jump) (fun v F'=>J (G (c.finish v) cs) F') F):J (G (on b a todo) (c::cs)) F:=by
 refine hJ.step fun w hw=>?_
 obtain ⟨v,w',F',es,H⟩:=lQ _ F w #[] h hw
 have d:=H.run
 rw[Array.empty_append] at d
 refine ⟨G (c.finish v) cs,w',seen P b.fn es,F',?_,H.upd,H.has,fun e he=>H.iX e (mem_seen he),H.post⟩
 rw[hs w,d]
 have f:(on b a todo).kind= .normal:=hk
 simp only[doReturn,f,GStep.after,G]
 simp
theorem j8.of_wp (hJ:Closed P main J){l:Nat}{f:FuncId}{tmps:Array Value}{assign body:Code}{R:Value->af->Prop}(hd:gv assign=true)(q:gv body=true)
  (h:Wp J assign (q4 J l body R) {tmps:=tmps,defers:=[]} F):j8 J l f tmps assign body F R:=by
 intro c cs j
 let b:Frame:={(default:Frame) with fn:=f,kind:=.normal,roundOf:=some l}
 have he:Frame.round l f tmps assign body .normal=on b {tmps:=tmps,defers:=[]} (.code assign::[.beginRound,.code body]):=rfl
 rw[he]
 refine h b [.beginRound,.code body] (c::cs) ⟨by simp[b],.inr hd⟩ fun e m F' d=>?_
 cases e with
 |exit i=>exact d.elim
 |ret=>exact d.elim
 |normal=>
  obtain ⟨lo,a,g,r⟩:=d
  show J (G (on b m [.beginRound,.code body]) (c::cs)) F'
  have hl:bx P (do Instr.beginRound l;pure Next.skip:Sem Next) (fun n k=>n= .skip/\k=F'.put l (.loop {lo with state:=.busy})) F':=by
   simp only[Instr.beginRound,Instr.getLoop,bG,oC]
   refine ⟨_,a,?_⟩
   simp only[bQ,bG,mQ,a,Option.isSome_some,Obj.isChan,true_and,g]
   all_goals first|trivial|exact ⟨rfl,rfl⟩
  refine hJ.step fun w hw=>?_
  obtain ⟨n,w',k,es,H⟩:=lQ _ F' w #[] hl hw
  have o:=H.run
  rw[Array.empty_append] at o
  obtain ⟨rfl,rfl⟩:=H.post
  refine ⟨G (on b m [.code body]) (c::cs),w',seen P b.fn es,_,?_,H.upd,H.has,fun e he=>H.iX e (mem_seen he),?_⟩
  .have s:b.roundOf=some l:=rfl
   simp only[G,stepG,stepG.exec,on,s,Option.elim,stepG.apply,if_true]
   have t:(b.kind==CallKind.early)=false:=rfl
   simp only[o,t,Bool.false_eq_true,if_false,GStep.after]
   simp[Frame.finish,undef]
  .refine r b [] (c::cs) ⟨by simp[b],.inr q⟩ fun e a2 k d=>?_
   cases e with
   |normal=>
    refine w8 hJ (l:=l) (jump:=none) rfl (fun w=>?_) (w7 rfl (R:=fun v F'=>J (G (c.finish v) cs) F') ?_)
    .simp only[G,stepG,stepG.exec,on]
     rfl
    .obtain ⟨lo,a,g⟩:=d
     exact ⟨lo,a,j _ _ g⟩
   |exit i=>
    intro p u
    refine w8 hJ (l:=l) (jump:=some (.exit i)) rfl (fun w=>?_) (w7 rfl (R:=fun v F'=>J (G (c.finish v) cs) F') ?_)
    .have x:exitTo i p=none:=u
     simp only[G,stepG,stepG.exec,on,x,Option.elim]
     rfl
    .obtain ⟨lo,a,g⟩:=d
     exact ⟨lo,a,j _ _ g⟩
   |ret=>
    intro p
    refine w8 hJ (l:=l) (jump:=some .ret) rfl (fun w=>?_) (w7 rfl (R:=fun v F'=>J (G (c.finish v) cs) F') ?_)
    .simp only[G,stepG,stepG.exec,on]
     rfl
    .obtain ⟨lo,a,g⟩:=d
     exact ⟨lo,a,j _ _ g⟩
def tw (Q:Ex->Act->af->Prop)(a:Act)(F:af):Option Code->Prop
 |none=>Q .normal a F
 |some (.exit id)=>Q (.exit id) a F
 |some .ret=>Q .ret a F
 |_=>False
def oL (b:FuncId)(a:Act)(params:Array Tmp)(assign body:Code)(d:Nat):Loop:={state:=.ready,pending:=none,fn:=b,tmps:=a.tmps,params:=params,assign:=assign,body:=body,defers:=d}
theorem G8 (hJ:Closed P main J){x:Operand}{params:Array Tmp}{assign body:Code}{Q:Ex->Act->af->Prop}{fn:FuncId}{first captured:Array Value}
  (C:ev a x= .func (.func fn) first captured) (D:aR P fn=true)
  (E:∀I d l,eD F d->eD (F.push d (.deferred (some []))) l->
   dx P J fn (first++#[.func (.yield l) #[] #[]]++captured) ((F.push d (.deferred (some []))).push l (.loop (oL I a params assign body d)))
    (fun _ F'=>∃lo,F'.fR l=some (.loop lo)/\lo.state≠ .busy/\tw Q {a with defers:=⟨.collected d,#[]⟩::a.defers} (F'.put l (.loop {lo with state:=.exhausted})) lo.pending)):
  Wp J (.rangeFunc x params assign body) Q a F:=by
 intro b k cs hb hk
 have q:b.roundOf=none:=hb.round.elim id fun h=>by simp[gv] at h
 obtain ⟨s,L,M,N,O,p,a2⟩:=b
 simp only at q
 subst q
 let b:Frame:=⟨s,L,M,N,O,p,none⟩
 have R:a.eval x= .func (.func fn) first captured:=C
 have i:=D
 unfold aR at i
 split at i
 case h_2=>cases i
 rename_i a3 S
 simp only[Bool.not_eq_true',Bool.or_eq_false_iff] at i
 let K:Nat×List Deferred->af->Prop:=fun r F'=>∃d l,r=(l,[⟨.collected d,#[]⟩])/\eD F d/\eD (F.push d (.deferred (some []))) l/\F'=(F.push d (.deferred (some []))).push l (.loop (oL b.fn a params assign body d))
 have T:bx P (Instr.enterLoop b.fn a.tmps params assign body none) K F:=by
  simp only[Instr.enterLoop,bG,qE,bQ]
  exact ⟨rfl,fun d hd=>⟨rfl,fun l hl=>⟨d,l,rfl,hd,hl,rfl⟩⟩⟩
 refine hJ.step fun w hw=>?_
 obtain ⟨r,w1,a4,t,H1⟩:=lQ _ F w #[] T hw
 have u:=H1.run
 rw[Array.empty_append] at u
 obtain ⟨d,l,rfl,hd,hl,rfl⟩:=H1.post
 let fr':Frame:={on b a (.inRangeFunc l::k) with defers:=[⟨.collected d,#[]⟩]++a.defers}
 have U:fr'=on b {a with defers:=⟨.collected d,#[]⟩::a.defers} (.inRangeFunc l::k):=rfl
 have V:fr'.eval x= .func (.func fn) first captured:=by rw[U,vM];exact R
 have W:bx P (do let m<-resolve fr'.eval {callee:=.value x,args:=#[.const (.func (.yield l) #[] #[])],argTypes:=#[]} 0;invoke m.target m.args:Sem Next)
   (fun n o=>n= .enter fn (first++#[.func (.yield l) #[] #[]]++captured)/\o=(F.push d (.deferred (some []))).push l (.loop (oL b.fn a params assign body d))) ((F.push d (.deferred (some []))).push l (.loop (oL b.fn a params assign body d))):=by
  have X:fr'.eval (.const (.func (.yield l) #[] #[]))= .func (.yield l) #[] #[]:=rfl
  simp only[resolve,V,Deferred.ofValue,bG,bQ,invoke,callFunc,kW,S,i.1,i.2,Bool.false_eq_true,if_false,List.map_toArray,List.map_cons,List.map_nil,X]
  simp
 obtain ⟨n,w2,o,Y,g⟩:=lQ _ _ w1 #[] W H1.has
 have z:=g.run
 rw[Array.empty_append] at z
 obtain ⟨rfl,rfl⟩:=g.post
 refine ⟨G (Frame.enter P fn (first++#[.func (.yield l) #[] #[]]++captured) .normal) (fr'::cs),w2,seen P b.fn t++seen P b.fn Y,_,?_,H1.upd.trans g.upd,g.has,fun e he=>?_,?_⟩
 .have Z:(p==CallKind.early)=false:=by have:=hb.kind;cases p<;>simp_all
  have hs:∀e:Array Event,stepG P main (G (on b a (.code (.rangeFunc x params assign body)::k)) cs) w=GStep.after (seen P s t) (stepG.apply P true fr' cs none (do let m<-resolve fr'.eval {callee:=.value x,args:=#[.const (.func (.yield l) #[] #[])],argTypes:=#[]} 0;invoke m.target m.args) w1):=fun _=>by
   simp only[G,stepG,stepG.exec,on,b]
   rw[u]
   rfl
  show stepG P main (G (on b a (.code (.rangeFunc x params assign body)::k)) cs) w=_
  rw[hs #[]]
  unfold stepG.apply
  simp only[if_true,z]
  have ab:(fr'.kind==CallKind.early)=false:=Z
  simp only[ab,Bool.false_eq_true,if_false,GStep.after]
  rfl
 .rcases Array.mem_append.1 he with h|h
  .refine (H1.iX e (mem_seen h)).mono (fun _ x=>x) fun b hb=>hb.imp id fun y=>⟨y.1,Nat.lt_of_lt_of_le y.2 g.upd.size⟩
  .refine (g.iX e (mem_seen h)).mono (fun a ad=>ad) fun b hb=>?_
   rcases hb with hb|hb
   .rcases H1.upd.own b hb with x|x
    .exact .inl x
    .exact .inr ⟨x,Nat.lt_of_lt_of_le (H1.has.lt hb) g.upd.size⟩
   .exact .inr ⟨Nat.le_trans H1.upd.size hb.1,hb.2⟩
 .refine E b.fn d l hd hl fr' cs fun v F' ae=>?_
  obtain ⟨lo,A,al,f⟩:=ae
  have ao:fr'.finish v=on b {a with defers:=⟨.collected d,#[]⟩::a.defers} (.endRangeFunc l::k):=rfl
  rw[ao]
  have ar:bx P (Instr.endLoop l) (fun j o=>j=lo.pending/\o=F'.put l (.loop {lo with state:=.exhausted})) F':=by
   simp only[Instr.endLoop,Instr.getLoop,bG,oC]
   refine ⟨_,A,?_⟩
   have a0:¬(lo.state== .busy)=true:=by simpa using al
   simp only[bQ,bG,mQ,A,Option.isSome_some,Obj.isChan,true_and,dP,a0]
   all_goals first|trivial|exact ⟨rfl,rfl⟩
  refine hJ.step fun w hw=>?_
  obtain ⟨j,w',a5,es,H⟩:=lQ _ F' w #[] ar hw
  have B:=H.run
  rw[Array.empty_append] at B
  obtain ⟨rfl,rfl⟩:=H.post
  refine ⟨G (on b {a with defers:=⟨.collected d,#[]⟩::a.defers} ((lo.pending.map Item.code).toList++k)) cs,w',seen P b.fn es,_,?_,H.upd,H.has,fun e he=>H.iX e (mem_seen he),?_⟩
  .simp only[G,stepG,stepG.exec,on,B,GStep.after]
   simp
  .revert f
   cases lo.pending with
   |none=>exact fun f=>hk .normal _ _ f
   |some c=>
    intro f
    cases c<;>simp only[tw] at f<;>first
     |exact f.elim
     |exact hk (.exit _) _ _ f k rfl
     |exact hk .ret _ _ f k
end
def fS {H σ:Type}(step:σ->H->Option (Bool×σ)):List (Option H)->σ->Option (Bool×σ)
 |[],s=>some (true,s)
 |none::_,_=>none
 |some x::l,s=>match step s x with
  |some (true,s')=>fS step l s'
  |some (false,s')=>some (false,s')
  |none=>none
theorem BG {H σ:Type}(step:σ->H->Option (Bool×σ)):∀(l l':List (Option H)) (s:σ),fS step (l++l') s=match fS step l s with
  |some (true,s')=>fS step l' s'
  |some (false,s')=>some (false,s')
  |none=>none
 |[],l',s=>rfl
 |none::l,l',s=>rfl
 |some x::l,l',s=>by
  simp only[List.cons_append,fS]
  split<;>first|rfl|exact BG step l l' _
def jK {H σ ρ:Type}(f:H->σ->Option (Fl σ ρ)):List (Option H)->σ->Option (Fl σ ρ)
 |[],s=>some (.nx s)
 |none::_,_=>none
 |some x::l,s=>ai (f x s) fun o=>match o with
  | .nx s'=>jK f l s'
  | .bk s'=>some (.nx s')
  | .br k s'=>some (.br k s')
  | .rt _=>none
def w9 {H σ:Type}(P:Program)(y:Value)(enc:H->Value)(step:σ->H->Option (Bool×σ))(ro:Addr->Option Value)(I:σ->List (Nat×Obj)->Prop):Prop:=
 ∀s x b s',step s x=some (b,s')->∀(main:Bool) (J:Goroutine->af->Prop),Closed P main J->∀own,I s own->
  iq P J y #[enc x] ⟨ro,own⟩ (fun v F'=>∃a,Le ⟨ro,a⟩ F'/\v= .bool b/\I s' a)
def m9 {H:Type}(P:Program)(f:FuncId)(first cap:Array Value)(enc:H->Value)(L:List (Option H))(ro:Addr->Option Value):Prop:=
 aR P f=true/\∀(bf:Addr->Option Value),Ext ro bf->∀(σ:Type) (step:σ->H->Option (Bool×σ)) (I:σ->List (Nat×Obj)->Prop) (a:Fn) (c d:Array Value),w9 P (.func a c d) enc step bf I->
  ∀s b s',fS step L s=some (b,s')->∀(main:Bool) (J:Goroutine->af->Prop),Closed P main J->∀own,I s own->
   dx P J f (first++#[.func a c d]++cap) ⟨bf,own⟩ (fun _ F'=>∃e,Le ⟨bf,e⟩ F'/\I s' e)
theorem m9.mono {H:Type}{P:Program}{f:FuncId}{first cap:Array Value}{enc:H->Value}{L:List (Option H)}{ro a:Addr->Option Value}(h:m9 P f first cap enc L ro)(b:Ext ro a):m9 P f first cap enc L a:=
 ⟨h.1,fun bf c=>h.2 bf (b.trans c)⟩
def tA:Nat:=1000000000
def nc (k:Nat):Code:=if k=tA then .ret else .exit k
def xb (Q:Ex->Act->af->Prop)(k:Nat):Act->af->Prop:=if k=tA then Q .ret else Q (.exit k)
def BH {σ ρ:Type}(c:Nat)(ro:Addr->Option Value)(l d:Nat)(S:σ->List (Nat×Obj)->Prop)(lo:Loop)(b:Fl σ ρ)(v:Value)(F:af):Prop:=
 ∃a,Le ⟨ro,(l,.loop {lo with state:=(match b with| .nx _=>.ready|_=>.done),pending:=(match b with| .nx _=>none| .bk _=>some (nc c)| .br k _=>some (nc k)| .rt _=>none)})::(d,.deferred (some []))::a⟩ F/\
  match b with
  | .nx s'=>v= .bool true/\S s' a
  | .bk s'=>v= .bool false/\S s' a
  | .br _ s'=>v= .bool false/\S s' a
  | .rt _=>False
section
variable {P:Program}{main:Bool}{J:Goroutine->af->Prop}{a:Act}
theorem BI {H σ ρ:Type}{f:H->σ->Option (Fl σ ρ)}(a:Nat):∀(L:List (Option H)) (s:σ) (o:Fl σ ρ),jK f L s=some o->
  ∃b s' pend,fS (σ:=σ×Option Nat) (fun st x=>match st with
   |(s,none)=>match f x s with
    |some (.nx s')=>some (true,(s',none))
    |some (.bk s')=>some (false,(s',some a))
    |some (.br k s')=>some (false,(s',some k))
    |_=>none
   |_=>none) L (s,none)=some (b,(s',pend))/\((o= .nx s'/\(pend=none\/pend=some a))\/∃k,o= .br k s'/\pend=some k)
 |[],s,o,h=>by
  cases h
  exact ⟨true,s,none,rfl,.inl ⟨rfl,.inl rfl⟩⟩
 |none::L,s,o,h=>by cases h
 |some x::L,s,o,h=>by
  unfold jK at h
  obtain ⟨e,d,c⟩:=gH h
  cases e with
  |nx s'=>
   obtain ⟨b,s2,pend,g,i⟩:=BI a L s' o c
   refine ⟨b,s2,pend,?_,i⟩
   unfold fS
   simp only[d]
   exact g
  |bk s'=>
   cases c
   refine ⟨false,s',some a,?_,.inl ⟨rfl,.inr rfl⟩⟩
   unfold fS
   simp only[d]
  |br k s'=>
   cases c
   refine ⟨false,s',some k,?_,.inr ⟨k,rfl,rfl⟩⟩
   unfold fS
   simp only[d]
  |rt r=>cases c
theorem BJ {ro:Addr->Option Value}{l:Nat}{o:Obj}{own:List (Nat×Obj)}(a:Obj.qA o=false)(b:o.isChan=false):af.fR ⟨ro,(l,o)::own⟩ l=some o:=by
 simp[af.fR,lk,a,b]
def q5 (a:Act)(d:Nat):Act:={a with defers:=⟨.collected d,#[]⟩::a.defers}
theorem G9 (a:Act)(d i:Nat):slot (q5 a d) i=slot a i:=rfl
theorem He (a:Act)(d:Nat):sz (q5 a d)=sz a:=rfl
theorem Hf (a:Act)(d:Nat):(q5 a d).defers=⟨.collected d,#[]⟩::a.defers:=rfl
def ng (a:Act)(p:Tmp)(v:Value):Act:={tmps:=a.tmps.setIfInBounds p v,defers:=[]}
theorem oM (a:Act)(p:Tmp)(v:Value)(i:Nat):slot (ng a p v) i=slot (bB a (some p) v) i:=rfl
theorem xd (a:Act)(p:Tmp)(v:Value):sz (ng a p v)=sz a:=by simp[sz,ng]
theorem xe {H σ ρ:Type}(hJ:Closed P main J){x:Operand}{p:Tmp}{assign body:Code}{Q:Ex->Act->af->Prop}{fn:FuncId}{first captured:Array Value}{ro:Addr->Option Value}{own:List (Nat×Obj)}{g:Nat}
  (enc:H->Value) {L:List (Option H)} (U:ev a x= .func (.func fn) first captured) (K:m9 P fn first captured enc L ro)
  (V:gv assign=true) (W:gv body=true)
  (S:σ->List (Nat×Obj)->Prop) {f:H->σ->Option (Fl σ ρ)} {z:σ} {o:Fl σ ρ} (X:jK f L z=some o) (Y:S z own)
  (Z:∀(d l:Nat) (lo:Loop),lo.state= .ready->∀(s:σ) (y:H) (q:Fl σ ρ),f y s=some q->∀(main:Bool) (J:Goroutine->af->Prop),Closed P main J->∀own,S s own->
   Wp J assign (q4 J l body (BH g ro l d S lo q)) (ng a p (enc y)) ⟨ro,(l,.loop lo)::(d,.deferred (some []))::own⟩)
  (ab:¬g=tA)
  (hk:∀d l lo j s',S s' j->bg (keys ((l,.loop lo)::(d,.deferred (some []))::j))->aJ ro ((l,.loop lo)::(d,.deferred (some []))::j)->(o= .nx s'->Q .normal (q5 a d) ⟨ro,(l,.loop lo)::(d,.deferred (some []))::j⟩)/\
   (∀k,o= .br k s'->xb Q k (q5 a d) ⟨ro,(l,.loop lo)::(d,.deferred (some []))::j⟩))
  (ad:∀k s',o= .br k s'->¬k=g):Wp J (.block g (.rangeFunc x #[p] assign body)) Q a ⟨ro,own⟩:=by
 refine aW hJ (Wp.mono (Q:=fun e A F'=>match e with| .exit i=>if i=g then Q .normal A F' else Q (.exit i) A F'|e=>Q e A F') ?_ fun e a F h=>by cases e<;>exact h)
 obtain ⟨b,s',pend,ae,al⟩:=BI g L z o X
 refine G8 hJ U K.1 fun B d l hd hl=>?_
 let lo:Loop:=oL B a #[p] assign body d
 let n:Option Nat->Loop:=fun pend=>{lo with state:=(match pend with|none=>.ready|some _=>.done),pending:=pend.map nc}
 let I:σ×Option Nat->List (Nat×Obj)->Prop:=fun st ao=>∃bw,ao=(l,.loop (n st.2))::(d,.deferred (some []))::bw/\S st.1 bw
 have ar:w9 P (.func (.yield l) #[] #[]) enc (fun (st:σ×Option Nat) x=>match st with
   |(s,none)=>match f x s with
    |some (.nx s')=>some (true,(s',none))
    |some (.bk s')=>some (false,(s',some g))
    |some (.br k s')=>some (false,(s',some k))
    |_=>none
   |_=>none) ro I:=by
  rintro ⟨s,pend⟩ y ba ⟨s1,bb⟩ m a0 M N a2 ⟨bw,rfl,a3⟩
  cases pend with
  |some k=>cases m
  |none=>
   simp only at m
   refine ⟨rfl,rfl,lo,BJ rfl rfl,rfl,?_⟩
   cases C:f y s with
   |none=>rw[C] at m;cases m
   |some q=>
    have D:=j8.of_wp N (R:=BH g ro l d S lo q) (f:=B) V W (Z d l lo rfl s y q C a0 M N bw a3)
    rw[C] at m
    have a4:(lo.params.zip #[enc y]).foldl (fun tmps (t,a)=>tmps.setIfInBounds t a) lo.tmps=a.tmps.setIfInBounds p (enc y):=by simp[lo,oL]
    show j8 M l B ((lo.params.zip #[enc y]).foldl (fun tmps (t,a)=>tmps.setIfInBounds t a) lo.tmps) assign body _ _
    rw[a4]
    refine D.mono fun v F' E=>?_
    obtain ⟨j,hle,hm⟩:=E
    cases q with
    |nx s2=>
     simp only[Option.some.injEq,Prod.mk.injEq] at m
     obtain ⟨rfl,rfl,rfl⟩:=m
     exact ⟨_,hle,hm.1,j,rfl,hm.2⟩
    |bk s2=>
     simp only[Option.some.injEq,Prod.mk.injEq] at m
     obtain ⟨rfl,rfl,rfl⟩:=m
     exact ⟨_,hle,hm.1,j,rfl,hm.2⟩
    |br k s2=>
     simp only[Option.some.injEq,Prod.mk.injEq] at m
     obtain ⟨rfl,rfl,rfl⟩:=m
     exact ⟨_,hle,hm.1,j,rfl,hm.2⟩
    |rt r=>exact hm.elim
 have a5:=K.2 ro (Ext.refl ro) _ _ I _ _ _ ar (z,none) b (s',pend) ae main J hJ ((l,.loop lo)::(d,.deferred (some []))::own) ⟨own,rfl,Y⟩
 intro c cs hK
 refine a5 c cs fun v F' E=>?_
 obtain ⟨a2,hle,j,rfl,a6⟩:=E
 by_cases hw:∃w,Has F' w
 case neg=>exact hJ.step fun w a7=>absurd ⟨w,a7⟩ hw
 obtain ⟨w,hw⟩:=hw
 have O:=hle.has w hw
 refine hJ.mono hle (hK v _ ⟨n pend,BJ rfl rfl,?_,?_⟩)
 .cases pend<;>simp[n]
 .obtain ⟨T,a8⟩:=hk d l {n pend with state:=.exhausted} j s' a6 ⟨O.nodup⟩ (fun b hb off sp=>by
   cases D:ro ⟨b,off,sp⟩ with
   |none=>rfl
   |some v=>exact absurd hb (O.apart _ v D))
  have a9:af.put ⟨ro,(l,.loop (n pend))::(d,.deferred (some []))::j⟩ l (.loop {n pend with state:=.exhausted})=⟨ro,(l,.loop {n pend with state:=.exhausted})::(d,.deferred (some []))::j⟩:=by simp[af.put,jz]
  rw[a9]
  rcases al with ⟨rfl,rfl|rfl⟩|⟨k,rfl,rfl⟩
  .exact T rfl
  .show tw _ _ _ (some (nc g))
   have:nc g= .exit g:=if_neg ab
   rw[this]
   show (if g=g then Q .normal _ _ else Q (.exit g) _ _)
   rw[if_pos rfl]
   exact T rfl
  .have u:=a8 k rfl
   show tw _ _ _ (some (nc k))
   unfold xb at u
   unfold nc
   split
   .rename_i G
    rw[if_pos G] at u
    exact u
   .rename_i G
    rw[if_neg G] at u
    show (if k=g then Q .normal _ _ else Q (.exit k) _ _)
    rw[if_neg (ad k s' rfl)]
    exact u
theorem Hg {R:List Deferred->af->Prop}{r:Nat}{F:af}:bx P (Instr.takeDeferred r) R F=match F.fR r with
  |some (.deferred (some a))=>R a (F.put r (.deferred none))
  |_=>False:=by
 unfold Instr.takeDeferred
 rw[bG,oC]
 refine propext ⟨fun ⟨o,d,b⟩=>?_,fun h=>?_⟩
 .rw[d]
  cases o<;>first|exact (show False from b).elim|skip
  rename_i a
  cases a with
  |none=>exact (show False from b).elim
  |some a=>
   simp only[bG,mQ,bQ] at b
   exact b.2.2
 .split at h
  .rename_i a c
   refine ⟨_,c,?_⟩
   simp only[bG,mQ,bQ]
   exact ⟨rfl,by rw[c];rfl,h⟩
  .exact h.elim
theorem Hh (hJ:Closed P main J){y:Value}{args:Array Value}{ro:Addr->Option Value}{own:List (Nat×Obj)}{R:Value->List (Nat×Obj)->Prop}(pre:List (Nat×Obj))
  (h:∀(main:Bool) (J:Goroutine->af->Prop),Closed P main J->iq P J y args ⟨ro,own⟩ (fun v F'=>∃a,Le ⟨ro,a⟩ F'/\R v a)) (p:bg (keys (pre++own))) {K:Value->af->Prop}
  (hk:∀v a,R v a->bg (keys (pre++a))->K v ⟨ro,pre++a⟩):iq P J y args ⟨ro,pre++own⟩ K:=by
 have key:∀ko:Frame,(∀(main:Bool) (J:Goroutine->af->Prop),Closed P main J->tr J ko ⟨ro,own⟩ (fun v F'=>∃a,Le ⟨ro,a⟩ F'/\R v a))->tr J ko ⟨ro,pre++own⟩ K:=fun ko d=>
  Bx hJ pre [] av R (fun m e f c cs hK=>d m e f c cs fun v F' s=>hK v F' (by obtain ⟨o,b,g⟩:=s;exact ⟨o,g,b⟩)) fun v t u a k i=>by
   rw[List.append_nil] at k
   subst k
   exact ⟨_,Le.refl _,hk v t u i⟩
 have d:=h main J hJ
 unfold iq at d ⊢
 split at d
 .rename_i fn first captured
  refine ⟨d.1,key _ fun m e f=>?_⟩
  have:=h m e f
  unfold iq at this
  exact this.2
 .rename_i l first captured
  obtain ⟨e1,e2,r,b,g,_⟩:=d
  refine ⟨e1,e2,r,?_,g,key _ fun m e f=>?_⟩
  .have hm:l∈keys own:=by
    unfold af.fR at b
    split at b
    .rename_i o w;exact fJ (iF w)
    .cases b
   have i:l∉keys pre:=fun x=>by
    have:=p.nd
    rw[cI] at this
    exact (List.nodup_append.1 this).2.2 l x l hm rfl
   have hl:∀(pre:List (Nat×Obj)),l∉keys pre->lk (pre++own) l=lk own l:=fun pre=>by
    induction pre with
    |nil=>intro _;rfl
    |cons q pre ih=>
     intro j
     simp only[keys,List.map_cons,List.mem_cons,not_or] at j
     simp only[List.cons_append,lk,if_neg (Ne.symm j.1)]
     exact ih j.2
   unfold af.fR at b ⊢
   simp only at b ⊢
   rw[hl pre i]
   exact b
  .have:=h m e f
   unfold iq at this
   obtain ⟨_,_,A,n,B,z⟩:=this
   rw[b] at n
   cases n
   exact z
 .exact d.elim
theorem dx.less (hJ:Closed P main J){f:FuncId}{args:Array Value}{F:af}{R:Value->af->Prop}(h:dx P J f args F (fun v F'=>∃F0,Le F0 F'/\R v F0)):dx P J f args F R:=
 fun c cs hK=>h c cs fun v F' ⟨F0,hle,a⟩=>hJ.mono hle (hK v F0 a)
def BK (P:Program)(rs:List ResultVar)(R:Value->af->Prop):Ex->Act->af->Prop
 | .exit _,_,_=>False
 |_,a,F=>iY P a.defers (fun F=>match m0 P F a rs with|some v=>R v F|none=>False) F
theorem BL {K b:af->Prop}(h:∀F,K F->b F):∀(a:List Deferred) (F:af),iY P a K F->iY P a b F
 |[],F,x=>h F x
 |d::a,F,⟨r,e,f⟩=>⟨r,e,iI (fun calls F' c=>⟨c.1,BL h a F' c.2⟩) _ _ f⟩
theorem aI.xg {f:FuncId}{fn:Func}{c:Code}{n:Nat}{rs:List ResultVar}{args:Array Value}{F:af}{R:Value->af->Prop}(g:P.funcs[f]?=some fn)(hb:fn.body=some c)(j:fn.ntmps=n)(k:fn.results=rs.toArray)(l:args.size<=n)
  (h:∀main J,Closed P main J->∀A:Act,sz A=n->A.defers=[]->(∀i,slot A i=args.getD i undef)->Wp J c (BK P rs R) A F):aI P f args F R:=
 aI.start g hb j l fun main J hJ A m o p=>(h main J hJ A m o p).mono fun e a F b=>by
  have key:iY P a.defers (fun F=>match m0 P F a rs with|some v=>R v F|none=>False) F->iY P a.defers (fun F=>bx P (results fn a.tmps) R F) F:=BL (fun F d=>by
   split at d
   .rename_i v q;exact s7 k q d
   .exact d.elim) _ _
  cases e with
  |exit i=>exact b
  |normal=>exact key b
  |ret=>exact key b
theorem dx.go (hJ:Closed P main J){f:FuncId}{fn:Func}{c:Code}{n:Nat}{rs:List ResultVar}{args:Array Value}{F:af}{R:Value->af->Prop}(j:P.funcs[f]?=some fn)(hb:fn.body=some c)(d:fn.ntmps=n)(k:fn.results=rs.toArray)(m:args.size<=n)
  (h:∀A:Act,sz A=n->A.defers=[]->(∀i,slot A i=args.getD i undef)->Wp J c (jE P rs R) A F):dx P J f args F R:=by
 refine dx.of_wp hJ j hb ?_
 refine (h _ (by simp[sz,d];omega) rfl fun i=>?_).mono fun e a F g=>?_
 .simp only[slot,d,Array.getD_eq_getD_getElem?]
  rcases Nat.lt_or_ge i args.size with hi|hi
  .rw[Array.getElem?_append_left hi]
  .rw[Array.getElem?_append_right hi,Array.getElem?_replicate,Array.getElem?_eq_none hi]
   split<;>rfl
 .cases e with
  |exit i=>exact g
  |_=>
   obtain ⟨hd,b⟩:=g
   split at b
   .rename_i v l
    show iY P a.defers _ F
    rw[hd]
    exact s7 k l b
   .exact b.elim
theorem Hi {d:Nat}{X:Nat->Prop}:(∃r,Target.collected d=Target.collected r/\X r)=X d:=propext ⟨fun ⟨r,a,b⟩=>by cases a;exact b,fun h=>⟨d,rfl,h⟩⟩
attribute [go_sem] Hi G9 He Hf BK Hg af.fR Obj.qA Obj.isChan
end
section
variable {P:Program}
theorem BM {argTypes:Array TypeId}{t e ty:TypeId}{R:Value->af->Prop}{F:af}{ad:Option Addr}{n c:Nat}(ht:argTypes[0]?=some t)(hu:P.underlying t=some (.slice e))(h:R (.int .i64 c) F):fK P (Builtin.cap_ argTypes ty #[.slice ad n c]) R F:=by
 unfold fK;simp only[Builtin.cap_,ht,List.getElem?_toArray,List.getElem?_cons_zero,bG,dR,hu,bQ];exact h
theorem Hj (z:Value)(n:Nat):(Builtin.zeroCells #[z] n).toList=List.replicate n z:=by
 simp only[Builtin.zeroCells,List.size_toArray,List.length_cons,List.length_nil,Nat.zero_add,Nat.mul_one,Nat.mod_one];rw[Array.toList_map,Array.toList_range];apply List.ext_getElem
 .simp
 .intro i a b;simp
theorem Hl {ro:Addr->Option Value}{pre bE:List (Nat×Obj)}{argTypes:Array TypeId}{t e ty:TypeId}{R:Value->af->Prop}{b off n c:Nat}{arr:Array Value}{z zc:Value}(ht:argTypes[0]?=some t)(hu:P.underlying t=some (.slice e))(a:zeroOf P e=some z)(d:z.cells=#[zc])(f:bU zc=true)
  (l:0<n) (g:ax pre b) (i:off+n<=arr.size)
  (h:R (.tuple #[]) ⟨ro,pre++((b,.cells (c9 arr off (List.replicate n zc)) e)::bE)⟩):
  fK P (Builtin.clear_ argTypes ty #[.slice (some ⟨b,off,none⟩) n c]) R ⟨ro,pre++((b,.cells arr e)::bE)⟩:=by
 unfold fK
 have m:n≠0:=aa
 obtain ⟨k,rfl⟩:∃k,n=k+1:=⟨n - 1,aa⟩
 simp only[Builtin.clear_,ht,List.getElem?_toArray,List.getElem?_cons_zero,bG,dR,hu,mR,a,d]
 refine sS _ _ 0 _ ⟨ro,pre++((b,.cells (c9 arr off (List.replicate (k+1) zc)) e)::bE)⟩ ?_ ?_
 .rw[Hj]
  have:=wX (ro:=ro) (bE:=bE) (e:=e) g off (List.replicate (k+1) zc) arr 0 (fun v j=>by rw[List.eq_of_mem_replicate j];exact f) (by simpa using i)
  simpa using this
 .simp only[bQ]
  exact h
end
theorem aZ.BN {T:Type}{r:cz T}{ro:Addr->Option Value}{e:TypeId}{v:Value}{l:List T}{bw:List (Nat×Obj)}(h:aZ r ro e v l bw){own:List (Nat×Obj)}(pre bE:List (Nat×Obj))(d:own=pre++(bw++bE))(f:bg (keys own)):aH r (af.cO ⟨ro,own⟩).ro v l:=by
 subst d;obtain ⟨ls,hg,hl,hm,g⟩:=h;rcases hg with ⟨rfl,rfl,rfl⟩|⟨b,arr,cap,rfl,rfl,hs,hle,ht,c,k⟩
 .have:l=[]:=List.eq_nil_of_length_eq_zero (by simpa using hl.symm);subst this;exact aH.nil r _
 .have m:ax pre b:=Nd.fresh f.nd b (by simp[keys]);refine ⟨some ⟨b,0,none⟩,cap,by rw[hl],aa,aa,fun i x hi=>?_⟩;obtain ⟨cs,o,p⟩:=g i x hi;refine ⟨_,cs,rfl,r.mono bq p,fun j v q=>?_⟩;have a:=qU ls i cs c o j v q;rw[lU,lV,Nat.zero_add];have s:i*r.n+j<ls.length*r.n:=by
   have:=(List.getElem?_eq_some_iff.1 a).1;rw[iZ c] at this;exact this
  rw[<-ht,List.getElem?_take_of_lt s] at a;show af.get ⟨ro,pre++([(b,Obj.cells arr e)]++bE)⟩ ⟨b,i*r.n+j,none⟩=some v;simp only[af.get,k,if_true,List.cons_append,List.nil_append,tq m,Option.bind_some,cellOf];simpa using a
theorem aH.two {T:Type}{r:cz T}{ro:Addr->Option Value}{own:List (Nat×Obj)}{b:Nat}{x y:T}{v u:Value}{e:TypeId}(c:∀off sp,ro ⟨b,off,sp⟩=none)(hl:lk own b=some (.cells #[v,u] e))(d:r.n=1)(h:r.rel ro x [v])(k:r.rel ro y [u]):
  aH r (b9 ro b (.cells #[v,u] e)) (.slice (some ⟨b,0,none⟩) 2 2) [x,y]:=by
 refine ⟨some ⟨b,0,none⟩,2,rfl,Nat.le_refl _,av,fun i z hi=>?_⟩
 have:(i=0/\z=x)\/(i=1/\z=y):=by
  cases i with
  |zero=>simp at hi;exact .inl ⟨rfl,hi.symm⟩
  |succ i=>cases i with
   |zero=>simp at hi;exact .inr ⟨rfl,hi.symm⟩
   |succ i=>simp at hi
 rcases this with ⟨rfl,rfl⟩|⟨rfl,rfl⟩
 .refine ⟨_,_,rfl,r.mono (gY _ _ _) h,fun j w a=>?_⟩
  cases j with
  |zero=>
   rw[Nat.zero_mul,add_zero',lV,Nat.zero_add,jH c]
   simpa [cellOf] using a
  |succ j=>simp at a
 .refine ⟨_,_,rfl,r.mono (gY _ _ _) k,fun j w a=>?_⟩
  cases j with
  |zero=>
   rw[d,lU,lV,jH c]
   simpa [cellOf] using a
  |succ j=>simp at a
theorem aZ.clear {ro:Addr->Option Value}{e:TypeId}{b n cap k:Nat}{x:List Int}{arr:Array Value}(h:aZ rI ro e (.slice (some ⟨b,0,none⟩) n cap) x [(b,.cells arr e)])(hk:k<=x.length):
  aZ rI ro e (.slice (some ⟨b,0,none⟩) k cap) (x.take k) [(b,.cells (c9 arr k (List.replicate (n - k) (.int .i64 0))) e)]:=by
 obtain ⟨ls,hg,hl,hm,l⟩:=h
 rcases hg with ⟨a,_,_⟩|⟨t,u,m,a,o,hs,hle,ht,f,p⟩
 .cases a
 .cases o
  obtain ⟨rfl,rfl⟩:n=ls.length/\cap=m:=by cases a;exact ⟨rfl,rfl⟩
  have d:rI.n=1:=rfl
  rw[d] at hs ht f
  simp only[Nat.mul_one] at hs ht
  have c:(ls.take k).length=k:=by rw[List.length_take];omega
  refine ⟨ls.take k,.inr ⟨b,_,cap,by rw[c],rfl,by rw[s0];rw[d,Nat.mul_one];exact hs,by rw[c];omega,?_,?_,p⟩,by rw[c,List.length_take];omega,by rw[List.length_take];omega,?_⟩
  .rw[s3 _ _ _ (by simp;omega),c,d,Nat.mul_one,List.append_assoc,List.take_append_of_le_length (by rw[List.length_take,Array.length_toList];omega),List.take_take,Nat.min_self]
   have e1:arr.toList.take k=(arr.toList.take ls.length).take k:=by rw[List.take_take,Nat.min_eq_left aa]
   rw[e1,ht]
   have e2:ls.flatten=(ls.take k).flatten++(ls.drop k).flatten:=by rw[<-List.flatten_append,List.take_append_drop]
   have j:(ls.take k).flatten.length=k:=by rw[iZ (size:=1) (fun z g=>f z (List.mem_of_mem_take g)),c,Nat.mul_one]
   rw[e2,List.take_append_of_le_length (Nat.le_of_eq j.symm),List.take_of_length_le (Nat.le_of_eq j)]
  .intro z g
   rw[d];exact f z (List.mem_of_mem_take g)
  .intro i v a
   obtain ⟨hi,q⟩:i<k/\x[i]?=some v:=by
    rw[List.getElem?_take] at a
    split at a
    .exact ⟨‹_›,a⟩
    .cases a
   obtain ⟨cs,r,s⟩:=l i v q
   exact ⟨cs,by rw[List.getElem?_take,if_pos hi];exact r,s⟩
section
variable {P:Program}
theorem Ho {t:TypeId}{R:Value->af->Prop}{F:af}(h:∀b,eD F b->R (.map (some b)) (F.push b (.map #[] 0))):fK P (Instr.makeMap t none) R F:=by
 unfold fK;simp only[Instr.makeMap,bG,qE,bQ];exact ⟨rfl,h⟩
theorem Hp {argTypes:Array TypeId}{t a b ty:TypeId}{r:Nat}{es:Array MapEntry}{clock:Nat}{R:Value->af->Prop}{F:af}(ht:argTypes[0]?=some t)(hu:P.underlying t=some (.map a b))(c:F.fR r=some (.map es clock))(h:R (.int .i64 (es.size:Int)) F):
  fK P (Builtin.len_ argTypes ty #[.map (some r)]) R F:=by
 unfold fK
 simp only[Builtin.len_,ht,List.getElem?_toArray,List.getElem?_cons_zero,bG,dR,hu,oC]
 exact ⟨_,c,h⟩
theorem BO {d:TypeId}{key:Value}{F:af}{Q:Option (Nat×Value)->af->Prop}:∀(l:List MapEntry) (i:Nat),
  (∀e∈l,∃b,(∀(Q:Bool->af->Prop),Q b F->bx P (Op.equal d key e.key) Q F)/\(b=true↔e.key=key))->
  (∀j e,l[j]?=some e->e.key=key->Q (some (i+j,e.val)) F)->((∀e∈l,¬e.key=key)->Q none F)->bx P (Instr.findAsking d key l i) Q F
 |[],i,_,_,a=>a av
 |e::l,i,hk,f,a=>by
  obtain ⟨b,hb,g⟩:=hk e av
  simp only[Instr.findAsking,bG]
  refine hb _ ?_
  cases b with
  |true=>exact f 0 e rfl (g.1 rfl)
  |false=>
   have aO:¬e.key=key:=fun x=>by have:=g.2 x;cases this
   refine BO l (i+1) (fun x c=>hk x (by simp[c])) (fun j x c he=>?_) (fun hl=>a (by simpa [aO] using hl))
   have:=f (j+1) x (by simpa using c) he
   rwa [show i+1+j=i+(j+1) by omega]
theorem modify_keys {es:Array MapEntry}{i:Nat}{key val:Value}{e:MapEntry}(hi:es[i]?=some e)(he:e.key=key):(es.modify i fun e=>{e with key:=key,val:=val}).toList.map (·.key)=es.toList.map (·.key):=by
 apply List.ext_getElem?;intro j;simp only[List.getElem?_map,Array.toList_modify,List.getElem?_modify];by_cases a:i=j
 .subst a;have:es.toList[i]?=some e:=by simpa using hi
  simp[this,he]
 .simp[a]
theorem Hq {t c p f n:TypeId}{r:Nat}{es:Array MapEntry}{clock:Nat}{key val:Value}{R:Value->af->Prop}{F:af}(hu:P.underlying t=some (.map c p))(g:F.fR r=some (.map es clock))
  (q:∀Q:Unit->af->Prop,Q () F->bx P (Instr.checkKey false 10000 c key) Q F) (s:P.underlying c=some (.array n f))
  (u:∀e∈es.toList,∃b,(∀(Q:Bool->af->Prop),Q b F->bx P (Op.equal c key e.key) Q F)/\(b=true↔e.key=key))
  (h:∀d v,((key∈es.toList.map (·.key)/\d.toList.map (·.key)=es.toList.map (·.key))\/(key∉es.toList.map (·.key)/\d.toList.map (·.key)=es.toList.map (·.key)++[key]))->R undef (F.put r (.map d v))):
  fK P (Instr.mapUpdate t (.map (some r)) key val>>= fun _=>pure undef) R F:=by
 unfold fK
 simp only[Instr.mapUpdate,bG,dR,hu,oC]
 refine ⟨_,g,?_⟩
 simp only[bG]
 refine q _ ?_
 have k:(F.fR r).isSome=true:=by rw[g];rfl
 have step:bx P (Instr.findAsking c key es.toList) (fun a G=>bx P (match a with
   |some (i,_)=>do
    let key<-Instr.keyThatStays (((es[i]?).map (·.key)).getD key) key
    setObj r (.map (es.modify i fun e=>{e with key,val}) clock)
   |none=>setObj r (.map (es.push {key,val,born:=clock}) (clock+1))) (fun _ G=>bx P (pure undef) R G) G) F:=by
  refine BO _ 0 u (fun j e m he=>?_) (fun w=>?_)
  .simp only[Nat.zero_add,bG]
   have o:es[j]?=some e:=by simpa using m
   rw[o]
   simp only[Option.map_some,Option.getD_some,he]
   have fin:bx P (setObj r (.map (es.modify j fun e=>{e with key:=key,val:=val}) clock)) (fun _ G=>bx P (pure undef) R G) F:=by
    simp only[mQ,bQ]
    refine ⟨rfl,k,h _ _ (.inl ⟨?_,modify_keys o he⟩)⟩
    rw[<-he]
    exact List.mem_map_of_mem (List.mem_of_getElem? m)
   unfold Instr.keyThatStays
   rw[dP]
   split
   .exact fin
   .simp only[bG,vY]
    split
    .simp only[bQ,ite_self];exact fin
    .intro t;simp only[bQ,ite_self];exact fin
  .simp only[mQ,bQ]
   refine ⟨rfl,k,h _ _ (.inr ⟨?_,av⟩)⟩
   intro hm
   obtain ⟨e,he,hk⟩:=List.mem_map.1 hm
   exact w e he hk
 unfold Instr.findKey
 simp only[bG,dR,s]
 cases hl:es.toList with
 |nil=>
  rw[hl] at step
  exact step
 |cons e l=>
  have:Instr.findNow (.array n f) key (e::l) 0=none:=rfl
  rw[this]
  rw[hl] at step
  exact step
end
theorem bS {α β:Type}{x:Option α}{f:α->Option β}{r:β}{G:Prop}(k:∀a,x=some a->f a=some r->G)(h:ai x f=some r):G:=by
 obtain ⟨a,b,c⟩:=gH h;exact k a b c
def bN:Code->Code
 | .seq _ b=>b
 |c=>c
theorem sI {α:Type}{x r:α}(h:some x=some r):x=r:=Option.some.inj h
theorem aA {ro:Addr->Option Value}{own:List (Nat×Obj)}{G:Nat->Prop}(h:∀b,(∀off sp,ro ⟨b,off,sp⟩=none)->ax own b->G b):∀b,eD ⟨ro,own⟩ b->G b:=fun b f=>h b (fA f) (gx f)
theorem bt:(∀(ro:Addr->Option Value) (b:Nat) (o:Obj) (l:List (Nat×Obj)),aJ ro ((b,o)::l)=((∀off sp,ro ⟨b,off,sp⟩=none)/\aJ ro l))/\(∀l:List (Nat×Obj),[]++l=l)/\(∀l:List (Nat×Obj),l++[]=l)/\
  (∀(x:Nat×Obj) (l m:List (Nat×Obj)),x::l++m=x::(l++m))/\∀l m n:List (Nat×Obj),l++m++n=l++(m++n):=
 ⟨fun _ _ _ _=>propext ⟨fun h=>⟨h.hd,h.tl⟩,fun h=>aJ.cons h.1 h.2⟩,fun _=>rfl,List.append_nil,fun _ _ _=>rfl,List.append_assoc⟩
theorem aH.el {T:Type}{r:cz T}{ro:Addr->Option Value}{ad:Option Addr}{n cap:Nat}{l:List T}(h:aH r ro (.slice ad n cap) l):
  ∀i x,l[i]?=some x->∃p cs,ad=some p/\r.rel ro x cs/\∀j v,cs[j]?=some v->ro ((p.add (i*r.n)).add j)=some v:=by
 obtain ⟨a,b,e,_,_,h⟩:=h
 cases e
 exact h
theorem bg.tl {b:Nat}{ks:List Nat}(h:bg (b::ks)):bg ks:=⟨(List.nodup_cons.1 h.nd).2⟩
theorem bg.cut {l:List (Nat×Obj)}(h:bg (keys l))(i n:Nat):bg (keys (l.take i++l.drop (i+n))):=
 ⟨(((List.Sublist.append_left (show (l.drop (i+n)).Sublist (l.drop i) by rw[<-List.drop_drop];exact List.drop_sublist _ _) (l.take i)).trans (by rw[List.take_append_drop];exact List.Sublist.refl _)).map _).nodup h.nd⟩
theorem aZ.dU {T:Type}{r:cz T}{ro:Addr->Option Value}{e:TypeId}{v:Value}{l:List T}{bw:List (Nat×Obj)}(h:aZ r ro e v l bw){own:List (Nat×Obj)}(pre bE:List (Nat×Obj))(a:bg (keys own))(b:aJ ro (pre++bE))
  (c:own=pre++(bw++bE):=by first|rfl|simp only[aY]|(simp only[aY];rfl)):
  ∃bf,Ext ro bf/\aJ bf (pre++bE)/\aH r bf v l/\Le ⟨bf,pre++bE⟩ ⟨ro,own⟩:=h.l8 _ pre bE c rfl a b
theorem aH.oc {T:Type}{r:cz T}{ro:Addr->Option Value}{s:Value}{l:List T}(h:aH r ro s l):bU s=true:=by
 obtain ⟨_,_,e,_⟩:=h;rw[e];rfl
theorem Hr {p:Nat->Prop}{a:Nat}{l:List Nat}:(∀i,i∈a::l->p i)=(p a/\∀i,i∈l->p i):=propext List.forall_mem_cons
theorem Hs {p:Nat->Prop}:(∀i,i∈([]:List Nat)->p i)=True:=propext ⟨fun _=>trivial,fun _ _ h=>(by cases h)⟩
section
variable {P:Program}{main:Bool}{J:Goroutine->af->Prop}{Q:Ex->Act->af->Prop}{a:Act}{F:af}
theorem cc (hJ:Closed P main J){f:FuncId}{args:Array Value}{ro:Addr->Option Value}{own:List (Nat×Obj)}{K:Value->af->Prop}(R:Value->(Addr->Option Value)->Prop)(h:eH P f args ro R)
  (hk:∀v bf,Ext ro bf->aJ bf own->R v bf->K v ⟨bf,own⟩):dx P J f args ⟨ro,own⟩ K:=wJ hJ R h hk
theorem oN {Φ:Goroutine->af->Prop}{f:FuncId}{args:Array Value}{ro:Addr->Option Value}{own:List (Nat×Obj)}{K:Value->af->Prop}(R:Value->(Addr->Option Value)->Prop)(h:qX P f args ro R)
  (hk:∀v bf,Ext ro bf->aJ bf own->R v bf->K v ⟨bf,own⟩):dx P (eR P Φ) f args ⟨ro,own⟩ K:=Gl R h hk
theorem cS {α:Type}{b:Bool}{e1 e2:Option α}{r:α}{G:Prop}(c:b=true->e1=some r->G)(d:b=false->e2=some r->G)(h:cond b e1 e2=some r):G:=by
 rcases jI h with ⟨a,b⟩|⟨a,b⟩
 .exact c a b
 .exact d a b
theorem jC {α:Type}(hJ:Closed P main J){c:Operand}{x y:Code}{b:Bool}{e1 e2:Option α}{r:α}(d:ev a c= .bool b)(f:b=true->e1=some r->Wp J x Q a F)(g:b=false->e2=some r->Wp J y Q a F)(h:cond b e1 e2=some r):Wp J (.cond c x y) Q a F:=by
 refine F9 hJ b d (fun e=>f e ?_) fun e=>g e ?_
 .rw[e] at h;exact h
 .rw[e] at h;exact h
theorem cW (hJ:Closed P main J){c:Operand}{x y:Code}(h:Wp J x Q a F)(b:ev a c= .bool true:=by simp (maxSteps:=9^9) only[*,go_sem]):Wp J (.cond c x y) Q a F:=eF hJ b h
theorem cJ (hJ:Closed P main J){c:Operand}{x y:Code}(h:Wp J y Q a F)(b:ev a c= .bool false:=by simp (maxSteps:=9^9) only[*,go_sem]):Wp J (.cond c x y) Q a F:=ew hJ b h
theorem aV {α:Type}(hJ:Closed P main J){c:Operand}{x y:Code}{b:Bool}{e1 e2:Option α}{r:α}(d:b=true->e1=some r->Wp J x Q a F)(e:b=false->e2=some r->Wp J y Q a F)(f:ev a c= .bool b:=by simp (maxSteps:=9^9) only[*,go_sem]):cond b e1 e2=some r->Wp J (.cond c x y) Q a F:=jC hJ f d e
structure xh (Q:Ex->Act->af->Prop)(K:Act->af->Prop):Prop where
 go:∀{a F},Q .normal a F->K a F
theorem c5 (hJ:Closed P main J)(b:P.follows .mixedOrders=true)(m n:Nat){id:Nat}{ops:Array Oper}(c:Knows ⟨F.ro,F.own.take n⟩ F)(d:oI ops m=true)
  (h:eP P J ops ⟨F.ro,F.own.take n⟩ (fun e=>fB P J ops ⟨F.ro,F.own.take n⟩ (Q .normal) (ops.toList.drop m) true e F) (ops.toList.take m) true a):Wp J (.region id ops true) Q a F:=eE hJ b m _ c d h
theorem q6 (hJ:Closed P main J)(b:P.follows .mixedOrders=true)(m n:Nat){id:Nat}{ops:Array Oper}(c:Knows ⟨F.ro,F.own.take n⟩ F)(d:oI ops m=true)
  (h:∀K,xh Q K->eP P J ops ⟨F.ro,F.own.take n⟩ (fun e=>fB P J ops ⟨F.ro,F.own.take n⟩ K (ops.toList.drop m) true e F) (ops.toList.take m) true a):Wp J (.region id ops true) Q a F:=eE hJ b m _ c d (h _ ⟨fun h=>h⟩)
theorem e4 (hJ:Closed P main J){id:Nat}{ops:Array Oper}(h:∀K,xh Q K->fL P J ops K ops.toList true a F):Wp J (.region id ops false) Q a F:=aQ hJ (h _ ⟨fun h=>h⟩)
theorem k9 (hJ:Closed P main J)(b:P.follows .mixedOrders=true)(cr:List Nat)(p:cG){id:Nat}{ops:Array Oper}(F0:af)(c:Knows F0 F)
  (d:(Region.noSelect ops&&decide (p.len<=ops.size)&&p.ok ops cr (Array.replicate ops.size false))=true)
  (h:∀K,xh Q K->cC P J ops F0 K (p.opers ops) true a F):Wp J (.region id ops true) Q a F:=fC hJ b cr p F0 c d (h _ ⟨fun h=>h⟩)
theorem fM {c:Code}(L:List Nat){a:Act}(h:∀A,sz A=sz a->A.defers=a.defers->(∀i∈L,slot A i=slot a i)->Wp J c Q A F):Wp J c Q a F:=h a rfl rfl fun _ _=>rfl
theorem cF.pick {ws:List Nat}{A a:Act}(h:cF ws A a)(L:List Nat)(hL:(L.all fun i=>!iJ ws i)=true):sz A=sz a/\A.defers=a.defers/\∀i∈L,slot A i=slot a i:=
 ⟨h.size,h.defers,fun i hi=>h.ga i fun x=>by
  have b:=List.all_eq_true.1 hL i hi
  have c:iJ ws i=true:=by
   unfold In at x
   exact x
  simp[c] at b⟩
theorem dj {T:Type}{r:cz T}{ro:Addr->Option Value}{bw:List (Nat×Obj)}{R:Value->af->Prop}{argTypes:Array TypeId}{d f e h e2:TypeId}{a b:Nat}{s z:Value}{l:List T}{x:T}{cs:Array Value}{own:List (Nat×Obj)}(pre bE:List (Nat×Obj))
  (hg:aZ r ro e s l bw) (i:bg (keys own)) (j:l.length+[x].length<=1000000) (k:r.rel ro x cs.toList) (m:lk pre b=some (.cells cs e2)) (o:∀off sp,ro ⟨b,off,sp⟩=none)
  (p:argTypes[0]?=some d) (q:argTypes[1]?=some f) (he:dF P d=some e) (t:dF P f=some h) (hs:cv P e=some r.n) (u:zeroOf P e=some z) (w:z.cells.size=r.n) (hb:bytesOf P e=some a)
  (y:0<a) (A:a<=10000)
  (B:∀v g,aZ r ro e v (l++[x]) g->∀c,c=pre++(g++bE)->bg (keys c)->∃F0,Le F0 ⟨ro,c⟩/\R v F0)
  (C:own=pre++(bw++bE):=by first|rfl|simp only[aY]|(simp only[aY];rfl)):mY P argTypes s (.slice (some ⟨b,0,none⟩) 1 1) R ⟨ro,own⟩:=
 Bw pre bE C hg i j k m o p q he t hs u w hb y A B
theorem l9 {T:Type}{r:cz T}{ro:Addr->Option Value}{bw:List (Nat×Obj)}{R:Value->af->Prop}{argTypes:Array TypeId}{d f e h:TypeId}{a c:Nat}{ad:Option Addr}{s z:Value}{l xs:List T}{own:List (Nat×Obj)}(pre bE:List (Nat×Obj))
  (hg:aZ r ro e s l bw) (i:bg (keys own)) (j:l.length+xs.length<=1000000) (k:aH r ro (.slice ad xs.length c) xs)
  (m:argTypes[0]?=some d) (o:argTypes[1]?=some f) (he:dF P d=some e) (p:dF P f=some h) (hs:cv P e=some r.n) (q:zeroOf P e=some z) (t:z.cells.size=r.n) (hb:bytesOf P e=some a)
  (u:0<a) (w:a<=10000)
  (x:∀v g,aZ r ro e v (l++xs) g->∀b,b=pre++(g++bE)->bg (keys b)->∃F0,Le F0 ⟨ro,b⟩/\R v F0)
  (y:own=pre++(bw++bE):=by first|rfl|simp only[aY]|(simp only[aY];rfl)):mY P argTypes s (.slice ad xs.length c) R ⟨ro,own⟩:=
 GY pre bE y hg i j k m o he p hs q t hb u w x
theorem ey (hJ:Closed P main J){f:FuncId}{args:Array Value}{ro:Addr->Option Value}{bw:List (Nat×Obj)}{K:Value->af->Prop}{own:List (Nat×Obj)}(pre bE:List (Nat×Obj))(R:Value->List (Nat×Obj)->Prop)(h:aI P f args ⟨ro,bw⟩ (fun v G=>∃a,R v a/\Le ⟨ro,a⟩ G))
  (hk:∀v a,R v a->∀b,b=pre++(a++bE)->bg (keys b)->∃F0,Le F0 ⟨ro,b⟩/\K v F0)
  (c:own=pre++(bw++bE):=by first|rfl|simp only[aY]|(simp only[aY];rfl)):dx P J f args ⟨ro,own⟩ K:=GZ hJ pre bE c R h hk
end
end Go.Sep
end
section
namespace Go.Proofs.YtbpddfapodiemaaGreatDoor
open Go Go.Sep Go.Proofs
set_option maxRecDepth 100000
attribute [go_sem] aH.nil
theorem tB:rI.n=1:=rfl
theorem xj:rB.n=1:=rfl
theorem Ht {T:Type}(r:cz T):(rL r).n=1:=rfl
attribute [go_sem] tB xj Ht
structure au where
 num:Int
 den:Int
 deriving DecidableEq
def au.v (x:au):Value:=.agg #[.int .i64 x.num,.int .i64 x.den]
def au.cells (x:au):List Value:=[.int .i64 x.num,.int .i64 x.den]
def mb:cz au:=jc 2 au.cells (fun _=>rfl) (fun _ v a=>by simp only[au.cells,List.mem_cons,List.not_mem_nil,or_false] at a;rcases a with rfl|rfl<;>rfl)
theorem Hu:mb.n=2:=rfl
attribute [go_sem] au.v au.cells Hu
structure cj where
 aU:Int
 high:Int
 deriving DecidableEq
def cj.cells (x:cj):List Value:=[.int .i64 x.aU,.int .i64 x.high]
def fT:cz cj:=jc 2 cj.cells (fun _=>rfl) (fun _ v a=>by simp only[cj.cells,List.mem_cons,List.not_mem_nil,or_false] at a;rcases a with rfl|rfl<;>rfl)
theorem Hv:fT.n=2:=rfl
attribute [go_sem] cj.cells Hv
structure cm where
 place:Int
 dK:Int
 deriving DecidableEq
def cm.cells (x:cm):List Value:=[.int .i64 x.place,.int .i64 x.dK]
def fe:cz cm:=jc 2 cm.cells (fun _=>rfl) (fun _ v a=>by simp only[cm.cells,List.mem_cons,List.not_mem_nil,or_false] at a;rcases a with rfl|rfl<;>rfl)
theorem Hw:fe.n=2:=rfl
attribute [go_sem] cm.cells Hw
structure dI where
 low:Int
 high:Int
 deriving DecidableEq
def dI.v (x:dI):Value:=.agg #[.int .i64 x.low,.int .i64 x.high]
def dI.cells (x:dI):List Value:=[.int .i64 x.low,.int .i64 x.high]
def Hx:cz dI:=jc 2 dI.cells (fun _=>rfl) (fun _ v a=>by simp only[dI.cells,List.mem_cons,List.not_mem_nil,or_false] at a;rcases a with rfl|rfl<;>rfl)
theorem Hy:Hx.n=2:=rfl
attribute [go_sem] dI.v dI.cells Hy
structure cA where
 back:Int
 high:dI
 deriving DecidableEq
def cA.cells (x:cA):List Value:=[.int .i64 x.back,.int .i64 x.high.low,.int .i64 x.high.high]
def fN:cz cA:=jc 3 cA.cells (fun _=>rfl) (fun _ v a=>by simp only[cA.cells,List.mem_cons,List.not_mem_nil,or_false] at a;rcases a with rfl|rfl|rfl<;>rfl)
theorem Hz:fN.n=3:=rfl
attribute [go_sem] cA.cells Hz
structure cn where
 bA:Int
 bI:Bool
 deriving DecidableEq
def cn.v (x:cn):Value:=.agg #[.int .i64 x.bA,.bool x.bI]
def cn.cells (x:cn):List Value:=[.int .i64 x.bA,.bool x.bI]
def dL:cz cn:=jc 2 cn.cells (fun _=>rfl) (fun _ v a=>by simp only[cn.cells,List.mem_cons,List.not_mem_nil,or_false] at a;rcases a with rfl|rfl<;>rfl)
theorem HA:dL.n=2:=rfl
attribute [go_sem] cn.v cn.cells HA
structure an where
 bZ:Int
 cg:Int
 bp:au
 az:(List cj)
 props:(List cm)
 aK:(List cA)
 told:(List cn)
 deriving DecidableEq
def an.rel (ro:Addr->Option Value)(x:an)(cs:List Value):Prop:=∃a b c d,cs=[.int .i64 x.bZ,.int .i64 x.cg,.int .i64 x.bp.num,.int .i64 x.bp.den,a,b,c,d]/\aH fT ro a x.az/\aH fe ro b x.props/\aH fN ro c x.aK/\aH dL ro d x.told
theorem an.q7 {ro:Addr->Option Value}{x:an}{cs:List Value}(h:an.rel ro x cs):∀v∈cs,bU v=true:=by
 obtain ⟨b,c,d,e,rfl,⟨_,_,rfl,_⟩,⟨_,_,rfl,_⟩,⟨_,_,rfl,_⟩,⟨_,_,rfl,_⟩⟩:=h;intro v a;simp only[List.mem_cons,List.not_mem_nil,or_false] at a;rcases a with rfl|rfl|rfl|rfl|rfl|rfl|rfl|rfl<;>rfl
def HB:cz an:=⟨8,an.rel,fun a ⟨b,c,d,f,e,g,h,i,j⟩=>⟨b,c,d,f,e,g.mono a,h.mono a,i.mono a,j.mono a⟩,fun ⟨b,c,d,f,e,_⟩=>by rw[e];rfl,an.q7⟩
theorem HC:HB.n=8:=rfl
attribute [go_sem] HC
structure bh where
 back:Int
 high:Int
 deriving DecidableEq
def bh.v (x:bh):Value:=.agg #[.int .i64 x.back,.int .i64 x.high]
def bh.cells (x:bh):List Value:=[.int .i64 x.back,.int .i64 x.high]
def gL:cz bh:=jc 2 bh.cells (fun _=>rfl) (fun _ v a=>by simp only[bh.cells,List.mem_cons,List.not_mem_nil,or_false] at a;rcases a with rfl|rfl<;>rfl)
theorem HD:gL.n=2:=rfl
attribute [go_sem] bh.v bh.cells HD
structure bD where
 e0:Int
 e1:Int
 e2:Int
 deriving DecidableEq
def bD.v (x:bD):Value:=.agg #[.int .i64 x.e0,.int .i64 x.e1,.int .i64 x.e2]
def bD.cells (x:bD):List Value:=[.int .i64 x.e0,.int .i64 x.e1,.int .i64 x.e2]
def iL:cz bD:=jc 3 bD.cells (fun _=>rfl) (fun _ v a=>by simp only[bD.cells,List.mem_cons,List.not_mem_nil,or_false] at a;rcases a with rfl|rfl|rfl<;>rfl)
theorem HE:iL.n=3:=rfl
attribute [go_sem] bD.v bD.cells HE
def bD.get (x:bD)(i:Int):Option Int:=if i=0 then some x.e0 else if i=1 then some x.e1 else if i=2 then some x.e2 else none
theorem bD.get_some {x:bD}{i:Int}{y:Int}(h:bD.get x i=some y):0<=i/\i<((3:Nat):Int)/\([.int .i64 x.e0,.int .i64 x.e1,.int .i64 x.e2]:List Value)[i.toNat]?=some (.int .i64 y):=by
 unfold bD.get at h;by_cases a:i=0
 .subst a;simp at h;subst h;exact ⟨aa,aa,rfl⟩
 by_cases b:i=1
 .subst b;simp at h;subst h;exact ⟨aa,aa,rfl⟩
 by_cases c:i=2
 .subst c;simp at h;subst h;exact ⟨aa,aa,rfl⟩
 simp[a,b,c] at h
theorem bD.HF {ro:Addr->Option Value}{b:Nat}{x:bD}{i:Int}{y:Int}(h:bD.get x i=some y)(g0:ro ⟨b,0,none⟩=some (.int .i64 x.e0))(e:ro ⟨b,1,none⟩=some (.int .i64 x.e1))(f:ro ⟨b,2,none⟩=some (.int .i64 x.e2)):ro ⟨b,i.toNat,none⟩=some (.int .i64 y):=by
 unfold bD.get at h;by_cases a:i=0
 .subst a;simp at h;subst h;exact g0
 by_cases c:i=1
 .subst c;simp at h;subst h;exact e
 by_cases d:i=2
 .subst d;simp at h;subst h;exact f
 simp[a,c,d] at h
structure dn where
 book:an
 all:(List bD)
 deriving DecidableEq
def dn.rel (ro:Addr->Option Value)(x:dn)(cs:List Value):Prop:=∃a b c d e,cs=[.int .i64 x.book.bZ,.int .i64 x.book.cg,.int .i64 x.book.bp.num,.int .i64 x.book.bp.den,a,b,c,d,e]/\aH fT ro a x.book.az/\aH fe ro b x.book.props/\aH fN ro c x.book.aK/\aH dL ro d x.book.told/\aH iL ro e x.all
theorem dn.q7 {ro:Addr->Option Value}{x:dn}{cs:List Value}(h:dn.rel ro x cs):∀v∈cs,bU v=true:=by
 obtain ⟨b,c,d,e,f,rfl,⟨_,_,rfl,_⟩,⟨_,_,rfl,_⟩,⟨_,_,rfl,_⟩,⟨_,_,rfl,_⟩,⟨_,_,rfl,_⟩⟩:=h;intro v a;simp only[List.mem_cons,List.not_mem_nil,or_false] at a;rcases a with rfl|rfl|rfl|rfl|rfl|rfl|rfl|rfl|rfl<;>rfl
def HG:cz dn:=⟨9,dn.rel,fun a ⟨b,c,d,f,g,e,h,i,j,k,l⟩=>⟨b,c,d,f,g,e,h.mono a,i.mono a,j.mono a,k.mono a,l.mono a⟩,fun ⟨b,c,d,f,g,e,_⟩=>by rw[e];rfl,dn.q7⟩
theorem HH:HG.n=9:=rfl
attribute [go_sem] HH
structure iM where
 aU:Int
 high:au
 deriving DecidableEq
def iM.cells (x:iM):List Value:=[.int .i64 x.aU,.int .i64 x.high.num,.int .i64 x.high.den]
def HI:cz iM:=jc 3 iM.cells (fun _=>rfl) (fun _ v a=>by simp only[iM.cells,List.mem_cons,List.not_mem_nil,or_false] at a;rcases a with rfl|rfl|rfl<;>rfl)
theorem HJ:HI.n=3:=rfl
attribute [go_sem] iM.cells HJ
structure bH where
 spot:iM
 at_:Int
 high:au
 deriving DecidableEq
def bH.v (x:bH):Value:=.agg #[.int .i64 x.spot.aU,.int .i64 x.spot.high.num,.int .i64 x.spot.high.den,.int .i64 x.at_,.int .i64 x.high.num,.int .i64 x.high.den]
def bH.cells (x:bH):List Value:=[.int .i64 x.spot.aU,.int .i64 x.spot.high.num,.int .i64 x.spot.high.den,.int .i64 x.at_,.int .i64 x.high.num,.int .i64 x.high.den]
def lf:cz bH:=jc 6 bH.cells (fun _=>rfl) (fun _ v a=>by simp only[bH.cells,List.mem_cons,List.not_mem_nil,or_false] at a;rcases a with rfl|rfl|rfl|rfl|rfl|rfl<;>rfl)
theorem HK:lf.n=6:=rfl
attribute [go_sem] bH.v bH.cells HK
def dG.rel (ro:Addr->Option Value)(g:(an->Option Int))(cs:List Value):Prop:=∃(b:FuncId) (c d:Array Value),cs=[.func (.func b) c d]/\aR Tryz.prog b=true/\∀(bf:Addr->Option Value),Ext ro bf->∀(a:an) (e:Value) (f:Value) (h:Value) (i:Value) (z:Int),aH fT bf e a.az->aH fe bf f a.props->aH fN bf h a.aK->aH dL bf i a.told->g a=some z->aI Tryz.prog b (c++#[.agg #[.int .i64 a.bZ,.int .i64 a.cg,.int .i64 a.bp.num,.int .i64 a.bp.den,e,f,h,i]]++d) ⟨bf,[]⟩ (fun v _=>v= .int .i64 z)
theorem dG.HL {ro bf:Addr->Option Value}{g:(an->Option Int)}{cs:List Value}(b:Ext ro bf)(h:dG.rel ro g cs):dG.rel bf g cs:=by
 obtain ⟨f,a,c,e,d,i⟩:=h;exact ⟨f,a,c,e,d,fun j k=>i j (b.trans k)⟩
theorem dG.HM {ro:Addr->Option Value}{g:(an->Option Int)}{cs:List Value}(h:dG.rel ro g cs):cs.length=1:=by
 obtain ⟨f,a,c,e,_⟩:=h;rw[e];rfl
theorem dG.q7 {ro:Addr->Option Value}{g:(an->Option Int)}{cs:List Value}(h:dG.rel ro g cs):∀v∈cs,bU v=true:=by
 obtain ⟨f,a,c,e,_⟩:=h;intro v b;rw[e] at b;simp at b;subst b;rfl
def dG:cz (an->Option Int):=⟨1,dG.rel,dG.HL,dG.HM,dG.q7⟩
theorem HN:dG.n=1:=rfl
attribute [go_sem] HN
abbrev sl {T:Type}(d:Option Addr)(l:List T)(c:Nat):Value:=.slice d l.length c
abbrev bk (x:an)(a b c d:Value):Obj:=.cells #[.int .i64 x.bZ,.int .i64 x.cg,.int .i64 x.bp.num,.int .i64 x.bp.den,a,b,c,d] 29
abbrev bl (x:an)(a b c d:Value):Obj:=.cells #[.int .i64 x.bZ,.int .i64 x.cg,.int .i64 x.bp.num,.int .i64 x.bp.den,a,b,c,d] 92
abbrev bz (t:Nat):Obj:=.cells #[.int .i64 0,.int .i64 0,.int .i64 0,.int .i64 0,.slice none 0 0,.slice none 0 0,.slice none 0 0,.slice none 0 0] t
abbrev kn (x:dn)(a b c d e:Value):Obj:=.cells #[.int .i64 x.book.bZ,.int .i64 x.book.cg,.int .i64 x.book.bp.num,.int .i64 x.book.bp.den,a,b,c,d,e] 95
abbrev rt (a b:Int):Obj:=.cells #[.int .i64 a,.int .i64 b] 23
abbrev ic (a:Int):Obj:=.cells #[.int .i64 a] 3
abbrev bv (x:an)(a b c d:Value):Value:=.agg #[.int .i64 x.bZ,.int .i64 x.cg,.int .i64 x.bp.num,.int .i64 x.bp.den,a,b,c,d]
attribute [go_sem] sl bk bl bz kn rt ic bv Hr Hs List.cons_append List.nil_append List.append_nil List.append_assoc
structure bR (ro:Addr->Option Value)(u:an)(a b c d:Value):Prop where
 e:aH fT ro a u.az
 p:aH fe ro b u.props
 y:aH fN ro c u.aK
 t:aH dL ro d u.told
theorem bR.oc {ro:Addr->Option Value}{u:an}{a b c d:Value}(h:bR ro u a b c d):bU a=true/\bU b=true/\bU c=true/\bU d=true:=⟨h.e.oc,h.p.oc,h.y.oc,h.t.oc⟩
theorem bR.mono {ro bf:Addr->Option Value}{u:an}{a b c d:Value}(h:bR ro u a b c d)(f:Ext ro bf):bR bf u a b c d:=⟨h.e.mono f,h.p.mono f,h.y.mono f,h.t.mono f⟩
end Go.Proofs.YtbpddfapodiemaaGreatDoor
end
section
namespace Go.Proofs.YtbpddfapodiemaaGreatDoor
open Go Go.Sep Go.Proofs
set_option maxRecDepth 100000
set_option maxHeartbeats 4000000
def fU (u0:Int)(a:Int)(b:Int):Option Bool:=
 cond (decide (a<=u0)) (some (decide (u0<=b))) (some false)
theorem iu {ro:Addr->Option Value}(u0:Int)(a:Int)(b:Int){r:Bool}(h:fU u0 a b=some r):aI Tryz.prog 80 #[.int .i64 u0,.int .i64 a,.int .i64 b] ⟨ro,[]⟩ (fun v _=>v= .bool r):=by
 unfold fU at h;refine aI.go Tryz.func80 rfl Tryz.ntmps80 Tryz.results80 av fun main J hJ A d hd hs=>?_;have e:=hs 0;have k1:=hs 1;have f:=hs 2;clear hs;apply aB hJ _;apply aF hJ;revert h;refine cS (fun c h=>?_) fun c h=>?_
 .cases h;apply ag _;apply aT;simp only[*,go_sem]
 cases h;apply ag _;apply aT;simp only[*,go_sem]
def gZ (u0:Int):Option au:=
 some (⟨u0,1⟩:au)
theorem kr {ro:Addr->Option Value}(u0:Int){r:au}(h:gZ u0=some r):aI Tryz.prog 102 #[.int .i64 u0] ⟨ro,[]⟩ (fun v _=>v=r.v):=by
 unfold gZ at h;cases h;refine aI.go Tryz.func102 rfl Tryz.ntmps102 Tryz.results102 av fun main J hJ A a hd hs=>?_;have b:=hs 0;clear hs;apply aB hJ _;refine aA fun c r1 n1=>?_;try simp only[ax] at n1
 apply aB hJ _;apply aT;simp only[*,go_sem]
def ff (u0:au)(a:au):Option Bool:=
 some (decide ((IntKind.i64.wrap (u0.num*a.den))<(IntKind.i64.wrap (a.num*u0.den))))
theorem jL {ro:Addr->Option Value}(u0:au)(a:au){r:Bool}(h:ff u0 a=some r):aI Tryz.prog 61 #[.agg #[.int .i64 u0.num,.int .i64 u0.den],.agg #[.int .i64 a.num,.int .i64 a.den]] ⟨ro,[]⟩ (fun v _=>v= .bool r):=by
 unfold ff at h;cases h;refine aI.go Tryz.func61 rfl Tryz.ntmps61 Tryz.results61 av fun main J hJ A b hd hs=>?_;have c:=hs 0;have k1:=hs 1;clear hs;apply aB hJ _;refine aA fun d r1 n1=>?_;try simp only[ax] at n1
 refine aA fun b2 r2 n2=>?_;try simp only[ax] at n2
 apply aB hJ _;apply aT;simp only[*,go_sem]
def q8 (u0:dI)(a:Int)(b:Int):Option Bool:=
 cond (decide (a<=u0.low)) (cond (decide (u0.low<=u0.high)) (some (decide (u0.high<=b))) (some false)) (some false)
theorem BP {ro:Addr->Option Value}(u0:dI)(a:Int)(b:Int){r:Bool}(h:q8 u0 a b=some r):aI Tryz.prog 118 #[.agg #[.int .i64 u0.low,.int .i64 u0.high],.int .i64 a,.int .i64 b] ⟨ro,[]⟩ (fun v _=>v= .bool r):=by
 unfold q8 at h;refine aI.go Tryz.func118 rfl Tryz.ntmps118 Tryz.results118 av fun main J hJ A e hd hs=>?_;have f:=hs 0;have k1:=hs 1;have g:=hs 2;clear hs;apply aB hJ _;refine aA fun i r1 n1=>?_;try simp only[ax] at n1
 apply aF hJ;revert h;refine cS (fun c h=>?_) fun c h=>?_
 .revert h;refine cS (fun d h=>?_) fun d h=>?_
  .cases h;apply ag _;apply aT;simp only[*,go_sem]
  cases h;apply ag _;apply aT;simp only[*,go_sem]
 cases h;apply ag _;apply aT;simp only[*,go_sem]
def g5 (u0:bH)(a:bH):Option Bool:=
 ai (ff u0.high a.high) fun b=>some b
theorem tC {ro:Addr->Option Value}(u0:bH)(a:bH){r:Bool}(h:g5 u0 a=some r):aI Tryz.prog 57 #[.agg #[.int .i64 u0.spot.aU,.int .i64 u0.spot.high.num,.int .i64 u0.spot.high.den,.int .i64 u0.at_,.int .i64 u0.high.num,.int .i64 u0.high.den],.agg #[.int .i64 a.spot.aU,.int .i64 a.spot.high.num,.int .i64 a.spot.high.den,.int .i64 a.at_,.int .i64 a.high.num,.int .i64 a.high.den]] ⟨ro,[]⟩ (fun v _=>v= .bool r):=by
 unfold g5 at h;refine aI.go Tryz.func57 rfl Tryz.ntmps57 Tryz.results57 av fun main J hJ A c hd hs=>?_;have d:=hs 0;have k1:=hs 1;clear hs;apply aB hJ _;refine aA fun e r1 n1=>?_;try simp only[ax] at n1
 refine aA fun b2 r2 n2=>?_;try simp only[ax] at n2
 apply aF hJ;revert h;refine bS fun f b h=>?_;cases h;apply ag _;refine bn hJ _ (jL u0.high a.high b) (aP ?_);apply ag _;apply aT;simp only[*,go_sem]
def fV (u0:Int)(b:an):Option Int:=
 ai (fU u0 1 20) fun a=>cond (!a) (some 1) (some 0)
theorem xk {ro:Addr->Option Value}(u0:Int)(b:an){s1 c d f:Value}(a:bR ro b s1 c d f){r:Int}(h:fV u0 b=some r):aI Tryz.prog 68 #[.int .i64 u0,bv b s1 c d f] ⟨ro,[]⟩ (fun v _=>v= .int .i64 r):=by
 obtain ⟨d3,c4,rfl,k,l,-⟩:=id a.e;obtain ⟨d10,m,rfl,n,o,-⟩:=id a.p;obtain ⟨d17,q,rfl,s,u,-⟩:=id a.y;obtain ⟨d24,w,rfl,x,z,-⟩:=id a.t;unfold fV at h;refine aI.go Tryz.func68 rfl Tryz.ntmps68 Tryz.results68 av fun main J hJ A B hd hs=>?_;have C:=hs 0;have k1:=hs 1;clear hs;apply aB hJ _;refine aA fun D E g=>?_;try simp only[ax] at g
 refine ah hJ (aF hJ ?_);revert h;refine bS fun F i h=>?_;apply ag _;refine bn hJ _ (iu u0 1 20 i) (aP ?_);apply ag _;revert h;refine aV hJ (fun j h=>?_) fun j h=>?_
 .cases h;apply aB hJ _;apply aT;simp only[*,go_sem]
 cases h;refine aN hJ (ah hJ ?_);apply aE hJ _;apply aT;simp only[*,go_sem]
def gb (u0:bh)(c:an):Option Int:=
 ai (fU u0.back 1 20) fun a=>cond (!a) (some 1) (ai (fU u0.high 0 60) fun b=>cond (!b) (some 1) (some 0))
theorem tD {ro:Addr->Option Value}(u0:bh)(b:an){s1 c d f:Value}(a:bR ro b s1 c d f){r:Int}(h:gb u0 b=some r):aI Tryz.prog 107 #[.agg #[.int .i64 u0.back,.int .i64 u0.high],bv b s1 c d f] ⟨ro,[]⟩ (fun v _=>v= .int .i64 r):=by
 obtain ⟨d3,c4,rfl,n,o,-⟩:=id a.e;obtain ⟨d10,q,rfl,s,u,-⟩:=id a.p;obtain ⟨d17,w,rfl,x,z,-⟩:=id a.y;obtain ⟨d24,B,rfl,C,D,-⟩:=id a.t;unfold gb at h;refine aI.go Tryz.func107 rfl Tryz.ntmps107 Tryz.results107 av fun main J hJ A E hd hs=>?_;have F:=hs 0;have k1:=hs 1;clear hs;apply aB hJ _;refine aA fun G H g=>?_;try simp only[ax] at g
 refine aA fun I K i=>?_;try simp only[ax] at i
 refine ah hJ (aF hJ ?_);revert h;refine bS fun L j h=>?_;apply ag _;refine bn hJ _ (iu u0.back 1 20 j) (aP ?_);revert h;refine cS (fun k h=>?_) fun k h=>?_
 .cases h;apply ag _;refine cW hJ ?_;apply aB hJ _;apply aT;simp only[*,go_sem]
 revert h;refine bS fun M l h=>?_;apply ag _;refine bn hJ _ (iu u0.high 0 60 l) (aP ?_);apply ag _;revert h;refine aV hJ (fun m h=>?_) fun m h=>?_
 .cases h;apply aB hJ _;apply aT;simp only[*,go_sem]
 cases h;refine aN hJ (ah hJ ?_);apply aE hJ _;apply aT;simp only[*,go_sem]
def oO (u0:an)(a:Int):Option Bool:=
 ai (fU a 0 (IntKind.i64.wrap ((u0.aK.length:Int) - 1))) fun b=>some b
theorem BQ {ro:Addr->Option Value}(u0:an){s1 c d f:Value}(a:bR ro u0 s1 c d f)(b:Int){r:Bool}(h:oO u0 b=some r):aI Tryz.prog 141 #[bv u0 s1 c d f,.int .i64 b] ⟨ro,[]⟩ (fun v _=>v= .bool r):=by
 obtain ⟨d3,c4,rfl,j,k,-⟩:=id a.e;obtain ⟨d10,l,rfl,m,n,-⟩:=id a.p;obtain ⟨d17,o,rfl,q,s,-⟩:=id a.y;obtain ⟨d24,u,rfl,w,x,-⟩:=id a.t;unfold oO at h;refine aI.go Tryz.func141 rfl Tryz.ntmps141 Tryz.results141 av fun main J hJ A z hd hs=>?_;have B:=hs 0;have k1:=hs 1;clear hs;apply aB hJ _;refine aA fun C D g=>?_;try simp only[ax] at g
 apply aF hJ;revert h;refine bS fun E i h=>?_;cases h;apply ag _;refine bn hJ _ (iu b 0 (IntKind.i64.wrap ((u0.aK.length:Int) - 1)) i) (aP ?_);apply ag _;apply aT;simp only[*,go_sem]
def fW (u0:an)(a:Int):Option Bool:=
 ai (bu u0.az 0) fun b=>ai (bu u0.az (IntKind.i64.wrap ((u0.az.length:Int) - 1))) fun c=>ai (fU a b.aU c.aU) fun d=>some d
theorem tE {ro:Addr->Option Value}(u0:an){s1 f g i:Value}(a:bR ro u0 s1 f g i)(b:Int){r:Bool}(h:fW u0 b=some r):aI Tryz.prog 134 #[bv u0 s1 f g i,.int .i64 b] ⟨ro,[]⟩ (fun v _=>v= .bool r):=by
 obtain ⟨d3,c4,rfl,E,G,-⟩:=id a.e;unfold fW at h;refine aI.go Tryz.func134 rfl Tryz.ntmps134 Tryz.results134 av fun main J hJ A H hd hs=>?_;have I:=hs 0;have k1:=hs 1;clear hs;apply aB hJ _;refine aA fun K L n=>?_;try simp only[ax] at n
 apply ah hJ;refine c5 hJ mixed 20 1 aL aj ?_;revert h;refine bS fun j o h=>?_;obtain ⟨M,N,k⟩:=ck o;obtain ⟨O,p,q,s,c⟩:=a.e.el _ _ k;obtain rfl:p=j.cells:=s;cases q;have t:=c 0 _ rfl;simp only[go_sem] at t;have u:=c 1 _ rfl;simp only[go_sem] at u;clear c k;revert h;refine bS fun l w h=>?_;obtain ⟨P,Q,m⟩:=ck w;obtain ⟨R,x,y,z,d⟩:=a.e.el _ _ m;obtain rfl:x=l.cells:=z;cases y;have B:=d 0 _ rfl;simp only[go_sem] at B;have C:=d 1 _ rfl;simp only[go_sem] at C;clear d m;revert h;refine bS fun S D h=>?_;cases h;apply ag _;refine ⟨_,bL hJ fun F T=>iu b j.aU l.aU D,cw ?_⟩;apply ag _;apply aT;simp only[*,go_sem]
def gd (u0:Int)(a:an):Option Int:=
 ai (oO a u0) fun b=>cond (!b) (some 6) (some 0)
theorem tF {ro:Addr->Option Value}(u0:Int)(b:an){s1 c d f:Value}(a:bR ro b s1 c d f){r:Int}(h:gd u0 b=some r):aI Tryz.prog 86 #[.int .i64 u0,bv b s1 c d f] ⟨ro,[]⟩ (fun v _=>v= .int .i64 r):=by
 obtain ⟨d3,c4,rfl,k,l,-⟩:=id a.e;obtain ⟨d10,m,rfl,n,o,-⟩:=id a.p;obtain ⟨d17,q,rfl,s,u,-⟩:=id a.y;obtain ⟨d24,w,rfl,x,z,-⟩:=id a.t;unfold gd at h;refine aI.go Tryz.func86 rfl Tryz.ntmps86 Tryz.results86 av fun main J hJ A B hd hs=>?_;have C:=hs 0;have k1:=hs 1;clear hs;apply aB hJ _;refine aA fun D E g=>?_;try simp only[ax] at g
 refine ah hJ (aF hJ ?_);revert h;refine bS fun F i h=>?_;apply ag _;refine bn hJ _ (BQ b (a.mono bq) u0 i) (aP ?_);apply ag _;revert h;refine aV hJ (fun j h=>?_) fun j h=>?_
 .cases h;apply aB hJ _;apply aT;simp only[*,go_sem]
 cases h;refine aN hJ (ah hJ ?_);apply aE hJ _;apply aT;simp only[*,go_sem]
def oP (u0:Int)(a:an):Option Int:=
 ai (fW a u0) fun b=>cond (!b) (some 6) (some 0)
theorem HO {ro:Addr->Option Value}(u0:Int)(b:an){s1 c d f:Value}(a:bR ro b s1 c d f){r:Int}(h:oP u0 b=some r):aI Tryz.prog 112 #[.int .i64 u0,bv b s1 c d f] ⟨ro,[]⟩ (fun v _=>v= .int .i64 r):=by
 obtain ⟨d3,c4,rfl,k,l,-⟩:=id a.e;obtain ⟨d10,m,rfl,n,o,-⟩:=id a.p;obtain ⟨d17,q,rfl,s,u,-⟩:=id a.y;obtain ⟨d24,w,rfl,x,z,-⟩:=id a.t;unfold oP at h;refine aI.go Tryz.func112 rfl Tryz.ntmps112 Tryz.results112 av fun main J hJ A B hd hs=>?_;have C:=hs 0;have k1:=hs 1;clear hs;apply aB hJ _;refine aA fun D E g=>?_;try simp only[ax] at g
 refine ah hJ (aF hJ ?_);revert h;refine bS fun F i h=>?_;apply ag _;refine bn hJ _ (tE b (a.mono bq) u0 i) (aP ?_);apply ag _;revert h;refine aV hJ (fun j h=>?_) fun j h=>?_
 .cases h;apply aB hJ _;apply aT;simp only[*,go_sem]
 cases h;refine aN hJ (ah hJ ?_);apply aE hJ _;apply aT;simp only[*,go_sem]
def q9 (st:(Int×Int)):Option (Fl (Int×Int) au):=
 cond ((st.2 != 0)) (ai (m5 st.1 st.2) fun a=>some (.nx (st.2,a))) (some (.bk (st.1,st.2)))
def lg (u0:Int)(a:Int):Option au:=
 ai (aS (q9) fu ((if u0<IntKind.i64.wrap (0 - u0) then IntKind.i64.wrap (0 - u0) else u0),a)) fun o=>aG o (fun b=>ai (gy u0 b.1) fun c=>ai (gy a b.1) fun d=>some (⟨c,d⟩:au)) (fun _ _=>none) (fun r=>some r)
theorem rf {ro:Addr->Option Value}(u0:Int)(c:Int){r:au}(h:lg u0 c=some r):aI Tryz.prog 123 #[.int .i64 u0,.int .i64 c] ⟨ro,[]⟩ (fun v _=>v=r.v):=by
 unfold lg at h;refine aI.go Tryz.func123 rfl Tryz.ntmps123 Tryz.results123 av fun main J hJ A l hd hs=>?_;have n:=hs 0;have k1:=hs 1;clear hs;apply aB hJ _;refine aA fun o r1 n1=>?_;try simp only[ax] at n1
 apply aB hJ _;refine ah hJ (aW hJ ?_);revert h;refine bS fun o4 a p=>?_;refine bW hJ (rg 12 6 [5,6]) (fun m f F'=>∃(v2:Int) (b:Int),aS (q9) m (v2,b)=some o4/\F'=⟨ro,(o,rt 0 0)::[]⟩/\slot f 5= .int .i64 v2/\slot f 6= .int .i64 b) fu ?_ ?_
 .refine ⟨(if u0<IntKind.i64.wrap (0 - u0) then IntKind.i64.wrap (0 - u0) else u0),c,a,rfl,?_⟩;simp only[*,go_sem]
 rintro d x F' g ⟨v2,b,a,rfl,y,z⟩;obtain ⟨q,s,t⟩:=g.pick [0,1,4] aD;simp only[*,go_sem] at q s t;clear g l hd n k1;obtain _|d:=d
 .exact absurd a (by simp only[aS,reduceCtorEq,not_false_eq_true])
 revert a;refine bS fun B h e=>?_;unfold q9 at h;try dsimp only at h
 refine ah hJ (aF hJ ?_);apply ag _;revert h;refine aV hJ (fun u h=>?_) fun u h=>?_
 .refine aN hJ (aW hJ ?_);refine c5 hJ mixed 6 1 aL aj ?_;revert h;refine bS fun w i h=>?_;cases h;obtain ⟨C,D⟩:=wK i;clear i;apply ag _;refine ⟨d,Nat.lt_succ_self _,_,Le.sub (List.Sublist.refl _),b,w,e,rfl,?_⟩;simp only[*,go_sem]
 cases h;apply bP;simp only[go_sem];obtain rfl:=sI e;clear e;have h:=p;dsimp only[aG] at h;apply ah hJ;refine c5 hJ mixed 7 0 aL aj ?_;revert h;refine bS fun E j h=>?_;obtain ⟨F,G⟩:=k3 j;clear j;revert h;refine bS fun H k h=>?_;cases h;obtain ⟨I,K⟩:=k3 k;clear k;apply ag _;apply aT;simp only[*,go_sem]
def jM (u0:au)(a:au):Option au:=
 ai (lg (IntKind.i64.wrap ((IntKind.i64.wrap (u0.num*a.den))+(IntKind.i64.wrap (a.num*u0.den)))) (IntKind.i64.wrap (u0.den*a.den))) fun b=>some b
theorem ri {ro:Addr->Option Value}(u0:au)(a:au){r:au}(h:jM u0 a=some r):aI Tryz.prog 60 #[.agg #[.int .i64 u0.num,.int .i64 u0.den],.agg #[.int .i64 a.num,.int .i64 a.den]] ⟨ro,[]⟩ (fun v _=>v=r.v):=by
 unfold jM at h;refine aI.go Tryz.func60 rfl Tryz.ntmps60 Tryz.results60 av fun main J hJ A c hd hs=>?_;have d:=hs 0;have k1:=hs 1;clear hs;apply aB hJ _;refine aA fun e r1 n1=>?_;try simp only[ax] at n1
 refine aA fun b2 r2 n2=>?_;try simp only[ax] at n2
 refine aA fun b3 r3 n3=>?_;try simp only[ax] at n3
 apply aF hJ;revert h;refine bS fun f b h=>?_;cases h;apply ag _;refine bn hJ _ (rf (IntKind.i64.wrap ((IntKind.i64.wrap (u0.num*a.den))+(IntKind.i64.wrap (a.num*u0.den)))) (IntKind.i64.wrap (u0.den*a.den)) b) (aP ?_);apply ag _;apply aT;simp only[*,go_sem]
def jN (u0:au)(a:au):Option au:=
 ai (jM u0 (⟨IntKind.i64.wrap (0 - a.num),a.den⟩:au)) fun b=>some b
theorem rj {ro:Addr->Option Value}(u0:au)(a:au){r:au}(h:jN u0 a=some r):aI Tryz.prog 59 #[.agg #[.int .i64 u0.num,.int .i64 u0.den],.agg #[.int .i64 a.num,.int .i64 a.den]] ⟨ro,[]⟩ (fun v _=>v=r.v):=by
 unfold jN at h;refine aI.go Tryz.func59 rfl Tryz.ntmps59 Tryz.results59 av fun main J hJ A c hd hs=>?_;have d:=hs 0;have k1:=hs 1;clear hs;apply aB hJ _;refine aA fun e r1 n1=>?_;try simp only[ax] at n1
 refine aA fun b2 r2 n2=>?_;try simp only[ax] at n2
 refine aA fun b3 r3 n3=>?_;try simp only[ax] at n3
 apply aF hJ;revert h;refine bS fun f b h=>?_;cases h;apply ag _;refine bn hJ _ (ri u0 (⟨IntKind.i64.wrap (0 - a.num),a.den⟩:au) b) (aP ?_);apply ag _;apply aT;simp only[*,go_sem]
def lp (u0:an)(a:bh)(e:Int)(b:iM):Option bH:=
 ai (gZ a.high) fun f=>ai (jN b.high f) fun c=>ai (lg (IntKind.i64.wrap (u0.bZ+a.back)) (IntKind.i64.wrap (b.aU+a.back))) fun d=>ai (gZ a.high) fun g=>ai (lg (IntKind.i64.wrap (c.num*d.num)) (IntKind.i64.wrap (c.den*d.den))) fun h=>ai (jM g h) fun i=>some (⟨b,e,i⟩:bH)
theorem BR {ro:Addr->Option Value}(u0:an){s1 c d e:Value}(K:bR ro u0 s1 c d e)(b:bh)(j:Int)(a:iM){r:bH}(h:lp u0 b j a=some r):aI Tryz.prog 122 #[bv u0 s1 c d e,.agg #[.int .i64 b.back,.int .i64 b.high],.int .i64 j,.agg #[.int .i64 a.aU,.int .i64 a.high.num,.int .i64 a.high.den]] ⟨ro,[]⟩ (fun v _=>v=r.v):=by
 unfold lp at h;refine aI.go Tryz.func122 rfl Tryz.ntmps122 Tryz.results122 av fun main J hJ A L hd hs=>?_;have M:=hs 0;have k1:=hs 1;have N:=hs 2;have O:=hs 3;clear hs;apply aB hJ _;refine aA fun k P n=>?_;try simp only[ax] at n
 refine aA fun l Q o=>?_;try simp only[ax] at o
 refine aA fun m R p=>?_;try simp only[ax] at p
 refine aA fun q S s=>?_;try simp only[ax] at s
 apply ah hJ;refine eE hJ mixed 6 ⟨ro,[(q,.cells #[.int .i64 0,.int .i64 0,.int .i64 0,.int .i64 0,.int .i64 0,.int .i64 0] 105),(m,.cells #[.int .i64 a.aU,.int .i64 a.high.num,.int .i64 a.high.den] 103),(l,.cells #[.int .i64 b.back,.int .i64 b.high] 101),(k,bl u0 s1 c d e)]⟩ aL aj ?_;revert h;refine bS fun t u h=>?_;apply ag _;refine ⟨_,bL hJ fun F f=>kr b.high u,cw ?_⟩;revert h;refine bS fun g w h=>?_;apply ag _;refine ⟨_,bL hJ fun F f=>rj a.high t w,?_⟩;apply ag _;refine aA fun x T y=>?_;try simp only[ax] at y
 apply ag _;apply aF hJ;revert h;refine bS fun i z h=>?_;apply ag _;refine bn hJ _ (rf (IntKind.i64.wrap (u0.bZ+b.back)) (IntKind.i64.wrap (a.aU+b.back)) z) (aP ?_);apply ag _;refine aA fun B U C=>?_;try simp only[ax] at C
 apply ah hJ;refine eE hJ mixed 18 ⟨ro,[(B,rt i.num i.den),(x,rt g.num g.den),(m,.cells #[.int .i64 a.aU,.int .i64 a.high.num,.int .i64 a.high.den] 103),(l,.cells #[.int .i64 b.back,.int .i64 b.high] 101),(k,bl u0 s1 c d e)]⟩ aL aj ?_;revert h;refine bS fun D E h=>?_;apply ag _;refine ⟨_,bL hJ fun F f=>kr b.high E,cw ?_⟩;revert h;refine bS fun G H h=>?_;apply ag _;refine ⟨_,bL hJ fun F f=>rf (IntKind.i64.wrap (g.num*i.num)) (IntKind.i64.wrap (g.den*i.den)) H,cw ?_⟩;revert h;refine bS fun V I h=>?_;cases h;apply ag _;refine ⟨_,bL hJ fun F f=>ri D G I,cw ?_⟩;apply ag _;apply aT;simp only[*,go_sem]
def jO (u0:an)(a:Int)(b:Int):Option bh:=
 ai (bu u0.aK a) fun c=>some (⟨c.back,b⟩:bh)
theorem nh {ro:Addr->Option Value}(u0:an){s1 c d f:Value}(a:bR ro u0 s1 c d f)(g:Int)(i:Int){r:bh}(h:jO u0 g i=some r):aI Tryz.prog 91 #[bv u0 s1 c d f,.int .i64 g,.int .i64 i] ⟨ro,[]⟩ (fun v _=>v=r.v):=by
 obtain ⟨d3,c4,rfl,z,B,-⟩:=id a.e;obtain ⟨d10,C,rfl,D,E,-⟩:=id a.p;obtain ⟨d17,F,rfl,G,H,-⟩:=id a.y;obtain ⟨d24,I,rfl,K,L,-⟩:=id a.t;unfold jO at h;refine aI.go Tryz.func91 rfl Tryz.ntmps91 Tryz.results91 av fun main J hJ A M hd hs=>?_;have N:=hs 0;have k1:=hs 1;have O:=hs 2;clear hs;apply aB hJ _;refine aA fun P Q k=>?_;try simp only[ax] at k
 refine aA fun R S l=>?_;try simp only[ax] at l
 apply aF hJ;revert h;refine bS fun m n h=>?_;cases h;obtain ⟨T,U,j⟩:=ck n;obtain ⟨V,o,q,s,b⟩:=a.y.el _ _ j;obtain rfl:o=m.cells:=s;cases q;have u:=b 0 _ rfl;simp only[go_sem] at u;have w:=b 1 _ rfl;simp only[go_sem] at w;have x:=b 2 _ rfl;simp only[go_sem] at x;clear b j;apply ag _;apply aT;simp only[*,go_sem]
def lq (u0:(bH->bH->Option Bool))(i11:Nat)(a:bH)(st:bH):Option (Fl bH bH):=
 ai (u0 st a) fun b=>cond (b) (some (.nx a)) (some (.nx st))
def jP (u0:(bH->bH->Option Bool))(a:bH)(b:(List bH)):Option bH:=
 ai (bM (lq u0) 0 b a) fun o=>aG o (fun c=>some c) (fun _ _=>none) (fun r=>some r)
theorem tG {ro:Addr->Option Value}(u0:(bH->bH->Option Bool)){ez:FuncId}{eT eU:Array Value}(s:aR Tryz.prog ez=true/\∀(bf:Addr->Option Value),Ext ro bf->∀(i:bH) (j:bH) (z:Bool),u0 i j=some z->aI Tryz.prog ez (eT++#[i.v,j.v]++eU) ⟨bf,[]⟩ (fun v _=>v= .bool z))(c:bH)(b:(List bH)){s1:Value}(k:aH lf ro s1 b){r:bH}(h:jP u0 c b=some r):aI Tryz.prog 56 #[.func (.func ez) eT eU,.agg #[.int .i64 c.spot.aU,.int .i64 c.spot.high.num,.int .i64 c.spot.high.den,.int .i64 c.at_,.int .i64 c.high.num,.int .i64 c.high.den],s1] ⟨ro,[]⟩ (fun v _=>v=r.v):=by
 obtain ⟨d3,c4,rfl,Z,l,-⟩:=id k;unfold jP at h;refine aI.go Tryz.func56 rfl Tryz.ntmps56 Tryz.results56 av fun main J hJ A t hd hs=>?_;have u:=hs 0;have k1:=hs 1;have w:=hs 2;clear hs;apply aB hJ _;refine aA fun y ab B=>?_;try simp only[ax] at B
 refine aA fun C ad D=>?_;try simp only[ax] at D
 refine ah hJ (aF hJ ?_);apply ag _;apply aW hJ;revert h;refine bS fun E d F=>?_;refine bW hJ (rg 11 10 [8]) (fun m G F'=>∃(i11:Nat) (v10:bH),m=b.length - i11/\i11<=b.length/\bM (lq u0) i11 (b.drop i11) v10=some E/\F'=⟨ro,(C,.cells #[.int .i64 0,.int .i64 0,.int .i64 0,.int .i64 0,.int .i64 0,.int .i64 0] 105)::(y,.cells #[.int .i64 v10.spot.aU,.int .i64 v10.spot.high.num,.int .i64 v10.spot.high.den,.int .i64 v10.at_,.int .i64 v10.high.num,.int .i64 v10.high.den] 105)::[]⟩/\slot G 11= .int .i64 (i11:Int)) b.length ?_ ?_
 .refine ⟨0,c,(Nat.sub_zero _).symm,Nat.zero_le _,d,rfl,?_⟩;simp only[*,go_sem]
 rintro ae al F' o ⟨i11,v10,rfl,ao,d,rfl,ar⟩;obtain ⟨H,I,K⟩:=o.pick [0,4,6,9,10] aD;simp only[*,go_sem] at H I K;clear o t hd u k1 w;apply aB hJ _;apply ah hJ;rcases Nat.lt_or_ge i11 b.length with L|p
 .refine cW hJ ?_;apply aN hJ;obtain ⟨f,g⟩:∃x,b[i11]?=some x:=⟨_,List.getElem?_eq_getElem L⟩
  rw[dJ g] at d;revert d;refine bS fun a0 h q=>?_;unfold lq at h;try dsimp only at h
  obtain ⟨a2,M,N,O,e⟩:=k.el _ _ g;obtain rfl:M=f.cells:=O;cases N;have P:=e 0 _ rfl;simp only[go_sem] at P;have Q:=e 1 _ rfl;simp only[go_sem] at Q;have R:=e 2 _ rfl;simp only[go_sem] at R;have S:=e 3 _ rfl;simp only[go_sem] at S;have T:=e 4 _ rfl;simp only[go_sem] at T;have U:=e 5 _ rfl;simp only[go_sem] at U;clear e g;refine ah hJ (aW hJ (ah hJ ?_));apply aE hJ _;refine aA fun a3 a4 V=>?_;try simp only[ax] at V
  apply aF hJ;revert h;refine bS fun a5 W h=>?_;apply ag _;refine bn hJ _ (s.2 _ (fun a v h=>bq a v h) v10 f _ W) ?_;revert h;refine aV hJ (fun X h=>?_) fun X h=>?_
  .cases h;apply aE hJ _;have Y:=cM (n:=i11) (by have:=l;omega);apply aE hJ _;refine ⟨b.length - (i11+1),aa,_,Le.sub (List.Sublist.cons _ (List.Sublist.refl _)),i11+1,f,rfl,aa,q,rfl,?_⟩;simp only[*,go_sem]
  cases h;apply aN hJ;have Y:=cM (n:=i11) (by have:=l;omega);apply aE hJ _;refine ⟨b.length - (i11+1),aa,_,Le.sub (List.Sublist.cons _ (List.Sublist.refl _)),i11+1,v10,rfl,aa,q,rfl,?_⟩;simp only[*,go_sem]
 have a6:=Nat.not_lt.2 p;refine cJ hJ ?_;rw[List.drop_eq_nil_of_le p] at d;obtain rfl:=sI d;clear d;have h:=F;dsimp only[aG] at h;cases h;apply bP;simp only[go_sem];apply aB hJ _;apply aT;simp only[*,go_sem]
def rm (u0:(au->au->Option Bool))(i11:Nat)(a:au)(st:au):Option (Fl au au):=
 ai (u0 st a) fun b=>cond (b) (some (.nx a)) (some (.nx st))
def jh (u0:(au->au->Option Bool))(a:au)(b:(List au)):Option au:=
 ai (bM (rm u0) 0 b a) fun o=>aG o (fun c=>some c) (fun _ _=>none) (fun r=>some r)
theorem oQ {ro:Addr->Option Value}(u0:(au->au->Option Bool)){ez:FuncId}{eT eU:Array Value}(s:aR Tryz.prog ez=true/\∀(bf:Addr->Option Value),Ext ro bf->∀(i:au) (j:au) (z:Bool),u0 i j=some z->aI Tryz.prog ez (eT++#[i.v,j.v]++eU) ⟨bf,[]⟩ (fun v _=>v= .bool z))(d:au)(b:(List au)){s1:Value}(k:aH mb ro s1 b){r:au}(h:jh u0 d b=some r):aI Tryz.prog 93 #[.func (.func ez) eT eU,.agg #[.int .i64 d.num,.int .i64 d.den],s1] ⟨ro,[]⟩ (fun v _=>v=r.v):=by
 obtain ⟨d3,c4,rfl,V,l,-⟩:=id k;unfold jh at h;refine aI.go Tryz.func93 rfl Tryz.ntmps93 Tryz.results93 av fun main J hJ A t hd hs=>?_;have u:=hs 0;have k1:=hs 1;have w:=hs 2;clear hs;apply aB hJ _;refine aA fun y W B=>?_;try simp only[ax] at B
 refine aA fun C X D=>?_;try simp only[ax] at D
 refine ah hJ (aF hJ ?_);apply ag _;apply aW hJ;revert h;refine bS fun E c F=>?_;refine bW hJ (rg 11 10 [8]) (fun m G F'=>∃(i11:Nat) (v10:au),m=b.length - i11/\i11<=b.length/\bM (rm u0) i11 (b.drop i11) v10=some E/\F'=⟨ro,(C,rt 0 0)::(y,rt v10.num v10.den)::[]⟩/\slot G 11= .int .i64 (i11:Int)) b.length ?_ ?_
 .refine ⟨0,d,(Nat.sub_zero _).symm,Nat.zero_le _,c,rfl,?_⟩;simp only[*,go_sem]
 rintro Y Z F' o ⟨i11,v10,rfl,ab,c,rfl,ad⟩;obtain ⟨H,I,K⟩:=o.pick [0,4,6,9,10] aD;simp only[*,go_sem] at H I K;clear o t hd u k1 w;apply aB hJ _;apply ah hJ;rcases Nat.lt_or_ge i11 b.length with L|p
 .refine cW hJ ?_;apply aN hJ;obtain ⟨e,f⟩:∃x,b[i11]?=some x:=⟨_,List.getElem?_eq_getElem L⟩
  rw[dJ f] at c;revert c;refine bS fun ae h q=>?_;unfold rm at h;try dsimp only at h
  obtain ⟨al,M,N,O,g⟩:=k.el _ _ f;obtain rfl:M=e.cells:=O;cases N;have P:=g 0 _ rfl;simp only[go_sem] at P;have Q:=g 1 _ rfl;simp only[go_sem] at Q;clear g f;refine ah hJ (aW hJ (ah hJ ?_));apply aE hJ _;refine aA fun ao ar R=>?_;try simp only[ax] at R
  apply aF hJ;revert h;refine bS fun a0 S h=>?_;apply ag _;refine bn hJ _ (s.2 _ (fun a v h=>bq a v h) v10 e _ S) ?_;revert h;refine aV hJ (fun T h=>?_) fun T h=>?_
  .cases h;apply aE hJ _;have U:=cM (n:=i11) (by have:=l;omega);apply aE hJ _;refine ⟨b.length - (i11+1),aa,_,Le.sub (List.Sublist.cons _ (List.Sublist.refl _)),i11+1,e,rfl,aa,q,rfl,?_⟩;simp only[*,go_sem]
  cases h;apply aN hJ;have U:=cM (n:=i11) (by have:=l;omega);apply aE hJ _;refine ⟨b.length - (i11+1),aa,_,Le.sub (List.Sublist.cons _ (List.Sublist.refl _)),i11+1,v10,rfl,aa,q,rfl,?_⟩;simp only[*,go_sem]
 have a2:=Nat.not_lt.2 p;refine cJ hJ ?_;rw[List.drop_eq_nil_of_le p] at c;obtain rfl:=sI c;clear c;have h:=F;dsimp only[aG] at h;cases h;apply bP;simp only[go_sem];apply aB hJ _;apply aT;simp only[*,go_sem]
def ni (u0:bH)(a:bH):Option Bool:=
 ai (g5 a u0) fun b=>some b
theorem HP {ro:Addr->Option Value}(u0:bH)(a:bH){r:Bool}(h:ni u0 a=some r):aI Tryz.prog 58 #[.agg #[.int .i64 u0.spot.aU,.int .i64 u0.spot.high.num,.int .i64 u0.spot.high.den,.int .i64 u0.at_,.int .i64 u0.high.num,.int .i64 u0.high.den],.agg #[.int .i64 a.spot.aU,.int .i64 a.spot.high.num,.int .i64 a.spot.high.den,.int .i64 a.at_,.int .i64 a.high.num,.int .i64 a.high.den]] ⟨ro,[]⟩ (fun v _=>v= .bool r):=by
 unfold ni at h;refine aI.go Tryz.func58 rfl Tryz.ntmps58 Tryz.results58 av fun main J hJ A c hd hs=>?_;have d:=hs 0;have k1:=hs 1;clear hs;apply aB hJ _;refine aA fun e r1 n1=>?_;try simp only[ax] at n1
 refine aA fun b2 r2 n2=>?_;try simp only[ax] at n2
 apply aF hJ;revert h;refine bS fun f b h=>?_;cases h;apply ag _;refine bn hJ _ (tC a u0 b) (aP ?_);apply ag _;apply aT;simp only[*,go_sem]
def tH (u0:au)(a:au):Option Bool:=
 ai (ff a u0) fun b=>some b
theorem HQ {ro:Addr->Option Value}(u0:au)(a:au){r:Bool}(h:tH u0 a=some r):aI Tryz.prog 92 #[.agg #[.int .i64 u0.num,.int .i64 u0.den],.agg #[.int .i64 a.num,.int .i64 a.den]] ⟨ro,[]⟩ (fun v _=>v= .bool r):=by
 unfold tH at h;refine aI.go Tryz.func92 rfl Tryz.ntmps92 Tryz.results92 av fun main J hJ A c hd hs=>?_;have d:=hs 0;have k1:=hs 1;clear hs;apply aB hJ _;refine aA fun e r1 n1=>?_;try simp only[ax] at n1
 refine aA fun b2 r2 n2=>?_;try simp only[ax] at n2
 apply aF hJ;revert h;refine bS fun f b h=>?_;cases h;apply ag _;refine bn hJ _ (jL a u0 b) (aP ?_);apply ag _;apply aT;simp only[*,go_sem]
def tJ (u0:an)(i32:Nat)(a:cn)(st:Int):Option (Fl Int Int):=
 ai (oO u0 a.bA) fun b=>cond (!b) (some (.rt 6)) (some (.nx st))
def nj (u0:an):Option Int:=
 cond (decide (3<(u0.told.length:Int))) (some 2) (ai (bM (tJ u0) 0 u0.told 0) fun o=>aG o (fun a=>some 0) (fun _ _=>none) (fun r=>some r))
theorem HR {ro:Addr->Option Value}(u0:an){s1 c d j:Value}(e:bR ro u0 s1 c d j){r:Int}(h:nj u0=some r):aI Tryz.prog 235 #[bv u0 s1 c d j] ⟨ro,[]⟩ (fun v _=>v= .int .i64 r):=by
 obtain ⟨d24,s,rfl,R,u,-⟩:=id e.t;unfold nj at h;refine aI.go Tryz.func235 rfl Tryz.ntmps235 Tryz.results235 av fun main J hJ A w hd hs=>?_;have y:=hs 0;clear hs;apply aB hJ _;refine aA fun z S B=>?_;try simp only[ax] at B
 refine ah hJ (aF hJ ?_);apply ag _;revert h;refine aV hJ (fun C h=>?_) fun C h=>?_
 .cases h;apply aB hJ _;apply aT;simp only[*,go_sem]
 refine aN hJ (ah hJ ?_);apply aB hJ _;apply aW hJ;revert h;refine bS fun D a k=>?_;refine bW hJ (rg 14 10 [2,4]) (fun m l F'=>∃(i32:Nat) (b:Int),m=u0.told.length - i32/\i32<=u0.told.length/\bM (tJ u0) i32 (u0.told.drop i32) b=some D/\F'=⟨ro,(z,bl u0 s1 c d (sl d24 u0.told s))::[]⟩/\slot l 14= .int .i64 (i32:Int)/\slot l 2= .int .i64 b) u0.told.length ?_ ?_
 .refine ⟨0,0,(Nat.sub_zero _).symm,Nat.zero_le _,a,rfl,?_⟩;simp only[*,go_sem]
 rintro T U F' o ⟨i32,b,rfl,V,a,rfl,W,X⟩;obtain ⟨E,F,G⟩:=o.pick [1,12,13] aD;simp only[*,go_sem] at E F G;clear o w hd y;apply aB hJ _;apply ah hJ;rcases Nat.lt_or_ge i32 u0.told.length with H|p
 .refine cW hJ ?_;apply aN hJ;obtain ⟨q,f⟩:∃x,u0.told[i32]?=some x:=⟨_,List.getElem?_eq_getElem H⟩
  rw[dJ f] at a;revert a;refine bS fun Y h g=>?_;unfold tJ at h;try dsimp only at h
  obtain ⟨Z,I,K,L,i⟩:=e.t.el _ _ f;obtain rfl:I=q.cells:=L;cases K;have M:=i 0 _ rfl;simp only[go_sem] at M;have N:=i 1 _ rfl;simp only[go_sem] at N;clear i f;refine ah hJ (aW hJ (ah hJ ?_));apply aE hJ _;refine aA fun ab ad O=>?_;try simp only[ax] at O
  apply aF hJ;revert h;refine bS fun ae P h=>?_;apply ag _;refine bn hJ _ (BQ u0 (e.mono bq) q.bA P) (aP ?_);apply ag _;revert h;refine aV hJ (fun Q h=>?_) fun Q h=>?_
  .cases h;apply aB hJ _;obtain rfl:=sI g;clear g;have h:=k;dsimp only[aG] at h;cases h;apply aT;simp only[*,go_sem]
  cases h;apply aN hJ;have al:=cM (n:=i32) (by have:=u;omega);apply aE hJ _;refine ⟨u0.told.length - (i32+1),aa,_,Le.sub (List.Sublist.cons _ (List.Sublist.refl _)),i32+1,b,rfl,aa,g,rfl,?_⟩;simp only[*,go_sem]
 have ao:=Nat.not_lt.2 p;refine cJ hJ ?_;rw[List.drop_eq_nil_of_le p] at a;obtain rfl:=sI a;clear a;have h:=k;dsimp only[aG] at h;cases h;apply bP;simp only[go_sem];apply aB hJ _;apply aT;simp only[*,go_sem]
def tK (i34:Nat)(a:cA)(st:Int):Option (Fl Int Int):=
 ai (fU a.back 1 20) fun b=>cond (!b) (some (.rt 1)) (ai (q8 a.high 0 60) fun c=>cond (!c) (some (.rt 1)) (cond (decide (3<=(IntKind.i64.wrap (a.high.high - a.high.low)))) (some (.rt 1)) (some (.nx st))))
def nk (u0:an):Option Int:=
 ai (fU (u0.aK.length:Int) 1 3) fun a=>cond (!a) (some 2) (ai (bM (tK) 0 u0.aK 0) fun o=>aG o (fun b=>some 0) (fun _ _=>none) (fun r=>some r))
theorem HS {ro:Addr->Option Value}(u0:an){s1 f k g:Value}(l:bR ro u0 s1 f k g){r:Int}(h:nk u0=some r):aI Tryz.prog 234 #[bv u0 s1 f k g] ⟨ro,[]⟩ (fun v _=>v= .int .i64 r):=by
 obtain ⟨d17,s,rfl,W,t,-⟩:=id l.y;unfold nk at h;refine aI.go Tryz.func234 rfl Tryz.ntmps234 Tryz.results234 av fun main J hJ A u hd hs=>?_;have w:=hs 0;clear hs;apply aB hJ _;refine aA fun z X B=>?_;try simp only[ax] at B
 refine ah hJ (aF hJ ?_);revert h;refine bS fun Y C h=>?_;apply ag _;refine bn hJ _ (iu (u0.aK.length:Int) 1 3 C) (aP ?_);apply ag _;revert h;refine aV hJ (fun D h=>?_) fun D h=>?_
 .cases h;apply aB hJ _;apply aT;simp only[*,go_sem]
 refine aN hJ (ah hJ ?_);apply aB hJ _;apply aW hJ;revert h;refine bS fun E a c=>?_;refine bW hJ (rg 15 25 [2,4]) (fun m o F'=>∃(i34:Nat) (d:Int),m=u0.aK.length - i34/\i34<=u0.aK.length/\bM (tK) i34 (u0.aK.drop i34) d=some E/\F'=⟨ro,(z,bl u0 s1 f (sl d17 u0.aK s) g)::[]⟩/\slot o 15= .int .i64 (i34:Int)/\slot o 2= .int .i64 d) u0.aK.length ?_ ?_
 .refine ⟨0,0,(Nat.sub_zero _).symm,Nat.zero_le _,a,rfl,?_⟩;simp only[*,go_sem]
 rintro Z ab F' p ⟨i34,d,rfl,ad,a,rfl,ae,al⟩;obtain ⟨F,G,H⟩:=p.pick [13,14] aD;simp only[*,go_sem] at F G H;clear p u hd w;apply aB hJ _;apply ah hJ;rcases Nat.lt_or_ge i34 u0.aK.length with I|q
 .refine cW hJ ?_;apply aN hJ;obtain ⟨i,j⟩:∃x,u0.aK[i34]?=some x:=⟨_,List.getElem?_eq_getElem I⟩
  rw[dJ j] at a;revert a;refine bS fun ao h b=>?_;unfold tK at h;try dsimp only at h
  obtain ⟨ar,K,L,M,e⟩:=l.y.el _ _ j;obtain rfl:K=i.cells:=M;cases L;have N:=e 0 _ rfl;simp only[go_sem] at N;have O:=e 1 _ rfl;simp only[go_sem] at O;have P:=e 2 _ rfl;simp only[go_sem] at P;clear e j;refine ah hJ (aW hJ (ah hJ ?_));apply aE hJ _;refine aA fun a0 a2 Q=>?_;try simp only[ax] at Q
  apply aF hJ;revert h;refine bS fun a3 R h=>?_;apply ag _;refine bn hJ _ (iu i.back 1 20 R) (aP ?_);revert h;refine cS (fun S h=>?_) fun S h=>?_
  .cases h;apply ag _;refine cW hJ ?_;apply aB hJ _;obtain rfl:=sI b;clear b;have h:=c;dsimp only[aG] at h;cases h;apply aT;simp only[*,go_sem]
  revert h;refine bS fun a4 T h=>?_;apply ag _;refine bn hJ _ (BP i.high 0 60 T) (aP ?_);revert h;refine cS (fun U h=>?_) fun U h=>?_
  .cases h;apply ag _;refine cW hJ ?_;apply aB hJ _;obtain rfl:=sI b;clear b;have h:=c;dsimp only[aG] at h;cases h;apply aT;simp only[*,go_sem]
  apply ag _;revert h;refine aV hJ (fun V h=>?_) fun V h=>?_
  .cases h;apply aB hJ _;obtain rfl:=sI b;clear b;have h:=c;dsimp only[aG] at h;cases h;apply aT;simp only[*,go_sem]
  cases h;apply aN hJ;have a5:=cM (n:=i34) (by have:=t;omega);apply aE hJ _;refine ⟨u0.aK.length - (i34+1),aa,_,Le.sub (List.Sublist.cons _ (List.Sublist.refl _)),i34+1,d,rfl,aa,b,rfl,?_⟩;simp only[*,go_sem]
 have a6:=Nat.not_lt.2 q;refine cJ hJ ?_;rw[List.drop_eq_nil_of_le q] at a;obtain rfl:=sI a;clear a;have h:=c;dsimp only[aG] at h;cases h;apply bP;simp only[go_sem];apply aB hJ _;apply aT;simp only[*,go_sem]
def tL (u0:an)(i32:Nat)(a:cm)(st:Int):Option (Fl Int Int):=
 ai (fW u0 a.place) fun c=>cond (!c) (some (.rt 6)) (ai (fV a.dK u0) fun b=>cond ((b != 0)) (some (.rt b)) (some (.nx st)))
def nq (u0:an):Option Int:=
 cond (decide (3<(u0.props.length:Int))) (some 2) (ai (bM (tL u0) 0 u0.props 0) fun o=>aG o (fun a=>some 0) (fun _ _=>none) (fun r=>some r))
theorem HT {ro:Addr->Option Value}(u0:an){s1 l e f:Value}(c:bR ro u0 s1 l e f){r:Int}(h:nq u0=some r):aI Tryz.prog 233 #[bv u0 s1 l e f] ⟨ro,[]⟩ (fun v _=>v= .int .i64 r):=by
 obtain ⟨d10,t,rfl,T,u,-⟩:=id c.p;unfold nq at h;refine aI.go Tryz.func233 rfl Tryz.ntmps233 Tryz.results233 av fun main J hJ A w hd hs=>?_;have y:=hs 0;clear hs;apply aB hJ _;refine aA fun z U B=>?_;try simp only[ax] at B
 refine ah hJ (aF hJ ?_);apply ag _;revert h;refine aV hJ (fun C h=>?_) fun C h=>?_
 .cases h;apply aB hJ _;apply aT;simp only[*,go_sem]
 refine aN hJ (ah hJ ?_);apply aB hJ _;apply aW hJ;revert h;refine bS fun D a g=>?_;refine bW hJ (rg 15 17 [2,4,5]) (fun m o F'=>∃(i32:Nat) (d:Int),m=u0.props.length - i32/\i32<=u0.props.length/\bM (tL u0) i32 (u0.props.drop i32) d=some D/\F'=⟨ro,(z,bl u0 s1 (sl d10 u0.props t) e f)::[]⟩/\slot o 15= .int .i64 (i32:Int)/\slot o 2= .int .i64 d) u0.props.length ?_ ?_
 .refine ⟨0,0,(Nat.sub_zero _).symm,Nat.zero_le _,a,rfl,?_⟩;simp only[*,go_sem]
 rintro V W F' q ⟨i32,d,rfl,X,a,rfl,Y,Z⟩;obtain ⟨E,F,G⟩:=q.pick [1,13,14] aD;simp only[*,go_sem] at E F G;clear q w hd y;apply aB hJ _;apply ah hJ;rcases Nat.lt_or_ge i32 u0.props.length with H|s
 .refine cW hJ ?_;apply aN hJ;obtain ⟨i,j⟩:∃x,u0.props[i32]?=some x:=⟨_,List.getElem?_eq_getElem H⟩
  rw[dJ j] at a;revert a;refine bS fun ab h b=>?_;unfold tL at h;try dsimp only at h
  obtain ⟨ad,I,K,L,k⟩:=c.p.el _ _ j;obtain rfl:I=i.cells:=L;cases K;have M:=k 0 _ rfl;simp only[go_sem] at M;have N:=k 1 _ rfl;simp only[go_sem] at N;clear k j;refine ah hJ (aW hJ (ah hJ ?_));apply aE hJ _;refine aA fun ae al O=>?_;try simp only[ax] at O
  refine ah hJ (aF hJ ?_);revert h;refine bS fun ao P h=>?_;apply ag _;refine bn hJ _ (tE u0 (c.mono bq) i.place P) (aP ?_);apply ag _;revert h;refine aV hJ (fun Q h=>?_) fun Q h=>?_
  .cases h;apply aB hJ _;obtain rfl:=sI b;clear b;have h:=g;dsimp only[aG] at h;cases h;apply aT;simp only[*,go_sem]
  refine aN hJ (ah hJ ?_);apply aQ hJ;revert h;refine bS fun ar R h=>?_;apply ag _;refine bn hJ _ (xk i.dK u0 (c.mono bq) R) (aP ?_);apply ag _;apply aB hJ _;revert h;refine aV hJ (fun S h=>?_) fun S h=>?_
  .cases h;apply aB hJ _;obtain rfl:=sI b;clear b;have h:=g;dsimp only[aG] at h;cases h;apply aT;simp only[*,go_sem]
  cases h;apply aN hJ;have a0:=cM (n:=i32) (by have:=u;omega);apply aE hJ _;refine ⟨u0.props.length - (i32+1),aa,_,Le.sub (List.Sublist.cons _ (List.Sublist.refl _)),i32+1,d,rfl,aa,b,rfl,?_⟩;simp only[*,go_sem]
 have a2:=Nat.not_lt.2 s;refine cJ hJ ?_;rw[List.drop_eq_nil_of_le s] at a;obtain rfl:=sI a;clear a;have h:=g;dsimp only[aG] at h;cases h;apply bP;simp only[go_sem];apply aB hJ _;apply aT;simp only[*,go_sem]
def tN (u0:an)(i34:Nat)(a:cj)(st:Int):Option (Fl Int Int):=
 ai (fU a.aU 0 (IntKind.i64.wrap (u0.bZ - 1))) fun b=>cond (!b) (some (.rt 1)) (ai (fU a.high 0 60) fun c=>cond (!c) (some (.rt 1)) (cond (decide (0<(i34:Int))) (ai (bu u0.az (IntKind.i64.wrap ((i34:Int) - 1))) fun d=>cond (decide (a.aU<=d.aU)) (some (.rt 7)) (some (.nx st))) (some (.nx st))))
def mc (u0:an):Option Int:=
 ai (fU (u0.az.length:Int) 2 5) fun a=>cond (!a) (some 2) (ai (bM (tN u0) 0 u0.az 0) fun o=>aG o (fun b=>some 0) (fun _ _=>none) (fun r=>some r))
theorem HU {ro:Addr->Option Value}(u0:an){s1 f g i:Value}(j:bR ro u0 s1 f g i){r:Int}(h:mc u0=some r):aI Tryz.prog 232 #[bv u0 s1 f g i] ⟨ro,[]⟩ (fun v _=>v= .int .i64 r):=by
 obtain ⟨d3,c4,rfl,ar,q,-⟩:=id j.e;unfold mc at h;refine aI.go Tryz.func232 rfl Tryz.ntmps232 Tryz.results232 av fun main J hJ A y hd hs=>?_;have z:=hs 0;clear hs;apply aB hJ _;refine aA fun B a0 C=>?_;try simp only[ax] at C
 refine ah hJ (aF hJ ?_);revert h;refine bS fun a2 D h=>?_;apply ag _;refine bn hJ _ (iu (u0.az.length:Int) 2 5 D) (aP ?_);apply ag _;revert h;refine aV hJ (fun E h=>?_) fun E h=>?_
 .cases h;apply aB hJ _;apply aT;simp only[*,go_sem]
 refine aN hJ (ah hJ ?_);apply aB hJ _;apply aW hJ;revert h;refine bS fun F b d=>?_;refine bW hJ (rg 15 35 [2,3,4]) (fun m s F'=>∃(i34:Nat) (c:Int),m=u0.az.length - i34/\i34<=u0.az.length/\bM (tN u0) i34 (u0.az.drop i34) c=some F/\F'=⟨ro,(B,bl u0 (sl d3 u0.az c4) f g i)::[]⟩/\slot s 15= .int .i64 (i34:Int)/\slot s 2= .int .i64 c) u0.az.length ?_ ?_
 .refine ⟨0,0,(Nat.sub_zero _).symm,Nat.zero_le _,b,rfl,?_⟩;simp only[*,go_sem]
 rintro a3 a4 F' t ⟨i34,c,rfl,a5,b,rfl,a6,a7⟩;obtain ⟨G,H,I⟩:=t.pick [1,13,14] aD;simp only[*,go_sem] at G H I;clear t y hd z;apply aB hJ _;apply ah hJ;rcases Nat.lt_or_ge i34 u0.az.length with K|u
 .refine cW hJ ?_;apply aN hJ;obtain ⟨k,l⟩:∃x,u0.az[i34]?=some x:=⟨_,List.getElem?_eq_getElem K⟩
  rw[dJ l] at b;revert b;refine bS fun a8 h a=>?_;unfold tN at h;try dsimp only at h
  obtain ⟨a9,L,M,N,o⟩:=j.e.el _ _ l;obtain rfl:L=k.cells:=N;cases M;have O:=o 0 _ rfl;simp only[go_sem] at O;have P:=o 1 _ rfl;simp only[go_sem] at P;clear o l;refine ah hJ (aW hJ (ah hJ ?_));apply aE hJ _;refine aA fun ba bb Q=>?_;try simp only[ax] at Q
  refine aW hJ (ah hJ ?_);apply aF hJ;revert h;refine bS fun bc R h=>?_;apply ag _;refine bn hJ _ (iu k.aU 0 (IntKind.i64.wrap (u0.bZ - 1)) R) (aP ?_);apply ag _;revert h;refine aV hJ (fun S h=>?_) fun S h=>?_
  .cases h;apply aN hJ;refine cW hJ ?_;apply aB hJ _;obtain rfl:=sI a;clear a;have h:=d;dsimp only[aG] at h;cases h;apply aT;simp only[*,go_sem]
  apply aQ hJ;revert h;refine bS fun bd T h=>?_;apply ag _;refine bn hJ _ (iu k.high 0 60 T) (aP ?_);apply ag _;revert h;refine aV hJ (fun U h=>?_) fun U h=>?_
  .cases h;apply aB hJ _;obtain rfl:=sI a;clear a;have h:=d;dsimp only[aG] at h;cases h;apply aT;simp only[*,go_sem]
  apply ah hJ;refine c5 hJ mixed 16 2 aL aj ?_;revert h;refine cS (fun V h=>?_) fun V h=>?_
  .revert h;refine bS fun W X h=>?_;obtain ⟨bj,bk,w⟩:=ck X;obtain ⟨bm,Y,Z,ab,p⟩:=j.e.el _ _ w;obtain rfl:Y=W.cells:=ab;cases Z;have ad:=p 0 _ rfl;simp only[go_sem] at ad;have ae:=p 1 _ rfl;simp only[go_sem] at ae;clear p w;apply ag _;revert h;refine aV hJ (fun al h=>?_) fun al h=>?_
   .cases h;apply aB hJ _;obtain rfl:=sI a;clear a;have h:=d;dsimp only[aG] at h;cases h;apply aT;simp only[*,go_sem]
   cases h;apply aN hJ;have ao:=cM (n:=i34) (by have:=q;omega);apply aE hJ _;refine ⟨u0.az.length - (i34+1),aa,_,Le.sub (List.Sublist.cons _ (List.Sublist.refl _)),i34+1,c,rfl,aa,a,rfl,?_⟩;simp only[*,go_sem]
  cases h;apply ag _;refine cJ hJ ?_;apply aN hJ;have ao:=cM (n:=i34) (by have:=q;omega);apply aE hJ _;refine ⟨u0.az.length - (i34+1),aa,_,Le.sub (List.Sublist.cons _ (List.Sublist.refl _)),i34+1,c,rfl,aa,a,rfl,?_⟩;simp only[*,go_sem]
 have bo:=Nat.not_lt.2 u;refine cJ hJ ?_;rw[List.drop_eq_nil_of_le u] at b;obtain rfl:=sI b;clear b;have h:=d;dsimp only[aG] at h;cases h;apply bP;simp only[go_sem];apply aB hJ _;apply aT;simp only[*,go_sem]
def oR (u0:an):Option Int:=
 ai (fU u0.bZ 2 60) fun b=>cond (!b) (some 1) (ai (fU u0.cg 0 60) fun c=>cond (!c) (some 1) (ai (fU u0.bp.den 1 20) fun d=>cond (!d) (some 1) (ai (fU u0.bp.num 0 20) fun e=>cond (!e) (some 1) (ai (lg u0.bp.num u0.bp.den) fun a=>cond (!((a.num==u0.bp.num)&&(a.den==u0.bp.den))) (some 3) (some 0)))))
theorem HV {ro:Addr->Option Value}(u0:an){s1 a b c:Value}(z:bR ro u0 s1 a b c){r:Int}(h:oR u0=some r):aI Tryz.prog 231 #[bv u0 s1 a b c] ⟨ro,[]⟩ (fun v _=>v= .int .i64 r):=by
 unfold oR at h;refine aI.go Tryz.func231 rfl Tryz.ntmps231 Tryz.results231 av fun main J hJ A d hd hs=>?_;have e:=hs 0;clear hs;apply aB hJ _;refine aA fun B C f=>?_;try simp only[ax] at f
 refine ah hJ (aW hJ (ah hJ ?_));apply aF hJ;revert h;refine bS fun D g h=>?_;apply ag _;refine bn hJ _ (iu u0.bZ 2 60 g) (aP ?_);apply ag _;revert h;refine aV hJ (fun i h=>?_) fun i h=>?_
 .cases h;apply aN hJ;refine cW hJ ?_;apply aB hJ _;apply aT;simp only[*,go_sem]
 apply aF hJ;revert h;refine bS fun E j h=>?_;apply ag _;refine bn hJ _ (iu u0.cg 0 60 j) (aP ?_);apply ag _;revert h;refine aV hJ (fun k h=>?_) fun k h=>?_
 .cases h;apply aN hJ;refine cW hJ ?_;apply aB hJ _;apply aT;simp only[*,go_sem]
 apply aF hJ;revert h;refine bS fun G l h=>?_;apply ag _;refine bn hJ _ (iu u0.bp.den 1 20 l) (aP ?_);apply ag _;revert h;refine aV hJ (fun m h=>?_) fun m h=>?_
 .cases h;apply aN hJ;refine cW hJ ?_;apply aB hJ _;apply aT;simp only[*,go_sem]
 apply aQ hJ;revert h;refine bS fun H n h=>?_;apply ag _;refine bn hJ _ (iu u0.bp.num 0 20 n) (aP ?_);apply ag _;revert h;refine aV hJ (fun o h=>?_) fun o h=>?_
 .cases h;apply aB hJ _;apply aT;simp only[*,go_sem]
 apply ah hJ;refine c5 hJ mixed 14 1 aL aj ?_;revert h;refine bS fun I p h=>?_;apply ag _;refine ⟨_,bL hJ fun F K=>rf u0.bp.num u0.bp.den p,cw ?_⟩;apply ag _;revert h;refine aV hJ (fun q h=>?_) fun q h=>?_
 .cases h;apply ah hJ;refine fM [2] fun L s t u=>?_;simp only[*,go_sem] at s t u;clear d hd e;apply aE hJ _;apply aT;simp only[*,go_sem]
 cases h;refine aN hJ (ah hJ ?_);refine fM [2] fun M w x y=>?_;simp only[*,go_sem] at w x y;clear d hd e;apply aE hJ _;apply aT;simp only[*,go_sem]
def dM (ro:Addr->Option Value):Prop:=
 ro ⟨0,0,none⟩=some (.func (.func 231) #[] #[])/\ro ⟨0,1,none⟩=some (.func (.func 232) #[] #[])/\ro ⟨0,2,none⟩=some (.func (.func 233) #[] #[])/\ro ⟨0,3,none⟩=some (.func (.func 234) #[] #[])/\ro ⟨0,4,none⟩=some (.func (.func 235) #[] #[])
theorem dM.mono {ro bf:Addr->Option Value}(h:dM ro)(a:Ext ro bf):dM bf:=
 ⟨a _ _ h.1,a _ _ h.2.1,a _ _ h.2.2.1,a _ _ h.2.2.2.1,a _ _ h.2.2.2.2⟩
def rq (_:an):Option Int:=some 0
def oS (b:an):Option Int:=ai (nj b) fun x=>cond (x != 0) (some x) (rq b)
def oT (b:an):Option Int:=ai (nk b) fun x=>cond (x != 0) (some x) (oS b)
def oU (b:an):Option Int:=ai (nq b) fun x=>cond (x != 0) (some x) (oT b)
def oV (b:an):Option Int:=ai (mc b) fun x=>cond (x != 0) (some x) (oU b)
def nt (b:an):Option Int:=ai (oR b) fun x=>cond (x != 0) (some x) (oV b)
def gf (b:an):Option Int:=nt b
def tO:Nat->an->Option Int
 |0=>nt|1=>oV|2=>oU|3=>oT|4=>oS|_=>rq
theorem BS {ro:Addr->Option Value}(o:dM ro)(u0:an){s1:Value}(e:aH fT ro s1 u0.az){s2:Value}(f:aH fe ro s2 u0.props){g:Value}(j:aH fN ro g u0.aK){k:Value}(l:aH dL ro k u0.told){r:Int}(h:gf u0=some r):
  aI Tryz.prog 115 #[.agg #[.int .i64 u0.bZ,.int .i64 u0.cg,.int .i64 u0.bp.num,.int .i64 u0.bp.den,s1,s2,g,k]] ⟨ro,[]⟩ (fun v _=>v= .int .i64 r):=by
 obtain ⟨s,t,u,w,y⟩:=o
 replace h:tO 0 u0=some r:=h
 refine aI.go Tryz.func115 rfl Tryz.ntmps115 Tryz.results115 av fun main J hJ A p hd hs=>?_
 have z:=hs 0
 clear hs
 first|refine aQ hJ ?_|refine aF hJ ?_|refine ah hJ (aF hJ ?_)|refine ah hJ (ah hJ (aF hJ ?_))
 apply ag _
 intro d f1;have r1:=fA f1;have n1:=gx f1;simp only[ax] at n1
 first|refine aQ hJ ?_|refine aF hJ ?_|refine ah hJ (aF hJ ?_)|refine ah hJ (ah hJ (aF hJ ?_))
 apply ag _
 first|refine aW hJ (wH hJ (fun m a F=>∃i:Nat,F=⟨ro,[(d,.cells #[.int .i64 u0.bZ,.int .i64 u0.cg,.int .i64 u0.bp.num,.int .i64 u0.bp.den,s1,s2,g,k] 29)]⟩/\m=5 - i/\sz a=18/\a.defers=[]/\slot a 1= .pointer (some ⟨d,0,none⟩)/\slot a 6= .agg #[.func (.func 231) #[] #[],.func (.func 232) #[] #[],.func (.func 233) #[] #[],.func (.func 234) #[] #[],.func (.func 235) #[] #[]]/\slot a 7= .int .i64 i/\i<=5/\tO i u0=some r) (5) ?_ ?_)|refine ah hJ (aW hJ (wH hJ (fun m a F=>∃i:Nat,F=⟨ro,[(d,.cells #[.int .i64 u0.bZ,.int .i64 u0.cg,.int .i64 u0.bp.num,.int .i64 u0.bp.den,s1,s2,g,k] 29)]⟩/\m=5 - i/\sz a=18/\a.defers=[]/\slot a 1= .pointer (some ⟨d,0,none⟩)/\slot a 6= .agg #[.func (.func 231) #[] #[],.func (.func 232) #[] #[],.func (.func 233) #[] #[],.func (.func 234) #[] #[],.func (.func 235) #[] #[]]/\slot a 7= .int .i64 i/\i<=5/\tO i u0=some r) (5) ?_ ?_))|refine ah hJ (ah hJ (aW hJ (wH hJ (fun m a F=>∃i:Nat,F=⟨ro,[(d,.cells #[.int .i64 u0.bZ,.int .i64 u0.cg,.int .i64 u0.bp.num,.int .i64 u0.bp.den,s1,s2,g,k] 29)]⟩/\m=5 - i/\sz a=18/\a.defers=[]/\slot a 1= .pointer (some ⟨d,0,none⟩)/\slot a 6= .agg #[.func (.func 231) #[] #[],.func (.func 232) #[] #[],.func (.func 233) #[] #[],.func (.func 234) #[] #[],.func (.func 235) #[] #[]]/\slot a 7= .int .i64 i/\i<=5/\tO i u0=some r) (5) ?_ ?_)))
 .refine ⟨0,rfl,rfl,?_⟩
  apply bV _
  first|exact ⟨Nat.zero_le _,h⟩|exact h
 .clear h
  rintro m a F ⟨i,rfl,rfl,p,hd,B,C,D,hi,h⟩
  rcases i with _|_|_|_|_|i
  .replace h:ai (oR u0) (fun x=>cond (x != 0) (some x) (oV u0))=some r:=h
   have b:=gH h;clear h;obtain ⟨x,q,h⟩:=b
   have n:((0:Nat):Int)=0:=rfl
   first|refine aQ hJ ?_|refine aF hJ ?_|refine ah hJ (aF hJ ?_)|refine ah hJ (ah hJ (aF hJ ?_))
   apply bV _
   apply ah hJ
   refine eF hJ dH ?_
   apply aN hJ
   refine ah hJ (aW hJ ?_)
   first|refine aQ hJ ?_|refine aF hJ ?_|refine ah hJ (aF hJ ?_)|refine ah hJ (ah hJ (aF hJ ?_))
   apply bV _
   first|refine aQ hJ ?_|refine aF hJ ?_|refine ah hJ (aF hJ ?_)|refine ah hJ (ah hJ (aF hJ ?_))
   apply bV _
   refine bn hJ _ (HV u0 ⟨(e.mono bq),(f.mono bq),(j.mono bq),(l.mono bq)⟩ q) (aP ?_)
   apply bV _
   first|refine aQ hJ ?_|refine aF hJ ?_|refine ah hJ (aF hJ ?_)|refine ah hJ (ah hJ (aF hJ ?_))
   apply bV _
   have b:=jI h;clear h;rcases b with ⟨c,h⟩|⟨c,h⟩
   .refine eF hJ dH ?_
    first|refine aQ hJ ?_|refine aF hJ ?_|refine ah hJ (aF hJ ?_)|refine ah hJ (ah hJ (aF hJ ?_))
    apply bV _
    have b:=Option.some.inj h;clear h;subst b
    apply aT
    simp only[*,go_sem]
   .refine ew hJ dH ?_
    apply aN hJ
    apply aQ hJ
    apply bV _
    refine ⟨5 - 1,aa,_,Le.refl _,1,rfl,rfl,?_⟩
    have hw:IntKind.i64.wrap (0+1)=((1:Nat):Int):=aD
    apply bV _
    first|exact ⟨aa,h⟩|exact h
  .replace h:ai (mc u0) (fun x=>cond (x != 0) (some x) (oU u0))=some r:=h
   have b:=gH h;clear h;obtain ⟨x,q,h⟩:=b
   have n:((0+1:Nat):Int)=1:=rfl
   first|refine aQ hJ ?_|refine aF hJ ?_|refine ah hJ (aF hJ ?_)|refine ah hJ (ah hJ (aF hJ ?_))
   apply bV _
   apply ah hJ
   refine eF hJ dH ?_
   apply aN hJ
   refine ah hJ (aW hJ ?_)
   first|refine aQ hJ ?_|refine aF hJ ?_|refine ah hJ (aF hJ ?_)|refine ah hJ (ah hJ (aF hJ ?_))
   apply bV _
   first|refine aQ hJ ?_|refine aF hJ ?_|refine ah hJ (aF hJ ?_)|refine ah hJ (ah hJ (aF hJ ?_))
   apply bV _
   refine bn hJ _ (HU u0 ⟨(e.mono bq),(f.mono bq),(j.mono bq),(l.mono bq)⟩ q) (aP ?_)
   apply bV _
   first|refine aQ hJ ?_|refine aF hJ ?_|refine ah hJ (aF hJ ?_)|refine ah hJ (ah hJ (aF hJ ?_))
   apply bV _
   have b:=jI h;clear h;rcases b with ⟨c,h⟩|⟨c,h⟩
   .refine eF hJ dH ?_
    first|refine aQ hJ ?_|refine aF hJ ?_|refine ah hJ (aF hJ ?_)|refine ah hJ (ah hJ (aF hJ ?_))
    apply bV _
    have b:=Option.some.inj h;clear h;subst b
    apply aT
    simp only[*,go_sem]
   .refine ew hJ dH ?_
    apply aN hJ
    apply aQ hJ
    apply bV _
    refine ⟨5 - 2,aa,_,Le.refl _,2,rfl,rfl,?_⟩
    have hw:IntKind.i64.wrap (1+1)=((2:Nat):Int):=aD
    apply bV _
    first|exact ⟨aa,h⟩|exact h
  .replace h:ai (nq u0) (fun x=>cond (x != 0) (some x) (oT u0))=some r:=h
   have b:=gH h;clear h;obtain ⟨x,q,h⟩:=b
   have n:((0+1+1:Nat):Int)=2:=rfl
   first|refine aQ hJ ?_|refine aF hJ ?_|refine ah hJ (aF hJ ?_)|refine ah hJ (ah hJ (aF hJ ?_))
   apply bV _
   apply ah hJ
   refine eF hJ dH ?_
   apply aN hJ
   refine ah hJ (aW hJ ?_)
   first|refine aQ hJ ?_|refine aF hJ ?_|refine ah hJ (aF hJ ?_)|refine ah hJ (ah hJ (aF hJ ?_))
   apply bV _
   first|refine aQ hJ ?_|refine aF hJ ?_|refine ah hJ (aF hJ ?_)|refine ah hJ (ah hJ (aF hJ ?_))
   apply bV _
   refine bn hJ _ (HT u0 ⟨(e.mono bq),(f.mono bq),(j.mono bq),(l.mono bq)⟩ q) (aP ?_)
   apply bV _
   first|refine aQ hJ ?_|refine aF hJ ?_|refine ah hJ (aF hJ ?_)|refine ah hJ (ah hJ (aF hJ ?_))
   apply bV _
   have b:=jI h;clear h;rcases b with ⟨c,h⟩|⟨c,h⟩
   .refine eF hJ dH ?_
    first|refine aQ hJ ?_|refine aF hJ ?_|refine ah hJ (aF hJ ?_)|refine ah hJ (ah hJ (aF hJ ?_))
    apply bV _
    have b:=Option.some.inj h;clear h;subst b
    apply aT
    simp only[*,go_sem]
   .refine ew hJ dH ?_
    apply aN hJ
    apply aQ hJ
    apply bV _
    refine ⟨5 - 3,aa,_,Le.refl _,3,rfl,rfl,?_⟩
    have hw:IntKind.i64.wrap (2+1)=((3:Nat):Int):=aD
    apply bV _
    first|exact ⟨aa,h⟩|exact h
  .replace h:ai (nk u0) (fun x=>cond (x != 0) (some x) (oS u0))=some r:=h
   have b:=gH h;clear h;obtain ⟨x,q,h⟩:=b
   have n:((0+1+1+1:Nat):Int)=3:=rfl
   first|refine aQ hJ ?_|refine aF hJ ?_|refine ah hJ (aF hJ ?_)|refine ah hJ (ah hJ (aF hJ ?_))
   apply bV _
   apply ah hJ
   refine eF hJ dH ?_
   apply aN hJ
   refine ah hJ (aW hJ ?_)
   first|refine aQ hJ ?_|refine aF hJ ?_|refine ah hJ (aF hJ ?_)|refine ah hJ (ah hJ (aF hJ ?_))
   apply bV _
   first|refine aQ hJ ?_|refine aF hJ ?_|refine ah hJ (aF hJ ?_)|refine ah hJ (ah hJ (aF hJ ?_))
   apply bV _
   refine bn hJ _ (HS u0 ⟨(e.mono bq),(f.mono bq),(j.mono bq),(l.mono bq)⟩ q) (aP ?_)
   apply bV _
   first|refine aQ hJ ?_|refine aF hJ ?_|refine ah hJ (aF hJ ?_)|refine ah hJ (ah hJ (aF hJ ?_))
   apply bV _
   have b:=jI h;clear h;rcases b with ⟨c,h⟩|⟨c,h⟩
   .refine eF hJ dH ?_
    first|refine aQ hJ ?_|refine aF hJ ?_|refine ah hJ (aF hJ ?_)|refine ah hJ (ah hJ (aF hJ ?_))
    apply bV _
    have b:=Option.some.inj h;clear h;subst b
    apply aT
    simp only[*,go_sem]
   .refine ew hJ dH ?_
    apply aN hJ
    apply aQ hJ
    apply bV _
    refine ⟨5 - 4,aa,_,Le.refl _,4,rfl,rfl,?_⟩
    have hw:IntKind.i64.wrap (3+1)=((4:Nat):Int):=aD
    apply bV _
    first|exact ⟨aa,h⟩|exact h
  .replace h:ai (nj u0) (fun x=>cond (x != 0) (some x) (rq u0))=some r:=h
   have b:=gH h;clear h;obtain ⟨x,q,h⟩:=b
   have n:((0+1+1+1+1:Nat):Int)=4:=rfl
   first|refine aQ hJ ?_|refine aF hJ ?_|refine ah hJ (aF hJ ?_)|refine ah hJ (ah hJ (aF hJ ?_))
   apply bV _
   apply ah hJ
   refine eF hJ dH ?_
   apply aN hJ
   refine ah hJ (aW hJ ?_)
   first|refine aQ hJ ?_|refine aF hJ ?_|refine ah hJ (aF hJ ?_)|refine ah hJ (ah hJ (aF hJ ?_))
   apply bV _
   first|refine aQ hJ ?_|refine aF hJ ?_|refine ah hJ (aF hJ ?_)|refine ah hJ (ah hJ (aF hJ ?_))
   apply bV _
   refine bn hJ _ (HR u0 ⟨(e.mono bq),(f.mono bq),(j.mono bq),(l.mono bq)⟩ q) (aP ?_)
   apply bV _
   first|refine aQ hJ ?_|refine aF hJ ?_|refine ah hJ (aF hJ ?_)|refine ah hJ (ah hJ (aF hJ ?_))
   apply bV _
   have b:=jI h;clear h;rcases b with ⟨c,h⟩|⟨c,h⟩
   .refine eF hJ dH ?_
    first|refine aQ hJ ?_|refine aF hJ ?_|refine ah hJ (aF hJ ?_)|refine ah hJ (ah hJ (aF hJ ?_))
    apply bV _
    have b:=Option.some.inj h;clear h;subst b
    apply aT
    simp only[*,go_sem]
   .refine ew hJ dH ?_
    apply aN hJ
    apply aQ hJ
    apply bV _
    refine ⟨5 - 5,aa,_,Le.refl _,5,rfl,rfl,?_⟩
    have hw:IntKind.i64.wrap (4+1)=((5:Nat):Int):=aD
    apply bV _
    first|exact ⟨aa,h⟩|exact h
  .have:i=0:=aa
   subst this
   replace h:some 0=some r:=h
   have n:((0+1+1+1+1+1:Nat):Int)=5:=rfl
   first|refine aQ hJ ?_|refine aF hJ ?_|refine ah hJ (aF hJ ?_)|refine ah hJ (ah hJ (aF hJ ?_))
   apply bV _
   apply ah hJ
   refine ew hJ dH ?_
   apply bP
   simp only[go_sem]
   first|refine aQ hJ ?_|refine aF hJ ?_|refine ah hJ (aF hJ ?_)|refine ah hJ (ah hJ (aF hJ ?_))
   apply bV _
   have b:=Option.some.inj h;clear h;subst b
   apply aT
   simp only[*,go_sem]
def oW (u0:an)(b:bh)(i39:Nat)(a:cj)(st:(List bH)):Option (Fl (List bH) bH):=
 ai (gZ a.high) fun c=>ai (lp u0 b (i39:Int) (⟨a.aU,c⟩:iM)) fun d=>ai (cx st ([d])) fun e=>some (.nx e)
def ku (u0:an)(b:bh):Option bH:=
 ai (bM (oW u0 b) 0 u0.az ([]:List bH)) fun o=>aG o (fun a=>ai (bu a 0) fun c=>ai (ja a 1 (a.length:Int)) fun d=>ai (jP g5 c d) fun e=>some e) (fun _ _=>none) (fun r=>some r)
theorem tP {ro:Addr->Option Value}(u0:an){s1 f g i:Value}(u:bR ro u0 s1 f g i)(b:bh){r:bH}(h:ku u0 b=some r):aI Tryz.prog 55 #[bv u0 s1 f g i,.agg #[.int .i64 b.back,.int .i64 b.high]] ⟨ro,[]⟩ (fun v _=>v=r.v):=by
 obtain ⟨d3,c4,rfl,dT,W,-⟩:=id u.e;unfold ku at h;refine aI.go Tryz.func55 rfl Tryz.ntmps55 Tryz.results55 av fun main J hJ A X hd hs=>?_;have Y:=hs 0;have k1:=hs 1;clear hs;apply aB hJ _;refine aA fun o Z ab=>?_;try simp only[ax] at ab
 refine aA fun p ad ae=>?_;try simp only[ax] at ae
 refine aA fun q al ao=>?_;try simp only[ax] at ao
 apply aB hJ _;refine ah hJ (aF hJ ?_);apply ag _;apply aW hJ;revert h;refine bS fun ar j a0=>?_;refine bW hJ (rg 12 19 [5,6,7]) (fun m G F'=>∃(i39:Nat) (d33:Option Addr) (s:Nat) (w:List (Nat×Obj)) (c:(List bH)),m=u0.az.length - i39/\i39<=u0.az.length/\bM (oW u0 b) i39 (u0.az.drop i39) c=some ar/\F'=⟨ro,(q,.cells #[.int .i64 0,.int .i64 0,.int .i64 0,.int .i64 0,.int .i64 0,.int .i64 0] 105)::(p,.cells #[.int .i64 b.back,.int .i64 b.high] 101)::(o,bl u0 (sl d3 u0.az c4) f g i)::w⟩/\aZ lf ro 105 (.slice d33 c.length s) c w/\c.length<=s/\slot G 12= .int .i64 (i39:Int)/\slot G 5= .slice d33 c.length s) u0.az.length ?_ ?_
 .refine ⟨0,none,0,[],([]:List bH),(Nat.sub_zero _).symm,Nat.zero_le _,j,rfl,aZ.nil _ _ _,Nat.le_refl _,?_⟩;simp only[*,go_sem]
 rintro ea eb F' H ⟨i39,d33,s,w,c,rfl,ec,j,rfl,I,ed,eh,et⟩;obtain ⟨a2,a3,a4⟩:=H.pick [2,3,4,10,11] aD;simp only[*,go_sem] at a2 a3 a4;clear H X hd Y k1;apply aB hJ _;apply ah hJ;rcases Nat.lt_or_ge i39 u0.az.length with a5|K
 .refine cW hJ ?_;apply aN hJ;obtain ⟨d,y⟩:∃x,u0.az[i39]?=some x:=⟨_,List.getElem?_eq_getElem a5⟩
  rw[dJ y] at j;revert j;refine bS fun ev h a6=>?_;unfold oW at h;try dsimp only at h
  obtain ⟨z,a7,a8,a9,B⟩:=u.e.el _ _ y;obtain rfl:a7=d.cells:=a9;cases a8;have ba:=B 0 _ rfl;simp only[go_sem] at ba;have bb:=B 1 _ rfl;simp only[go_sem] at bb;clear B y;refine ah hJ (aW hJ (ah hJ ?_));refine ay hJ fun bc=>?_;apply aE hJ _;refine aA fun C eQ L=>?_;have eS:=bg.cons L bc;try simp only[ax] at L
  refine ay hJ fun bd=>?_;refine eE hJ mixed 11 ⟨ro,[(C,.cells #[.int .i64 d.aU,.int .i64 d.high] 125),(q,.cells #[.int .i64 0,.int .i64 0,.int .i64 0,.int .i64 0,.int .i64 0,.int .i64 0] 105),(p,.cells #[.int .i64 b.back,.int .i64 b.high] 101),(o,bl u0 (sl (some z) u0.az c4) f g i)]⟩ aL aj ?_;revert h;refine bS fun bj bk h=>?_;apply ag _;refine ⟨_,bL hJ fun F t=>kr d.high bk,cw ?_⟩;revert h;refine bS fun a bm h=>?_;apply ag _;refine ⟨_,bL hJ fun F t=>BR u0 (u.mono (cq t)) b (i39:Int) (⟨d.aU,bj⟩:iM) bm,?_⟩;revert h;refine bS fun bo br h=>?_;cases h;obtain ⟨bs,M⟩:=cL br;apply ag _;refine aA fun N bz O=>?_;have b0:=bg.cons O bd;try simp only[ax] at O
  apply ag _;refine dj (r:=lf) (l:=c) (x:=a) (cs:=#[.int .i64 a.spot.aU,.int .i64 a.spot.high.num,.int .i64 a.spot.high.den,.int .i64 a.at_,.int .i64 a.high.num,.int .i64 a.high.den]) (e2:=105) [(N,.cells #[.int .i64 a.spot.aU,.int .i64 a.spot.high.num,.int .i64 a.spot.high.den,.int .i64 a.at_,.int .i64 a.high.num,.int .i64 a.high.den] 105),(C,.cells #[.int .i64 d.aU,.int .i64 d.high] 125),(q,.cells #[.int .i64 0,.int .i64 0,.int .i64 0,.int .i64 0,.int .i64 0,.int .i64 0] 105),(p,.cells #[.int .i64 b.back,.int .i64 b.high] 101),(o,bl u0 (sl (some z) u0.az c4) f g i)] [] I b0 bs rfl aL bz rfl rfl oJ oJ wQ wS rfl wR aD aD (fun eV P D b1 b2 e0=>?_);simp only[aY] at b2;subst b1;rw[<-M] at D;clear M;obtain ⟨d63,b3,rfl,b4⟩:=D.len;refine ⟨⟨ro,(N,.cells #[.int .i64 a.spot.aU,.int .i64 a.spot.high.num,.int .i64 a.spot.high.den,.int .i64 a.at_,.int .i64 a.high.num,.int .i64 a.high.den] 105)::(C,.cells #[.int .i64 d.aU,.int .i64 d.high] 125)::(q,.cells #[.int .i64 0,.int .i64 0,.int .i64 0,.int .i64 0,.int .i64 0,.int .i64 0] 105)::(p,.cells #[.int .i64 b.back,.int .i64 b.high] 101)::(o,bl u0 (sl (some z) u0.az c4) f g i)::P⟩,Le.refl _,?_⟩;refine ⟨aL,lW ?_⟩;apply ag _;have e1:=cM (n:=i39) (by have:=W;omega);apply aE hJ _;refine ⟨u0.az.length - (i39+1),aa,_,Le.sub (List.Sublist.cons _ (List.Sublist.cons _ (List.Sublist.refl _))),i39+1,d63,b3,P,bo,rfl,aa,a6,rfl,D,b4,?_⟩;simp only[*,go_sem]
 have e3:=Nat.not_lt.2 K;refine cJ hJ ?_;rw[List.drop_eq_nil_of_le K] at j;obtain rfl:=sI j;clear j;have h:=a0;dsimp only[aG] at h;apply bP;simp only[go_sem];apply ah hJ;refine ay hJ fun Q=>?_;obtain ⟨b5,fa,ca,E,cb⟩:=I.dU [(q,.cells #[.int .i64 0,.int .i64 0,.int .i64 0,.int .i64 0,.int .i64 0,.int .i64 0] 105),(p,.cells #[.int .i64 b.back,.int .i64 b.high] 101),(o,bl u0 (sl d3 u0.az c4) f g i)] [] Q (aJ.cons al (aJ.cons ad (aJ.cons Z (aJ.nil _))));clear Q;refine cB hJ cb ?_;obtain ⟨fb,fg,-⟩:=E.op;simp only[bt] at ca;refine eE hJ mixed 6 ⟨b5,[(p,.cells #[.int .i64 b.back,.int .i64 b.high] 101),(o,bl u0 (sl d3 u0.az c4) f g i)]⟩ aL aj ?_;revert h;refine bS fun R cd h=>?_;obtain ⟨fi,fp,S⟩:=ck cd;obtain ⟨fr,cf,cl,cy,k⟩:=E.el _ _ S;obtain rfl:cf=R.cells:=cy;cases cl;have cS:=k 0 _ rfl;simp only[go_sem] at cS;have c0:=k 1 _ rfl;simp only[go_sem] at c0;have da:=k 2 _ rfl;simp only[go_sem] at da;have db:=k 3 _ rfl;simp only[go_sem] at db;have dd:=k 4 _ rfl;simp only[go_sem] at dd;have df:=k 5 _ rfl;simp only[go_sem] at df;clear k S;revert h;refine bS fun dk dp h=>?_;obtain ⟨fs,ft,fu,T⟩:=qS dp;have U:(1:Int).toNat<=((c.length:Int)).toNat:=aa;have dq:((c.length:Int)).toNat<=s:=aa;have fv:0<=((c.length:Int)):=aa;obtain ⟨d80,ds,dt,V⟩:=aH.qV E (1:Int).toNat ((c.length:Int)).toNat U aa T;simp only[go_sem] at ds dt U dq;obtain ⟨_,_,du,fw,fx,fz⟩:=id V;cases du;clear T;revert h;refine bS fun gg dv h=>?_;cases h;apply ag _;refine ⟨_,bL hJ fun F t=>tG (ez:=57) (eT:=#[]) (eU:=#[]) g5 ⟨by simp only[go_sem],fun gl gn dC dE _ h=>by simp only[go_sem];exact tC dC dE h⟩ R dk (V.mono (cq t)) dv,?_⟩;apply ag _;apply aT;simp only[*,go_sem]
def tQ (u0:an)(a:bh):Option au:=
 ai (gZ u0.cg) fun b=>ai (ku u0 a) fun c=>ai (jN b c.high) fun d=>some d
theorem BT {ro:Addr->Option Value}(u0:an){s1 b c d:Value}(f:bR ro u0 s1 b c d)(a:bh){r:au}(h:tQ u0 a=some r):aI Tryz.prog 90 #[bv u0 s1 b c d,.agg #[.int .i64 a.back,.int .i64 a.high]] ⟨ro,[]⟩ (fun v _=>v=r.v):=by
 unfold tQ at h;refine aI.go Tryz.func90 rfl Tryz.ntmps90 Tryz.results90 av fun main J hJ A s hd hs=>?_;have t:=hs 0;have k1:=hs 1;clear hs;apply aB hJ _;refine aA fun g u i=>?_;try simp only[ax] at i
 refine aA fun j w k=>?_;try simp only[ax] at k
 refine aA fun x y l=>?_;try simp only[ax] at l
 apply ah hJ;refine eE hJ mixed 9 ⟨ro,[(j,.cells #[.int .i64 a.back,.int .i64 a.high] 101),(g,bl u0 s1 b c d)]⟩ aL aj ?_;revert h;refine bS fun m n h=>?_;apply ag _;refine ⟨_,bL hJ fun F e=>kr u0.cg n,cw ?_⟩;revert h;refine bS fun o p h=>?_;apply ag _;refine ⟨_,bL hJ fun F e=>tP u0 (f.mono (cq e)) a p,cw ?_⟩;revert h;refine bS fun z q h=>?_;cases h;apply ag _;refine ⟨_,bL hJ fun F e=>rj m o.high q,?_⟩;apply ag _;apply aT;simp only[*,go_sem]
def oX (u0:an)(a:Int)(st:Int):Option (Fl Int au):=
 ai (bu u0.az st) fun b=>cond (decide (b.aU<a)) (some (.nx (IntKind.i64.wrap (st+1)))) (some (.bk st))
def jQ (u0:an)(b:Int):Option au:=
 ai (aS (oX u0 b) fu 1) fun o=>aG o (fun c=>ai (bu u0.az (IntKind.i64.wrap (c - 1))) fun a=>ai (bu u0.az c) fun d=>ai (gZ a.high) fun e=>ai (lg (IntKind.i64.wrap ((IntKind.i64.wrap (d.high - a.high))*(IntKind.i64.wrap (b - a.aU)))) (IntKind.i64.wrap (d.aU - a.aU))) fun f=>ai (jM e f) fun g=>some g) (fun _ _=>none) (fun r=>some r)
theorem BU {ro:Addr->Option Value}(u0:an){s1 b c d:Value}(g:bR ro u0 s1 b c d)(i:Int){r:au}(h:jQ u0 i=some r):aI Tryz.prog 113 #[bv u0 s1 b c d,.int .i64 i] ⟨ro,[]⟩ (fun v _=>v=r.v):=by
 obtain ⟨d3,c4,rfl,bc,bd,-⟩:=id g.e;unfold jQ at h;refine aI.go Tryz.func113 rfl Tryz.ntmps113 Tryz.results113 av fun main J hJ A E hd hs=>?_;have G:=hs 0;have k1:=hs 1;clear hs;apply aB hJ _;refine aA fun l bj H=>?_;try simp only[ax] at H
 refine aA fun t bk I=>?_;try simp only[ax] at I
 apply aB hJ _;refine ah hJ (aW hJ ?_);revert h;refine bS fun K j L=>?_;refine bW hJ (rg 8 11 [5]) (fun m M F'=>∃(k:Int),aS (oX u0 i) m k=some K/\F'=⟨ro,(t,rt 0 0)::(l,bl u0 (sl d3 u0.az c4) b c d)::[]⟩/\slot M 5= .int .i64 k) fu ?_ ?_
 .refine ⟨1,j,rfl,?_⟩;simp only[*,go_sem]
 rintro n bm F' u ⟨k,j,rfl,bo⟩;obtain ⟨N,O,P⟩:=u.pick [1,2,4] aD;simp only[*,go_sem] at N O P;clear u E hd G k1;obtain _|n:=n
 .exact absurd j (by simp only[aS,reduceCtorEq,not_false_eq_true])
 revert j;refine bS fun br h o=>?_;unfold oX at h;try dsimp only at h
 refine ah hJ (aF hJ ?_);revert h;refine bS fun Q R h=>?_;obtain ⟨bs,bz,w⟩:=ck R;obtain ⟨x,S,T,U,p⟩:=g.e.el _ _ w;obtain rfl:S=Q.cells:=U;cases T;have y:=p 0 _ rfl;simp only[go_sem] at y;have z:=p 1 _ rfl;simp only[go_sem] at z;clear p w;apply ag _;revert h;refine aV hJ (fun V h=>?_) fun V h=>?_
 .cases h;refine aN hJ (aW hJ ?_);apply aE hJ _;refine ⟨n,Nat.lt_succ_self _,_,Le.sub (List.Sublist.refl _),(IntKind.i64.wrap (k+1)),o,rfl,?_⟩;simp only[*,go_sem]
 cases h;apply bP;simp only[go_sem];obtain rfl:=sI o;clear o;have h:=L;dsimp only[aG] at h;clear y z;apply ah hJ;refine tj hJ mixed 13 ⟨ro,[(t,rt 0 0),(l,bl u0 (sl (some x) u0.az c4) b c d)]⟩ aL aj 125 rfl wT ?_;revert h;refine bS fun a W h=>?_;obtain ⟨b0,b1,B⟩:=ck W;obtain ⟨b2,X,Y,Z,q⟩:=g.e.el _ _ B;obtain rfl:X=a.cells:=Z;cases Y;have ab:=q 0 _ rfl;simp only[go_sem] at ab;have ad:=q 1 _ rfl;simp only[go_sem] at ad;clear q B;revert h;refine bS fun f ae h=>?_;obtain ⟨b3,b4,C⟩:=ck ae;obtain ⟨b5,al,ao,ar,s⟩:=g.e.el _ _ C;obtain rfl:al=f.cells:=ar;cases ao;have a0:=s 0 _ rfl;simp only[go_sem] at a0;have a2:=s 1 _ rfl;simp only[go_sem] at a2;clear s C;apply ag _;refine aA fun a3 ca a4=>?_;try simp only[ax] at a4
 apply ag _;refine aA fun a5 cb a6=>?_;try simp only[ax] at a6
 apply ag _;apply ah hJ;refine eE hJ mixed 20 ⟨ro,[(a5,.cells #[.int .i64 f.aU,.int .i64 f.high] 125),(a3,.cells #[.int .i64 a.aU,.int .i64 a.high] 125),(l,bl u0 (sl (some x) u0.az c4) b c d)]⟩ aL aj ?_;revert h;refine bS fun a7 a8 h=>?_;apply ag _;refine ⟨_,bL hJ fun F D=>kr a.high a8,cw ?_⟩;revert h;refine bS fun a9 ba h=>?_;apply ag _;refine ⟨_,bL hJ fun F D=>rf (IntKind.i64.wrap ((IntKind.i64.wrap (f.high - a.high))*(IntKind.i64.wrap (i - a.aU)))) (IntKind.i64.wrap (f.aU - a.aU)) ba,cw ?_⟩;revert h;refine bS fun cd bb h=>?_;cases h;apply ag _;refine ⟨_,bL hJ fun F D=>ri a7 a9 bb,?_⟩;apply ag _;apply aT;simp only[*,go_sem]
def ru (c:cm)(b:au)(i59:Nat)(a:bH)(st:Unit):Option (Fl Unit (List bH)):=
 cond (((a.spot.aU==c.place)&&((a.spot.high.num==b.num)&&(a.spot.high.den==b.den)))) (some (.br 1 ())) (some (.nx ()))
def ry (u0:an)(c:bh)(i38:Nat)(a:cm)(st:(List bH)):Option (Fl (List bH) (List bH)):=
 ai (jQ u0 a.place) fun d=>ai (gZ a.dK) fun e=>ai (jM d e) fun b=>ai (bM (ru a b) 0 st ()) fun o=>aG o (fun h=>ai (lp u0 c (i38:Int) (⟨a.place,b⟩:iM)) fun f=>ai (cx st ([f])) fun g=>some (.nx g)) (fun _ i=>some (.nx st)) (fun r=>some (.rt r))
def kz (u0:an)(a:bh):Option (List bH):=
 ai (bM (ry u0 a) 0 u0.props ([]:List bH)) fun o=>aG o (fun b=>some b) (fun _ _=>none) (fun r=>some r)
theorem xl {ro:Addr->Option Value}(u0:an){s1 O f g:Value}(w:bR ro u0 s1 O f g)(b:bh){r:(List bH)}(h:kz u0 b=some r):eH Tryz.prog 114 #[bv u0 s1 O f g,.agg #[.int .i64 b.back,.int .i64 b.high]] ro (fun v bf=>∃P,v=P/\aH lf bf P r):=by
 obtain ⟨d10,o,rfl,fg,Q,-⟩:=id w.p;unfold kz at h;refine aI.go Tryz.func114 rfl Tryz.ntmps114 Tryz.results114 av fun main J hJ A ba hd hs=>?_;have bb:=hs 0;have k1:=hs 1;clear hs;apply aB hJ _;refine aA fun q bc bj=>?_;try simp only[ax] at bj
 refine aA fun s bk bm=>?_;try simp only[ax] at bm
 refine Fz hJ (ah hJ ?_);apply aE hJ _;apply ah hJ;refine Fy hJ ?_;refine ah hJ (aF hJ ?_);apply ag _;apply aW hJ;revert h;refine bS fun bo i br=>?_;refine bW hJ (rg 15 36 [5,6,7,8,10]) (fun m y F'=>∃(i38:Nat) (d32:Option Addr) (t:Nat) (z:List (Nat×Obj)) (c:(List bH)),m=u0.props.length - i38/\i38<=u0.props.length/\bM (ry u0 b) i38 (u0.props.drop i38) c=some bo/\F'=⟨ro,(s,.cells #[.int .i64 b.back,.int .i64 b.high] 101)::(q,bl u0 s1 (sl d10 u0.props o) f g)::z⟩/\aZ lf ro 105 (.slice d32 c.length t) c z/\c.length<=t/\slot y 15= .int .i64 (i38:Int)/\slot y 5= .slice d32 c.length t) u0.props.length ?_ ?_
 .refine ⟨0,none,0,[],([]:List bH),(Nat.sub_zero _).symm,Nat.zero_le _,i,rfl,aZ.nil _ _ _,Nat.le_refl _,?_⟩;simp only[*,go_sem]
 rintro fi bs F' R ⟨i38,d32,t,z,c,rfl,fp,i,rfl,u,bz,b0,b1⟩;obtain ⟨S,T,U⟩:=R.pick [2,3,4,13,14] aD;simp only[*,go_sem] at S T U;clear R ba hd bb k1;apply aB hJ _;apply ah hJ;rcases Nat.lt_or_ge i38 u0.props.length with b2|V
 .refine cW hJ ?_;apply aN hJ;obtain ⟨d,B⟩:∃x,u0.props[i38]?=some x:=⟨_,List.getElem?_eq_getElem b2⟩
  rw[dJ B] at i;revert i;refine bS fun fr h W=>?_;unfold ry at h;try dsimp only at h
  obtain ⟨C,b3,b4,b5,D⟩:=w.p.el _ _ B;obtain rfl:b3=d.cells:=b5;cases b4;have ca:=D 0 _ rfl;simp only[go_sem] at ca;have cb:=D 1 _ rfl;simp only[go_sem] at cb;clear D B;refine ah hJ (aW hJ (ah hJ ?_));refine ay hJ fun cd=>?_;apply aE hJ _;refine aA fun E fs X=>?_;have ft:=bg.cons X cd;try simp only[ax] at X
  apply ah hJ;refine ay hJ fun cf=>?_;refine c5 hJ mixed 11 3 aL aj ?_;revert h;refine bS fun cl cy h=>?_;apply ag _;refine ⟨_,bL hJ fun F G=>BU u0 (w.mono (cq G)) d.place cy,cw ?_⟩;revert h;refine bS fun cS c0 h=>?_;apply ag _;refine ⟨_,bL hJ fun F G=>kr d.dK c0,cw ?_⟩;revert h;refine bS fun e da h=>?_;apply ag _;refine ⟨_,bL hJ fun F G=>ri cl cS da,cw ?_⟩;apply ag _;refine aA fun H fu Y=>?_;have fv:=bg.cons Y cf;try simp only[ax] at Y
  apply ag _;refine ah hJ (ah hJ ?_);refine ay hJ fun fw=>?_;apply aE hJ _;apply aW hJ;revert h;refine bS fun db j Z=>?_;refine bW hJ (rg 33 9 [10]) (fun m y F'=>∃(i59:Nat),m=c.length - i59/\i59<=c.length/\bM (ru d e) i59 (c.drop i59) ()=some db/\F'=⟨ro,(H,.cells #[.int .i64 d.place,.int .i64 e.num,.int .i64 e.den] 103)::(E,.cells #[.int .i64 d.place,.int .i64 d.dK] 159)::(s,.cells #[.int .i64 b.back,.int .i64 b.high] 101)::(q,bl u0 s1 (sl (some C) u0.props o) f g)::z⟩/\slot y 33= .int .i64 (i59:Int)) c.length ?_ ?_
  .refine ⟨0,(Nat.sub_zero _).symm,Nat.zero_le _,j,rfl,?_⟩;simp only[*,go_sem]
  rintro fx dd F' I ⟨i59,rfl,fz,j,rfl,gg⟩;obtain ⟨df,dk,dp⟩:=I.pick [2,3,4,5,6,7,8,13,14,15,16,17,19,20,21,22,23,24,25,26,27,28,29,30,31,32] aD;simp only[*,go_sem] at df dk dp;have gl:cF (rg 15 36 [5,6,7,8,10]) dd bs:=(I.eG aD).trans aL;clear I S T U b1 b0;apply aB hJ _;apply ah hJ;rcases Nat.lt_or_ge i59 c.length with dq|ab
  .refine cW hJ ?_;apply aN hJ;obtain ⟨ds,K⟩:∃x,c[i59]?=some x:=⟨_,List.getElem?_eq_getElem dq⟩
   rw[dJ K] at j;revert j;refine bS fun gn h L=>?_;unfold ru at h;(try dsimp only at h);refine ay hJ fun M=>?_;obtain ⟨ad,dt,gp,du,dv,rfl,gB,dC,k⟩:=u.elem K;obtain rfl:du=ds.cells:=dC;cases dv;replace M:=M.nd;simp only[keys,List.map_cons,List.map_nil,List.map_append,List.cons_append,List.nil_append,List.nodup_cons,List.mem_cons,List.mem_append,List.not_mem_nil,or_false,not_or] at M;have ae:=k 0 _ rfl;simp only[go_sem] at ae;have al:=k 1 _ rfl;simp only[go_sem] at al;have ao:=k 2 _ rfl;simp only[go_sem] at ao;have ar:=k 3 _ rfl;simp only[go_sem] at ar;have a0:=k 4 _ rfl;simp only[go_sem] at a0;have a2:=k 5 _ rfl;simp only[go_sem] at a2;clear k K;refine ah hJ (aW hJ (ah hJ ?_));refine ay hJ fun dE=>?_;apply aE hJ _;refine aA fun gC gM a3=>?_;have gN:=bg.cons a3 dE;try simp only[ax] at a3
   apply ah hJ;refine ay hJ fun gT=>?_;apply aE hJ _;revert h;refine aV hJ (fun dT h=>?_) fun dT h=>?_
   .cases h;apply bP;simp only[go_sem];obtain rfl:=sI L;clear L;have h:=Z;dsimp only[aG] at h;cases h;clear ae al ao ar a0 a2;have ea:=cM (n:=i38) (by have:=Q;omega);apply aE hJ _;refine ⟨u0.props.length - (i38+1),aa,_,Le.sub (List.Sublist.cons _ (List.Sublist.cons _ (List.Sublist.cons _ (List.Sublist.refl _)))),i38+1,(some ⟨ad,0,none⟩),t,[(ad,Obj.cells dt 105)],c,rfl,aa,W,rfl,u,bz,?_⟩;simp only[*,go_sem]
   cases h;apply aN hJ;have gV:=cM (n:=i59) (by have:=u.bd;omega);apply aE hJ _;refine ⟨c.length - (i59+1),aa,_,Le.sub (List.Sublist.cons _ (List.Sublist.refl _)),i59+1,rfl,aa,L,rfl,?_⟩;simp only[*,go_sem]
  have g0:=Nat.not_lt.2 ab;refine cJ hJ ?_;rw[List.drop_eq_nil_of_le ab] at j;obtain rfl:=sI j;clear j;have h:=Z;dsimp only[aG] at h;apply bP;simp only[go_sem];refine ay hJ fun eb=>?_;apply aQ hJ;revert h;refine bS fun a ec h=>?_;apply ag _;refine bn hJ _ (BR u0 (w.mono bq) b (i38:Int) (⟨d.place,e⟩:iM) ec) (aP ?_);revert h;refine bS fun ed eh h=>?_;cases h;obtain ⟨et,a4⟩:=cL eh;apply ag _;refine aA fun a5 ev a6=>?_;have eQ:=bg.cons a6 eb;try simp only[ax] at a6
  refine dj (r:=lf) (l:=c) (x:=a) (cs:=#[.int .i64 a.spot.aU,.int .i64 a.spot.high.num,.int .i64 a.spot.high.den,.int .i64 a.at_,.int .i64 a.high.num,.int .i64 a.high.den]) (e2:=105) [(a5,.cells #[.int .i64 a.spot.aU,.int .i64 a.spot.high.num,.int .i64 a.spot.high.den,.int .i64 a.at_,.int .i64 a.high.num,.int .i64 a.high.den] 105),(H,.cells #[.int .i64 d.place,.int .i64 e.num,.int .i64 e.den] 103),(E,.cells #[.int .i64 d.place,.int .i64 d.dK] 159),(s,.cells #[.int .i64 b.back,.int .i64 b.high] 101),(q,bl u0 s1 (sl (some C) u0.props o) f g)] [] u eQ et rfl aL ev rfl rfl oJ oJ wQ wS rfl wR aD aD (fun g1 a7 N eS eV g2=>?_);simp only[aY] at eV;subst eS;rw[<-a4] at N;clear a4;obtain ⟨d83,e0,rfl,e1⟩:=N.len;refine ⟨⟨ro,(a5,.cells #[.int .i64 a.spot.aU,.int .i64 a.spot.high.num,.int .i64 a.spot.high.den,.int .i64 a.at_,.int .i64 a.high.num,.int .i64 a.high.den] 105)::(H,.cells #[.int .i64 d.place,.int .i64 e.num,.int .i64 e.den] 103)::(E,.cells #[.int .i64 d.place,.int .i64 d.dK] 159)::(s,.cells #[.int .i64 b.back,.int .i64 b.high] 101)::(q,bl u0 s1 (sl (some C) u0.props o) f g)::a7⟩,Le.refl _,?_⟩;apply aP;apply ag _;have ea:=cM (n:=i38) (by have:=Q;omega);apply aE hJ _;refine ⟨u0.props.length - (i38+1),aa,_,Le.sub (List.Sublist.cons _ (List.Sublist.cons _ (List.Sublist.cons _ (List.Sublist.refl _)))),i38+1,d83,e0,a7,ed,rfl,aa,W,rfl,N,e1,?_⟩;simp only[*,go_sem]
 have g3:=Nat.not_lt.2 V;refine cJ hJ ?_;rw[List.drop_eq_nil_of_le V] at i;obtain rfl:=sI i;clear i;have h:=br;dsimp only[aG] at h;cases h;apply bP;simp only[go_sem];apply ah hJ;refine ay hJ fun g4=>?_;apply aE hJ _;refine ay hJ fun a8=>?_;obtain ⟨ha,e3,fa,a9,fb⟩:=u.dU [(s,.cells #[.int .i64 b.back,.int .i64 b.high] 101),(q,bl u0 s1 (sl d10 u0.props o) f g)] [] a8 (aJ.cons bk (aJ.cons bc (aJ.nil _)));clear a8;refine cB hJ fb ?_;obtain ⟨hc,hf,-⟩:=a9.op;simp only[bt] at fa;refine bX ?_;exact ⟨_,e3,Le.sub (List.nil_sublist _),_,rfl,a9⟩
def nu (i54:Nat)(a:bH)(st:au):Option (Fl au au):=
 ai (jh ff st ([a.high])) fun b=>some (.nx b)
def nv (i100:Nat)(a:bH)(st:au):Option (Fl au au):=
 ai (jh ff st ([a.high])) fun b=>some (.nx b)
def me (u0:an)(a:bh):Option au:=
 ai (gZ u0.cg) fun b=>ai (ku u0 a) fun c=>ai (ff c.high b) fun d=>cond (d) (ai (kz u0 a) fun e=>ai (bM (nu) 0 e c.high) fun o=>aG o (fun f=>ai (jN b f) fun g=>ai (gZ 0) fun h=>ai (jh ff g ([h])) fun i=>some i) (fun _ _=>none) (fun r=>some r)) (ai (kz u0 a) fun j=>ai (bM (nv) 0 j b) fun o=>aG o (fun k=>ai (jN c.high k) fun l=>ai (gZ 0) fun m=>ai (jh ff l ([m])) fun n=>some n) (fun _ _=>none) (fun r=>some r))
theorem tR {ro:Addr->Option Value}(u0:an){s1 p q s:Value}(t:bR ro u0 s1 p q s)(a:bh){r:au}(h:me u0 a=some r):aI Tryz.prog 103 #[bv u0 s1 p q s,.agg #[.int .i64 a.back,.int .i64 a.high]] ⟨ro,[]⟩ (fun v _=>v=r.v):=by
 unfold me at h;refine aI.go Tryz.func103 rfl Tryz.ntmps103 Tryz.results103 av fun main J hJ A O hd hs=>?_;have P:=hs 0;have k1:=hs 1;clear hs;apply aB hJ _;refine aA fun D ft al=>?_;try simp only[ax] at al
 refine aA fun E fu ao=>?_;try simp only[ax] at ao
 refine aA fun G fv ar=>?_;try simp only[ax] at ar
 apply ah hJ;refine tj hJ mixed 8 ⟨ro,[(G,rt 0 0),(E,.cells #[.int .i64 a.back,.int .i64 a.high] 101),(D,bl u0 s1 p q s)]⟩ aL aj 23 rfl wP ?_;revert h;refine bS fun u a0 h=>?_;apply ag _;refine ⟨_,bL hJ fun F Q=>kr u0.cg a0,cw ?_⟩;revert h;refine bS fun w a2 h=>?_;apply ag _;refine ⟨_,bL hJ fun F Q=>tP u0 (t.mono (cq Q)) a a2,cw ?_⟩;apply ag _;refine aA fun R fw a3=>?_;try simp only[ax] at a3
 apply ag _;refine aA fun S fx a4=>?_;try simp only[ax] at a4
 apply ag _;refine ah hJ (aF hJ ?_);revert h;refine bS fun fz a5 h=>?_;apply ag _;refine bn hJ _ (jL w.high u a5) ?_;revert h;refine aV hJ (fun a6 h=>?_) fun a6 h=>?_
 .apply aE hJ _;refine ah hJ (aF hJ ?_);revert h;refine bS fun b a7 h=>?_;apply ag _;refine cc hJ _ (xl u0 t a a7) fun v a8 a9 ba H=>?_;obtain ⟨gg,rfl,T⟩:=H;replace t:=t.mono a9;simp only[bt] at ba;obtain ⟨d48,gl,rfl,gn,bb,-⟩:=id T;apply aP;apply ag _;apply aW hJ;revert h;refine bS fun bc c bd=>?_;refine bW hJ (rg 26 10 [8]) (fun m I F'=>∃(i54:Nat) (l:au),m=b.length - i54/\i54<=b.length/\bM (nu) i54 (b.drop i54) l=some bc/\F'=⟨a8,(S,rt u.num u.den)::(R,rt l.num l.den)::(G,rt 0 0)::(E,.cells #[.int .i64 a.back,.int .i64 a.high] 101)::(D,bl u0 s1 p q s)::[]⟩/\slot I 26= .int .i64 (i54:Int)) b.length ?_ ?_
  .refine ⟨0,w.high,(Nat.sub_zero _).symm,Nat.zero_le _,c,rfl,?_⟩;simp only[*,go_sem]
  rintro gp gB F' U ⟨i54,l,rfl,gC,c,rfl,gM⟩;obtain ⟨bj,bk,bm⟩:=U.pick [4,5,6,24,25] aD;simp only[*,go_sem] at bj bk bm;clear U O hd P k1;apply aB hJ _;apply ah hJ;rcases Nat.lt_or_ge i54 b.length with bo|V
  .refine cW hJ ?_;apply aN hJ;obtain ⟨y,K⟩:∃x,b[i54]?=some x:=⟨_,List.getElem?_eq_getElem bo⟩
   rw[dJ K] at c;revert c;refine bS fun gN h br=>?_;unfold nu at h;(try dsimp only at h);obtain ⟨gT,bs,bz,b0,d⟩:=T.el _ _ K;obtain rfl:bs=y.cells:=b0;cases bz;have b1:=d 0 _ rfl;simp only[go_sem] at b1;have b2:=d 1 _ rfl;simp only[go_sem] at b2;have b3:=d 2 _ rfl;simp only[go_sem] at b3;have b4:=d 3 _ rfl;simp only[go_sem] at b4;have b5:=d 4 _ rfl;simp only[go_sem] at b5;have ca:=d 5 _ rfl;simp only[go_sem] at ca;clear d K;refine ah hJ (aW hJ (ah hJ ?_));apply aE hJ _;refine aA fun gV g0 cb=>?_;try simp only[ax] at cb
   refine ay hJ fun cd=>?_;apply aQ hJ;revert h;refine bS fun cf cl h=>?_;cases h;apply ag _;refine aA fun g1 cy W=>?_;have g2:=bg.cons W cd;try simp only[ax] at W
   refine bn hJ _ (oQ (ez:=61) (eT:=#[]) (eU:=#[]) ff ⟨by simp only[go_sem],fun L M f g _ h=>by simp only[go_sem];exact jL f g h⟩ l ([y.high]) ((aH.flat (r:=mb) (e:=23) (cs:=#[.int .i64 y.high.num,.int .i64 y.high.den]) au.cells ([y.high]) (fun _=>rfl) cy rfl av).mono (k4 aL)) cl) (aP ?_);apply ag _;have g3:=cM (n:=i54) (by have:=bb;omega);apply aE hJ _;refine ⟨b.length - (i54+1),aa,_,Le.sub (List.Sublist.cons _ (List.Sublist.cons _ (List.Sublist.refl _))),i54+1,cf,rfl,aa,br,rfl,?_⟩;simp only[*,go_sem]
  have g4:=Nat.not_lt.2 V;refine cJ hJ ?_;rw[List.drop_eq_nil_of_le V] at c;obtain rfl:=sI c;clear c;have h:=bd;dsimp only[aG] at h;apply bP;simp only[go_sem];apply ah hJ;refine ay hJ fun cS=>?_;apply aQ hJ;revert h;refine bS fun c0 da h=>?_;apply ag _;refine bn hJ _ (rj u l da) (aP ?_);revert h;refine bS fun B db h=>?_;apply ag _;refine bn hJ _ (kr 0 db) (aP ?_);revert h;refine bS fun ha dd h=>?_;cases h;apply ag _;refine aA fun hc df X=>?_;have hf:=bg.cons X cS;try simp only[ax] at X
  refine bn hJ _ (oQ (ez:=61) (eT:=#[]) (eU:=#[]) ff ⟨by simp only[go_sem],fun L M f g _ h=>by simp only[go_sem];exact jL f g h⟩ c0 ([B]) ((aH.flat (r:=mb) (e:=23) (cs:=#[.int .i64 B.num,.int .i64 B.den]) au.cells ([B]) (fun _=>rfl) df rfl av).mono (k4 aL)) dd) (aP ?_);apply ag _;apply aT;simp only[*,go_sem]
 refine aN hJ (ah hJ ?_);apply aF hJ;revert h;refine bS fun i dk h=>?_;apply ag _;refine cc hJ _ (xl u0 t a dk) fun v dp hg dq H=>?_;obtain ⟨hh,rfl,Y⟩:=H;simp only[bt] at dq;obtain ⟨d94,hi,rfl,hj,ds,-⟩:=id Y;apply aP;apply ag _;apply aW hJ;revert h;refine bS fun dt j du=>?_;refine bW hJ (rg 26 10 [8]) (fun m I F'=>∃(i100:Nat) (o:au),m=i.length - i100/\i100<=i.length/\bM (nv) i100 (i.drop i100) o=some dt/\F'=⟨dp,(S,rt w.high.num w.high.den)::(R,rt o.num o.den)::(G,rt 0 0)::(E,.cells #[.int .i64 a.back,.int .i64 a.high] 101)::(D,bl u0 s1 p q s)::[]⟩/\slot I 26= .int .i64 (i100:Int)) i.length ?_ ?_
 .refine ⟨0,u,(Nat.sub_zero _).symm,Nat.zero_le _,j,rfl,?_⟩;simp only[*,go_sem]
 rintro hk hl F' Z ⟨i100,o,rfl,hn,j,rfl,ho⟩;obtain ⟨dv,dC,dE⟩:=Z.pick [4,5,6,24,25] aD;simp only[*,go_sem] at dv dC dE;clear Z O hd P k1;apply aB hJ _;apply ah hJ;rcases Nat.lt_or_ge i100 i.length with dT|ab
 .refine cW hJ ?_;apply aN hJ;obtain ⟨z,N⟩:∃x,i[i100]?=some x:=⟨_,List.getElem?_eq_getElem dT⟩
  rw[dJ N] at j;revert j;refine bS fun hp h ea=>?_;unfold nv at h;try dsimp only at h
  obtain ⟨hq,eb,ec,ed,k⟩:=Y.el _ _ N;obtain rfl:eb=z.cells:=ed;cases ec;have eh:=k 0 _ rfl;simp only[go_sem] at eh;have et:=k 1 _ rfl;simp only[go_sem] at et;have ev:=k 2 _ rfl;simp only[go_sem] at ev;have eQ:=k 3 _ rfl;simp only[go_sem] at eQ;have eS:=k 4 _ rfl;simp only[go_sem] at eS;have eV:=k 5 _ rfl;simp only[go_sem] at eV;clear k N;refine ah hJ (aW hJ (ah hJ ?_));apply aE hJ _;refine aA fun hr ht e0=>?_;try simp only[ax] at e0
  refine ay hJ fun e1=>?_;apply aQ hJ;revert h;refine bS fun e2 e3 h=>?_;cases h;apply ag _;refine aA fun hv fa ad=>?_;have hx:=bg.cons ad e1;try simp only[ax] at ad
  refine bn hJ _ (oQ (ez:=61) (eT:=#[]) (eU:=#[]) ff ⟨by simp only[go_sem],fun L M f g _ h=>by simp only[go_sem];exact jL f g h⟩ o ([z.high]) ((aH.flat (r:=mb) (e:=23) (cs:=#[.int .i64 z.high.num,.int .i64 z.high.den]) au.cells ([z.high]) (fun _=>rfl) fa rfl av).mono (k4 aL)) e3) (aP ?_);apply ag _;have hy:=cM (n:=i100) (by have:=ds;omega);apply aE hJ _;refine ⟨i.length - (i100+1),aa,_,Le.sub (List.Sublist.cons _ (List.Sublist.cons _ (List.Sublist.refl _))),i100+1,e2,rfl,aa,ea,rfl,?_⟩;simp only[*,go_sem]
 have hz:=Nat.not_lt.2 ab;refine cJ hJ ?_;rw[List.drop_eq_nil_of_le ab] at j;obtain rfl:=sI j;clear j;have h:=du;dsimp only[aG] at h;apply bP;simp only[go_sem];apply ah hJ;refine ay hJ fun fb=>?_;apply aQ hJ;revert h;refine bS fun fg fi h=>?_;apply ag _;refine bn hJ _ (rj w.high o fi) (aP ?_);revert h;refine bS fun C fp h=>?_;apply ag _;refine bn hJ _ (kr 0 fp) (aP ?_);revert h;refine bS fun hA fr h=>?_;cases h;apply ag _;refine aA fun hB fs ae=>?_;have hD:=bg.cons ae fb;try simp only[ax] at ae
 refine bn hJ _ (oQ (ez:=61) (eT:=#[]) (eU:=#[]) ff ⟨by simp only[go_sem],fun L M f g _ h=>by simp only[go_sem];exact jL f g h⟩ fg ([C]) ((aH.flat (r:=mb) (e:=23) (cs:=#[.int .i64 C.num,.int .i64 C.den]) au.cells ([C]) (fun _=>rfl) fs rfl av).mono (k4 aL)) fr) (aP ?_);apply ag _;apply aT;simp only[*,go_sem]
def g6 (u0:an)(a:bh):Option Bool:=
 ai (me u0 a) fun b=>ai (ff u0.bp b) fun c=>some c
theorem ny {ro:Addr->Option Value}(u0:an){s1 b c d:Value}(f:bR ro u0 s1 b c d)(a:bh){r:Bool}(h:g6 u0 a=some r):aI Tryz.prog 97 #[bv u0 s1 b c d,.agg #[.int .i64 a.back,.int .i64 a.high]] ⟨ro,[]⟩ (fun v _=>v= .bool r):=by
 unfold g6 at h;refine aI.go Tryz.func97 rfl Tryz.ntmps97 Tryz.results97 av fun main J hJ A m hd hs=>?_;have n:=hs 0;have k1:=hs 1;clear hs;apply aB hJ _;refine aA fun o p g=>?_;try simp only[ax] at g
 refine aA fun q s i=>?_;try simp only[ax] at i
 apply ah hJ;refine c5 hJ mixed 8 2 aL aj ?_;revert h;refine bS fun j k h=>?_;apply ag _;refine ⟨_,bL hJ fun F e=>tR u0 (f.mono (cq e)) a k,cw ?_⟩;revert h;refine bS fun t l h=>?_;cases h;apply ag _;refine ⟨_,bL hJ fun F e=>jL u0.bp j l,cw ?_⟩;apply ag _;apply aT;simp only[*,go_sem]
def xm (u0:((List Int)->(List Int)->Option Bool))(i22:Nat)(a:(List Int))(st:(List Int)):Option (Fl (List Int) (List Int)):=
 ai (u0 st a) fun b=>cond (b) (some (.nx a)) (some (.nx st))
def xo (u0:((List Int)->(List Int)->Option Bool))(a:(List Int))(b:(List (List Int))):Option (List Int):=
 ai (bM (xm u0) 0 b a) fun o=>aG o (fun c=>some c) (fun _ _=>none) (fun r=>some r)
theorem HW {ro:Addr->Option Value}(u0:((List Int)->(List Int)->Option Bool)){ez:FuncId}{eT eU:Array Value}(G:aR Tryz.prog ez=true/\∀(bf:Addr->Option Value),Ext ro bf->∀(k:(List Int)) (l:Value) (o:(List Int)) (p:Value) (z:Bool),aH rI bf l k->aH rI bf p o->u0 k o=some z->aI Tryz.prog ez (eT++#[l,p]++eU) ⟨bf,[]⟩ (fun v _=>v= .bool z))(g:(List Int)){s1:Value}(q:aH rI ro s1 g)(b:(List (List Int))){s:Value}(t:aH (rL rI) ro s b){r:(List Int)}(h:xo u0 g b=some r):eH Tryz.prog 109 #[.func (.func ez) eT eU,s1,s] ro (fun v bf=>∃u,v=u/\aH rI bf u r):=by
 obtain ⟨d3,c4,rfl,Y,Z,-⟩:=id q;obtain ⟨d10,ab,rfl,ad,w,-⟩:=id t;unfold xo at h;refine aI.go Tryz.func109 rfl Tryz.ntmps109 Tryz.results109 av fun main J hJ A H hd hs=>?_;have I:=hs 0;have k1:=hs 1;have K:=hs 2;clear hs;apply aB hJ _;refine ah hJ (aF hJ ?_);apply ag _;apply aW hJ;revert h;refine bS fun L c M=>?_;refine bW hJ (rg 11 10 [1,8]) (fun m y F'=>∃(i22:Nat) (d16:Option Addr) (e:Nat) (d:(List Int)),m=b.length - i22/\i22<=b.length/\bM (xm u0) i22 (b.drop i22) d=some L/\F'=⟨ro,[]⟩/\aH rI ro (.slice d16 d.length e) d/\slot y 11= .int .i64 (i22:Int)/\slot y 1= .slice d16 d.length e) b.length ?_ ?_
 .refine ⟨0,d3,c4,g,(Nat.sub_zero _).symm,Nat.zero_le _,c,rfl,q,?_⟩;simp only[*,go_sem]
 rintro ae al F' B ⟨i22,d16,e,d,rfl,ao,c,rfl,f,ar,a0⟩;obtain ⟨a2,a3,-⟩:=f.op;obtain ⟨N,O,P⟩:=B.pick [0,6,9,10] aD;simp only[*,go_sem] at N O P;clear B H hd I k1 K;apply aB hJ _;apply ah hJ;rcases Nat.lt_or_ge i22 b.length with Q|C
 .refine cW hJ ?_;apply aN hJ;obtain ⟨D,i⟩:∃x,b[i22]?=some x:=⟨_,List.getElem?_eq_getElem Q⟩
  rw[dJ i] at c;revert c;refine bS fun a4 h E=>?_;unfold xm at h;try dsimp only at h
  obtain ⟨a5,a6,R,S,F⟩:=t.el _ _ i;obtain ⟨a7,rfl,j⟩:=S;obtain ⟨d31,T,rfl,a8,a9,ba⟩:=id j;cases R;have U:=F 0 _ rfl;simp only[go_sem] at U;clear F i;refine ah hJ (aW hJ (ah hJ ?_));apply aE hJ _;apply aF hJ;revert h;refine bS fun bb V h=>?_;apply ag _;refine bn hJ _ (G.2 _ (fun a v h=>bq a v h) d _ D _ _ (f.mono bq) (j.mono bq) V) ?_;revert h;refine aV hJ (fun W h=>?_) fun W h=>?_
  .cases h;apply aE hJ _;have X:=cM (n:=i22) (by have:=w;omega);apply aE hJ _;refine ⟨b.length - (i22+1),aa,_,Le.sub (List.Sublist.refl _),i22+1,d31,T,D,rfl,aa,E,rfl,j,?_⟩;simp only[*,go_sem]
  cases h;apply aN hJ;have X:=cM (n:=i22) (by have:=w;omega);apply aE hJ _;refine ⟨b.length - (i22+1),aa,_,Le.sub (List.Sublist.refl _),i22+1,d16,e,d,rfl,aa,E,rfl,f,?_⟩;simp only[*,go_sem]
 have bc:=Nat.not_lt.2 C;refine cJ hJ ?_;rw[List.drop_eq_nil_of_le C] at c;obtain rfl:=sI c;clear c;have h:=M;dsimp only[aG] at h;cases h;apply bP;simp only[go_sem];apply aB hJ _;refine bX ?_;exact ⟨_,Ext.refl _,Le.sub (List.nil_sublist _),_,rfl,f⟩
def rz (u0:(List Int))(a:(List Int))(st:(Bool×Int)):Option (Fl (Bool×Int) Bool):=
 cond (decide (st.2<(u0.length:Int))) (ai (bu u0 st.2) fun b=>ai (bu a st.2) fun c=>cond ((b != c)) (some (.rt false)) (some (.nx (st.1,(IntKind.i64.wrap (st.2+1)))))) (some (.bk (st.1,st.2)))
def nB (u0:(List Int))(a:(List Int)):Option Bool:=
 cond (((u0.length:Int) != (a.length:Int))) (some false) (ai (aS (rz u0 a) fu (false,0)) fun o=>aG o (fun b=>some true) (fun _ _=>none) (fun r=>some r))
theorem xp {ro:Addr->Option Value}(u0:(List Int)){s1:Value}(g:aH rI ro s1 u0)(e:(List Int)){i:Value}(j:aH rI ro i e){r:Bool}(h:nB u0 e=some r):aI Tryz.prog 12 #[s1,i] ⟨ro,[]⟩ (fun v _=>v= .bool r):=by
 obtain ⟨d3,c4,rfl,R,S,-⟩:=id g;obtain ⟨d10,T,rfl,U,V,-⟩:=id j;unfold nB at h;refine aI.go Tryz.func12 rfl Tryz.ntmps12 Tryz.results12 av fun main J hJ A t hd hs=>?_;have u:=hs 0;have k1:=hs 1;clear hs;apply aB hJ _;refine ah hJ (aF hJ ?_);apply ag _;revert h;refine aV hJ (fun w h=>?_) fun w h=>?_
 .cases h;apply aB hJ _;apply aT;simp only[*,go_sem]
 refine aN hJ (ah hJ ?_);apply aB hJ _;apply aW hJ;revert h;refine bS fun x b k=>?_;refine bW hJ (rg 11 15 [4,5]) (fun m l F'=>∃(c:Bool) (d:Int),aS (rz u0 e) m (c,d)=some x/\F'=⟨ro,[]⟩/\slot l 4= .bool c/\slot l 5= .int .i64 d) fu ?_ ?_
 .refine ⟨false,0,b,rfl,?_⟩;simp only[*,go_sem]
 rintro f W F' n ⟨c,d,b,rfl,X,Y⟩;obtain ⟨y,z,B⟩:=n.pick [0,1] aD;simp only[*,go_sem] at y z B;clear n t hd u k1;obtain _|f:=f
 .exact absurd b (by simp only[aS,reduceCtorEq,not_false_eq_true])
 revert b;refine bS fun Z h a=>?_;unfold rz at h;try dsimp only at h
 refine ah hJ (aF hJ ?_);apply ag _;revert h;refine aV hJ (fun C h=>?_) fun C h=>?_
 .refine aN hJ (ah hJ ?_);refine aW hJ (ah hJ ?_);refine c5 hJ mixed 9 0 aL aj ?_;revert h;refine bS fun D E h=>?_;obtain ⟨ab,ad,o⟩:=ck E;obtain ⟨ae,F,G,H,p⟩:=g.el _ _ o;obtain rfl:F=[.int .i64 D]:=H;cases G;have I:=p 0 _ rfl;simp only[go_sem] at I;clear p o;revert h;refine bS fun K L h=>?_;obtain ⟨al,ao,q⟩:=ck L;obtain ⟨ar,M,N,O,s⟩:=j.el _ _ q;obtain rfl:M=[.int .i64 K]:=O;cases N;have P:=s 0 _ rfl;simp only[go_sem] at P;clear s q;apply ag _;revert h;refine aV hJ (fun Q h=>?_) fun Q h=>?_
  .cases h;apply aB hJ _;obtain rfl:=sI a;clear a;have h:=k;dsimp only[aG] at h;cases h;apply aT;simp only[*,go_sem]
  cases h;refine aN hJ (aQ hJ ?_);apply ag _;refine ⟨f,Nat.lt_succ_self _,_,Le.sub (List.Sublist.refl _),c,(IntKind.i64.wrap (d+1)),a,rfl,?_⟩;simp only[*,go_sem]
 cases h;apply bP;simp only[go_sem];obtain rfl:=sI a;clear a;have h:=k;dsimp only[aG] at h;cases h;apply aB hJ _;apply aT;simp only[*,go_sem]
def nC (u0:(List Int))(a:(List Int)):Option Bool:=
 ai (nB u0 a) fun b=>some b
theorem rA {ro:Addr->Option Value}(u0:(List Int)){s1:Value}(b:aH rI ro s1 u0)(a:(List Int)){c:Value}(d:aH rI ro c a){r:Bool}(h:nC u0 a=some r):aI Tryz.prog 46 #[s1,c] ⟨ro,[]⟩ (fun v _=>v= .bool r):=by
 obtain ⟨d3,c4,rfl,f,g,-⟩:=id b;obtain ⟨d10,i,rfl,j,k,-⟩:=id d;unfold nC at h;refine aI.go Tryz.func46 rfl Tryz.ntmps46 Tryz.results46 av fun main J hJ A l hd hs=>?_;have m:=hs 0;have k1:=hs 1;clear hs;apply aB hJ _;apply aF hJ;revert h;refine bS fun n e h=>?_;cases h;apply ag _;refine bn hJ _ (xp u0 (b.mono bq) a (d.mono bq) e) (aP ?_);apply ag _;apply aT;simp only[*,go_sem]
def tS (a:bh)(i10:Nat)(b:bh)(st:Int):Option (Fl Int Int):=
 cond (((a.back==b.back)&&(a.high==b.high))) (some (.rt (i10:Int))) (some (.nx st))
def tT (u0:(List bh))(a:bh):Option Int:=
 ai (bM (tS a) 0 u0 0) fun o=>aG o (fun b=>some (-1)) (fun _ _=>none) (fun r=>some r)
theorem HX {ro:Addr->Option Value}(u0:(List bh)){s1:Value}(g:aH gL ro s1 u0)(b:bh){r:Int}(h:tT u0 b=some r):aI Tryz.prog 150 #[s1,.agg #[.int .i64 b.back,.int .i64 b.high]] ⟨ro,[]⟩ (fun v _=>v= .int .i64 r):=by
 obtain ⟨d3,c4,rfl,K,o,-⟩:=id g;unfold tT at h;refine aI.go Tryz.func150 rfl Tryz.ntmps150 Tryz.results150 av fun main J hJ A p hd hs=>?_;have q:=hs 0;have k1:=hs 1;clear hs;apply aB hJ _;refine aA fun s L t=>?_;try simp only[ax] at t
 refine ah hJ (aF hJ ?_);apply ag _;apply aW hJ;revert h;refine bS fun u a i=>?_;refine bW hJ (rg 8 11 [4,5]) (fun m j F'=>∃(i10:Nat) (c:Int),m=u0.length - i10/\i10<=u0.length/\bM (tS b) i10 (u0.drop i10) c=some u/\F'=⟨ro,(s,.cells #[.int .i64 b.back,.int .i64 b.high] 101)::[]⟩/\slot j 8= .int .i64 (i10:Int)/\slot j 4= .int .i64 c) u0.length ?_ ?_
 .refine ⟨0,0,(Nat.sub_zero _).symm,Nat.zero_le _,a,rfl,?_⟩;simp only[*,go_sem]
 rintro M N F' k ⟨i10,c,rfl,O,a,rfl,P,Q⟩;obtain ⟨w,y,z⟩:=k.pick [0,3,7] aD;simp only[*,go_sem] at w y z;clear k p hd q k1;apply aB hJ _;apply ah hJ;rcases Nat.lt_or_ge i10 u0.length with B|l
 .refine cW hJ ?_;apply aN hJ;obtain ⟨C,d⟩:∃x,u0[i10]?=some x:=⟨_,List.getElem?_eq_getElem B⟩
  rw[dJ d] at a;revert a;refine bS fun R h e=>?_;unfold tS at h;try dsimp only at h
  obtain ⟨S,D,E,F,f⟩:=g.el _ _ d;obtain rfl:D=C.cells:=F;cases E;have G:=f 0 _ rfl;simp only[go_sem] at G;have H:=f 1 _ rfl;simp only[go_sem] at H;clear f d;refine ah hJ (aW hJ (ah hJ ?_));apply aE hJ _;apply ah hJ;refine c5 hJ mixed 6 1 aL aj ?_;apply ag _;revert h;refine aV hJ (fun I h=>?_) fun I h=>?_
  .cases h;apply aB hJ _;obtain rfl:=sI e;clear e;have h:=i;dsimp only[aG] at h;cases h;apply aT;simp only[*,go_sem]
  cases h;apply aN hJ;have T:=cM (n:=i10) (by have:=o;omega);apply aE hJ _;refine ⟨u0.length - (i10+1),aa,_,Le.sub (List.Sublist.refl _),i10+1,c,rfl,aa,e,rfl,?_⟩;simp only[*,go_sem]
 have U:=Nat.not_lt.2 l;refine cJ hJ ?_;rw[List.drop_eq_nil_of_le l] at a;obtain rfl:=sI a;clear a;have h:=i;dsimp only[aG] at h;cases h;apply bP;simp only[go_sem];apply aB hJ _;apply aT;simp only[*,go_sem]
def rC (u0:(List bh))(a:bh):Option Bool:=
 ai (tT u0 a) fun b=>some (decide (0<=b))
theorem HY {ro:Addr->Option Value}(u0:(List bh)){s1:Value}(b:aH gL ro s1 u0)(a:bh){r:Bool}(h:rC u0 a=some r):aI Tryz.prog 121 #[s1,.agg #[.int .i64 a.back,.int .i64 a.high]] ⟨ro,[]⟩ (fun v _=>v= .bool r):=by
 obtain ⟨d3,c4,rfl,e,f,-⟩:=id b;unfold rC at h;refine aI.go Tryz.func121 rfl Tryz.ntmps121 Tryz.results121 av fun main J hJ A g hd hs=>?_;have i:=hs 0;have k1:=hs 1;clear hs;apply aB hJ _;refine aA fun j k c=>?_;try simp only[ax] at c
 apply aF hJ;revert h;refine bS fun l d h=>?_;cases h;apply ag _;refine bn hJ _ (HX u0 (b.mono bq) a d) (aP ?_);apply ag _;apply aT;simp only[*,go_sem]
def tU (a:(cn->Option Bool))(i9:Nat)(b:cn)(st:Int):Option (Fl Int Int):=
 ai (a b) fun c=>cond (c) (some (.rt (i9:Int))) (some (.nx st))
def tV (u0:(List cn))(a:(cn->Option Bool)):Option Int:=
 ai (bM (tU a) 0 u0 0) fun o=>aG o (fun b=>some (-1)) (fun _ _=>none) (fun r=>some r)
theorem HZ {ro:Addr->Option Value}(u0:(List cn)){s1:Value}(i:aH dL ro s1 u0)(d:(cn->Option Bool)){dY:FuncId}{eN eO:Array Value}(s:aR Tryz.prog dY=true/\∀(bf:Addr->Option Value),Ext ro bf->∀(j:cn) (z:Bool),d j=some z->aI Tryz.prog dY (eN++#[j.v]++eO) ⟨bf,[]⟩ (fun v _=>v= .bool z)){r:Int}(h:tV u0 d=some r):aI Tryz.prog 190 #[s1,.func (.func dY) eN eO] ⟨ro,[]⟩ (fun v _=>v= .int .i64 r):=by
 obtain ⟨d3,c4,rfl,N,t,-⟩:=id i;unfold tV at h;refine aI.go Tryz.func190 rfl Tryz.ntmps190 Tryz.results190 av fun main J hJ A u hd hs=>?_;have w:=hs 0;have k1:=hs 1;clear hs;apply aB hJ _;refine ah hJ (aF hJ ?_);apply ag _;apply aW hJ;revert h;refine bS fun y b k=>?_;refine bW hJ (rg 8 11 [4,5]) (fun m l F'=>∃(i9:Nat) (c:Int),m=u0.length - i9/\i9<=u0.length/\bM (tU d) i9 (u0.drop i9) c=some y/\F'=⟨ro,[]⟩/\slot l 8= .int .i64 (i9:Int)/\slot l 4= .int .i64 c) u0.length ?_ ?_
 .refine ⟨0,0,(Nat.sub_zero _).symm,Nat.zero_le _,b,rfl,?_⟩;simp only[*,go_sem]
 rintro O P F' o ⟨i9,c,rfl,Q,b,rfl,R,S⟩;obtain ⟨B,C,D⟩:=o.pick [0,1,7] aD;simp only[*,go_sem] at B C D;clear o u hd w k1;apply aB hJ _;apply ah hJ;rcases Nat.lt_or_ge i9 u0.length with E|p
 .refine cW hJ ?_;apply aN hJ;obtain ⟨q,e⟩:∃x,u0[i9]?=some x:=⟨_,List.getElem?_eq_getElem E⟩
  rw[dJ e] at b;revert b;refine bS fun T h f=>?_;unfold tU at h;try dsimp only at h
  obtain ⟨U,F,G,H,g⟩:=i.el _ _ e;obtain rfl:F=q.cells:=H;cases G;have I:=g 0 _ rfl;simp only[go_sem] at I;have K:=g 1 _ rfl;simp only[go_sem] at K;clear g e;refine ah hJ (aW hJ (ah hJ ?_));apply aE hJ _;apply aF hJ;revert h;refine bS fun V L h=>?_;apply ag _;refine bn hJ _ (s.2 _ (fun a v h=>bq a v h) q _ L) ?_;revert h;refine aV hJ (fun M h=>?_) fun M h=>?_
  .cases h;apply aB hJ _;obtain rfl:=sI f;clear f;have h:=k;dsimp only[aG] at h;cases h;apply aT;simp only[*,go_sem]
  cases h;apply aN hJ;have W:=cM (n:=i9) (by have:=t;omega);apply aE hJ _;refine ⟨u0.length - (i9+1),aa,_,Le.sub (List.Sublist.refl _),i9+1,c,rfl,aa,f,rfl,?_⟩;simp only[*,go_sem]
 have X:=Nat.not_lt.2 p;refine cJ hJ ?_;rw[List.drop_eq_nil_of_le p] at b;obtain rfl:=sI b;clear b;have h:=k;dsimp only[aG] at h;cases h;apply bP;simp only[go_sem];apply aB hJ _;apply aT;simp only[*,go_sem]
def rD (u0:(List cn))(a:(cn->Option Bool)):Option Bool:=
 ai (tV u0 a) fun b=>some (decide (0<=b))
theorem H6 {ro:Addr->Option Value}(u0:(List cn)){s1:Value}(b:aH dL ro s1 u0)(a:(cn->Option Bool)){dY:FuncId}{eN eO:Array Value}(c:aR Tryz.prog dY=true/\∀(bf:Addr->Option Value),Ext ro bf->∀(d:cn) (z:Bool),a d=some z->aI Tryz.prog dY (eN++#[d.v]++eO) ⟨bf,[]⟩ (fun v _=>v= .bool z)){r:Bool}(h:rD u0 a=some r):aI Tryz.prog 172 #[s1,.func (.func dY) eN eO] ⟨ro,[]⟩ (fun v _=>v= .bool r):=by
 obtain ⟨d3,c4,rfl,g,i,-⟩:=id b;unfold rD at h;refine aI.go Tryz.func172 rfl Tryz.ntmps172 Tryz.results172 av fun main J hJ A j hd hs=>?_;have k:=hs 0;have k1:=hs 1;clear hs;apply aB hJ _;apply aF hJ;revert h;refine bS fun l e h=>?_;cases h;apply ag _;refine bn hJ _ (HZ (dY:=dY) (eN:=eN) (eO:=eO) u0 (b.mono bq) a ⟨c.1,fun _ f=>c.2 _ (Ext.trans bq f)⟩ e) (aP ?_);apply ag _;apply aT;simp only[*,go_sem]
def tX (a:(bh->Option Bool))(i9:Nat)(b:bh)(st:Int):Option (Fl Int Int):=
 ai (a b) fun c=>cond (c) (some (.rt (i9:Int))) (some (.nx st))
def tY (u0:(List bh))(a:(bh->Option Bool)):Option Int:=
 ai (bM (tX a) 0 u0 0) fun o=>aG o (fun b=>some (-1)) (fun _ _=>none) (fun r=>some r)
theorem H7 {ro:Addr->Option Value}(u0:(List bh)){s1:Value}(i:aH gL ro s1 u0)(d:(bh->Option Bool)){dY:FuncId}{eN eO:Array Value}(s:aR Tryz.prog dY=true/\∀(bf:Addr->Option Value),Ext ro bf->∀(j:bh) (z:Bool),d j=some z->aI Tryz.prog dY (eN++#[j.v]++eO) ⟨bf,[]⟩ (fun v _=>v= .bool z)){r:Int}(h:tY u0 d=some r):aI Tryz.prog 184 #[s1,.func (.func dY) eN eO] ⟨ro,[]⟩ (fun v _=>v= .int .i64 r):=by
 obtain ⟨d3,c4,rfl,N,t,-⟩:=id i;unfold tY at h;refine aI.go Tryz.func184 rfl Tryz.ntmps184 Tryz.results184 av fun main J hJ A u hd hs=>?_;have w:=hs 0;have k1:=hs 1;clear hs;apply aB hJ _;refine ah hJ (aF hJ ?_);apply ag _;apply aW hJ;revert h;refine bS fun y b k=>?_;refine bW hJ (rg 8 11 [4,5]) (fun m l F'=>∃(i9:Nat) (c:Int),m=u0.length - i9/\i9<=u0.length/\bM (tX d) i9 (u0.drop i9) c=some y/\F'=⟨ro,[]⟩/\slot l 8= .int .i64 (i9:Int)/\slot l 4= .int .i64 c) u0.length ?_ ?_
 .refine ⟨0,0,(Nat.sub_zero _).symm,Nat.zero_le _,b,rfl,?_⟩;simp only[*,go_sem]
 rintro O P F' o ⟨i9,c,rfl,Q,b,rfl,R,S⟩;obtain ⟨B,C,D⟩:=o.pick [0,1,7] aD;simp only[*,go_sem] at B C D;clear o u hd w k1;apply aB hJ _;apply ah hJ;rcases Nat.lt_or_ge i9 u0.length with E|p
 .refine cW hJ ?_;apply aN hJ;obtain ⟨q,e⟩:∃x,u0[i9]?=some x:=⟨_,List.getElem?_eq_getElem E⟩
  rw[dJ e] at b;revert b;refine bS fun T h f=>?_;unfold tX at h;try dsimp only at h
  obtain ⟨U,F,G,H,g⟩:=i.el _ _ e;obtain rfl:F=q.cells:=H;cases G;have I:=g 0 _ rfl;simp only[go_sem] at I;have K:=g 1 _ rfl;simp only[go_sem] at K;clear g e;refine ah hJ (aW hJ (ah hJ ?_));apply aE hJ _;apply aF hJ;revert h;refine bS fun V L h=>?_;apply ag _;refine bn hJ _ (s.2 _ (fun a v h=>bq a v h) q _ L) ?_;revert h;refine aV hJ (fun M h=>?_) fun M h=>?_
  .cases h;apply aB hJ _;obtain rfl:=sI f;clear f;have h:=k;dsimp only[aG] at h;cases h;apply aT;simp only[*,go_sem]
  cases h;apply aN hJ;have W:=cM (n:=i9) (by have:=t;omega);apply aE hJ _;refine ⟨u0.length - (i9+1),aa,_,Le.sub (List.Sublist.refl _),i9+1,c,rfl,aa,f,rfl,?_⟩;simp only[*,go_sem]
 have X:=Nat.not_lt.2 p;refine cJ hJ ?_;rw[List.drop_eq_nil_of_le p] at b;obtain rfl:=sI b;clear b;have h:=k;dsimp only[aG] at h;cases h;apply bP;simp only[go_sem];apply aB hJ _;apply aT;simp only[*,go_sem]
def tZ (u0:(List bh))(a:(bh->Option Bool)):Option Bool:=
 ai (tY u0 a) fun b=>some (decide (0<=b))
theorem H8 {ro:Addr->Option Value}(u0:(List bh)){s1:Value}(b:aH gL ro s1 u0)(a:(bh->Option Bool)){dY:FuncId}{eN eO:Array Value}(c:aR Tryz.prog dY=true/\∀(bf:Addr->Option Value),Ext ro bf->∀(d:bh) (z:Bool),a d=some z->aI Tryz.prog dY (eN++#[d.v]++eO) ⟨bf,[]⟩ (fun v _=>v= .bool z)){r:Bool}(h:tZ u0 a=some r):aI Tryz.prog 164 #[s1,.func (.func dY) eN eO] ⟨ro,[]⟩ (fun v _=>v= .bool r):=by
 obtain ⟨d3,c4,rfl,g,i,-⟩:=id b;unfold tZ at h;refine aI.go Tryz.func164 rfl Tryz.ntmps164 Tryz.results164 av fun main J hJ A j hd hs=>?_;have k:=hs 0;have k1:=hs 1;clear hs;apply aB hJ _;apply aF hJ;revert h;refine bS fun l e h=>?_;cases h;apply ag _;refine bn hJ _ (H7 (dY:=dY) (eN:=eN) (eO:=eO) u0 (b.mono bq) a ⟨c.1,fun _ f=>c.2 _ (Ext.trans bq f)⟩ e) (aP ?_);apply ag _;apply aT;simp only[*,go_sem]
def xq (a:(bD->Option Bool))(i38:Nat)(b:bD)(st:Int):Option (Fl Int Int):=
 ai (a b) fun c=>cond (c) (some (.nx (IntKind.i64.wrap (st+1)))) (some (.nx st))
def ua (u0:dn)(b:(bD->Option Bool)):Option Int:=
 ai (bM (xq b) 0 u0.all 0) fun o=>aG o (fun a=>cond ((a==(u0.all.length:Int))) (some 1) (cond ((a==0)) (some 2) (some 0))) (fun _ _=>none) (fun r=>some r)
theorem BV {ro:Addr->Option Value}(u0:dn){s1 e f g:Value}(Z:bR ro u0.book s1 e f g){k:Value}(l:aH iL ro k u0.all)(i:(bD->Option Bool)){dY:FuncId}{eN eO:Array Value}(y:aR Tryz.prog dY=true/\∀(bf:Addr->Option Value),Ext ro bf->∀(o:bD) (z:Bool),i o=some z->aI Tryz.prog dY (eN++#[o.v]++eO) ⟨bf,[]⟩ (fun v _=>v= .bool z)){r:Int}(h:ua u0 i=some r):aI Tryz.prog 95 #[.agg #[.int .i64 u0.book.bZ,.int .i64 u0.book.cg,.int .i64 u0.book.bp.num,.int .i64 u0.book.bp.den,s1,e,f,g,k],.func (.func dY) eN eO] ⟨ro,[]⟩ (fun v _=>v= .int .i64 r):=by
 obtain ⟨d31,B,rfl,ab,p,-⟩:=id l;unfold ua at h;refine aI.go Tryz.func95 rfl Tryz.ntmps95 Tryz.results95 av fun main J hJ A C hd hs=>?_;have D:=hs 0;have k1:=hs 1;clear hs;apply aB hJ _;refine aA fun E ad F=>?_;try simp only[ax] at F
 apply aB hJ _;refine ah hJ (aF hJ ?_);apply ag _;apply aW hJ;revert h;refine bS fun G b H=>?_;refine bW hJ (rg 11 10 [5,7]) (fun m q F'=>∃(i38:Nat) (c:Int),m=u0.all.length - i38/\i38<=u0.all.length/\bM (xq i) i38 (u0.all.drop i38) c=some G/\F'=⟨ro,(E,kn u0 s1 e f g (sl d31 u0.all B))::[]⟩/\slot q 11= .int .i64 (i38:Int)/\slot q 5= .int .i64 c) u0.all.length ?_ ?_
 .refine ⟨0,0,(Nat.sub_zero _).symm,Nat.zero_le _,b,rfl,?_⟩;simp only[*,go_sem]
 rintro ae al F' s ⟨i38,c,rfl,ao,b,rfl,ar,a0⟩;obtain ⟨I,K,L⟩:=s.pick [1,2,4,9,10] aD;simp only[*,go_sem] at I K L;clear s C hd D k1;apply aB hJ _;apply ah hJ;rcases Nat.lt_or_ge i38 u0.all.length with M|t
 .refine cW hJ ?_;apply aN hJ;obtain ⟨u,j⟩:∃x,u0.all[i38]?=some x:=⟨_,List.getElem?_eq_getElem M⟩
  rw[dJ j] at b;revert b;refine bS fun a2 h w=>?_;unfold xq at h;try dsimp only at h
  obtain ⟨a3,N,O,P,d⟩:=l.el _ _ j;obtain rfl:N=u.cells:=P;cases O;have Q:=d 0 _ rfl;simp only[go_sem] at Q;have R:=d 1 _ rfl;simp only[go_sem] at R;have S:=d 2 _ rfl;simp only[go_sem] at S;clear d j;refine ah hJ (aW hJ (ah hJ ?_));apply aE hJ _;refine aA fun a4 a5 T=>?_;try simp only[ax] at T
  apply aF hJ;revert h;refine bS fun a6 U h=>?_;apply ag _;refine bn hJ _ (y.2 _ (fun a v h=>bq a v h) u _ U) ?_;revert h;refine aV hJ (fun V h=>?_) fun V h=>?_
  .cases h;apply aE hJ _;have W:=cM (n:=i38) (by have:=p;omega);apply aE hJ _;refine ⟨u0.all.length - (i38+1),aa,_,Le.sub (List.Sublist.cons _ (List.Sublist.refl _)),i38+1,(IntKind.i64.wrap (c+1)),rfl,aa,w,rfl,?_⟩;simp only[*,go_sem]
  cases h;apply aN hJ;have W:=cM (n:=i38) (by have:=p;omega);apply aE hJ _;refine ⟨u0.all.length - (i38+1),aa,_,Le.sub (List.Sublist.cons _ (List.Sublist.refl _)),i38+1,c,rfl,aa,w,rfl,?_⟩;simp only[*,go_sem]
 have a7:=Nat.not_lt.2 t;refine cJ hJ ?_;rw[List.drop_eq_nil_of_le t] at b;obtain rfl:=sI b;clear b;have h:=H;dsimp only[aG] at h;apply bP;simp only[go_sem];refine ah hJ (aF hJ ?_);apply ag _;refine aW hJ (ah hJ ?_);apply aE hJ _;revert h;refine aV hJ (fun X h=>?_) fun X h=>?_
 .cases h;apply aB hJ _;apply aT;simp only[*,go_sem]
 apply aB hJ _;revert h;refine aV hJ (fun Y h=>?_) fun Y h=>?_
 .cases h;apply aB hJ _;apply aT;simp only[*,go_sem]
 cases h;refine aN hJ (ah hJ ?_);apply aE hJ _;apply aT;simp only[*,go_sem]
def rE (u0:cn)(a:an)(w1:bD):Option Bool:=
 ai (bD.get w1 u0.bA) fun b=>ai (jO a u0.bA b) fun c=>ai (g6 a c) fun d=>some (!(d==u0.bI))
theorem H9 {ro:Addr->Option Value}(u0:cn)(a:an){b:Nat}(y:ro ⟨b,0,none⟩=some (.int .i64 a.bZ))(z:ro ⟨b,1,none⟩=some (.int .i64 a.cg))(B:ro ⟨b,2,none⟩=some (.int .i64 a.bp.num))(C:ro ⟨b,3,none⟩=some (.int .i64 a.bp.den)){s1:Value}(e:aH fT ro s1 a.az)(D:ro ⟨b,4,none⟩=some (s1)){j:Value}(f:aH fe ro j a.props)(E:ro ⟨b,5,none⟩=some (j)){k:Value}(g:aH fN ro k a.aK)(G:ro ⟨b,6,none⟩=some (k)){l:Value}(i:aH dL ro l a.told)(H:ro ⟨b,7,none⟩=some (l))(w1:bD){d:Nat}(o:ro ⟨d,0,none⟩=some (.int .i64 w1.e0))(p:ro ⟨d,1,none⟩=some (.int .i64 w1.e1))(q:ro ⟨d,2,none⟩=some (.int .i64 w1.e2)){r:Bool}(h:rE u0 a w1=some r):aI Tryz.prog 173 #[.agg #[.int .i64 u0.bA,.bool u0.bI],.pointer (some ⟨b,0,none⟩),.pointer (some ⟨d,0,none⟩)] ⟨ro,[]⟩ (fun v _=>v= .bool r):=by
 obtain ⟨d3,c4,rfl,I,K,-⟩:=id e;obtain ⟨d10,L,rfl,M,N,-⟩:=id f;obtain ⟨d17,O,rfl,P,Q,-⟩:=id g;obtain ⟨d24,R,rfl,S,T,-⟩:=id i;unfold rE at h;refine aI.go Tryz.func173 rfl Tryz.ntmps173 Tryz.results173 av fun main J hJ A U hd hs=>?_;have V:=hs 0;have k1:=hs 1;have W:=hs 2;clear hs;apply aB hJ _;refine aA fun X Y s=>?_;try simp only[ax] at s
 apply ah hJ;refine c5 hJ mixed 14 1 aL aj ?_;revert h;refine bS fun t m h=>?_;obtain ⟨Z,ab,n⟩:=bD.get_some m;clear n;have n:=bD.HF m o p q;revert h;refine bS fun u w h=>?_;apply ag _;refine ⟨_,bL hJ fun F c=>nh a ⟨(e.mono (cq c)),(f.mono (cq c)),(g.mono (cq c)),(i.mono (cq c))⟩ u0.bA t w,cw ?_⟩;revert h;refine bS fun ad x h=>?_;cases h;apply ag _;refine ⟨_,bL hJ fun F c=>ny a ⟨(e.mono (cq c)),(f.mono (cq c)),(g.mono (cq c)),(i.mono (cq c))⟩ u x,cw ?_⟩;apply ag _;apply aT;simp only[*,go_sem]
def oY (u0:an)(a:bD):Option Bool:=
 ai (rD u0.told (fun b=>rE b u0 a)) fun c=>some (!c)
theorem Ia {ro:Addr->Option Value}(u0:an){s1 f g i:Value}(b:bR ro u0 s1 f g i)(c:bD){r:Bool}(h:oY u0 c=some r):aI Tryz.prog 138 #[bv u0 s1 f g i,.agg #[.int .i64 c.e0,.int .i64 c.e1,.int .i64 c.e2]] ⟨ro,[]⟩ (fun v _=>v= .bool r):=by
 obtain ⟨d3,c4,rfl,q,s,-⟩:=id b.e;obtain ⟨d10,u,rfl,w,x,-⟩:=id b.p;obtain ⟨d17,z,rfl,B,C,-⟩:=id b.y;obtain ⟨d24,D,rfl,E,F,-⟩:=id b.t;unfold oY at h;refine aI.go Tryz.func138 rfl Tryz.ntmps138 Tryz.results138 av fun main J hJ A G hd hs=>?_;have H:=hs 0;have k1:=hs 1;clear hs;apply aB hJ _;refine aA fun j I k=>?_;try simp only[ax] at k
 refine aA fun l K m=>?_;try simp only[ax] at m
 apply aF hJ;revert h;refine bS fun L n h=>?_;cases h;apply ag _;refine bn hJ _ (H6 (dY:=173) (eN:=#[]) (eO:=#[.pointer (some ⟨j,0,none⟩),.pointer (some ⟨l,0,none⟩)]) u0.told (b.t.mono bq) (fun d=>rE d u0 c) ⟨by simp only[go_sem],fun M a d N o=>by simp only[go_sem];exact H9 d u0 (a _ _ (by simp only[af.cO,go_sem, *])) (a _ _ (by simp only[af.cO,go_sem, *])) (a _ _ (by simp only[af.cO,go_sem, *])) (a _ _ (by simp only[af.cO,go_sem, *])) ((b.e.mono bq).mono a) (a _ _ (by simp only[af.cO,go_sem, *])) ((b.p.mono bq).mono a) (a _ _ (by simp only[af.cO,go_sem, *])) ((b.y.mono bq).mono a) (a _ _ (by simp only[af.cO,go_sem, *])) ((b.t.mono bq).mono a) (a _ _ (by simp only[af.cO,go_sem, *])) c (a _ _ (by simp only[af.cO,go_sem, *])) (a _ _ (by simp only[af.cO,go_sem, *])) (a _ _ (by simp only[af.cO,go_sem, *])) o⟩ n) (aP ?_);apply ag _;apply aT;simp only[*,go_sem]
def oZ (u0:an)(a:(List bh)):Option Bool:=
 ai (tZ a (g6 u0)) fun b=>some (!b)
theorem Ib {ro:Addr->Option Value}(u0:an){s1 c d f:Value}(a:bR ro u0 s1 c d f)(g:(List bh)){i:Value}(j:aH gL ro i g){r:Bool}(h:oZ u0 g=some r):aI Tryz.prog 130 #[bv u0 s1 c d f,i] ⟨ro,[]⟩ (fun v _=>v= .bool r):=by
 obtain ⟨d31,n,rfl,o,q,-⟩:=id j;unfold oZ at h;refine aI.go Tryz.func130 rfl Tryz.ntmps130 Tryz.results130 av fun main J hJ A s hd hs=>?_;have u:=hs 0;have k1:=hs 1;clear hs;apply aB hJ _;refine aA fun w x k=>?_;try simp only[ax] at k
 apply aF hJ;revert h;refine bS fun z l h=>?_;cases h;apply ag _;refine bn hJ _ (H8 (dY:=97) (eN:=#[bv u0 s1 c d f]) (eO:=#[]) g (j.mono bq) (g6 u0) ⟨by simp only[go_sem],fun B b m _ h=>by simp only[go_sem];exact ny u0 ⟨((a.e.mono bq).mono b),((a.p.mono bq).mono b),((a.y.mono bq).mono b),((a.t.mono bq).mono b)⟩ m h⟩ l) (aP ?_);apply ag _;apply aT;simp only[*,go_sem]
def uf (u0:bD)(a:dn)(w1:Int):Option Bool:=
 ai (bD.get u0 w1) fun b=>ai (jO a.book w1 b) fun c=>ai (g6 a.book c) fun d=>some d
theorem Ic {ro:Addr->Option Value}(u0:bD)(a:dn){b:Nat}(x:ro ⟨b,0,none⟩=some (.int .i64 a.book.bZ))(y:ro ⟨b,1,none⟩=some (.int .i64 a.book.cg))(z:ro ⟨b,2,none⟩=some (.int .i64 a.book.bp.num))(B:ro ⟨b,3,none⟩=some (.int .i64 a.book.bp.den)){s1:Value}(d:aH fT ro s1 a.book.az)(C:ro ⟨b,4,none⟩=some (s1)){i:Value}(e:aH fe ro i a.book.props)(D:ro ⟨b,5,none⟩=some (i)){j:Value}(f:aH fN ro j a.book.aK)(E:ro ⟨b,6,none⟩=some (j)){k:Value}(g:aH dL ro k a.book.told)(G:ro ⟨b,7,none⟩=some (k)){l:Value}(n:aH iL ro l a.all)(H:ro ⟨b,8,none⟩=some (l))(w1:Int){m:Nat}(I:ro ⟨m,0,none⟩=some (.int .i64 w1)){r:Bool}(h:uf u0 a w1=some r):aI Tryz.prog 96 #[.agg #[.int .i64 u0.e0,.int .i64 u0.e1,.int .i64 u0.e2],.pointer (some ⟨b,0,none⟩),.pointer (some ⟨m,0,none⟩)] ⟨ro,[]⟩ (fun v _=>v= .bool r):=by
 obtain ⟨d3,c4,rfl,K,L,-⟩:=id d;obtain ⟨d10,M,rfl,N,O,-⟩:=id e;obtain ⟨d17,P,rfl,Q,R,-⟩:=id f;obtain ⟨d24,S,rfl,T,U,-⟩:=id g;obtain ⟨d31,V,rfl,W,X,-⟩:=id n;unfold uf at h;refine aI.go Tryz.func96 rfl Tryz.ntmps96 Tryz.results96 av fun main J hJ A Y hd hs=>?_;have Z:=hs 0;have k1:=hs 1;have ab:=hs 2;clear hs;apply aB hJ _;refine aA fun ad ae o=>?_;try simp only[ax] at o
 apply ah hJ;refine c5 hJ mixed 11 1 aL aj ?_;revert h;refine bS fun p q h=>?_;obtain ⟨al,ao,s⟩:=bD.get_some q;try simp only[go_sem] at s
 revert h;refine bS fun t u h=>?_;apply ag _;refine ⟨_,bL hJ fun F c=>nh a.book ⟨(d.mono (cq c)),(e.mono (cq c)),(f.mono (cq c)),(g.mono (cq c))⟩ w1 p u,cw ?_⟩;revert h;refine bS fun ar w h=>?_;cases h;apply ag _;refine ⟨_,bL hJ fun F c=>ny a.book ⟨(d.mono (cq c)),(e.mono (cq c)),(f.mono (cq c)),(g.mono (cq c))⟩ t w,cw ?_⟩;apply ag _;apply aT;simp only[*,go_sem]
def xu (u0:bD)(a:dn)(i38:Nat)(e:cA)(st:Bool):Option (Fl Bool Bool):=
 ai (bD.get u0 (i38:Int)) fun b=>ai (jO a.book (i38:Int) b) fun c=>ai (g6 a.book c) fun d=>cond (d) (some (.rt false)) (some (.nx st))
def ug (u0:bD)(a:dn):Option Bool:=
 ai (bM (xu u0 a) 0 a.book.aK false) fun o=>aG o (fun b=>some true) (fun _ _=>none) (fun r=>some r)
theorem Ie {ro:Addr->Option Value}(u0:bD)(a:dn){b:Nat}(ae:ro ⟨b,0,none⟩=some (.int .i64 a.book.bZ))(al:ro ⟨b,1,none⟩=some (.int .i64 a.book.cg))(ao:ro ⟨b,2,none⟩=some (.int .i64 a.book.bp.num))(ar:ro ⟨b,3,none⟩=some (.int .i64 a.book.bp.den)){s1:Value}(i:aH fT ro s1 a.book.az)(a0:ro ⟨b,4,none⟩=some (s1)){p:Value}(j:aH fe ro p a.book.props)(a2:ro ⟨b,5,none⟩=some (p)){q:Value}(e:aH fN ro q a.book.aK)(a3:ro ⟨b,6,none⟩=some (q)){s:Value}(k:aH dL ro s a.book.told)(a4:ro ⟨b,7,none⟩=some (s)){t:Value}(B:aH iL ro t a.all)(a5:ro ⟨b,8,none⟩=some (t)){r:Bool}(h:ug u0 a=some r):aI Tryz.prog 100 #[.agg #[.int .i64 u0.e0,.int .i64 u0.e1,.int .i64 u0.e2],.pointer (some ⟨b,0,none⟩)] ⟨ro,[]⟩ (fun v _=>v= .bool r):=by
 obtain ⟨d3,c4,rfl,a6,a7,-⟩:=id i;obtain ⟨d10,a8,rfl,a9,ba,-⟩:=id j;obtain ⟨d17,bb,rfl,bc,C,-⟩:=id e;obtain ⟨d24,bd,rfl,bj,bk,-⟩:=id k;obtain ⟨d31,bl,rfl,bm,bo,-⟩:=id B;unfold ug at h;refine aI.go Tryz.func100 rfl Tryz.ntmps100 Tryz.results100 av fun main J hJ A D hd hs=>?_;have E:=hs 0;have k1:=hs 1;clear hs;apply aB hJ _;refine aA fun G br H=>?_;try simp only[ax] at H
 refine ah hJ (aF hJ ?_);apply ag _;apply aW hJ;revert h;refine bS fun I d u=>?_;refine bW hJ (rg 10 14 [3,4]) (fun m w F'=>∃(i38:Nat) (f:Bool),m=a.book.aK.length - i38/\i38<=a.book.aK.length/\bM (xu u0 a) i38 (a.book.aK.drop i38) f=some I/\F'=⟨ro,(G,.cells #[.int .i64 u0.e0,.int .i64 u0.e1,.int .i64 u0.e2] 133)::[]⟩/\slot w 10= .int .i64 (i38:Int)/\slot w 3= .bool f) a.book.aK.length ?_ ?_
 .refine ⟨0,false,(Nat.sub_zero _).symm,Nat.zero_le _,d,rfl,?_⟩;simp only[*,go_sem]
 rintro bs bz F' y ⟨i38,f,rfl,b0,d,rfl,b1,b2⟩;obtain ⟨K,L,M⟩:=y.pick [1,2,9] aD;simp only[*,go_sem] at K L M;clear y D hd E k1;apply aB hJ _;apply ah hJ;rcases Nat.lt_or_ge i38 a.book.aK.length with N|z
 .refine cW hJ ?_;apply aN hJ;obtain ⟨O,l⟩:∃x,a.book.aK[i38]?=some x:=⟨_,List.getElem?_eq_getElem N⟩
  rw[dJ l] at d;revert d;refine bS fun b3 h o=>?_;unfold xu at h;try dsimp only at h
  obtain ⟨b4,P,Q,R,g⟩:=e.el _ _ l;obtain rfl:P=O.cells:=R;cases Q;have S:=g 0 _ rfl;simp only[go_sem] at S;have T:=g 1 _ rfl;simp only[go_sem] at T;have U:=g 2 _ rfl;simp only[go_sem] at U;clear g l;refine ah hJ (aW hJ (ah hJ ?_));apply aE hJ _;apply ah hJ;refine c5 hJ mixed 10 1 aL aj ?_;revert h;refine bS fun V W h=>?_;obtain ⟨b5,ca,X⟩:=bD.get_some W;try simp only[go_sem] at X
  revert h;refine bS fun Y Z h=>?_;apply ag _;refine ⟨_,bL hJ fun F c=>nh a.book ⟨(i.mono (cq c)),(j.mono (cq c)),(e.mono (cq c)),(k.mono (cq c))⟩ (i38:Int) V Z,cw ?_⟩;revert h;refine bS fun cb ab h=>?_;apply ag _;refine ⟨_,bL hJ fun F c=>ny a.book ⟨(i.mono (cq c)),(j.mono (cq c)),(e.mono (cq c)),(k.mono (cq c))⟩ Y ab,?_⟩;revert h;refine aV hJ (fun ad h=>?_) fun ad h=>?_
  .cases h;apply aB hJ _;obtain rfl:=sI o;clear o;have h:=u;dsimp only[aG] at h;cases h;apply aT;simp only[*,go_sem]
  cases h;apply aN hJ;have cd:=cM (n:=i38) (by have:=C;omega);apply aE hJ _;refine ⟨a.book.aK.length - (i38+1),aa,_,Le.sub (List.Sublist.refl _),i38+1,f,rfl,aa,o,rfl,?_⟩;simp only[*,go_sem]
 have cf:=Nat.not_lt.2 z;refine cJ hJ ?_;rw[List.drop_eq_nil_of_le z] at d;obtain rfl:=sI d;clear d;have h:=u;dsimp only[aG] at h;cases h;apply bP;simp only[go_sem];apply aB hJ _;apply aT;simp only[*,go_sem]
def bD.setAt (h:bD)(i n:Int):Option bD:=if i=0 then some {h with e0:=n} else if i=1 then some {h with e1:=n} else if i=2 then some {h with e2:=n} else none
theorem bD.Ig {h a:bD}{i n:Int}(e:h.setAt i n=some a):(i=0/\a={h with e0:=n})\/(i=1/\a={h with e1:=n})\/(i=2/\a={h with e2:=n}):=by
 unfold bD.setAt at e;split at e
 .exact .inl ⟨‹_›,(Option.some.inj e).symm⟩
 .split at e
  .exact .inr (.inl ⟨‹_›,(Option.some.inj e).symm⟩)
  .split at e
   .exact .inr (.inr ⟨‹_›,(Option.some.inj e).symm⟩)
   .cases e
def jR (f:bD->List (Option bD)×bD)(i hi:Int):Nat->Int->bD->List (Option bD)×bD
 |0,_,h=>([none],h)
 |k+1,n,h=>if n<=hi then match h.setAt i n with
   |none=>([none],h)
   |some a=>((f a).1++(jR f i hi k (IntKind.i64.wrap (n+1)) (f a).2).1,(jR f i hi k (IntKind.i64.wrap (n+1)) (f a).2).2)
  else ([],h)
def fF (b:an):Nat->Int->bD->List (Option bD)×bD
 |0,_,h=>([none],h)
 |fuel+1,i,h=>if i=b.aK.length then ((match oY b h with
   |some true=>[some h]
   |some false=>[]
   |none=>[none]),h)
  else match bu b.aK i with
   |none=>([none],h)
   |some e=>jR (fF b fuel (IntKind.i64.wrap (i+1))) i e.high.high 100 e.high.low h
def nD (b:an):List (Option bD):=(fF b 5 0 ⟨0,0,0⟩).1
theorem Ih {H σ:Type}{step:σ->H->Option (Bool×σ)}{l l':List (Option H)}{s s':σ}{c:Bool}(h:fS step (l++l') s=some (c,s')):
  (∃s1,fS step l s=some (true,s1)/\fS step l' s1=some (c,s'))\/(fS step l s=some (false,s')/\c=false):=by
 rw[BG] at h
 split at h
 .rename_i s1 a;exact .inl ⟨s1,a,h⟩
 .rename_i s1 a;simp only[Option.some.injEq,Prod.mk.injEq] at h;obtain ⟨rfl,rfl⟩:=h;exact .inr ⟨a,rfl⟩
 .cases h
theorem rF {H σ:Type}{step:σ->H->Option (Bool×σ)}{s:σ}{r:Bool×σ}(h:fS step [none] s=some r):False:=by cases h
section
variable {ro:Addr->Option Value}{σ:Type}{step:σ->bD->Option (Bool×σ)}{I:σ->List (Nat×Obj)->Prop}{y:Value}
def o3 (b:an)(s1 s2 a c y:Value)(b2 b3 b4 b5:Nat)(h:bD):List (Nat×Obj):=
 [(b5,.cells #[.func (.func 137) #[] #[.pointer (some ⟨b2,0,none⟩),.pointer (some ⟨b4,0,none⟩),.pointer (some ⟨b3,0,none⟩),.pointer (some ⟨b5,0,none⟩)]] 131),
  (b4,.cells #[.int .i64 h.e0,.int .i64 h.e1,.int .i64 h.e2] 133),(b3,.cells #[y] 150),
  (b2,.cells #[.int .i64 b.bZ,.int .i64 b.cg,.int .i64 b.bp.num,.int .i64 b.bp.den,s1,s2,a,c] 92)]
theorem Ii (u0:an){s1 s2 w x:Value}(E:aH fT ro s1 u0.az)(F:aH fe ro s2 u0.props)(G:aH fN ro w u0.aK)(H:aH dL ro x u0.told)(V:w9 Tryz.prog y bD.v step ro I)
  {b2 b3 b4 b5:Nat} (n1:¬b5=b4) (n2:¬b5=b3) (n3:¬b5=b2) (bb:¬b4=b3) (bc:¬b4=b2) (bd:¬b3=b2) (bj:∀off sp,ro ⟨b5,off,sp⟩=none) (bk:∀off sp,ro ⟨b4,off,sp⟩=none) (bl:∀off sp,ro ⟨b3,off,sp⟩=none) (bm:∀off sp,ro ⟨b2,off,sp⟩=none):
  ∀(fuel:Nat) (i:Int) (a:bD) (s:σ) (c:Bool) (s':σ),fS step (fF u0 fuel i a).1 s=some (c,s')->∀(main:Bool) (J:Goroutine->af->Prop),Closed Tryz.prog main J->∀own,I s own->
   dx Tryz.prog J 137 #[.int .i64 i,.pointer (some ⟨b2,0,none⟩),.pointer (some ⟨b4,0,none⟩),.pointer (some ⟨b3,0,none⟩),.pointer (some ⟨b5,0,none⟩)] ⟨ro,o3 u0 s1 s2 w x y b2 b3 b4 b5 a++own⟩
    (fun v F'=>∃l p,Le ⟨ro,o3 u0 s1 s2 w x y b2 b3 b4 b5 l++p⟩ F'/\v= .bool c/\I s' p/\(c=true->l=(fF u0 fuel i a).2)):=by
 intro fuel
 induction fuel with
 |zero=>intro i a s c s' h;exact (rF h).elim
 |succ fuel ih=>
  intro i a s c s' h main J hJ own g
  obtain ⟨K,L,rfl,bo,br,e1⟩:=id E
  obtain ⟨M,N,rfl,bs,bz,e2⟩:=id F
  obtain ⟨W,O,rfl,bS,b0,X⟩:=id G
  obtain ⟨P,Q,rfl,b1,ca,cb⟩:=id H
  refine dx.go hJ Tryz.func137 rfl Tryz.ntmps137 Tryz.results137 av fun A Y hd hs=>?_
  have Z:=hs 0
  have k1:=hs 1
  have ab:=hs 2
  have ad:=hs 3
  have ae:=hs 4
  clear hs
  unfold fF at h
  have cd:(0:Int)<((3:Nat):Int):=aD
  have cf:(1:Int)<((3:Nat):Int):=aD
  have cl:(2:Int)<((3:Nat):Int):=aD
  repeat apply ah hJ
  apply aQ hJ
  apply bV _
  repeat apply ah hJ
  apply aQ hJ
  simp only[o3,go_sem, *,-h]
  repeat apply ah hJ
  by_cases hi:i=(u0.aK.length:Int)
  .rw[if_pos hi] at h
   repeat apply ah hJ
   refine eF hJ dH ?_
   repeat apply ah hJ
   refine ay hJ fun nd=>?_
   repeat apply ah hJ
   apply aQ hJ
   apply bV _
   cases d:oY u0 a with
   |none=>rw[d] at h;exact (rF h).elim
   |some r=>
    rw[d] at h
    refine bn hJ _ (Ia u0 ⟨(E.mono bq),(F.mono bq),(G.mono bq),(H.mono bq)⟩ a d) (aP ?_)
    cases r with
    |false=>
     cases h
     apply ag _
     repeat apply ah hJ
     apply aT
     apply ag _
     refine ⟨a,own,Le.refl _,?_⟩
     first|exact ⟨rfl,g,fun _=>by unfold fF;rw[if_pos rfl]⟩|exact ⟨g,fun _=>by unfold fF;rw[if_pos rfl]⟩|exact ⟨g,by unfold fF;rw[if_pos rfl]⟩|exact g
    |true=>
     have al:step s a=some (c,s'):=by
      simp only[fS] at h
      split at h<;>first|(cases h;assumption)|cases h
     apply bV _
     refine Hh hJ (o3 u0 (.slice K u0.az.length L) (.slice M u0.props.length N) (.slice W u0.aK.length O) (.slice P u0.told.length Q) y b2 b3 b4 b5 a) (fun m ao ar=>V s a c s' al m ao ar own g) nd ?_
     rintro v p ⟨rfl,R⟩ cy
     apply aP
     apply bV _
     repeat apply ah hJ
     apply aT
     apply bV _
     refine ⟨a,p,Le.refl _,?_⟩
     first|exact ⟨rfl,R,fun _=>by unfold fF;rw[if_pos rfl]⟩|exact ⟨R,fun _=>by unfold fF;rw[if_pos rfl]⟩
  .rw[if_neg hi] at h
   have cS:(i==(u0.aK.length:Int))=false:=by simpa using hi
   repeat apply ah hJ
   refine ew hJ dH ?_
   apply aN hJ
   cases d:bu u0.aK i with
   |none=>rw[d] at h;exact (rF h).elim
   |some e=>
    rw[d] at h
    simp only at h
    have a0:=d
    obtain ⟨c0,da,S⟩:=ck d
    obtain ⟨a2,cse,a3,a4,q⟩:=X _ _ S
    obtain rfl:cse=e.cells:=a4
    cases a3
    have a5:=q 0 _ rfl;simp only[go_sem] at a5
    have a6:=q 1 _ rfl;simp only[go_sem] at a6
    have a7:=q 2 _ rfl;simp only[go_sem] at a7
    clear q S
    repeat apply ah hJ
    apply aQ hJ
    apply bV _
    repeat apply ah hJ
    apply aW hJ
    refine bW hJ [6,7,31,32,33,34,35,36,37,38,39,40,41,42,43,44,45,46,47,48,49,50] (fun m a8 F'=>∃(n:Int) (h:bD) (s:σ) (own:List (Nat×Obj)),fS step (jR (fF u0 fuel (IntKind.i64.wrap (i+1))) i e.high.high m n h).1 s=some (c,s')/\
     (c=true->(jR (fF u0 fuel (IntKind.i64.wrap (i+1))) i e.high.high m n h).2=(fF u0 (fuel+1) i a).2)/\F'=⟨ro,o3 u0 (.slice K u0.az.length L) (.slice M u0.props.length N) (.slice (some a2) u0.aK.length O) (.slice P u0.told.length Q) y b2 b3 b4 b5 h++own⟩/\I s own/\slot a8 7= .int .i64 n) 100 ?_ ?_
    .have a9:(fF u0 (fuel+1) i a).2=(jR (fF u0 fuel (IntKind.i64.wrap (i+1))) i e.high.high 100 e.high.low a).2:=by
      rw[fF,if_neg hi,a0]
     exact ⟨e.high.low,a,s,own,h,fun _=>a9.symm,rfl,g,dH⟩
    .rintro m j F' f ⟨n,l,s1,z,hL,b,rfl,o,db⟩
     clear h g
     have dd:sz j=51:=by rw[f.size];simp only[*,go_sem]
     have kd:j.defers=[]:=by rw[f.defers];simp only[*,go_sem]
     have df:slot j 0= .int .i64 i:=by rw[f.ga 0 aD];simp only[*,go_sem]
     have dk:slot j 1= .pointer (some ⟨b2,0,none⟩):=by rw[f.ga 1 aD];simp only[*,go_sem]
     have dp:slot j 2= .pointer (some ⟨b4,0,none⟩):=by rw[f.ga 2 aD];simp only[*,go_sem]
     have dq:slot j 3= .pointer (some ⟨b3,0,none⟩):=by rw[f.ga 3 aD];simp only[*,go_sem]
     have ds:slot j 4= .pointer (some ⟨b5,0,none⟩):=by rw[f.ga 4 aD];simp only[*,go_sem]
     clear f Z k1 ab ad ae Y hd
     obtain _|m:=m
     .exact (rF hL).elim
     unfold jR at hL b
     repeat apply ah hJ
     apply aQ hJ
     simp only[o3,go_sem, *,-hL]
     repeat apply ah hJ
     by_cases t:n<=e.high.high
     .rw[if_pos t] at hL
      rw[if_pos t] at b
      repeat apply ah hJ
      refine eF hJ (by simp only[*,go_sem,-hL]) ?_
      apply aN hJ
      cases B:l.setAt i n with
      |none=>rw[B] at hL;exact (rF hL).elim
      |some dt=>
       rw[B] at hL b
       simp only at hL b
       repeat apply ah hJ
       apply aW hJ
       repeat apply ah hJ
       refine ay hJ fun nd=>?_
       repeat apply ah hJ
       apply aQ hJ
       rcases bD.Ig B with ⟨C,rfl⟩|⟨C,rfl⟩|⟨C,rfl⟩<;>subst C<;>
       (simp only[*,go_sem,-hL]
        repeat apply ah hJ
        apply aQ hJ
        simp only[*,go_sem,-hL]
        have ba:=Ih hL
        clear hL
        rcases ba with ⟨s2,D,hL⟩|⟨D,rfl⟩
        .refine dx.less hJ ((ih _ _ _ _ _ D _ J hJ z o).mono ?_)
         rintro v F' ⟨T,U,hle,rfl,k,u⟩
         have u:=u rfl
         subst u
         refine ⟨_,hle,aP ?_⟩
         simp only[*,go_sem,-hL]
         repeat apply ah hJ
         refine ew hJ (by simp only[*,go_sem,-hL]) ?_
         apply aN hJ
         repeat apply ah hJ
         apply aQ hJ
         simp only[*,go_sem,-hL]
         exact ⟨m,Nat.lt_succ_self m,_,Le.refl _,_,_,_,_,hL,b,rfl,k,by simp only[*,go_sem,-hL]⟩
        .refine dx.less hJ ((ih _ _ _ _ _ D _ J hJ z o).mono ?_)
         rintro v F' ⟨T,U,hle,rfl,k,u⟩
         refine ⟨_,hle,aP ?_⟩
         apply ag _
         repeat apply ah hJ
         refine eF hJ aL ?_
         repeat apply ah hJ
         apply aQ hJ
         apply ag _
         repeat apply ah hJ
         apply aT
         apply ag _
         refine ⟨T,U,Le.refl _,?_⟩
         first|exact ⟨rfl,k,fun h=>by cases h⟩|exact ⟨k,fun h=>by cases h⟩|exact k|exact ⟨k,trivial⟩)
     .rw[if_neg t] at hL
      rw[if_neg t] at b
      simp only[fS,Option.some.injEq,Prod.mk.injEq] at hL
      obtain ⟨rfl,rfl⟩:=hL
      repeat apply ah hJ
      refine ew hJ aL ?_
      apply bP
      simp only[go_sem]
      repeat apply ah hJ
      apply aQ hJ
      apply ag _
      repeat apply ah hJ
      apply aT
      apply ag _
      refine ⟨l,z,Le.refl _,?_⟩
      first|exact ⟨rfl,o,fun h=>b h⟩|exact ⟨o,fun h=>b h⟩|exact ⟨o,b rfl⟩
theorem uh (u0:an){s1 s2 j k:Value}(e:aH fT ro s1 u0.az)(f:aH fe ro s2 u0.props)(g:aH fN ro j u0.aK)(h:aH dL ro k u0.told):
  m9 Tryz.prog 81 #[.agg #[.int .i64 u0.bZ,.int .i64 u0.cg,.int .i64 u0.bp.num,.int .i64 u0.bp.den,s1,s2,j,k]] #[] bD.v (nD u0) ro:=by
 refine ⟨by simp only[go_sem],fun bf b σ step I r t u l s c s' a main J hJ own m=>?_⟩
 replace e:=e.mono b
 replace f:=f.mono b
 replace g:=g.mono b
 replace h:=h.mono b
 refine dx.go hJ Tryz.func81 rfl Tryz.ntmps81 Tryz.results81 av fun A w hd hs=>?_
 have x:=hs 0
 have k1:=hs 1
 clear hs
 repeat apply ah hJ
 apply aQ hJ
 try simp only[*,go_sem,-a]
 intro b2 f2;have r2:=fA f2;have n2:=gx f2
 intro b3 f3;have r3:=fA f3;have n3:=gx f3
 simp only[ax] at n3
 try simp only[*,go_sem,-a]
 repeat apply ah hJ
 apply aQ hJ
 try simp only[*,go_sem,-a]
 intro b4 f4;have n:=fA f4;have i:=gx f4
 simp only[ax] at i
 try simp only[*,go_sem,-a]
 repeat apply ah hJ
 apply aQ hJ
 try simp only[*,go_sem,-a]
 intro b5 f5;have o:=fA f5;have d:=gx f5
 simp only[ax] at d
 try simp only[*,go_sem,-a]
 repeat apply ah hJ
 apply aQ hJ
 try simp only[*,go_sem,-a]
 repeat apply ah hJ
 apply aQ hJ
 try simp only[*,go_sem,-a]
 refine dx.less hJ ((Ii u0 e f g h l (b2:=b2) (b3:=b3) (b4:=b4) (b5:=b5) d.1 d.2.1 d.2.2.1 i.1 i.2.1 n3.1 o n r3 r2 5 0 ⟨0,0,0⟩ s c s' a main J hJ own m).mono ?_)
 rintro v F' ⟨y,p,hle,rfl,q,_⟩
 exact ⟨_,hle,p,Le.sub (List.sublist_append_right _ _),q⟩
end
end Go.Proofs.YtbpddfapodiemaaGreatDoor
end

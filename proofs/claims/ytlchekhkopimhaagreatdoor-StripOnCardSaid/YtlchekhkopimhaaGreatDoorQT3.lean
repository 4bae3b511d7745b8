/- A part of the proof: QT3. -/
import Derived.Test.YtlchekhkopimhaaGreatDoorQT2
import Derived.Test.YtlchekhkopimhaaGreatDoorProg
set_option linter.all false
section
namespace Go.Sep
open Go Go.Conc
theorem jh {ro aF:Addr->Option Value}{l:List (Nat×Obj)}(a:Ext ro aF)(hn:bg aF l)(own:List (Nat×Obj)):Knows ⟨ro,l⟩ ⟨aF,own⟩=j5 l own:=
 propext ⟨fun h=>h.2.2,EI a hn⟩
section
variable {P:Program}{main:Bool}{J:Goroutine->af->Prop}{a:Act}{F:af}
def nO (l:Nat)(R:Value->af->Prop)(st:LoopState)(jump:Option Code)(F:af):Prop:=
 ∃lo,F.dm l=some (.loop lo)/\R (.bool jump.isNone) (F.put l (.loop {lo with state:=st,pending:=jump}))
def vB (l:Nat)(R:Value->af->Prop):Ex->Act->af->Prop
 | .normal,_,F=>nO l R .ready none F
 | .exit id,_,F=>nO l R .done (some (.exit id)) F
 | .ret,_,F=>nO l R .done (some .ret) F
def se (J:Goroutine->af->Prop)(l:Nat)(body:Code)(R:Value->af->Prop):Ex->Act->af->Prop
 | .normal,a,F=>∃lo,F.dm l=some (.loop lo)/\lo.state= .ready/\Wp J body (vB l R) a (F.put l (.loop {lo with state:=.busy}))
 |_,_,_=>False
theorem vC {l:Nat}{R:Value->af->Prop}{st:LoopState}{jump:Option Code}(c:st=if jump.isNone then .ready else .done)(h:nO l R st jump F):bw P (Instr.endRound l jump) R F:=by
 obtain ⟨lo,a,b⟩:=h;simp only[Instr.endRound,Instr.getLoop,bA,iL];refine ⟨_,a,?_⟩;simp only[bG,bA,jG,a,Option.isSome_some,Obj.isChan,true_and];rw[c] at b;exact b
theorem vD (hJ:Closed P main J){l:Nat}{b:Frame}{a:Act}{todo:List Item}{jump:Option Code}{c:Frame}{cs:List Frame}(f:b.kind= .normal)
  (hs:∀w,stepG P main (G (on b a todo) (c::cs)) w=GStep.after (seen P b.fn ((Instr.endRound l jump).runT P w #[]).2) (match ((Instr.endRound l jump).runT P w #[]).1 with
    | .ok v w=>doReturn P main (on b a todo) (c::cs) none v w
    | .halt _ w=>.ended (.stuck "range over a function: no such loop" ((on b a todo).pos P)) w))
  (h:bw P (Instr.endRound l jump) (fun v F'=>J (G (c.finish v) cs) F') F):J (G (on b a todo) (c::cs)) F:=by
 refine hJ.step fun w hw=>?_
 obtain ⟨v,w',F',es,H⟩:=kH _ F w #[] h hw
 have d:=H.run
 rw[Array.empty_append] at d
 refine ⟨G (c.finish v) cs,w',seen P b.fn es,F',?_,H.upd,H.has,fun e he=>H.iJ e (mem_seen he),H.post⟩
 rw[hs w,d]
 have g:(on b a todo).kind= .normal:=f
 simp only[doReturn,g,GStep.after,G]
 simp
theorem jD.of_wp (hJ:Closed P main J){l:Nat}{f:FuncId}{tmps:Array Value}{assign body:Code}{R:Value->af->Prop}(hd:fZ assign=true)(p:fZ body=true)
  (h:Wp J assign (se J l body R) {tmps:=tmps,defers:=[]} F):jD J l f tmps assign body F R:=by
 intro c cs hR
 let b:Frame:={(default:Frame) with fn:=f,kind:=.normal,roundOf:=some l}
 have he:Frame.round l f tmps assign body .normal=on b {tmps:=tmps,defers:=[]} (.code assign::[.beginRound,.code body]):=rfl
 rw[he]
 refine h b [.beginRound,.code body] (c::cs) ⟨by simp[b],.inr hd⟩ fun e k F' d=>?_
 cases e with
 |exit i=>exact d.elim
 |ret=>exact d.elim
 |normal=>
  obtain ⟨lo,a,g,q⟩:=d
  show J (G (on b k [.beginRound,.code body]) (c::cs)) F'
  have r:bw P (do Instr.beginRound l;pure Next.skip:Sem Next) (fun n j=>n= .skip/\j=F'.put l (.loop {lo with state:=.busy})) F':=by
   simp only[Instr.beginRound,Instr.getLoop,bA,iL]
   refine ⟨_,a,?_⟩
   simp only[bG,bA,jG,a,Option.isSome_some,Obj.isChan,true_and,g]
   all_goals first|trivial|exact ⟨rfl,rfl⟩
  refine hJ.step fun w hw=>?_
  obtain ⟨n,w',j,es,H⟩:=kH _ F' w #[] r hw
  have m:=H.run
  rw[Array.empty_append] at m
  obtain ⟨rfl,rfl⟩:=H.post
  refine ⟨G (on b k [.code body]) (c::cs),w',seen P b.fn es,_,?_,H.upd,H.has,fun e he=>H.iJ e (mem_seen he),?_⟩
  .have s:b.roundOf=some l:=rfl
   simp only[G,stepG,stepG.exec,on,s,Option.elim,stepG.apply,if_true]
   have t:(b.kind==CallKind.early)=false:=rfl
   simp only[m,t,Bool.false_eq_true,if_false,GStep.after]
   simp[Frame.finish,undef]
  .refine q b [] (c::cs) ⟨by simp[b],.inr p⟩ fun e x j d=>?_
   cases e with
   |normal=>
    refine vD hJ (l:=l) (jump:=none) rfl (fun w=>?_) (vC rfl (R:=fun v F'=>J (G (c.finish v) cs) F') ?_)
    .simp only[G,stepG,stepG.exec,on]
     rfl
    .obtain ⟨lo,a,g⟩:=d
     exact ⟨lo,a,hR _ _ g⟩
   |exit i=>
    intro o u
    refine vD hJ (l:=l) (jump:=some (.exit i)) rfl (fun w=>?_) (vC rfl (R:=fun v F'=>J (G (c.finish v) cs) F') ?_)
    .have hn:exitTo i o=none:=u
     simp only[G,stepG,stepG.exec,on,hn,Option.elim]
     rfl
    .obtain ⟨lo,a,g⟩:=d
     exact ⟨lo,a,hR _ _ g⟩
   |ret=>
    intro o
    refine vD hJ (l:=l) (jump:=some .ret) rfl (fun w=>?_) (vC rfl (R:=fun v F'=>J (G (c.finish v) cs) F') ?_)
    .simp only[G,stepG,stepG.exec,on]
     rfl
    .obtain ⟨lo,a,g⟩:=d
     exact ⟨lo,a,hR _ _ g⟩
def si (Q:Ex->Act->af->Prop)(a:Act)(F:af):Option Code->Prop
 |none=>Q .normal a F
 |some (.exit id)=>Q (.exit id) a F
 |some .ret=>Q .ret a F
 |_=>False
def nP (b:FuncId)(a:Act)(params:Array Tmp)(assign body:Code)(d:Nat):Loop:={state:=.ready,pending:=none,fn:=b,tmps:=a.tmps,params:=params,assign:=assign,body:=body,defers:=d}
theorem Fh (hJ:Closed P main J){x:Operand}{params:Array Tmp}{assign body:Code}{Q:Ex->Act->af->Prop}{fn:FuncId}{first captured:Array Value}
  (E:ev a x= .func (.func fn) first captured) (I:aI P fn=true)
  (L:∀M d l,er F d->er (F.push d (.deferred (some []))) l->
   dh P J fn (first++#[.func (.yield l) #[] #[]]++captured) ((F.push d (.deferred (some []))).push l (.loop (nP M a params assign body d)))
    (fun _ F'=>∃lo,F'.dm l=some (.loop lo)/\lo.state≠ .busy/\si Q {a with defers:=⟨.collected d,#[]⟩::a.defers} (F'.put l (.loop {lo with state:=.exhausted})) lo.pending)):
  Wp J (.rangeFunc x params assign body) Q a F:=by
 intro b k cs hb p
 have t:b.roundOf=none:=hb.round.elim id fun h=>by simp[fZ] at h
 obtain ⟨u,N,O,R,S,q,a4⟩:=b
 simp only at t
 subst t
 let b:Frame:=⟨u,N,O,R,S,q,none⟩
 have T:a.eval x= .func (.func fn) first captured:=E
 have i:=I
 unfold aI at i
 split at i
 case h_2=>cases i
 rename_i a5 U
 simp only[Bool.not_eq_true',Bool.or_eq_false_iff] at i
 let K:Nat×List Deferred->af->Prop:=fun r F'=>∃d l,r=(l,[⟨.collected d,#[]⟩])/\er F d/\er (F.push d (.deferred (some []))) l/\F'=(F.push d (.deferred (some []))).push l (.loop (nP b.fn a params assign body d))
 have V:bw P (Instr.enterLoop b.fn a.tmps params assign body none) K F:=by
  simp only[Instr.enterLoop,bA,pV,bG]
  exact ⟨rfl,fun d hd=>⟨rfl,fun l s=>⟨d,l,rfl,hd,s,rfl⟩⟩⟩
 refine hJ.step fun w hw=>?_
 obtain ⟨r,w1,F1,z,H1⟩:=kH _ F w #[] V hw
 have A:=H1.run
 rw[Array.empty_append] at A
 obtain ⟨d,l,rfl,hd,s,rfl⟩:=H1.post
 let fr':Frame:={on b a (.inRangeFunc l::k) with defers:=[⟨.collected d,#[]⟩]++a.defers}
 have W:fr'=on b {a with defers:=⟨.collected d,#[]⟩::a.defers} (.inRangeFunc l::k):=rfl
 have X:fr'.eval x= .func (.func fn) first captured:=by rw[W,uy];exact T
 have Y:bw P (do let m<-resolve fr'.eval {callee:=.value x,args:=#[.const (.func (.yield l) #[] #[])],argTypes:=#[]} 0;invoke m.target m.args:Sem Next)
   (fun n o=>n= .enter fn (first++#[.func (.yield l) #[] #[]]++captured)/\o=(F.push d (.deferred (some []))).push l (.loop (nP b.fn a params assign body d))) ((F.push d (.deferred (some []))).push l (.loop (nP b.fn a params assign body d))):=by
  have Z:fr'.eval (.const (.func (.yield l) #[] #[]))= .func (.yield l) #[] #[]:=rfl
  simp only[resolve,X,Deferred.ofValue,bA,bG,invoke,callFunc,j0,U,i.1,i.2,Bool.false_eq_true,if_false,List.map_toArray,List.map_cons,List.map_nil,Z]
  simp
 obtain ⟨n,w2,o,ab,g⟩:=kH _ _ w1 #[] Y H1.has
 have B:=g.run
 rw[Array.empty_append] at B
 obtain ⟨rfl,rfl⟩:=g.post
 refine ⟨G (Frame.enter P fn (first++#[.func (.yield l) #[] #[]]++captured) .normal) (fr'::cs),w2,seen P b.fn z++seen P b.fn ab,_,?_,H1.upd.trans g.upd,g.has,fun e he=>?_,?_⟩
 .have ad:(q==CallKind.early)=false:=by have:=hb.kind;cases q<;>simp_all
  have hs:∀e:Array Event,stepG P main (G (on b a (.code (.rangeFunc x params assign body)::k)) cs) w=GStep.after (seen P u z) (stepG.apply P true fr' cs none (do let m<-resolve fr'.eval {callee:=.value x,args:=#[.const (.func (.yield l) #[] #[])],argTypes:=#[]} 0;invoke m.target m.args) w1):=fun _=>by
   simp only[G,stepG,stepG.exec,on,b]
   rw[A]
   rfl
  show stepG P main (G (on b a (.code (.rangeFunc x params assign body)::k)) cs) w=_
  rw[hs #[]]
  unfold stepG.apply
  simp only[if_true,B]
  have ae:(fr'.kind==CallKind.early)=false:=ad
  simp only[ae,Bool.false_eq_true,if_false,GStep.after]
  rfl
 .rcases Array.mem_append.1 he with h|h
  .refine (H1.iJ e (mem_seen h)).mono (fun _ x=>x) fun b hb=>hb.imp id fun y=>⟨y.1,Nat.lt_of_lt_of_le y.2 g.upd.size⟩
  .refine (g.iJ e (mem_seen h)).mono (fun a al=>al) fun b hb=>?_
   rcases hb with hb|hb
   .rcases H1.upd.own b hb with x|x
    .exact .inl x
    .exact .inr ⟨x,Nat.lt_of_lt_of_le (H1.has.lt hb) g.upd.size⟩
   .exact .inr ⟨Nat.le_trans H1.upd.size hb.1,hb.2⟩
 .refine L b.fn d l hd s fr' cs fun v F' ao=>?_
  obtain ⟨lo,C,ar,f⟩:=ao
  have a0:fr'.finish v=on b {a with defers:=⟨.collected d,#[]⟩::a.defers} (.endRangeFunc l::k):=rfl
  rw[a0]
  have a2:bw P (Instr.endLoop l) (fun j o=>j=lo.pending/\o=F'.put l (.loop {lo with state:=.exhausted})) F':=by
   simp only[Instr.endLoop,Instr.getLoop,bA,iL]
   refine ⟨_,C,?_⟩
   have a3:¬(lo.state== .busy)=true:=by simpa using ar
   simp only[bG,bA,jG,C,Option.isSome_some,Obj.isChan,true_and,dJ,a3]
   all_goals first|trivial|exact ⟨rfl,rfl⟩
  refine hJ.step fun w hw=>?_
  obtain ⟨j,w',a6,es,H⟩:=kH _ F' w #[] a2 hw
  have D:=H.run
  rw[Array.empty_append] at D
  obtain ⟨rfl,rfl⟩:=H.post
  refine ⟨G (on b {a with defers:=⟨.collected d,#[]⟩::a.defers} ((lo.pending.map Item.code).toList++k)) cs,w',seen P b.fn es,_,?_,H.upd,H.has,fun e he=>H.iJ e (mem_seen he),?_⟩
  .simp only[G,stepG,stepG.exec,on,D,GStep.after]
   simp
  .revert f
   cases lo.pending with
   |none=>exact fun f=>p .normal _ _ f
   |some c=>
    intro f
    cases c<;>simp only[si] at f<;>first
     |exact f.elim
     |exact p (.exit _) _ _ f k rfl
     |exact p .ret _ _ f k
end
def dA {H σ:Type}(step:σ->H->Option (Bool×σ)):List (Option H)->σ->Option (Bool×σ)
 |[],s=>some (true,s)
 |none::_,_=>none
 |some x::l,s=>match step s x with
  |some (true,s')=>dA step l s'
  |some (false,s')=>some (false,s')
  |none=>none
theorem Ad {H σ:Type}(step:σ->H->Option (Bool×σ)):∀(l l':List (Option H)) (s:σ),dA step (l++l') s=match dA step l s with
  |some (true,s')=>dA step l' s'
  |some (false,s')=>some (false,s')
  |none=>none
 |[],l',s=>rfl
 |none::l,l',s=>rfl
 |some x::l,l',s=>by
  simp only[List.cons_append,dA]
  split<;>first|rfl|exact Ad step l l' _
def j8 {H σ ρ:Type}(f:H->σ->Option (Fl σ ρ)):List (Option H)->σ->Option (Fl σ ρ)
 |[],s=>some (.nx s)
 |none::_,_=>none
 |some x::l,s=>ai (f x s) fun o=>match o with
  | .nx s'=>j8 f l s'
  | .bk s'=>some (.nx s')
  | .br k s'=>some (.br k s')
  | .rt _=>none
def vE {H σ:Type}(P:Program)(y:Value)(enc:H->Value)(step:σ->H->Option (Bool×σ))(ro:Addr->Option Value)(I:σ->List (Nat×Obj)->Prop):Prop:=
 ∀s x b s',step s x=some (b,s')->∀(main:Bool) (J:Goroutine->af->Prop),Closed P main J->∀own,I s own->
  gP P J y #[enc x] ⟨ro,own⟩ (fun v F'=>∃a,Le ⟨ro,a⟩ F'/\v= .bool b/\I s' a)
def lZ {H:Type}(P:Program)(f:FuncId)(first cap:Array Value)(enc:H->Value)(L:List (Option H))(ro:Addr->Option Value):Prop:=
 aI P f=true/\∀(aF:Addr->Option Value),Ext ro aF->∀(σ:Type) (step:σ->H->Option (Bool×σ)) (I:σ->List (Nat×Obj)->Prop) (a:Fn) (c d:Array Value),vE P (.func a c d) enc step aF I->
  ∀s b s',dA step L s=some (b,s')->∀(main:Bool) (J:Goroutine->af->Prop),Closed P main J->∀own,I s own->
   dh P J f (first++#[.func a c d]++cap) ⟨aF,own⟩ (fun _ F'=>∃e,Le ⟨aF,e⟩ F'/\I s' e)
theorem lZ.mono {H:Type}{P:Program}{f:FuncId}{first cap:Array Value}{enc:H->Value}{L:List (Option H)}{ro a:Addr->Option Value}(h:lZ P f first cap enc L ro)(b:Ext ro a):lZ P f first cap enc L a:=
 ⟨h.1,fun aF c=>h.2 aF (b.trans c)⟩
def sj:Nat:=1000000000
def l5 (k:Nat):Code:=if k=sj then .ret else .exit k
def vF (Q:Ex->Act->af->Prop)(k:Nat):Act->af->Prop:=if k=sj then Q .ret else Q (.exit k)
def Ae {σ ρ:Type}(c:Nat)(ro:Addr->Option Value)(l d:Nat)(S:σ->List (Nat×Obj)->Prop)(lo:Loop)(b:Fl σ ρ)(v:Value)(F:af):Prop:=
 ∃a,Le ⟨ro,(l,.loop {lo with state:=(match b with| .nx _=>.ready|_=>.done),pending:=(match b with| .nx _=>none| .bk _=>some (l5 c)| .br k _=>some (l5 k)| .rt _=>none)})::(d,.deferred (some []))::a⟩ F/\
  match b with
  | .nx s'=>v= .bool true/\S s' a
  | .bk s'=>v= .bool false/\S s' a
  | .br _ s'=>v= .bool false/\S s' a
  | .rt _=>False
section
variable {P:Program}{main:Bool}{J:Goroutine->af->Prop}{a:Act}
theorem Af {H σ ρ:Type}{f:H->σ->Option (Fl σ ρ)}(a:Nat):∀(L:List (Option H)) (s:σ) (o:Fl σ ρ),j8 f L s=some o->
  ∃b s' pend,dA (σ:=σ×Option Nat) (fun st x=>match st with
   |(s,none)=>match f x s with
    |some (.nx s')=>some (true,(s',none))
    |some (.bk s')=>some (false,(s',some a))
    |some (.br k s')=>some (false,(s',some k))
    |_=>none
   |_=>none) L (s,none)=some (b,(s',pend))/\((o= .nx s'/\(pend=none\/pend=some a))\/∃k,o= .br k s'/\pend=some k)
 |[],s,o,h=>by
  cases h
  exact ⟨true,s,none,rfl,.inl ⟨rfl,.inl rfl⟩⟩
 |none::L,s,o,h=>by cases h
 |some x::L,s,o,h=>by
  unfold j8 at h
  obtain ⟨e,d,c⟩:=eu h
  cases e with
  |nx s'=>
   obtain ⟨b,s2,pend,g,i⟩:=Af a L s' o c
   refine ⟨b,s2,pend,?_,i⟩
   unfold dA
   simp only[d]
   exact g
  |bk s'=>
   cases c
   refine ⟨false,s',some a,?_,.inl ⟨rfl,.inr rfl⟩⟩
   unfold dA
   simp only[d]
  |br k s'=>
   cases c
   refine ⟨false,s',some k,?_,.inr ⟨k,rfl,rfl⟩⟩
   unfold dA
   simp only[d]
  |rt r=>cases c
theorem Ag {ro:Addr->Option Value}{l:Nat}{o:Obj}{own:List (Nat×Obj)}(a:Obj.pR o=false)(b:o.isChan=false):af.dm ⟨ro,(l,o)::own⟩ l=some o:=by
 simp[af.dm,lk,a,b]
def qj (a:Act)(d:Nat):Act:={a with defers:=⟨.collected d,#[]⟩::a.defers}
theorem Fi (a:Act)(d i:Nat):slot (qj a d) i=slot a i:=rfl
theorem Fj (a:Act)(d:Nat):sz (qj a d)=sz a:=rfl
theorem Fo (a:Act)(d:Nat):(qj a d).defers=⟨.collected d,#[]⟩::a.defers:=rfl
def nS (a:Act)(p:Tmp)(v:Value):Act:={tmps:=a.tmps.setIfInBounds p v,defers:=[]}
theorem so (a:Act)(p:Tmp)(v:Value)(i:Nat):slot (nS a p v) i=slot (bC a (some p) v) i:=rfl
theorem Ah (a:Act)(p:Tmp)(v:Value):sz (nS a p v)=sz a:=by simp[sz,nS]
theorem Ai {H σ ρ:Type}(hJ:Closed P main J){x:Operand}{p:Tmp}{assign body:Code}{Q:Ex->Act->af->Prop}{fn:FuncId}{first captured:Array Value}{ro:Addr->Option Value}{own:List (Nat×Obj)}{g:Nat}
  (enc:H->Value) {L:List (Option H)} (T:ev a x= .func (.func fn) first captured) (G:lZ P fn first captured enc L ro)
  (U:fZ assign=true) (V:fZ body=true)
  (S:σ->List (Nat×Obj)->Prop) {f:H->σ->Option (Fl σ ρ)} {z:σ} {o:Fl σ ρ} (ho:j8 f L z=some o) (W:S z own)
  (X:∀(d l:Nat) (lo:Loop),lo.state= .ready->∀(s:σ) (y:H) (q:Fl σ ρ),f y s=some q->∀(main:Bool) (J:Goroutine->af->Prop),Closed P main J->∀own,S s own->
   Wp J assign (se J l body (Ae g ro l d S lo q)) (nS a p (enc y)) ⟨ro,(l,.loop lo)::(d,.deferred (some []))::own⟩)
  (Y:¬g=sj)
  (Z:∀d l lo j s',S s' j->bO (keys ((l,.loop lo)::(d,.deferred (some []))::j))->bg ro ((l,.loop lo)::(d,.deferred (some []))::j)->(o= .nx s'->Q .normal (qj a d) ⟨ro,(l,.loop lo)::(d,.deferred (some []))::j⟩)/\
   (∀k,o= .br k s'->vF Q k (qj a d) ⟨ro,(l,.loop lo)::(d,.deferred (some []))::j⟩))
  (ab:∀k s',o= .br k s'->¬k=g):Wp J (.block g (.rangeFunc x #[p] assign body)) Q a ⟨ro,own⟩:=by
 refine aU hJ (Wp.mono (Q:=fun e A F'=>match e with| .exit i=>if i=g then Q .normal A F' else Q (.exit i) A F'|e=>Q e A F') ?_ fun e a F h=>by cases e<;>exact h)
 obtain ⟨b,s',pend,ad,ae⟩:=Af g L z o ho
 refine Fh hJ T G.1 fun B d l hd a8=>?_
 let lo:Loop:=nP B a #[p] assign body d
 let n:Option Nat->Loop:=fun pend=>{lo with state:=(match pend with|none=>.ready|some _=>.done),pending:=pend.map l5}
 let I:σ×Option Nat->List (Nat×Obj)->Prop:=fun st al=>∃bn,al=(l,.loop (n st.2))::(d,.deferred (some []))::bn/\S st.1 bn
 have ao:vE P (.func (.yield l) #[] #[]) enc (fun (st:σ×Option Nat) x=>match st with
   |(s,none)=>match f x s with
    |some (.nx s')=>some (true,(s',none))
    |some (.bk s')=>some (false,(s',some g))
    |some (.br k s')=>some (false,(s',some k))
    |_=>none
   |_=>none) ro I:=by
  rintro ⟨s,pend⟩ y a9 ⟨s1,ba⟩ m ar K M a0 ⟨bn,rfl,a2⟩
  cases pend with
  |some k=>cases m
  |none=>
   simp only at m
   refine ⟨rfl,rfl,lo,Ag rfl rfl,rfl,?_⟩
   cases C:f y s with
   |none=>rw[C] at m;cases m
   |some q=>
    have D:=jD.of_wp M (R:=Ae g ro l d S lo q) (f:=B) U V (X d l lo rfl s y q C ar K M bn a2)
    rw[C] at m
    have a3:(lo.params.zip #[enc y]).foldl (fun tmps (t,a)=>tmps.setIfInBounds t a) lo.tmps=a.tmps.setIfInBounds p (enc y):=by simp[lo,nP]
    show jD K l B ((lo.params.zip #[enc y]).foldl (fun tmps (t,a)=>tmps.setIfInBounds t a) lo.tmps) assign body _ _
    rw[a3]
    refine D.mono fun v F' hv=>?_
    obtain ⟨j,hle,hm⟩:=hv
    cases q with
    |nx s2=>
     simp only[Option.some.injEq,Prod.mk.injEq] at m
     obtain ⟨rfl,rfl,rfl⟩:=m
     exact ⟨_,hle,hm.1,j,rfl,hm.2⟩
    |bk s2=>
     simp only[Option.some.injEq,Prod.mk.injEq] at m
     obtain ⟨rfl,rfl,rfl⟩:=m
     exact ⟨_,hle,hm.1,j,rfl,hm.2⟩
    |br k s2=>
     simp only[Option.some.injEq,Prod.mk.injEq] at m
     obtain ⟨rfl,rfl,rfl⟩:=m
     exact ⟨_,hle,hm.1,j,rfl,hm.2⟩
    |rt r=>exact hm.elim
 have a4:=G.2 ro (Ext.refl ro) _ _ I _ _ _ ao (z,none) b (s',pend) ad main J hJ ((l,.loop lo)::(d,.deferred (some []))::own) ⟨own,rfl,W⟩
 intro c cs hK
 refine a4 c cs fun v F' hv=>?_
 obtain ⟨a0,hle,j,rfl,a5⟩:=hv
 by_cases hw:∃w,Has F' w
 case neg=>exact hJ.step fun w hF=>absurd ⟨w,hF⟩ hw
 obtain ⟨w,hw⟩:=hw
 have N:=hle.has w hw
 refine hJ.mono hle (hK v _ ⟨n pend,Ag rfl rfl,?_,?_⟩)
 .cases pend<;>simp[n]
 .obtain ⟨O,a6⟩:=Z d l {n pend with state:=.exhausted} j s' a5 ⟨N.nodup⟩ (fun b hb off sp=>by
   cases D:ro ⟨b,off,sp⟩ with
   |none=>rfl
   |some v=>exact absurd hb (N.apart _ v D))
  have a7:af.put ⟨ro,(l,.loop (n pend))::(d,.deferred (some []))::j⟩ l (.loop {n pend with state:=.exhausted})=⟨ro,(l,.loop {n pend with state:=.exhausted})::(d,.deferred (some []))::j⟩:=by simp[af.put,fK]
  rw[a7]
  rcases ae with ⟨rfl,rfl|rfl⟩|⟨k,rfl,rfl⟩
  .exact O rfl
  .show si _ _ _ (some (l5 g))
   have:l5 g= .exit g:=if_neg Y
   rw[this]
   show (if g=g then Q .normal _ _ else Q (.exit g) _ _)
   rw[if_pos rfl]
   exact O rfl
  .have u:=a6 k rfl
   show si _ _ _ (some (l5 k))
   unfold vF at u
   unfold l5
   split
   .rename_i E
    rw[if_pos E] at u
    exact u
   .rename_i E
    rw[if_neg E] at u
    show (if k=g then Q .normal _ _ else Q (.exit k) _ _)
    rw[if_neg (ab k s' rfl)]
    exact u
theorem Fp {R:List Deferred->af->Prop}{r:Nat}{F:af}:bw P (Instr.takeDeferred r) R F=match F.dm r with
  |some (.deferred (some a))=>R a (F.put r (.deferred none))
  |_=>False:=by
 unfold Instr.takeDeferred
 rw[bA,iL]
 refine propext ⟨fun ⟨o,d,b⟩=>?_,fun h=>?_⟩
 .rw[d]
  cases o<;>first|exact (show False from b).elim|skip
  rename_i a
  cases a with
  |none=>exact (show False from b).elim
  |some a=>
   simp only[bA,jG,bG] at b
   exact b.2.2
 .split at h
  .rename_i a c
   refine ⟨_,c,?_⟩
   simp only[bA,jG,bG]
   exact ⟨rfl,by rw[c];rfl,h⟩
  .exact h.elim
theorem Fq (hJ:Closed P main J){y:Value}{args:Array Value}{ro:Addr->Option Value}{own:List (Nat×Obj)}{R:Value->List (Nat×Obj)->Prop}(pre:List (Nat×Obj))
  (h:∀(main:Bool) (J:Goroutine->af->Prop),Closed P main J->gP P J y args ⟨ro,own⟩ (fun v F'=>∃a,Le ⟨ro,a⟩ F'/\R v a)) (n:bO (keys (pre++own))) {K:Value->af->Prop}
  (p:∀v a,R v a->bO (keys (pre++a))->K v ⟨ro,pre++a⟩):gP P J y args ⟨ro,pre++own⟩ K:=by
 have key:∀jK:Frame,(∀(main:Bool) (J:Goroutine->af->Prop),Closed P main J->r9 J jK ⟨ro,own⟩ (fun v F'=>∃a,Le ⟨ro,a⟩ F'/\R v a))->r9 J jK ⟨ro,pre++own⟩ K:=fun jK d=>
  z6 hJ pre [] an R (fun m e f c cs hK=>d m e f c cs fun v F' hv=>hK v F' (by obtain ⟨o,b,g⟩:=hv;exact ⟨o,g,b⟩)) fun v s hR a j hn=>by
   rw[List.append_nil] at j
   subst j
   exact ⟨_,Le.refl _,p v s hR hn⟩
 have d:=h main J hJ
 unfold gP at d ⊢
 split at d
 .rename_i fn first captured
  refine ⟨d.1,key _ fun m e f=>?_⟩
  have:=h m e f
  unfold gP at this
  exact this.2
 .rename_i l first captured
  obtain ⟨e1,e2,r,b,g,_⟩:=d
  refine ⟨e1,e2,r,?_,g,key _ fun m e f=>?_⟩
  .have hm:l∈keys own:=by
    unfold af.dm at b
    split at b
    .rename_i o ho;exact fA (iI ho)
    .cases b
   have hn:l∉keys pre:=fun t=>by
    have:=n.nd
    rw[cu] at this
    exact (List.nodup_append.1 this).2.2 l t l hm rfl
   have u:∀(pre:List (Nat×Obj)),l∉keys pre->lk (pre++own) l=lk own l:=fun pre=>by
    induction pre with
    |nil=>intro _;rfl
    |cons q pre ih=>
     intro i
     simp only[keys,List.map_cons,List.mem_cons,not_or] at i
     simp only[List.cons_append,lk,if_neg (Ne.symm i.1)]
     exact ih i.2
   unfold af.dm at b ⊢
   simp only at b ⊢
   rw[u pre hn]
   exact b
  .have:=h m e f
   unfold gP at this
   obtain ⟨_,_,x,k,z,w⟩:=this
   rw[b] at k
   cases k
   exact w
 .exact d.elim
theorem dh.less (hJ:Closed P main J){f:FuncId}{args:Array Value}{F:af}{R:Value->af->Prop}(h:dh P J f args F (fun v F'=>∃F0,Le F0 F'/\R v F0)):dh P J f args F R:=
 fun c cs hK=>h c cs fun v F' ⟨F0,hle,a⟩=>hJ.mono hle (hK v F0 a)
def Aj (P:Program)(rs:List ResultVar)(R:Value->af->Prop):Ex->Act->af->Prop
 | .exit _,_,_=>False
 |_,a,F=>iK P a.defers (fun F=>match lS P F a rs with|some v=>R v F|none=>False) F
theorem Ak {K b:af->Prop}(h:∀F,K F->b F):∀(a:List Deferred) (F:af),iK P a K F->iK P a b F
 |[],F,x=>h F x
 |d::a,F,⟨r,e,f⟩=>⟨r,e,gO (fun calls F' c=>⟨c.1,Ak h a F' c.2⟩) _ _ f⟩
theorem aE.Al {f:FuncId}{fn:Func}{c:Code}{n:Nat}{rs:List ResultVar}{args:Array Value}{F:af}{R:Value->af->Prop}(d:P.funcs[f]?=some fn)(hb:fn.body=some c)(hn:fn.ntmps=n)(g:fn.results=rs.toArray)(j:args.size<=n)
  (h:∀main J,Closed P main J->∀A:Act,sz A=n->A.defers=[]->(∀i,slot A i=args.getD i undef)->Wp J c (Aj P rs R) A F):aE P f args F R:=
 aE.start d hb hn j fun main J hJ A k l m=>(h main J hJ A k l m).mono fun e a F b=>by
  have key:iK P a.defers (fun F=>match lS P F a rs with|some v=>R v F|none=>False) F->iK P a.defers (fun F=>bw P (results fn a.tmps) R F) F:=Ak (fun F hv=>by
   split at hv
   .rename_i v o;exact rW g o hv
   .exact hv.elim) _ _
  cases e with
  |exit i=>exact b
  |normal=>exact key b
  |ret=>exact key b
theorem dh.go (hJ:Closed P main J){f:FuncId}{fn:Func}{c:Code}{n:Nat}{rs:List ResultVar}{args:Array Value}{F:af}{R:Value->af->Prop}(d:P.funcs[f]?=some fn)(hb:fn.body=some c)(hn:fn.ntmps=n)(g:fn.results=rs.toArray)(k:args.size<=n)
  (h:∀A:Act,sz A=n->A.defers=[]->(∀i,slot A i=args.getD i undef)->Wp J c (iN P rs R) A F):dh P J f args F R:=by
 refine dh.of_wp hJ d hb ?_
 refine (h _ (by simp[sz,hn];omega) rfl fun i=>?_).mono fun e a F b=>?_
 .simp only[slot,hn,Array.getD_eq_getD_getElem?]
  rcases Nat.lt_or_ge i args.size with hi|hi
  .rw[Array.getElem?_append_left hi]
  .rw[Array.getElem?_append_right hi,Array.getElem?_replicate,Array.getElem?_eq_none hi]
   split<;>rfl
 .cases e with
  |exit i=>exact b
  |_=>
   obtain ⟨hd,hv⟩:=b
   split at hv
   .rename_i v j
    show iK P a.defers _ F
    rw[hd]
    exact rW g j hv
   .exact hv.elim
theorem Fs {d:Nat}{X:Nat->Prop}:(∃r,Target.collected d=Target.collected r/\X r)=X d:=propext ⟨fun ⟨r,a,b⟩=>by cases a;exact b,fun h=>⟨d,rfl,h⟩⟩
attribute [go_sem] Fs Fi Fj Fo Aj Fp af.dm Obj.pR Obj.isChan
end
section
variable {P:Program}
theorem Ft (z:Value)(n:Nat):(Builtin.zeroCells #[z] n).toList=List.replicate n z:=by
 simp only[Builtin.zeroCells,List.size_toArray,List.length_cons,List.length_nil,Nat.zero_add,Nat.mul_one,Nat.mod_one];rw[Array.toList_map,Array.toList_range];apply List.ext_getElem
 .simp
 .intro i a b;simp
theorem Fu {ro:Addr->Option Value}{pre bq:List (Nat×Obj)}{argTypes:Array TypeId}{t e ty:TypeId}{R:Value->af->Prop}{b off n c:Nat}{arr:Array Value}{z zc:Value}(ht:argTypes[0]?=some t)(hu:P.underlying t=some (.slice e))(a:zeroOf P e=some z)(d:z.cells=#[zc])(f:dP zc=true)
  (hn:0<n) (g:aN pre b) (i:off+n<=arr.size)
  (h:R (.tuple #[]) ⟨ro,pre++((b,.cells (bI arr off (List.replicate n zc)) e)::bq)⟩):
  cR P (Builtin.clear_ argTypes ty #[.slice (some ⟨b,off,none⟩) n c]) R ⟨ro,pre++((b,.cells arr e)::bq)⟩:=by
 unfold cR
 have j:n≠0:=aa
 obtain ⟨k,rfl⟩:∃k,n=k+1:=⟨n - 1,aa⟩
 simp only[Builtin.clear_,ht,List.getElem?_toArray,List.getElem?_cons_zero,bA,di,hu,nt,a,d]
 refine pW _ _ 0 _ ⟨ro,pre++((b,.cells (bI arr off (List.replicate (k+1) zc)) e)::bq)⟩ ?_ ?_
 .rw[Ft]
  have:=r8 (ro:=ro) (bq:=bq) (e:=e) g off (List.replicate (k+1) zc) arr 0 (fun v hv=>by rw[List.eq_of_mem_replicate hv];exact f) (by simpa using i)
  simpa using this
 .simp only[bG]
  exact h
end
theorem aW.gU {T:Type}{r:cm T}{ro:Addr->Option Value}{e:TypeId}{v:Value}{l:List T}{bn:List (Nat×Obj)}(h:aW r ro e v l bn){own:List (Nat×Obj)}(pre bq:List (Nat×Obj))(f:own=pre++(bn++bq))(g:bO (keys own)):aH r (af.dQ ⟨ro,own⟩).ro v l:=by
 subst f;obtain ⟨ls,hg,c,hm,k⟩:=h;rcases hg with ⟨rfl,rfl,rfl⟩|⟨b,arr,cap,rfl,rfl,hs,hle,ht,d,m⟩
 .have:l=[]:=List.eq_nil_of_length_eq_zero (by simpa using c.symm);subst this;exact aH.nil r _
 .have o:aN pre b:=Nd.fresh g.nd b (by simp[keys]);refine ⟨some ⟨b,0,none⟩,cap,by rw[c],aa,aa,fun i x hi=>?_⟩;obtain ⟨cs,p,q⟩:=k i x hi;refine ⟨_,cs,rfl,r.mono aY q,fun j v hv=>?_⟩;have a:=nL ls i cs d p j v hv;rw[kN,jH,Nat.zero_add];have s:i*r.n+j<ls.length*r.n:=by
   have:=(List.getElem?_eq_some_iff.1 a).1;rw[iM d] at this;exact this
  rw[<-ht,List.getElem?_take_of_lt s] at a;show af.get ⟨ro,pre++([(b,Obj.cells arr e)]++bq)⟩ ⟨b,i*r.n+j,none⟩=some v;simp only[af.get,m,if_true,List.cons_append,List.nil_append,r7 o,Option.bind_some,cellOf];simpa using a
theorem aH.two {T:Type}{r:cm T}{ro:Addr->Option Value}{own:List (Nat×Obj)}{b:Nat}{x y:T}{v u:Value}{e:TypeId}(a:∀off sp,ro ⟨b,off,sp⟩=none)(d:lk own b=some (.cells #[v,u] e))(c:r.n=1)(h:r.rel ro x [v])(k:r.rel ro y [u]):
  aH r (b9 ro b (.cells #[v,u] e)) (.slice (some ⟨b,0,none⟩) 2 2) [x,y]:=by
 refine ⟨some ⟨b,0,none⟩,2,rfl,Nat.le_refl _,an,fun i z hi=>?_⟩
 have:(i=0/\z=x)\/(i=1/\z=y):=by
  cases i with
  |zero=>simp at hi;exact .inl ⟨rfl,hi.symm⟩
  |succ i=>cases i with
   |zero=>simp at hi;exact .inr ⟨rfl,hi.symm⟩
   |succ i=>simp at hi
 rcases this with ⟨rfl,rfl⟩|⟨rfl,rfl⟩
 .refine ⟨_,_,rfl,r.mono (gQ _ _ _) h,fun j w hv=>?_⟩
  cases j with
  |zero=>
   rw[Nat.zero_mul,add_zero',jH,Nat.zero_add,eY a]
   simpa [cellOf] using hv
  |succ j=>simp at hv
 .refine ⟨_,_,rfl,r.mono (gQ _ _ _) k,fun j w hv=>?_⟩
  cases j with
  |zero=>
   rw[c,kN,jH,eY a]
   simpa [cellOf] using hv
  |succ j=>simp at hv
theorem aW.clear {ro:Addr->Option Value}{e:TypeId}{b n cap k:Nat}{x:List Int}{arr:Array Value}(h:aW rI ro e (.slice (some ⟨b,0,none⟩) n cap) x [(b,.cells arr e)])(r:k<=x.length):
  aW rI ro e (.slice (some ⟨b,0,none⟩) k cap) (x.take k) [(b,.cells (bI arr k (List.replicate (n - k) (.int .i64 0))) e)]:=by
 obtain ⟨ls,hg,s,hm,g⟩:=h
 rcases hg with ⟨hv,_,_⟩|⟨t,u,j,hv,l,hs,hle,ht,d,m⟩
 .cases hv
 .cases l
  obtain ⟨rfl,rfl⟩:n=ls.length/\cap=j:=by cases hv;exact ⟨rfl,rfl⟩
  have c:rI.n=1:=rfl
  rw[c] at hs ht d
  simp only[Nat.mul_one] at hs ht
  have a:(ls.take k).length=k:=by rw[List.length_take];omega
  refine ⟨ls.take k,.inr ⟨b,_,cap,by rw[a],rfl,by rw[rQ];rw[c,Nat.mul_one];exact hs,by rw[a];omega,?_,?_,m⟩,by rw[a,List.length_take];omega,by rw[List.length_take];omega,?_⟩
  .rw[rR _ _ _ (by simp;omega),a,c,Nat.mul_one,List.append_assoc,List.take_append_of_le_length (by rw[List.length_take,Array.length_toList];omega),List.take_take,Nat.min_self]
   have e1:arr.toList.take k=(arr.toList.take ls.length).take k:=by rw[List.take_take,Nat.min_eq_left aa]
   rw[e1,ht]
   have e2:ls.flatten=(ls.take k).flatten++(ls.drop k).flatten:=by rw[<-List.flatten_append,List.take_append_drop]
   have e3:(ls.take k).flatten.length=k:=by rw[iM (size:=1) (fun z f=>d z (List.mem_of_mem_take f)),a,Nat.mul_one]
   rw[e2,List.take_append_of_le_length (Nat.le_of_eq e3.symm),List.take_of_length_le (Nat.le_of_eq e3)]
  .intro z f
   rw[c];exact d z (List.mem_of_mem_take f)
  .intro i v hv
   obtain ⟨hi,o⟩:i<k/\x[i]?=some v:=by
    rw[List.getElem?_take] at hv
    split at hv
    .exact ⟨‹_›,hv⟩
    .cases hv
   obtain ⟨cs,p,q⟩:=g i v o
   exact ⟨cs,by rw[List.getElem?_take,if_pos hi];exact p,q⟩
section
variable {P:Program}
theorem Fv {t:TypeId}{R:Value->af->Prop}{F:af}(h:∀b,er F b->R (.map (some b)) (F.push b (.map #[] 0))):cR P (Instr.makeMap t none) R F:=by
 unfold cR;simp only[Instr.makeMap,bA,pV,bG];exact ⟨rfl,h⟩
end
theorem bS {α β:Type}{x:Option α}{f:α->Option β}{r:β}{G:Prop}(k:∀a,x=some a->f a=some r->G)(h:ai x f=some r):G:=by
 obtain ⟨a,b,c⟩:=eu h;exact k a b c
def bU:Code->Code
 | .seq _ b=>b
 |c=>c
theorem sI {α:Type}{x r:α}(h:some x=some r):x=r:=Option.some.inj h
theorem bf {ro:Addr->Option Value}{own:List (Nat×Obj)}{G:Nat->Prop}(h:∀b,(∀off sp,ro ⟨b,off,sp⟩=none)->aN own b->G b):∀b,er ⟨ro,own⟩ b->G b:=fun b f=>h b (cT f) (cY f)
theorem bW:(∀(ro:Addr->Option Value) (b:Nat) (o:Obj) (l:List (Nat×Obj)),bg ro ((b,o)::l)=((∀off sp,ro ⟨b,off,sp⟩=none)/\bg ro l))/\(∀l:List (Nat×Obj),[]++l=l)/\(∀l:List (Nat×Obj),l++[]=l)/\
  (∀(x:Nat×Obj) (l m:List (Nat×Obj)),x::l++m=x::(l++m))/\∀l m n:List (Nat×Obj),l++m++n=l++(m++n):=
 ⟨fun _ _ _ _=>propext ⟨fun h=>⟨h.hd,h.tl⟩,fun h=>bg.cons h.1 h.2⟩,fun _=>rfl,List.append_nil,fun _ _ _=>rfl,List.append_assoc⟩
theorem aH.el {T:Type}{r:cm T}{ro:Addr->Option Value}{ad:Option Addr}{n cap:Nat}{l:List T}(h:aH r ro (.slice ad n cap) l):
  ∀i x,l[i]?=some x->∃p cs,ad=some p/\r.rel ro x cs/\∀j v,cs[j]?=some v->ro ((p.add (i*r.n)).add j)=some v:=by
 obtain ⟨a,b,e,_,_,h⟩:=h
 cases e
 exact h
theorem bO.tl {b:Nat}{ks:List Nat}(h:bO (b::ks)):bO ks:=⟨(List.nodup_cons.1 h.nd).2⟩
theorem bO.cut {l:List (Nat×Obj)}(h:bO (keys l))(i n:Nat):bO (keys (l.take i++l.drop (i+n))):=
 ⟨(((List.Sublist.append_left (show (l.drop (i+n)).Sublist (l.drop i) by rw[<-List.drop_drop];exact List.drop_sublist _ _) (l.take i)).trans (by rw[List.take_append_drop];exact List.Sublist.refl _)).map _).nodup h.nd⟩
theorem aW.ql {T:Type}{r:cm T}{ro:Addr->Option Value}{e:TypeId}{v:Value}{l:List T}{bn:List (Nat×Obj)}(h:aW r ro e v l bn){own:List (Nat×Obj)}(pre bq:List (Nat×Obj))(a:bO (keys own))(hn:bg ro (pre++bq))
  (b:own=pre++(bn++bq):=by first|rfl|simp only[bN]|(simp only[bN];rfl)):
  ∃aF,Ext ro aF/\bg aF (pre++bq)/\aH r aF v l/\Le ⟨aF,pre++bq⟩ ⟨ro,own⟩:=h.lY _ pre bq b rfl a hn
theorem aH.oc {T:Type}{r:cm T}{ro:Addr->Option Value}{s:Value}{l:List T}(h:aH r ro s l):dP s=true:=by
 obtain ⟨_,_,e,_⟩:=h;rw[e];rfl
theorem Fw {p:Nat->Prop}{a:Nat}{l:List Nat}:(∀i,i∈a::l->p i)=(p a/\∀i,i∈l->p i):=propext List.forall_mem_cons
theorem Fx {p:Nat->Prop}:(∀i,i∈([]:List Nat)->p i)=True:=propext ⟨fun _=>trivial,fun _ _ h=>(by cases h)⟩
section
variable {P:Program}{main:Bool}{J:Goroutine->af->Prop}{Q:Ex->Act->af->Prop}{a:Act}{F:af}
theorem cN (hJ:Closed P main J){f:FuncId}{args:Array Value}{ro:Addr->Option Value}{own:List (Nat×Obj)}{K:Value->af->Prop}(R:Value->(Addr->Option Value)->Prop)(h:eZ P f args ro R)
  (a:∀v aF,Ext ro aF->bg aF own->R v aF->K v ⟨aF,own⟩):dh P J f args ⟨ro,own⟩ K:=nD hJ R h a
theorem l6 {Φ:Goroutine->af->Prop}{f:FuncId}{args:Array Value}{ro:Addr->Option Value}{own:List (Nat×Obj)}{K:Value->af->Prop}(R:Value->(Addr->Option Value)->Prop)(h:nM P f args ro R)
  (a:∀v aF,Ext ro aF->bg aF own->R v aF->K v ⟨aF,own⟩):dh P (eD P Φ) f args ⟨ro,own⟩ K:=E1 R h a
theorem cS {α:Type}{b:Bool}{e1 e2:Option α}{r:α}{G:Prop}(c:b=true->e1=some r->G)(d:b=false->e2=some r->G)(h:cond b e1 e2=some r):G:=by
 rcases nE h with ⟨a,b⟩|⟨a,b⟩
 .exact c a b
 .exact d a b
theorem jC {α:Type}(hJ:Closed P main J){c:Operand}{x y:Code}{b:Bool}{e1 e2:Option α}{r:α}(d:ev a c= .bool b)(f:b=true->e1=some r->Wp J x Q a F)(g:b=false->e2=some r->Wp J y Q a F)(h:cond b e1 e2=some r):Wp J (.cond c x y) Q a F:=by
 refine EO hJ b d (fun e=>f e ?_) fun e=>g e ?_
 .rw[e] at h;exact h
 .rw[e] at h;exact h
theorem cO (hJ:Closed P main J){c:Operand}{x y:Code}(h:Wp J x Q a F)(b:ev a c= .bool true:=by simp (maxSteps:=9^9) only[*,go_sem]):Wp J (.cond c x y) Q a F:=dn hJ b h
theorem cE (hJ:Closed P main J){c:Operand}{x y:Code}(h:Wp J y Q a F)(b:ev a c= .bool false:=by simp (maxSteps:=9^9) only[*,go_sem]):Wp J (.cond c x y) Q a F:=dr hJ b h
theorem aV {α:Type}(hJ:Closed P main J){c:Operand}{x y:Code}{b:Bool}{e1 e2:Option α}{r:α}(d:b=true->e1=some r->Wp J x Q a F)(e:b=false->e2=some r->Wp J y Q a F)(f:ev a c= .bool b:=by simp (maxSteps:=9^9) only[*,go_sem]):cond b e1 e2=some r->Wp J (.cond c x y) Q a F:=jC hJ f d e
theorem dR (hJ:Closed P main J)(b:P.follows .mixedOrders=true)(m n:Nat){id:Nat}{ops:Array Oper}(hF:Knows ⟨F.ro,F.own.take n⟩ F)(c:rY ops m=true)
  (h:fM P J ops ⟨F.ro,F.own.take n⟩ (fun d=>je P J ops ⟨F.ro,F.own.take n⟩ (Q .normal) (ops.toList.drop m) true d F) (ops.toList.take m) true a):Wp J (.region id ops true) Q a F:=eN hJ b m _ hF c h
theorem e5 {c:Code}(L:List Nat){a:Act}(h:∀A,sz A=sz a->A.defers=a.defers->(∀i∈L,slot A i=slot a i)->Wp J c Q A F):Wp J c Q a F:=h a rfl rfl fun _ _=>rfl
theorem cj.pick {ws:List Nat}{A a:Act}(h:cj ws A a)(L:List Nat)(b:(L.all fun i=>!ir ws i)=true):sz A=sz a/\A.defers=a.defers/\∀i∈L,slot A i=slot a i:=
 ⟨h.size,h.defers,fun i hi=>h.bM i fun x=>by
  have c:=List.all_eq_true.1 b i hi
  have d:ir ws i=true:=by
   unfold In at x
   exact x
  simp[d] at c⟩
theorem vG {T:Type}{r:cm T}{ro:Addr->Option Value}{bn:List (Nat×Obj)}{R:Value->af->Prop}{argTypes:Array TypeId}{d f e h e2:TypeId}{a b:Nat}{s z:Value}{l:List T}{x:T}{cs:Array Value}{own:List (Nat×Obj)}(pre bq:List (Nat×Obj))
  (hg:aW r ro e s l bn) (i:bO (keys own)) (j:l.length+[x].length<=1000000) (k:r.rel ro x cs.toList) (m:lk pre b=some (.cells cs e2)) (o:∀off sp,ro ⟨b,off,sp⟩=none)
  (p:argTypes[0]?=some d) (q:argTypes[1]?=some f) (he:dU P d=some e) (t:dU P f=some h) (hs:cw P e=some r.n) (u:zeroOf P e=some z) (w:z.cells.size=r.n) (hb:bytesOf P e=some a)
  (y:0<a) (A:a<=10000)
  (hR:∀v g,aW r ro e v (l++[x]) g->∀c,c=pre++(g++bq)->bO (keys c)->∃F0,Le F0 ⟨ro,c⟩/\R v F0)
  (B:own=pre++(bn++bq):=by first|rfl|simp only[bN]|(simp only[bN];rfl)):nC P argTypes s (.slice (some ⟨b,0,none⟩) 1 1) R ⟨ro,own⟩:=
 qh pre bq B hg i j k m o p q he t hs u w hb y A hR
theorem Fy {T:Type}{r:cm T}{ro:Addr->Option Value}{bn:List (Nat×Obj)}{R:Value->af->Prop}{argTypes:Array TypeId}{d f e h:TypeId}{a c:Nat}{ad:Option Addr}{s z:Value}{l xs:List T}{own:List (Nat×Obj)}(pre bq:List (Nat×Obj))
  (hg:aW r ro e s l bn) (i:bO (keys own)) (j:l.length+xs.length<=1000000) (k:aH r ro (.slice ad xs.length c) xs)
  (m:argTypes[0]?=some d) (o:argTypes[1]?=some f) (he:dU P d=some e) (p:dU P f=some h) (hs:cw P e=some r.n) (q:zeroOf P e=some z) (t:z.cells.size=r.n) (hb:bytesOf P e=some a)
  (u:0<a) (w:a<=10000)
  (hR:∀v g,aW r ro e v (l++xs) g->∀b,b=pre++(g++bq)->bO (keys b)->∃F0,Le F0 ⟨ro,b⟩/\R v F0)
  (x:own=pre++(bn++bq):=by first|rfl|simp only[bN]|(simp only[bN];rfl)):nC P argTypes s (.slice ad xs.length c) R ⟨ro,own⟩:=
 E3 pre bq x hg i j k m o he p hs q t hb u w hR
theorem en (hJ:Closed P main J){f:FuncId}{args:Array Value}{ro:Addr->Option Value}{bn:List (Nat×Obj)}{K:Value->af->Prop}{own:List (Nat×Obj)}(pre bq:List (Nat×Obj))(R:Value->List (Nat×Obj)->Prop)(h:aE P f args ⟨ro,bn⟩ (fun v G=>∃a,R v a/\Le ⟨ro,a⟩ G))
  (c:∀v a,R v a->∀b,b=pre++(a++bq)->bO (keys b)->∃F0,Le F0 ⟨ro,b⟩/\K v F0)
  (d:own=pre++(bn++bq):=by first|rfl|simp only[bN]|(simp only[bN];rfl)):dh P J f args ⟨ro,own⟩ K:=iw hJ pre bq d R h c
end
end Go.Sep
end
section
namespace Go.Proofs.YtlchekhkopimhaaGreatDoor
open Go Go.Sep Go.Proofs
set_option maxRecDepth 100000
theorem mixed:Tryz.prog.follows .mixedOrders=true:=aj
@[go_sem] theorem M1:cK Tryz.prog 3=some false:=aj
@[go_sem] theorem vH:cw Tryz.prog 3=some 1:=aj
theorem vI:bytesOf Tryz.prog 3=some 8:=aj
@[go_sem] theorem sr:zeroOf Tryz.prog 3=some (.int .i64 0):=aj
@[go_sem] theorem M3:cK Tryz.prog 4=some false:=aj
@[go_sem] theorem M4:cw Tryz.prog 4=some 1:=aj
@[go_sem] theorem Fz:zeroOf Tryz.prog 4=some (.bool false):=aj
@[go_sem] theorem M5:uX Tryz.prog 4=true:=aj
@[go_sem] theorem M6:cK Tryz.prog 9=some false:=aj
@[go_sem] theorem M7:Tryz.prog.underlying 9=some .string:=aj
@[go_sem] theorem M8:cK Tryz.prog 22=some false:=aj
@[go_sem] theorem M9:cw Tryz.prog 22=some 1:=aj
@[go_sem] theorem Na:nB Tryz.prog 22=true:=aj
@[go_sem] theorem nU:dU Tryz.prog 22=some 31:=aj
@[go_sem] theorem Nb:cK Tryz.prog 24=some true:=aj
@[go_sem] theorem Nc:cw Tryz.prog 24=some 3:=aj
@[go_sem] theorem Nf:zeroOf Tryz.prog 24=some (.agg #[.int .i64 0,.int .i64 0,.slice none 0 0]):=aj
@[go_sem] theorem Ng:dK Tryz.prog 24 0=some 0:=aj
@[go_sem] theorem Nh:dK Tryz.prog 24 1=some 1:=aj
@[go_sem] theorem Ni:dK Tryz.prog 24 2=some 2:=aj
@[go_sem] theorem Nj:placesOf Tryz.prog 24=some [(0,1),(1,1),(2,1)]:=aj
@[go_sem] theorem Nk:cK Tryz.prog 28=some true:=aj
@[go_sem] theorem Nl:cw Tryz.prog 28=some 2:=aj
@[go_sem] theorem Nm:zeroOf Tryz.prog 28=some (.agg #[.int .i64 0,.int .i64 0]):=aj
@[go_sem] theorem Nn:dK Tryz.prog 28 0=some 0:=aj
@[go_sem] theorem No:dK Tryz.prog 28 1=some 1:=aj
@[go_sem] theorem Np:placesOf Tryz.prog 28=some [(0,1),(1,1)]:=aj
@[go_sem] theorem Nq:cK Tryz.prog 29=some false:=aj
@[go_sem] theorem Nr:cw Tryz.prog 29=some 1:=aj
@[go_sem] theorem Ns:nB Tryz.prog 29=true:=aj
@[go_sem] theorem Am:dU Tryz.prog 29=some 71:=aj
@[go_sem] theorem Nt:cK Tryz.prog 31=some true:=aj
@[go_sem] theorem vJ:cw Tryz.prog 31=some 7:=aj
theorem vK:bytesOf Tryz.prog 31=some 80:=aj
@[go_sem] theorem vL:zeroOf Tryz.prog 31=some (.agg #[.string ⟨⟨[]⟩⟩,.int .i64 0,.int .i64 0,.int .i64 0,.int .i64 0,.int .i64 0,.slice none 0 0]):=aj
@[go_sem] theorem Nu:dK Tryz.prog 31 0=some 0:=aj
@[go_sem] theorem Nv:dK Tryz.prog 31 1=some 1:=aj
@[go_sem] theorem Nw:dK Tryz.prog 31 2=some 3:=aj
@[go_sem] theorem Ny:dK Tryz.prog 31 3=some 4:=aj
@[go_sem] theorem Nz:dK Tryz.prog 31 4=some 6:=aj
@[go_sem] theorem NA:placesOf Tryz.prog 31=some [(0,1),(1,2),(3,1),(4,2),(6,1)]:=aj
@[go_sem] theorem NB:cK Tryz.prog 36=some false:=aj
@[go_sem] theorem FA:cw Tryz.prog 36=some 1:=aj
theorem FB:bytesOf Tryz.prog 36=some 24:=aj
@[go_sem] theorem An:zeroOf Tryz.prog 36=some (.slice none 0 0):=aj
@[go_sem] theorem nW:dU Tryz.prog 36=some 3:=aj
@[go_sem] theorem Ao:dU Tryz.prog 59=some 91:=aj
@[go_sem] theorem NC:cK Tryz.prog 71=some true:=aj
@[go_sem] theorem FC:cw Tryz.prog 71=some 3:=aj
theorem FD:bytesOf Tryz.prog 71=some 32:=aj
@[go_sem] theorem FE:zeroOf Tryz.prog 71=some (.agg #[.string ⟨⟨[]⟩⟩,.int .i64 0,.int .i64 0]):=aj
@[go_sem] theorem ND:dK Tryz.prog 71 0=some 0:=aj
@[go_sem] theorem NF:dK Tryz.prog 71 1=some 1:=aj
@[go_sem] theorem NG:dK Tryz.prog 71 2=some 2:=aj
@[go_sem] theorem NH:placesOf Tryz.prog 71=some [(0,1),(1,1),(2,1)]:=aj
@[go_sem] theorem NI:cK Tryz.prog 80=some true:=aj
@[go_sem] theorem NJ:cw Tryz.prog 80=some 3:=aj
@[go_sem] theorem NK:zeroOf Tryz.prog 80=some (.agg #[.slice none 0 0,.slice none 0 0,.slice none 0 0]):=aj
@[go_sem] theorem NL:dK Tryz.prog 80 0=some 0:=aj
@[go_sem] theorem NM:dK Tryz.prog 80 1=some 1:=aj
@[go_sem] theorem NN:dK Tryz.prog 80 2=some 2:=aj
@[go_sem] theorem NO:placesOf Tryz.prog 80=some [(0,1),(1,1),(2,1)]:=aj
@[go_sem] theorem NP:cK Tryz.prog 91=some true:=aj
@[go_sem] theorem FF:cw Tryz.prog 91=some 2:=aj
theorem FG:bytesOf Tryz.prog 91=some 16:=aj
@[go_sem] theorem Ap:zeroOf Tryz.prog 91=some (.agg #[.int .i64 0,.int .i64 0]):=aj
@[go_sem] theorem NQ:p6 Tryz.prog 91=some [some true,some true]:=aj
@[go_sem] theorem NR:dK Tryz.prog 91 0=some 0:=aj
@[go_sem] theorem NS:dK Tryz.prog 91 1=some 1:=aj
@[go_sem] theorem NT:placesOf Tryz.prog 91=some [(0,1),(1,1)]:=aj
@[go_sem] theorem NU:cK Tryz.prog 101=some true:=aj
@[go_sem] theorem NV:cw Tryz.prog 101=some 3:=aj
@[go_sem] theorem NW:zeroOf Tryz.prog 101=some (.agg #[.int .i64 0,.int .i64 0,.slice none 0 0]):=aj
@[go_sem] theorem NX:dK Tryz.prog 101 0=some 0:=aj
@[go_sem] theorem NY:placesOf Tryz.prog 101=some [(0,3)]:=aj
@[go_sem] theorem NZ:cK Tryz.prog 102=some false:=aj
@[go_sem] theorem N0:cw Tryz.prog 102=some 1:=aj
@[go_sem] theorem Aq:dU Tryz.prog 102=some 114:=aj
@[go_sem] theorem N1:cK Tryz.prog 104=some true:=aj
@[go_sem] theorem N2:cw Tryz.prog 104=some 4:=aj
@[go_sem] theorem N3:zeroOf Tryz.prog 104=some (.agg #[.int .i64 0,.int .i64 0,.slice none 0 0,.slice none 0 0]):=aj
@[go_sem] theorem N4:dK Tryz.prog 104 0=some 0:=aj
@[go_sem] theorem N5:dK Tryz.prog 104 1=some 3:=aj
@[go_sem] theorem N6:placesOf Tryz.prog 104=some [(0,3),(3,1)]:=aj
@[go_sem] theorem N7:cK Tryz.prog 111=some true:=aj
@[go_sem] theorem N8:cw Tryz.prog 111=some 4:=aj
@[go_sem] theorem N9:p6 Tryz.prog 111=some [some true,some true,some true,some true]:=aj
@[go_sem] theorem Oa:kM Tryz.prog 111=some (4,3):=aj
@[go_sem] theorem Ob:cK Tryz.prog 112=some false:=aj
@[go_sem] theorem Oc:cw Tryz.prog 112=some 1:=aj
@[go_sem] theorem Od:zeroOf Tryz.prog 112=some (.int .u64 0):=aj
@[go_sem] theorem Oe:cK Tryz.prog 114=some true:=aj
@[go_sem] theorem FH:cw Tryz.prog 114=some 9:=aj
theorem FI:bytesOf Tryz.prog 114=some 72:=aj
@[go_sem] theorem FJ:zeroOf Tryz.prog 114=some (.agg #[.int .i64 0,.int .i64 0,.int .i64 0,.int .i64 0,.int .i64 0,.int .i64 0,.int .i64 0,.int .i64 0,.int .u64 0]):=aj
@[go_sem] theorem Of:p6 Tryz.prog 114=some [some true,some true,some true,some true,some true,some true,some true,some true,some true]:=aj
@[go_sem] theorem Og:dK Tryz.prog 114 0=some 0:=aj
@[go_sem] theorem Oh:dK Tryz.prog 114 1=some 4:=aj
@[go_sem] theorem Oi:dK Tryz.prog 114 2=some 8:=aj
@[go_sem] theorem Oj:placesOf Tryz.prog 114=some [(0,4),(4,4),(8,1)]:=aj
@[go_sem] theorem Ol:cK Tryz.prog 115=some false:=aj
@[go_sem] theorem Om:cK Tryz.prog 118=some false:=aj
@[go_sem] theorem On:cw Tryz.prog 118=some 1:=aj
@[go_sem] theorem Oo:zeroOf Tryz.prog 118=some .nilFunc:=aj
@[go_sem] theorem Oq:cK Tryz.prog 121=some false:=aj
@[go_sem] theorem Ot:cK Tryz.prog 137=some false:=aj
@[go_sem] theorem Ou:cw Tryz.prog 137=some 1:=aj
@[go_sem] theorem Ov:zeroOf Tryz.prog 137=some .nilFunc:=aj
@[go_sem] theorem Ar:dU Tryz.prog 160=some 36:=aj
@[go_sem] theorem Ow:cK Tryz.prog 164=some false:=aj
@[go_sem] theorem Ox:cw Tryz.prog 164=some 1:=aj
@[go_sem] theorem Oy:cK Tryz.prog 165=some true:=aj
@[go_sem] theorem Oz:cw Tryz.prog 165=some 3:=aj
@[go_sem] theorem OA:kM Tryz.prog 165=some (3,164):=aj
@[go_sem] theorem OB:cK Tryz.prog 169=some false:=aj
@[go_sem] theorem OC:cw Tryz.prog 169=some 1:=aj
@[go_sem] theorem OD:zeroOf Tryz.prog 169=some (.chan none):=aj
@[go_sem] theorem OE:dK Tryz.prog 176 2=some 0:=aj
@[go_sem] theorem OF:zeroOf Tryz.prog 179=some (.agg #[.int .u64 0,.int .u32 0]):=aj
@[go_sem] theorem OG:dK Tryz.prog 179 1=some 0:=aj
@[go_sem] theorem OH:dK Tryz.prog 179 2=some 1:=aj
@[go_sem] theorem OI:cK Tryz.prog 236=some false:=aj
@[go_sem] theorem OJ:cw Tryz.prog 236=some 1:=aj
@[go_sem] theorem OK:zeroOf Tryz.prog 236=some (.int .u64 0):=aj
@[go_sem] theorem OL:aI Tryz.prog 2=true:=aj
@[go_sem] theorem OM:aI Tryz.prog 3=true:=aj
@[go_sem] theorem ON:aI Tryz.prog 4=true:=aj
@[go_sem] theorem OO:aI Tryz.prog 5=true:=aj
@[go_sem] theorem OP:aI Tryz.prog 6=true:=aj
@[go_sem] theorem OQ:aI Tryz.prog 7=true:=aj
@[go_sem] theorem OR:aI Tryz.prog 8=true:=aj
@[go_sem] theorem OS:aI Tryz.prog 9=true:=aj
@[go_sem] theorem OT:aI Tryz.prog 10=true:=aj
@[go_sem] theorem OU:aI Tryz.prog 11=true:=aj
@[go_sem] theorem OV:aI Tryz.prog 12=true:=aj
@[go_sem] theorem OW:aI Tryz.prog 13=true:=aj
@[go_sem] theorem OX:aI Tryz.prog 14=true:=aj
@[go_sem] theorem OY:aI Tryz.prog 15=true:=aj
@[go_sem] theorem OZ:aI Tryz.prog 16=true:=aj
@[go_sem] theorem O0:aI Tryz.prog 17=true:=aj
@[go_sem] theorem O1:aI Tryz.prog 18=true:=aj
@[go_sem] theorem O2:aI Tryz.prog 19=true:=aj
@[go_sem] theorem O3:aI Tryz.prog 20=true:=aj
@[go_sem] theorem O4:aI Tryz.prog 21=true:=aj
@[go_sem] theorem O5:aI Tryz.prog 22=true:=aj
@[go_sem] theorem O6:aI Tryz.prog 23=true:=aj
@[go_sem] theorem O7:aI Tryz.prog 24=true:=aj
@[go_sem] theorem O8:aI Tryz.prog 25=true:=aj
@[go_sem] theorem O9:aI Tryz.prog 26=true:=aj
@[go_sem] theorem Pa:aI Tryz.prog 27=true:=aj
@[go_sem] theorem Pb:aI Tryz.prog 28=true:=aj
@[go_sem] theorem Pd:aI Tryz.prog 29=true:=aj
@[go_sem] theorem Pe:aI Tryz.prog 30=true:=aj
@[go_sem] theorem Pf:aI Tryz.prog 31=true:=aj
@[go_sem] theorem Pg:aI Tryz.prog 32=true:=aj
@[go_sem] theorem Pj:aI Tryz.prog 33=true:=aj
@[go_sem] theorem Pk:aI Tryz.prog 34=true:=aj
@[go_sem] theorem Pm:aI Tryz.prog 35=true:=aj
@[go_sem] theorem Pn:aI Tryz.prog 36=true:=aj
@[go_sem] theorem Po:aI Tryz.prog 37=true:=aj
@[go_sem] theorem Pp:aI Tryz.prog 38=true:=aj
@[go_sem] theorem Pq:aI Tryz.prog 39=true:=aj
@[go_sem] theorem Pt:aI Tryz.prog 40=true:=aj
@[go_sem] theorem Pu:aI Tryz.prog 41=true:=aj
@[go_sem] theorem Pv:aI Tryz.prog 42=true:=aj
@[go_sem] theorem Pw:aI Tryz.prog 43=true:=aj
@[go_sem] theorem Px:aI Tryz.prog 44=true:=aj
@[go_sem] theorem Py:aI Tryz.prog 45=true:=aj
@[go_sem] theorem Pz:aI Tryz.prog 46=true:=aj
@[go_sem] theorem PA:aI Tryz.prog 47=true:=aj
@[go_sem] theorem PB:aI Tryz.prog 48=true:=aj
@[go_sem] theorem PC:aI Tryz.prog 49=true:=aj
@[go_sem] theorem PD:aI Tryz.prog 50=true:=aj
@[go_sem] theorem PE:aI Tryz.prog 51=true:=aj
@[go_sem] theorem PF:aI Tryz.prog 52=true:=aj
@[go_sem] theorem PI:aI Tryz.prog 53=true:=aj
@[go_sem] theorem PJ:aI Tryz.prog 54=true:=aj
@[go_sem] theorem PK:aI Tryz.prog 55=true:=aj
@[go_sem] theorem PL:aI Tryz.prog 56=true:=aj
@[go_sem] theorem PM:aI Tryz.prog 57=true:=aj
@[go_sem] theorem PN:aI Tryz.prog 58=true:=aj
@[go_sem] theorem PO:aI Tryz.prog 59=true:=aj
@[go_sem] theorem PR:aI Tryz.prog 60=true:=aj
@[go_sem] theorem PS:aI Tryz.prog 61=true:=aj
@[go_sem] theorem PU:aI Tryz.prog 62=true:=aj
@[go_sem] theorem PV:aI Tryz.prog 63=true:=aj
@[go_sem] theorem PW:aI Tryz.prog 64=true:=aj
@[go_sem] theorem PX:aI Tryz.prog 65=true:=aj
@[go_sem] theorem PY:aI Tryz.prog 66=true:=aj
@[go_sem] theorem PZ:aI Tryz.prog 67=true:=aj
@[go_sem] theorem P3:aI Tryz.prog 68=true:=aj
@[go_sem] theorem P4:aI Tryz.prog 69=true:=aj
@[go_sem] theorem P5:aI Tryz.prog 70=true:=aj
@[go_sem] theorem P6:aI Tryz.prog 71=true:=aj
@[go_sem] theorem P7:aI Tryz.prog 72=true:=aj
@[go_sem] theorem P8:aI Tryz.prog 73=true:=aj
@[go_sem] theorem P9:aI Tryz.prog 74=true:=aj
@[go_sem] theorem Qa:aI Tryz.prog 75=true:=aj
@[go_sem] theorem Qb:aI Tryz.prog 76=true:=aj
@[go_sem] theorem Qc:aI Tryz.prog 77=true:=aj
@[go_sem] theorem Qd:aI Tryz.prog 78=true:=aj
@[go_sem] theorem Qe:aI Tryz.prog 79=true:=aj
@[go_sem] theorem Qf:aI Tryz.prog 80=true:=aj
@[go_sem] theorem Qg:aI Tryz.prog 81=true:=aj
@[go_sem] theorem Qh:aI Tryz.prog 82=true:=aj
@[go_sem] theorem Qi:aI Tryz.prog 83=true:=aj
@[go_sem] theorem Qj:aI Tryz.prog 84=true:=aj
@[go_sem] theorem Qk:aI Tryz.prog 85=true:=aj
@[go_sem] theorem Ql:aI Tryz.prog 86=true:=aj
@[go_sem] theorem Qm:aI Tryz.prog 87=true:=aj
@[go_sem] theorem Qo:aI Tryz.prog 88=true:=aj
@[go_sem] theorem Qp:aI Tryz.prog 89=true:=aj
@[go_sem] theorem Qq:aI Tryz.prog 90=true:=aj
@[go_sem] theorem Qr:aI Tryz.prog 91=true:=aj
@[go_sem] theorem Qs:aI Tryz.prog 92=true:=aj
@[go_sem] theorem Qt:aI Tryz.prog 93=true:=aj
@[go_sem] theorem Qu:aI Tryz.prog 94=true:=aj
@[go_sem] theorem Qv:aI Tryz.prog 95=true:=aj
@[go_sem] theorem Qw:aI Tryz.prog 96=true:=aj
@[go_sem] theorem Qx:aI Tryz.prog 97=true:=aj
@[go_sem] theorem Qy:aI Tryz.prog 98=true:=aj
@[go_sem] theorem Qz:aI Tryz.prog 99=true:=aj
@[go_sem] theorem QA:aI Tryz.prog 100=true:=aj
@[go_sem] theorem QB:aI Tryz.prog 101=true:=aj
@[go_sem] theorem QC:aI Tryz.prog 102=true:=aj
@[go_sem] theorem QD:aI Tryz.prog 103=true:=aj
@[go_sem] theorem QE:aI Tryz.prog 104=true:=aj
@[go_sem] theorem QF:aI Tryz.prog 105=true:=aj
@[go_sem] theorem QG:aI Tryz.prog 106=true:=aj
@[go_sem] theorem QH:aI Tryz.prog 107=true:=aj
@[go_sem] theorem QI:aI Tryz.prog 108=true:=aj
@[go_sem] theorem QJ:aI Tryz.prog 109=true:=aj
@[go_sem] theorem QK:aI Tryz.prog 110=true:=aj
@[go_sem] theorem QL:aI Tryz.prog 111=true:=aj
@[go_sem] theorem QM:aI Tryz.prog 112=true:=aj
@[go_sem] theorem QN:aI Tryz.prog 113=true:=aj
@[go_sem] theorem QO:aI Tryz.prog 114=true:=aj
@[go_sem] theorem QS:aI Tryz.prog 115=true:=aj
@[go_sem] theorem QT:aI Tryz.prog 116=true:=aj
@[go_sem] theorem QU:aI Tryz.prog 117=true:=aj
@[go_sem] theorem QV:aI Tryz.prog 118=true:=aj
@[go_sem] theorem QW:aI Tryz.prog 119=true:=aj
@[go_sem] theorem QX:aI Tryz.prog 120=true:=aj
@[go_sem] theorem QY:aI Tryz.prog 121=true:=aj
@[go_sem] theorem QZ:aI Tryz.prog 122=true:=aj
@[go_sem] theorem Q0:aI Tryz.prog 123=true:=aj
@[go_sem] theorem Q1:aI Tryz.prog 124=true:=aj
@[go_sem] theorem Q2:aI Tryz.prog 125=true:=aj
@[go_sem] theorem Q3:aI Tryz.prog 126=true:=aj
@[go_sem] theorem Q4:aI Tryz.prog 127=true:=aj
@[go_sem] theorem Q5:aI Tryz.prog 128=true:=aj
@[go_sem] theorem Q6:aI Tryz.prog 129=true:=aj
@[go_sem] theorem Q7:aI Tryz.prog 130=true:=aj
@[go_sem] theorem Q8:aI Tryz.prog 131=true:=aj
@[go_sem] theorem Q9:aI Tryz.prog 132=true:=aj
@[go_sem] theorem Ra:aI Tryz.prog 133=true:=aj
@[go_sem] theorem Rb:aI Tryz.prog 134=true:=aj
@[go_sem] theorem Rc:aI Tryz.prog 135=true:=aj
@[go_sem] theorem Re:aI Tryz.prog 136=true:=aj
@[go_sem] theorem Rf:aI Tryz.prog 137=true:=aj
@[go_sem] theorem Rg:aI Tryz.prog 138=true:=aj
@[go_sem] theorem Rh:aI Tryz.prog 139=true:=aj
@[go_sem] theorem Ri:aI Tryz.prog 140=true:=aj
@[go_sem] theorem Rj:aI Tryz.prog 141=true:=aj
@[go_sem] theorem Rl:aI Tryz.prog 142=true:=aj
@[go_sem] theorem Rm:aI Tryz.prog 143=true:=aj
@[go_sem] theorem Rn:aI Tryz.prog 144=true:=aj
@[go_sem] theorem Ro:aI Tryz.prog 145=true:=aj
@[go_sem] theorem Rp:aI Tryz.prog 146=true:=aj
@[go_sem] theorem As:aI Tryz.prog 147=true:=aj
@[go_sem] theorem Rq:aI Tryz.prog 148=true:=aj
@[go_sem] theorem Rr:aI Tryz.prog 149=true:=aj
@[go_sem] theorem Rs:aI Tryz.prog 150=true:=aj
@[go_sem] theorem Rt:aI Tryz.prog 151=true:=aj
@[go_sem] theorem FK:aI Tryz.prog 152=true:=aj
@[go_sem] theorem Ru:aI Tryz.prog 153=true:=aj
@[go_sem] theorem Rv:aI Tryz.prog 154=true:=aj
@[go_sem] theorem Rw:aI Tryz.prog 155=true:=aj
@[go_sem] theorem Rx:aI Tryz.prog 156=true:=aj
@[go_sem] theorem Ry:aI Tryz.prog 157=true:=aj
@[go_sem] theorem Rz:aI Tryz.prog 158=true:=aj
@[go_sem] theorem RA:aI Tryz.prog 159=true:=aj
@[go_sem] theorem RB:aI Tryz.prog 160=true:=aj
@[go_sem] theorem RD:aI Tryz.prog 161=true:=aj
@[go_sem] theorem RE:aI Tryz.prog 162=true:=aj
@[go_sem] theorem RF:aI Tryz.prog 163=true:=aj
@[go_sem] theorem RG:aI Tryz.prog 164=true:=aj
@[go_sem] theorem RH:aI Tryz.prog 165=true:=aj
@[go_sem] theorem RI:aI Tryz.prog 166=true:=aj
@[go_sem] theorem RJ:aI Tryz.prog 167=true:=aj
@[go_sem] theorem RL:aI Tryz.prog 168=true:=aj
@[go_sem] theorem RN:aI Tryz.prog 169=true:=aj
@[go_sem] theorem RO:aI Tryz.prog 176=true:=aj
@[go_sem] theorem Au:aI Tryz.prog 177=true:=aj
@[go_sem] theorem vM:aI Tryz.prog 179=true:=aj
@[go_sem] theorem FL:aI Tryz.prog 180=true:=aj
@[go_sem] theorem FM:aI Tryz.prog 185=true:=aj
@[go_sem] theorem RP:aI Tryz.prog 188=true:=aj
@[go_sem] theorem RQ:aI Tryz.prog 189=true:=aj
@[go_sem] theorem RR:aI Tryz.prog 190=true:=aj
@[go_sem] theorem RS:aI Tryz.prog 191=true:=aj
@[go_sem] theorem RU:aI Tryz.prog 192=true:=aj
@[go_sem] theorem RV:aI Tryz.prog 193=true:=aj
@[go_sem] theorem RX:aI Tryz.prog 194=true:=aj
@[go_sem] theorem RY:aI Tryz.prog 195=true:=aj
@[go_sem] theorem RZ:aI Tryz.prog 196=true:=aj
@[go_sem] theorem R1:aI Tryz.prog 197=true:=aj
@[go_sem] theorem R2:aI Tryz.prog 198=true:=aj
@[go_sem] theorem R3:aI Tryz.prog 199=true:=aj
@[go_sem] theorem R4:aI Tryz.prog 200=true:=aj
@[go_sem] theorem R5:aI Tryz.prog 201=true:=aj
@[go_sem] theorem R6:aI Tryz.prog 202=true:=aj
@[go_sem] theorem R7:aI Tryz.prog 203=true:=aj
@[go_sem] theorem R8:aI Tryz.prog 204=true:=aj
@[go_sem] theorem R9:aI Tryz.prog 205=true:=aj
@[go_sem] theorem Sa:aI Tryz.prog 206=true:=aj
@[go_sem] theorem Sb:aI Tryz.prog 207=true:=aj
@[go_sem] theorem Sd:aI Tryz.prog 208=true:=aj
@[go_sem] theorem Se:aI Tryz.prog 209=true:=aj
@[go_sem] theorem Sf:aI Tryz.prog 215=true:=aj
@[go_sem] theorem Si:aI Tryz.prog 216=true:=aj
@[go_sem] theorem Sj:aI Tryz.prog 217=true:=aj
@[go_sem] theorem Sk:aI Tryz.prog 218=true:=aj
@[go_sem] theorem Sl:aI Tryz.prog 219=true:=aj
@[go_sem] theorem Sm:aI Tryz.prog 220=true:=aj
@[go_sem] theorem Sn:aI Tryz.prog 221=true:=aj
@[go_sem] theorem So:aI Tryz.prog 222=true:=aj
@[go_sem] theorem Sq:aI Tryz.prog 223=true:=aj
@[go_sem] theorem Sr:aI Tryz.prog 224=true:=aj
@[go_sem] theorem Ss:aI Tryz.prog 225=true:=aj
@[go_sem] theorem Su:aI Tryz.prog 226=true:=aj
@[go_sem] theorem Sv:aI Tryz.prog 243=true:=aj
@[go_sem] theorem Sw:aI Tryz.prog 244=true:=aj
@[go_sem] theorem Sx:aI Tryz.prog 245=true:=aj
@[go_sem] theorem Sy:aI Tryz.prog 246=true:=aj
@[go_sem] theorem Sz:aI Tryz.prog 247=true:=aj
@[go_sem] theorem SA:aI Tryz.prog 248=true:=aj
@[go_sem] theorem SB:aI Tryz.prog 249=true:=aj
@[go_sem] theorem SC:aI Tryz.prog 250=true:=aj
@[go_sem] theorem SD:aI Tryz.prog 254=true:=aj
end Go.Proofs.YtlchekhkopimhaaGreatDoor
end
section
namespace Go.Sep
open Go Go.Conc
def cD {K V:Type}(fk:K->Value)(fv:V->Value):Nat->List (K×V)->List MapEntry
 |_,[]=>[]
 |i,e::l=>{key:=fk e.1,val:=fv e.2,born:=i}::cD fk fv (i+1) l
def dB {K V:Type}(fk:K->Value)(fv:V->Value)(l:List (K×V)):Obj:=.map (cD fk fv 0 l).toArray l.length
def cI {K V:Type}[BEq K]:List (K×V)->K->Option V
 |[],_=>none
 |e::l,k=>if k==e.1 then some e.2 else cI l k
def cF {K V:Type}[BEq K]:List (K×V)->K->V->List (K×V)
 |[],k,v=>[(k,v)]
 |e::l,k,v=>if k==e.1 then (k,v)::l else e::cF l k v
structure nZ {K:Type}[BEq K](kt:TypeDesc)(fk:K->Value):Prop where
 now:∀a b,Instr.sameNow kt (fk a) (fk b)=some (a==b)
 bits:∀a b,(a==b)=true->Instr.sameBits 10000 (fk b) (fk a)=true/\fk b=fk a
 plain:∀(P:Program) (t:TypeId) (e:Bool) (k:K) (Q:Unit->af->Prop) (F:af),P.underlying t=some kt->Q () F->bw P (Instr.checkKey e 10000 t (fk k)) Q F
theorem Av (a b:List UInt8):((⟨⟨a⟩⟩:ByteArray)==⟨⟨b⟩⟩)=(a==b):=by
 show ((⟨a⟩:Array UInt8)==⟨b⟩)=(a==b);simp
theorem su:nZ (K:=List UInt8) .string (fun k=>.string ⟨⟨k⟩⟩) where
 now a b:=by
  simp only[Instr.sameNow,Av]
 bits a b h:=by
  obtain rfl:a=b:=by simpa using h
  exact ⟨by simp[Instr.sameBits,Av],rfl⟩
 plain P t e k Q F hu h:=by
  unfold Instr.checkKey
  simp only[bA,di,hu]
  exact h
theorem Aw:nZ (K:=Int) (.int .i64) (fun k=>.int .i64 k) where
 now a b:=by simp[Instr.sameNow]
 bits a b h:=by
  obtain rfl:a=b:=by simpa using h
  exact ⟨by simp[Instr.sameBits],rfl⟩
 plain P t e k Q F hu h:=by
  unfold Instr.checkKey
  simp only[bA,di,hu]
  exact h
section
variable {K V:Type}[BEq K]{fk:K->Value}{fv:V->Value}{kd:TypeDesc}{P:Program}
theorem Ax (a:nZ kd fk)(k:K):∀(l:List (K×V)) (i j:Nat),∃r,Instr.findNow kd (fk k) (cD fk fv i l) j=some r/\r.map (·.2)=(cI l k).map fv/\(∀n v,r=some (n,v)->j<=n/\n<j+l.length)
 |[],i,j=>⟨none,rfl,rfl,fun n v h=>by cases h⟩
 |e::l,i,j=>by
  obtain ⟨r,b,c,d⟩:=Ax a k l (i+1) (j+1)
  simp only[cD,Instr.findNow,a.now,cI]
  cases h:k==e.1 with
  |true=>exact ⟨some (j,fv e.2),an,an,fun n v h=>by cases h;simp⟩
  |false=>exact ⟨r,by simpa using b,by simpa using c,fun n v h=>by have:=d n v h;simp only[List.length_cons];omega⟩
theorem vN {t kt c:TypeId}{b:Nat}{l:List (K×V)}{k:K}{z:V}{own:List (Nat×Obj)}{ro:Addr->Option Value}{R:Value->af->Prop}{ok:Bool}(d:nZ kd fk)(hu:P.underlying t=some (.map kt c))(e:P.underlying kt=some kd)(f:zeroOf P c=some (fv z))(g:lk own b=some (dB fk fv l))
  (h:R (if ok then .tuple #[fv ((cI l k).getD z),.bool (cI l k).isSome] else fv ((cI l k).getD z)) ⟨ro,own⟩):cR P (Instr.lookup t (.map (some b)) (fk k) ok) R ⟨ro,own⟩:=by
 unfold cR
 have ho:af.dm ⟨ro,own⟩ b=some (dB fk fv l):=by
  unfold af.dm
  rw[g]
  rfl
 simp only[Instr.lookup,bA,di,hu,iL,bG]
 refine ⟨_,ho,?_⟩
 simp only[dB,bA,bG]
 refine d.plain P kt _ k _ _ e ?_
 obtain ⟨r,i,a,-⟩:=Ax (fv:=fv) d k l 0 0
 simp only[Instr.findKey,bA,di,e,i,bG]
 cases hg:cI l k with
 |none=>
  rw[hg] at h a
  cases r with
  |none=>
   simp only[bA,nt,f,bG]
   simpa using h
  |some x=>simp at a
 |some v=>
  rw[hg] at h a
  cases r with
  |none=>simp at a
  |some x=>
   obtain ⟨n,y⟩:=x
   simp only[Option.map_some,Option.some.injEq] at a
   subst a
   simp only[bA,bG,Option.getD_some,Option.isSome_some] at h ⊢
   exact h
theorem vO (fk:K->Value)(fv:V->Value)(e:K×V):∀(l:List (K×V)) (i:Nat),cD fk fv i (l++[e])=cD fk fv i l++[{key:=fk e.1,val:=fv e.2,born:=i+l.length}]
 |[],i=>by simp[cD]
 |x::l,i=>by
  have:=vO fk fv e l (i+1)
  simp only[List.cons_append,cD,this,List.length_cons]
  rw[show i+1+l.length=i+(l.length+1) by omega]
theorem Ay (a:nZ kd fk)(k:K)(v:V):∀(l:List (K×V)) (i j:Nat),∃r,Instr.findNow kd (fk k) (cD fk fv i l) j=some r/\
  ((r=none/\cF l k v=l++[(k,v)])\/(∃n y old,r=some (j+n,y)/\((cD fk fv i l)[n]?).map (·.key)=some (fk old)/\(k==old)=true/\cD fk fv i (cF l k v)=(cD fk fv i l).modify n (fun e=>{e with key:=fk k,val:=fv v})/\(cF l k v).length=l.length))
 |[],i,j=>⟨none,rfl,.inl ⟨rfl,rfl⟩⟩
 |e::l,i,j=>by
  obtain ⟨r,b,c⟩:=Ay a k v l (i+1) (j+1)
  simp only[cD,Instr.findNow,a.now,cF]
  cases h:k==e.1 with
  |true=>exact ⟨some (j,fv e.2),an,.inr ⟨0,fv e.2,e.1,an,an,h,by simp[cD],an⟩⟩
  |false=>
   refine ⟨r,by simpa using b,?_⟩
   rcases c with ⟨e1,e2⟩|⟨n,y,old,e1,e2,e3,d,f⟩
   .exact .inl ⟨e1,by simp[e2]⟩
   .exact .inr ⟨n+1,y,old,by rw[e1];congr 2;omega,by simpa using e2,e3,by simp[cD,d],by simp[f]⟩
theorem vQ {t kt f:TypeId}{b:Nat}{l:List (K×V)}{k:K}{v:V}{own:List (Nat×Obj)}{ro:Addr->Option Value}{R:Value->af->Prop}(a:nZ kd fk)(hu:P.underlying t=some (.map kt f))(c:P.underlying kt=some kd)(g:lk own b=some (dB fk fv l))
  (h:R undef ⟨ro,fK own b (dB fk fv (cF l k v))⟩):cR P (Instr.mapUpdate t (.map (some b)) (fk k) (fv v)>>= fun _=>pure undef) R ⟨ro,own⟩:=by
 unfold cR
 have ho:af.dm ⟨ro,own⟩ b=some (dB fk fv l):=by
  unfold af.dm
  rw[g]
  rfl
 have d:(af.dm ⟨ro,own⟩ b).isSome=true:=by rw[ho];rfl
 simp only[Instr.mapUpdate,bA,di,hu,iL]
 refine ⟨_,ho,?_⟩
 simp only[dB,bA]
 refine a.plain P kt _ k _ _ c ?_
 obtain ⟨r,i,j⟩:=Ay (fv:=fv) a k v l 0 0
 simp only[Instr.findKey,bA,di,c,i,bG]
 rcases j with ⟨rfl,e2⟩|⟨n,y,old,rfl,e2,e3,m,o⟩
 .simp only[jG,bG]
  refine ⟨rfl,d,?_⟩
  have e:dB fk fv (cF l k v)= .map ((cD fk fv 0 l).toArray.push {key:=fk k,val:=fv v,born:=l.length}) (l.length+1):=by
   simp only[dB,e2,vO,List.length_append,List.length_singleton]
   simp
  rw[e] at h
  exact h
 .obtain ⟨p,b2⟩:=a.bits k old e3
  have q:(((cD fk fv 0 l).toArray[0+n]?).map (·.key)).getD (fk k)=fk old:=by
   simp only[Nat.zero_add,List.getElem?_toArray,e2,Option.getD_some]
  simp only[bA,q]
  unfold Instr.keyThatStays
  rw[dJ,if_pos p]
  simp only[bG,jG]
  refine ⟨rfl,d,?_⟩
  have e:dB fk fv (cF l k v)= .map ((cD fk fv 0 l).toArray.modify (0+n) fun e=>{e with key:=fk k,val:=fv v}) l.length:=by
   simp only[dB,m,o,Nat.zero_add]
   congr 1
   rw[<-Array.toList_inj]
   simp
  rw[e] at h
  exact h
theorem sw {K V:Type}(fk:K->Value)(fv:V->Value){t:TypeId}{P:Program}{R:Value->af->Prop}{F:af}(h:∀b,er F b->R (.map (some b)) (F.push b (dB fk fv ([]:List (K×V))))):cR P (Instr.makeMap t none) R F:=Fv h
end
def kR {T:Type}(r:cm T)(ro:Addr->Option Value):List T->List (List Value)->Prop
 |[],[]=>True
 |x::xs,c::cs=>r.rel ro x c/\kR r ro xs cs
 |_,_=>False
theorem kR.get {T:Type}{r:cm T}{ro:Addr->Option Value}:∀{xs:List T} {a:List (List Value)},kR r ro xs a->∀(i:Nat) (x:T),xs[i]?=some x->∃c,a[i]?=some c/\r.rel ro x c
 |[],[],_,i,x,h=>by simp at h
 |[],_::_,h,_,_,_=>h.elim
 |_::_,[],h,_,_,_=>h.elim
 |y::xs,c::cs,h,i,x,hi=>by
  cases i with
  |zero=>simp at hi;subst hi;exact ⟨c,rfl,h.1⟩
  |succ i=>simpa using kR.get h.2 i x (by simpa using hi)
theorem kR.len {T:Type}{r:cm T}{ro:Addr->Option Value}:∀{xs:List T} {b:List (List Value)},kR r ro xs b->∀c∈b,c.length=r.n
 |[],[],_,c,h=>by cases h
 |[],_::_,h,_,_=>h.elim
 |_::_,[],h,_,_=>h.elim
 |y::xs,d::cs,h,c,a=>by
  rcases List.mem_cons.1 a with rfl|a
  .exact r.len h.1
  .exact kR.len h.2 c a
theorem aH.rows {T:Type}{r:cm T}{ro:Addr->Option Value}{b:Nat}{cs:Array Value}{e:TypeId}(xs:List T)(a:List (List Value))(h:kR r ro xs a)(d:∀off sp,ro ⟨b,off,sp⟩=none)(f:cs.toList=a.flatten)(hlen:xs.length<=1000000000000000):
  aH r (b9 ro b (.cells cs e)) (.slice (some ⟨b,0,none⟩) xs.length xs.length) xs:=by
 refine ⟨some ⟨b,0,none⟩,xs.length,rfl,Nat.le_refl _,hlen,fun i x hi=>?_⟩
 obtain ⟨c,g,k⟩:=h.get i x hi
 refine ⟨_,c,rfl,r.mono (gQ _ _ _) k,fun j v hv=>?_⟩
 have:=nL a i c h.len g j v hv
 rw[jH,jH,Nat.zero_add,eY d]
 rw[<-f] at this
 simpa [cellOf] using this
end Go.Sep
end
section
namespace Go.Proofs.YtlchekhkopimhaaGreatDoor
open Go Go.Sep Go.Proofs
set_option maxRecDepth 100000
attribute [go_sem] aH.nil
theorem iP:rI.n=1:=rfl
theorem ji:rB.n=1:=rfl
theorem FN {T:Type}(r:cm T):(rL r).n=1:=rfl
attribute [go_sem] iP ji FN
structure bX where
 low:Int
 high:Int
 deriving DecidableEq
def bX.v (x:bX):Value:=.agg #[.int .i64 x.low,.int .i64 x.high]
def bX.cells (x:bX):List Value:=[.int .i64 x.low,.int .i64 x.high]
def FO:cm bX:=lV 2 bX.cells (fun _=>rfl) (fun _ v hv=>by simp only[bX.cells,List.mem_cons,List.not_mem_nil,or_false] at hv;rcases hv with rfl|rfl<;>rfl)
theorem FP:FO.n=2:=rfl
attribute [go_sem] bX.v bX.cells FP
structure bE where
 bR:(List UInt8)
 e6:Int
 row:Int
 deriving DecidableEq
def bE.v (x:bE):Value:=.agg #[.string ⟨⟨x.bR⟩⟩,.int .i64 x.e6,.int .i64 x.row]
def bE.cells (x:bE):List Value:=[.string ⟨⟨x.bR⟩⟩,.int .i64 x.e6,.int .i64 x.row]
def eo:cm bE:=lV 3 bE.cells (fun _=>rfl) (fun _ v hv=>by simp only[bE.cells,List.mem_cons,List.not_mem_nil,or_false] at hv;rcases hv with rfl|rfl|rfl<;>rfl)
theorem FQ:eo.n=3:=rfl
attribute [go_sem] bE.v bE.cells FQ
structure aS where
 name:(List UInt8)
 from_:bX
 wide:Int
 aD:bX
 marks:(List bE)
 deriving DecidableEq
def aS.rel (ro:Addr->Option Value)(x:aS)(cs:List Value):Prop:=∃a,cs=[.string ⟨⟨x.name⟩⟩,.int .i64 x.from_.low,.int .i64 x.from_.high,.int .i64 x.wide,.int .i64 x.aD.low,.int .i64 x.aD.high,a]/\aH eo ro a x.marks
theorem aS.l7 {ro:Addr->Option Value}{x:aS}{cs:List Value}(h:aS.rel ro x cs):∀v∈cs,dP v=true:=by
 obtain ⟨a,rfl,⟨_,_,rfl,_⟩⟩:=h;intro v hv;simp only[List.mem_cons,List.not_mem_nil,or_false] at hv;rcases hv with rfl|rfl|rfl|rfl|rfl|rfl|rfl<;>rfl
def bK:cm aS:=⟨7,aS.rel,fun b ⟨a,e,c⟩=>⟨a,e,c.mono b⟩,fun ⟨a,e,_⟩=>by rw[e];rfl,aS.l7⟩
theorem FR:bK.n=7:=rfl
attribute [go_sem] FR
structure ax where
 steps:Int
 aR:Int
 ak:(List aS)
 deriving DecidableEq
def ax.rel (ro:Addr->Option Value)(x:ax)(cs:List Value):Prop:=∃s2,cs=[.int .i64 x.steps,.int .i64 x.aR,s2]/\aH bK ro s2 x.ak
theorem ax.l7 {ro:Addr->Option Value}{x:ax}{cs:List Value}(h:ax.rel ro x cs):∀v∈cs,dP v=true:=by
 obtain ⟨s2,rfl,⟨_,_,rfl,_⟩⟩:=h;intro v hv;simp only[List.mem_cons,List.not_mem_nil,or_false] at hv;rcases hv with rfl|rfl|rfl<;>rfl
def FT:cm ax:=⟨3,ax.rel,fun a ⟨s2,e,b⟩=>⟨s2,e,b.mono a⟩,fun ⟨s2,e,_⟩=>by rw[e];rfl,ax.l7⟩
theorem FU:FT.n=3:=rfl
attribute [go_sem] FU
structure eJ where
 au:(List Int)
 av:(List Int)
 aR:(List Int)
 deriving DecidableEq
def eJ.rel (ro:Addr->Option Value)(x:eJ)(cs:List Value):Prop:=∃a s1 s2,cs=[a,s1,s2]/\aH rI ro a x.au/\aH rI ro s1 x.av/\aH rI ro s2 x.aR
theorem eJ.l7 {ro:Addr->Option Value}{x:eJ}{cs:List Value}(h:eJ.rel ro x cs):∀v∈cs,dP v=true:=by
 obtain ⟨a,s1,s2,rfl,⟨_,_,rfl,_⟩,⟨_,_,rfl,_⟩,⟨_,_,rfl,_⟩⟩:=h;intro v hv;simp only[List.mem_cons,List.not_mem_nil,or_false] at hv;rcases hv with rfl|rfl|rfl<;>rfl
def FV:cm eJ:=⟨3,eJ.rel,fun a ⟨b,s1,s2,e,c,d,f⟩=>⟨b,s1,s2,e,c.mono a,d.mono a,f.mono a⟩,fun ⟨b,s1,s2,e,_⟩=>by rw[e];rfl,eJ.l7⟩
theorem FW:FV.n=3:=rfl
attribute [go_sem] FW
structure aP where
 step:Int
 cL:Int
 deriving DecidableEq
def aP.v (x:aP):Value:=.agg #[.int .i64 x.step,.int .i64 x.cL]
def aP.cells (x:aP):List Value:=[.int .i64 x.step,.int .i64 x.cL]
def eP:cm aP:=lV 2 aP.cells (fun _=>rfl) (fun _ v hv=>by simp only[aP.cells,List.mem_cons,List.not_mem_nil,or_false] at hv;rcases hv with rfl|rfl<;>rfl)
theorem FX:eP.n=2:=rfl
attribute [go_sem] aP.v aP.cells FX
structure aZ where
 e0:Int
 e1:Int
 e2:Int
 e3:Int
 deriving DecidableEq
def aZ.cells (x:aZ):List Value:=[.int .i64 x.e0,.int .i64 x.e1,.int .i64 x.e2,.int .i64 x.e3]
def FY:cm aZ:=lV 4 aZ.cells (fun _=>rfl) (fun _ v hv=>by simp only[aZ.cells,List.mem_cons,List.not_mem_nil,or_false] at hv;rcases hv with rfl|rfl|rfl|rfl<;>rfl)
theorem FZ:FY.n=4:=rfl
attribute [go_sem] aZ.cells FZ
def aZ.get (x:aZ)(i:Int):Option Int:=if i=0 then some x.e0 else if i=1 then some x.e1 else if i=2 then some x.e2 else if i=3 then some x.e3 else none
theorem aZ.get_some {x:aZ}{i:Int}{y:Int}(h:aZ.get x i=some y):0<=i/\i<((4:Nat):Int)/\([.int .i64 x.e0,.int .i64 x.e1,.int .i64 x.e2,.int .i64 x.e3]:List Value)[i.toNat]?=some (.int .i64 y):=by
 unfold aZ.get at h;by_cases a:i=0
 .subst a;simp at h;subst h;exact ⟨aa,aa,rfl⟩
 by_cases b:i=1
 .subst b;simp at h;subst h;exact ⟨aa,aa,rfl⟩
 by_cases c:i=2
 .subst c;simp at h;subst h;exact ⟨aa,aa,rfl⟩
 by_cases d:i=3
 .subst d;simp at h;subst h;exact ⟨aa,aa,rfl⟩
 simp[a,b,c,d] at h
theorem aZ.qm {x:aZ}{i:Int}{y:Int}(post:List Value)(h:aZ.get x i=some y):(([.int .i64 x.e0,.int .i64 x.e1,.int .i64 x.e2,.int .i64 x.e3]:List Value)++post)[i.toNat]?=some (.int .i64 y):=by
 obtain ⟨b,c,a⟩:=aZ.get_some h;rw[List.getElem?_append_left (by simp only[List.length_cons,List.length_nil];omega)];exact a
theorem aZ.sx {x:aZ}{i:Int}{y:Int}(pre post:List Value)(h:aZ.get x i=some y):(pre++(([.int .i64 x.e0,.int .i64 x.e1,.int .i64 x.e2,.int .i64 x.e3]:List Value)++post))[pre.length+i.toNat]?=some (.int .i64 y):=by
 rw[List.getElem?_append_right aa,Nat.add_sub_cancel_left];exact aZ.qm post h
structure aT where
 au:aZ
 av:aZ
 aR:Int
 deriving DecidableEq
def aT.v (x:aT):Value:=.agg #[.int .i64 x.au.e0,.int .i64 x.au.e1,.int .i64 x.au.e2,.int .i64 x.au.e3,.int .i64 x.av.e0,.int .i64 x.av.e1,.int .i64 x.av.e2,.int .i64 x.av.e3,.int .u64 x.aR]
def aT.cells (x:aT):List Value:=[.int .i64 x.au.e0,.int .i64 x.au.e1,.int .i64 x.au.e2,.int .i64 x.au.e3,.int .i64 x.av.e0,.int .i64 x.av.e1,.int .i64 x.av.e2,.int .i64 x.av.e3,.int .u64 x.aR]
def iQ:cm aT:=lV 9 aT.cells (fun _=>rfl) (fun _ v hv=>by simp only[aT.cells,List.mem_cons,List.not_mem_nil,or_false] at hv;rcases hv with rfl|rfl|rfl|rfl|rfl|rfl|rfl|rfl|rfl<;>rfl)
theorem F2:iQ.n=9:=rfl
attribute [go_sem] aT.v aT.cells F2
structure dD where
 round:ax
 bF:(List aT)
 deriving DecidableEq
def dD.rel (ro:Addr->Option Value)(x:dD)(cs:List Value):Prop:=∃s2 a,cs=[.int .i64 x.round.steps,.int .i64 x.round.aR,s2,a]/\aH bK ro s2 x.round.ak/\aH iQ ro a x.bF
theorem dD.l7 {ro:Addr->Option Value}{x:dD}{cs:List Value}(h:dD.rel ro x cs):∀v∈cs,dP v=true:=by
 obtain ⟨s2,a,rfl,⟨_,_,rfl,_⟩,⟨_,_,rfl,_⟩⟩:=h;intro v hv;simp only[List.mem_cons,List.not_mem_nil,or_false] at hv;rcases hv with rfl|rfl|rfl|rfl<;>rfl
def F3:cm dD:=⟨4,dD.rel,fun a ⟨s2,b,e,c,d⟩=>⟨s2,b,e,c.mono a,d.mono a⟩,fun ⟨s2,b,e,_⟩=>by rw[e];rfl,dD.l7⟩
theorem F4:F3.n=4:=rfl
attribute [go_sem] F4
def qn (l:(List (Int×Int))):Obj:=dB (fun k:Int=>.int .i64 k) (fun v:Int=>.int .i64 v) l
theorem F5 {R:Value->af->Prop}{F:af}(h:∀b,er F b->R (.map (some b)) (F.push b (qn []))):cR Tryz.prog (Instr.makeMap 128 none) R F:=sw (fun k:Int=>.int .i64 k) (fun v:Int=>.int .i64 v) h
theorem Az {own:List (Nat×Obj)}{ro:Addr->Option Value}{b:Nat}{l:(List (Int×Int))}{k:Int}{R:Value->af->Prop}(a:lk own b=some (qn l))(h:R (.int .i64 ((cI l k).getD 0)) ⟨ro,own⟩):cR Tryz.prog (Instr.lookup 128 (.map (some b)) (.int .i64 k) false) R ⟨ro,own⟩:=vN (fk:=(fun k:Int=>.int .i64 k)) (fv:=(fun v:Int=>.int .i64 v)) (k:=k) (z:=0) Aw (show Tryz.prog.underlying 128=some (.map 3 3) by kernel_rfl) aj sr a h
theorem F6 {own:List (Nat×Obj)}{ro:Addr->Option Value}{b:Nat}{l:(List (Int×Int))}{k:Int}{v:Int}{R:Value->af->Prop}(a:lk own b=some (qn l))(h:R undef ⟨ro,fK own b (qn (cF l k v))⟩):cR Tryz.prog (Instr.mapUpdate 128 (.map (some b)) (.int .i64 k) (.int .i64 v)>>= fun _=>pure undef) R ⟨ro,own⟩:=vQ (fk:=(fun k:Int=>.int .i64 k)) (fv:=(fun v:Int=>.int .i64 v)) (k:=k) (v:=v) Aw (show Tryz.prog.underlying 128=some (.map 3 3) by kernel_rfl) aj a h
def n4 (l:(List ((List UInt8)×aP))):Obj:=dB (fun k:(List UInt8)=>.string ⟨⟨k⟩⟩) (fun v:aP=>v.v) l
theorem F7 {R:Value->af->Prop}{F:af}(h:∀b,er F b->R (.map (some b)) (F.push b (n4 []))):cR Tryz.prog (Instr.makeMap 192 none) R F:=sw (fun k:(List UInt8)=>.string ⟨⟨k⟩⟩) (fun v:aP=>v.v) h
theorem F8 {own:List (Nat×Obj)}{ro:Addr->Option Value}{b:Nat}{l:(List ((List UInt8)×aP))}{k:(List UInt8)}{R:Value->af->Prop}(a:lk own b=some (n4 l))(h:R (.tuple #[((cI l k).getD (⟨0,0⟩:aP)).v,.bool (cI l k).isSome]) ⟨ro,own⟩):cR Tryz.prog (Instr.lookup 192 (.map (some b)) (.string ⟨⟨k⟩⟩) true) R ⟨ro,own⟩:=vN (fk:=(fun k:(List UInt8)=>.string ⟨⟨k⟩⟩)) (fv:=(fun v:aP=>v.v)) (k:=k) (z:=(⟨0,0⟩:aP)) su (show Tryz.prog.underlying 192=some (.map 9 91) by kernel_rfl) aj Ap a h
theorem AA {own:List (Nat×Obj)}{ro:Addr->Option Value}{b:Nat}{l:(List ((List UInt8)×aP))}{k:(List UInt8)}{v:aP}{R:Value->af->Prop}(a:lk own b=some (n4 l))(h:R undef ⟨ro,fK own b (n4 (cF l k v))⟩):cR Tryz.prog (Instr.mapUpdate 192 (.map (some b)) (.string ⟨⟨k⟩⟩) (v.v)>>= fun _=>pure undef) R ⟨ro,own⟩:=vQ (fk:=(fun k:(List UInt8)=>.string ⟨⟨k⟩⟩)) (fv:=(fun v:aP=>v.v)) (k:=k) (v:=v) su (show Tryz.prog.underlying 192=some (.map 9 91) by kernel_rfl) aj a h
def n5 (l:(List ((List UInt8)×Bool))):Obj:=dB (fun k:(List UInt8)=>.string ⟨⟨k⟩⟩) (fun v:Bool=>.bool v) l
theorem F9 {R:Value->af->Prop}{F:af}(h:∀b,er F b->R (.map (some b)) (F.push b (n5 []))):cR Tryz.prog (Instr.makeMap 263 none) R F:=sw (fun k:(List UInt8)=>.string ⟨⟨k⟩⟩) (fun v:Bool=>.bool v) h
theorem Ga {own:List (Nat×Obj)}{ro:Addr->Option Value}{b:Nat}{l:(List ((List UInt8)×Bool))}{k:(List UInt8)}{R:Value->af->Prop}(a:lk own b=some (n5 l))(h:R (.bool ((cI l k).getD false)) ⟨ro,own⟩):cR Tryz.prog (Instr.lookup 263 (.map (some b)) (.string ⟨⟨k⟩⟩) false) R ⟨ro,own⟩:=vN (fk:=(fun k:(List UInt8)=>.string ⟨⟨k⟩⟩)) (fv:=(fun v:Bool=>.bool v)) (k:=k) (z:=false) su (show Tryz.prog.underlying 263=some (.map 9 4) by kernel_rfl) aj Fz a h
theorem Gb {own:List (Nat×Obj)}{ro:Addr->Option Value}{b:Nat}{l:(List ((List UInt8)×Bool))}{k:(List UInt8)}{v:Bool}{R:Value->af->Prop}(a:lk own b=some (n5 l))(h:R undef ⟨ro,fK own b (n5 (cF l k v))⟩):cR Tryz.prog (Instr.mapUpdate 263 (.map (some b)) (.string ⟨⟨k⟩⟩) (.bool v)>>= fun _=>pure undef) R ⟨ro,own⟩:=vQ (fk:=(fun k:(List UInt8)=>.string ⟨⟨k⟩⟩)) (fv:=(fun v:Bool=>.bool v)) (k:=k) (v:=v) su (show Tryz.prog.underlying 263=some (.map 9 4) by kernel_rfl) aj a h
abbrev sl {T:Type}(d:Option Addr)(l:List T)(c:Nat):Value:=.slice d l.length c
abbrev de (x:aS)(a:Value):Obj:=.cells #[.string ⟨⟨x.name⟩⟩,.int .i64 x.from_.low,.int .i64 x.from_.high,.int .i64 x.wide,.int .i64 x.aD.low,.int .i64 x.aD.high,a] 31
abbrev jj (x:aS)(a:Value):Value:=.agg #[.string ⟨⟨x.name⟩⟩,.int .i64 x.from_.low,.int .i64 x.from_.high,.int .i64 x.wide,.int .i64 x.aD.low,.int .i64 x.aD.high,a]
abbrev bB (x:ax)(a:Value):Obj:=.cells #[.int .i64 x.steps,.int .i64 x.aR,a] 24
abbrev dM (x:ax)(a:Value):Obj:=.cells #[.int .i64 x.steps,.int .i64 x.aR,a] 101
abbrev cn (x:ax)(a:Value):Value:=.agg #[.int .i64 x.steps,.int .i64 x.aR,a]
abbrev gw (x:aT):Obj:=.cells #[.int .i64 x.au.e0,.int .i64 x.au.e1,.int .i64 x.au.e2,.int .i64 x.au.e3,.int .i64 x.av.e0,.int .i64 x.av.e1,.int .i64 x.av.e2,.int .i64 x.av.e3,.int .u64 x.aR] 114
abbrev jk (x:aT):Value:=.agg #[.int .i64 x.au.e0,.int .i64 x.au.e1,.int .i64 x.au.e2,.int .i64 x.au.e3,.int .i64 x.av.e0,.int .i64 x.av.e1,.int .i64 x.av.e2,.int .i64 x.av.e3,.int .u64 x.aR]
attribute [go_sem] sl de jj bB dM cn gw jk Fw Fx List.cons_append List.nil_append List.append_nil List.append_assoc
end Go.Proofs.YtlchekhkopimhaaGreatDoor
end
section
namespace Go.Proofs.YtlchekhkopimhaaGreatDoor
open Go Go.Sep Go.Proofs
set_option maxRecDepth 100000
set_option maxHeartbeats 4000000
def gh (u0:Int)(a:Int)(b:Int):Option Bool:=
 cond (decide (a<=u0)) (some (decide (u0<=b))) (some false)
theorem iz {ro:Addr->Option Value}(u0:Int)(a:Int)(b:Int){r:Bool}(h:gh u0 a b=some r):aE Tryz.prog 142 #[.int .i64 u0,.int .i64 a,.int .i64 b] ⟨ro,[]⟩ (fun v _=>v= .bool r):=by
 unfold gh at h;refine aE.go Tryz.func142 rfl Tryz.ntmps142 Tryz.results142 an fun main J hJ A d hd hs=>?_;have e:=hs 0;have k1:=hs 1;have f:=hs 2;clear hs;apply aB hJ _;apply aA hJ;revert h;refine cS (fun c h=>?_) fun c h=>?_
 .cases h;try apply ag _
  apply aO;simp only[*,go_sem]
 cases h;try apply ag _
 apply aO;simp only[*,go_sem]
def n6 (u0:bX)(a:Int)(b:Int)(c:Int):Option Bool:=
 cond (decide (a<=u0.low)) (cond (decide (u0.low<=u0.high)) (cond (decide (u0.high<=b)) (some (decide ((IntKind.i64.wrap (u0.high - u0.low))<c))) (some false)) (some false)) (some false)
theorem AB {ro:Addr->Option Value}(u0:bX)(a:Int)(b:Int)(c:Int){r:Bool}(h:n6 u0 a b c=some r):aE Tryz.prog 247 #[.agg #[.int .i64 u0.low,.int .i64 u0.high],.int .i64 a,.int .i64 b,.int .i64 c] ⟨ro,[]⟩ (fun v _=>v= .bool r):=by
 unfold n6 at h;refine aE.go Tryz.func247 rfl Tryz.ntmps247 Tryz.results247 an fun main J hJ A g hd hs=>?_;have i:=hs 0;have k1:=hs 1;have j:=hs 2;have k:=hs 3;clear hs;apply aB hJ _;refine bf fun l r1 n1=>?_;try simp only[aN] at n1
 try apply ag _
 apply aA hJ;revert h;refine cS (fun d h=>?_) fun d h=>?_
 .revert h;refine cS (fun e h=>?_) fun e h=>?_
  .revert h;refine cS (fun f h=>?_) fun f h=>?_
   .cases h;(try apply ag _);apply aO;simp only[*,go_sem]
   cases h;(try apply ag _);apply aO;simp only[*,go_sem]
  cases h;try apply ag _
  apply aO;simp only[*,go_sem]
 cases h;try apply ag _
 apply aO;simp only[*,go_sem]
def vR (b:Int)(i10:Nat)(a:Int)(st:(Int×Int)):Option (Fl (Int×Int) Int):=
 ai (gh a 0 (IntKind.i64.wrap (b - 1))) fun c=>cond (!c) (some (.rt 6)) (cond (decide (a<=st.2)) (some (.rt 7)) (some (.nx (st.1,a))))
def vS (u0:(List Int))(a:Int):Option Int:=
 ai (b7 (vR a) 0 u0 (0,(-1))) fun o=>az o (fun b=>some 0) (fun _ _=>none) (fun r=>some r)
theorem Gc {ro:Addr->Option Value}(u0:(List Int)){s1:Value}(k:aH rI ro s1 u0)(c:Int){r:Int}(h:vS u0 c=some r):aE Tryz.prog 164 #[s1,.int .i64 c] ⟨ro,[]⟩ (fun v _=>v= .int .i64 r):=by
 obtain ⟨d3,c4,rfl,K,q,-⟩:=id k;unfold vS at h;refine aE.go Tryz.func164 rfl Tryz.ntmps164 Tryz.results164 an fun main J hJ A s hd hs=>?_;have t:=hs 0;have k1:=hs 1;clear hs;apply aB hJ _;apply aB hJ _;refine ah hJ (aA hJ ?_);apply ag _;apply aU hJ;revert h;refine bS fun u a e=>?_;refine bP hJ (rg 10 16 [4,5,7]) (fun m f F'=>∃(i10:Nat) (d:Int) (g:Int),m=u0.length - i10/\i10<=u0.length/\b7 (vR c) i10 (u0.drop i10) (d,g)=some u/\F'=⟨ro,[]⟩/\slot f 10= .int .i64 (i10:Int)/\slot f 4= .int .i64 d/\slot f 5= .int .i64 g) u0.length ?_ ?_
 .refine ⟨0,0,(-1),(Nat.sub_zero _).symm,Nat.zero_le _,a,rfl,?_⟩;simp only[*,go_sem]
 rintro L M F' l ⟨i10,d,g,rfl,N,a,rfl,O,P,Q⟩;obtain ⟨w,y,z⟩:=l.pick [1,8,9] aL;simp only[*,go_sem] at w y z;clear l s hd t k1;apply aB hJ _;apply ah hJ;rcases Nat.lt_or_ge i10 u0.length with B|o
 .refine cO hJ ?_;apply aK hJ;obtain ⟨i,j⟩:∃x,u0[i10]?=some x:=⟨_,List.getElem?_eq_getElem B⟩
  rw[e4 j] at a;revert a;refine bS fun R h b=>?_;unfold vR at h;try dsimp only at h
  obtain ⟨S,C,D,E,p⟩:=k.el _ _ j;obtain rfl:C=[.int .i64 i]:=E;cases D;have F:=p 0 _ rfl;simp only[go_sem] at F;clear p j;refine ah hJ (aU hJ (ah hJ ?_));apply aM hJ _;refine ah hJ (aU hJ (ah hJ ?_));apply aG hJ;revert h;refine bS fun T G h=>?_;apply ag _;refine bh hJ _ (iz i 0 (IntKind.i64.wrap (c - 1)) G) (aJ ?_);try apply ag _
  revert h;refine aV hJ (fun H h=>?_) fun H h=>?_
  .cases h;apply aB hJ _;obtain rfl:=sI b;clear b;have h:=e;dsimp only[az] at h;cases h;apply aO;simp only[*,go_sem]
  apply aB hJ _;revert h;refine aV hJ (fun I h=>?_) fun I h=>?_
  .cases h;apply aB hJ _;obtain rfl:=sI b;clear b;have h:=e;dsimp only[az] at h;cases h;apply aO;simp only[*,go_sem]
  cases h;refine aK hJ (aG hJ ?_);apply ag _;have U:=dY (n:=i10) (by have:=q;omega);apply aM hJ _;refine ⟨u0.length - (i10+1),aa,_,Le.sub (List.Sublist.refl _),i10+1,d,i,rfl,aa,b,rfl,?_⟩;simp only[*,go_sem]
 have V:=Nat.not_lt.2 o;refine cE hJ ?_;rw[List.drop_eq_nil_of_le o] at a;obtain rfl:=sI a;clear a;have h:=e;dsimp only[az] at h;cases h;apply bJ;simp only[go_sem];apply aB hJ _;apply aO;simp only[*,go_sem]
def vT (st:(Int×Int)):Option (Fl (Int×Int) Int):=
 cond (decide (0<st.1)) (some (.nx ((fE st.1 (IntKind.u64.wrap (st.1 - 1))),(IntKind.i64.wrap (st.2+1))))) (some (.bk (st.1,st.2)))
def qo (u0:Int):Option Int:=
 ai (aQ (vT) fu (u0,0)) fun o=>az o (fun a=>some a.2) (fun _ _=>none) (fun r=>some r)
theorem AD {ro:Addr->Option Value}(u0:Int){r:Int}(h:qo u0=some r):aE Tryz.prog 132 #[.int .u64 u0] ⟨ro,[]⟩ (fun v _=>v= .int .i64 r):=by
 unfold qo at h;refine aE.go Tryz.func132 rfl Tryz.ntmps132 Tryz.results132 an fun main J hJ A f hd hs=>?_;have g:=hs 0;clear hs;apply aB hJ _;apply aB hJ _;refine ah hJ (aU hJ ?_);revert h;refine bS fun i a j=>?_;refine bP hJ (rg 3 9 [0]) (fun m d F'=>∃(v1:Int) (v2:Int),aQ (vT) m (v1,v2)=some i/\F'=⟨ro,[]⟩/\slot d 0= .int .u64 v1/\slot d 3= .int .i64 v2) fu ?_ ?_
 .refine ⟨u0,0,a,rfl,?_⟩;simp only[*,go_sem]
 rintro b p F' e ⟨v1,v2,a,rfl,q,s⟩;obtain ⟨k,l,n⟩:=e.pick [2] aL;simp only[*,go_sem] at k l n;clear e f hd g;obtain _|b:=b
 .exact absurd a (by simp only[aQ,reduceCtorEq,not_false_eq_true])
 revert a;refine bS fun t h c=>?_;unfold vT at h;try dsimp only at h
 refine ah hJ (aA hJ ?_);apply ag _;revert h;refine aV hJ (fun o h=>?_) fun o h=>?_
 .cases h;refine aK hJ (ah hJ ?_);refine aU hJ (aG hJ ?_);apply ag _;apply aM hJ _;try apply ag _
  refine ⟨b,Nat.lt_succ_self _,_,Le.sub (List.Sublist.refl _),(fE v1 (IntKind.u64.wrap (v1 - 1))),(IntKind.i64.wrap (v2+1)),c,rfl,?_⟩;simp only[*,go_sem]
 cases h;apply bJ;simp only[go_sem];obtain rfl:=sI c;clear c;have h:=j;dsimp only[az] at h;cases h;apply aB hJ _;apply aO;simp only[*,go_sem]
def vU (i9:Nat)(a:Int)(st:Int):Option (Fl Int Int):=
 ai (iO 1 a) fun b=>some (.nx (vq st b))
def vV (u0:(List Int)):Option Int:=
 ai (b7 (vU) 0 u0 0) fun o=>az o (fun a=>some a) (fun _ _=>none) (fun r=>some r)
theorem Gd {ro:Addr->Option Value}(u0:(List Int)){s1:Value}(d:aH rI ro s1 u0){r:Int}(h:vV u0=some r):aE Tryz.prog 165 #[s1] ⟨ro,[]⟩ (fun v _=>v= .int .u64 r):=by
 obtain ⟨d3,c4,rfl,H,k,-⟩:=id d;unfold vV at h;refine aE.go Tryz.func165 rfl Tryz.ntmps165 Tryz.results165 an fun main J hJ A l hd hs=>?_;have o:=hs 0;clear hs;apply aB hJ _;apply aB hJ _;refine ah hJ (aA hJ ?_);apply ag _;apply aU hJ;revert h;refine bS fun p a q=>?_;refine bP hJ (rg 8 9 [3,5]) (fun m e F'=>∃(i9:Nat) (b:Int),m=u0.length - i9/\i9<=u0.length/\b7 (vU) i9 (u0.drop i9) b=some p/\F'=⟨ro,[]⟩/\slot e 8= .int .i64 (i9:Int)/\slot e 3= .int .u64 b) u0.length ?_ ?_
 .refine ⟨0,0,(Nat.sub_zero _).symm,Nat.zero_le _,a,rfl,?_⟩;simp only[*,go_sem]
 rintro I K F' f ⟨i9,b,rfl,L,a,rfl,M,N⟩;obtain ⟨s,t,u⟩:=f.pick [2,6,7] aL;simp only[*,go_sem] at s t u;clear f l hd o;apply aB hJ _;apply ah hJ;rcases Nat.lt_or_ge i9 u0.length with w|g
 .refine cO hJ ?_;apply aK hJ;obtain ⟨y,c⟩:∃x,u0[i9]?=some x:=⟨_,List.getElem?_eq_getElem w⟩
  rw[e4 c] at a;revert a;refine bS fun O h z=>?_;unfold vU at h;try dsimp only at h
  obtain ⟨P,B,C,D,i⟩:=d.el _ _ c;obtain rfl:B=[.int .i64 y]:=D;cases C;have E:=i 0 _ rfl;simp only[go_sem] at E;clear i c;refine ah hJ (aU hJ (ah hJ ?_));apply aM hJ _;apply aG hJ;revert h;refine bS fun F j h=>?_;cases h;obtain ⟨Q,G⟩:=nG j;clear j;try simp only[go_sem] at G
  try apply ag _
  have R:=dY (n:=i9) (by have:=k;omega);apply aM hJ _;refine ⟨u0.length - (i9+1),aa,_,Le.sub (List.Sublist.refl _),i9+1,(vq b F),rfl,aa,z,rfl,?_⟩;simp only[*,go_sem]
 have S:=Nat.not_lt.2 g;refine cE hJ ?_;rw[List.drop_eq_nil_of_le g] at a;obtain rfl:=sI a;clear a;have h:=q;dsimp only[az] at h;cases h;apply bJ;simp only[go_sem];apply aB hJ _;apply aO;simp only[*,go_sem]
def sA (u0:Int):Option Bool:=
 cond (decide (97<=u0)) (some (decide (u0<=122))) (some false)
theorem Ge {ro:Addr->Option Value}(u0:Int){r:Bool}(h:sA u0=some r):aE Tryz.prog 250 #[.int .u8 u0] ⟨ro,[]⟩ (fun v _=>v= .bool r):=by
 unfold sA at h;refine aE.go Tryz.func250 rfl Tryz.ntmps250 Tryz.results250 an fun main J hJ A b hd hs=>?_;have c:=hs 0;clear hs;apply aB hJ _;apply aA hJ;revert h;refine cS (fun a h=>?_) fun a h=>?_
 .cases h;try apply ag _
  apply aO;simp only[*,go_sem]
 cases h;try apply ag _
 apply aO;simp only[*,go_sem]
def n7 (u0:(List UInt8))(st:(Bool×Int)):Option (Fl (Bool×Int) Bool):=
 cond (decide (st.2<((u0).length:Int))) (ai (nJ u0 st.2) fun x9=>ai (sA x9) fun a=>cond (!a) (cond ((st.2==0)) (some (.rt false)) (cond (decide (x9<48)) (some (.rt false)) (cond (decide (57<x9)) (some (.rt false)) (some (.nx (st.1,(IntKind.i64.wrap (st.2+1)))))))) (some (.nx (st.1,(IntKind.i64.wrap (st.2+1)))))) (some (.bk (st.1,st.2)))
def n8 (u0:(List UInt8)):Option Bool:=
 ai (aQ (n7 u0) fu (false,0)) fun o=>az o (fun b=>ai (gh ((u0).length:Int) 1 12) fun a=>some a) (fun _ _=>none) (fun r=>some r)
theorem AE {ro:Addr->Option Value}(u0:(List UInt8)){r:Bool}(h:n8 u0=some r):aE Tryz.prog 246 #[.string ⟨⟨u0⟩⟩] ⟨ro,[]⟩ (fun v _=>v= .bool r):=by
 unfold n8 at h;refine aE.go Tryz.func246 rfl Tryz.ntmps246 Tryz.results246 an fun main J hJ A i hd hs=>?_;have j:=hs 0;clear hs;apply aB hJ _;apply aB hJ _;refine ah hJ (aA hJ ?_);apply ag _;apply aU hJ;revert h;refine bS fun k b c=>?_;refine bP hJ (rg 8 23 [2,4,5]) (fun m e F'=>∃(v1:Bool) (v2:Int),aQ (n7 u0) m (v1,v2)=some k/\F'=⟨ro,[]⟩/\slot e 2= .bool v1/\slot e 8= .int .i64 v2) fu ?_ ?_
 .refine ⟨false,0,b,rfl,?_⟩;simp only[*,go_sem]
 rintro d z F' f ⟨v1,v2,b,rfl,B,C⟩;obtain ⟨l,n,o⟩:=f.pick [0,3,7] aL;simp only[*,go_sem] at l n o;clear f i hd j;obtain _|d:=d
 .exact absurd b (by simp only[aQ,reduceCtorEq,not_false_eq_true])
 revert b;refine bS fun D h a=>?_;unfold n7 at h;try dsimp only at h
 apply aB hJ _;apply ah hJ;revert h;refine aV hJ (fun p h=>?_) fun p h=>?_
 .refine aK hJ (ah hJ ?_);refine aU hJ (ah hJ ?_);apply aM hJ _;apply aA hJ;revert h;refine bS fun x9 g h=>?_;obtain ⟨E,F,q,G⟩:=zT g;try simp only[go_sem] at q
  clear g;try apply ag _
  apply aA hJ;revert h;refine bS fun H s h=>?_;apply ag _;refine bh hJ _ (Ge x9 s) (aJ ?_);revert h;refine cS (fun t h=>?_) fun t h=>?_
  .revert h;refine cS (fun u h=>?_) fun u h=>?_
   .cases h;(try apply ag _);refine cO hJ ?_;apply aB hJ _;obtain rfl:=sI a;clear a;have h:=c;dsimp only[az] at h;cases h;apply aO;simp only[*,go_sem]
   revert h;refine cS (fun w h=>?_) fun w h=>?_
   .cases h;(try apply ag _);refine cO hJ ?_;apply aB hJ _;obtain rfl:=sI a;clear a;have h:=c;dsimp only[az] at h;cases h;apply aO;simp only[*,go_sem]
   (try apply ag _);revert h;refine aV hJ (fun x h=>?_) fun x h=>?_
   .cases h;apply aB hJ _;obtain rfl:=sI a;clear a;have h:=c;dsimp only[az] at h;cases h;apply aO;simp only[*,go_sem]
   cases h;refine aK hJ (aG hJ ?_);apply ag _;(try apply ag _);refine ⟨d,Nat.lt_succ_self _,_,Le.sub (List.Sublist.refl _),v1,(IntKind.i64.wrap (v2+1)),a,rfl,?_⟩;simp only[*,go_sem]
  cases h;try apply ag _
  refine cE hJ ?_;refine aK hJ (aG hJ ?_);apply ag _;try apply ag _
  refine ⟨d,Nat.lt_succ_self _,_,Le.sub (List.Sublist.refl _),v1,(IntKind.i64.wrap (v2+1)),a,rfl,?_⟩;simp only[*,go_sem]
 cases h;apply bJ;simp only[go_sem];obtain rfl:=sI a;clear a;have h:=c;dsimp only[az] at h;apply aA hJ;revert h;refine bS fun I y h=>?_;cases h;apply ag _;refine bh hJ _ (iz ((u0).length:Int) 1 12 y) (aJ ?_);try apply ag _
 apply aO;simp only[*,go_sem]
def gV (u0:Int)(a:Int)(b:Int):Option Bool:=
 cond (decide (a<=u0)) (some (decide (u0<=b))) (some false)
theorem jl {ro:Addr->Option Value}(u0:Int)(a:Int)(b:Int){r:Bool}(h:gV u0 a b=some r):aE Tryz.prog 22 #[.int .i64 u0,.int .i64 a,.int .i64 b] ⟨ro,[]⟩ (fun v _=>v= .bool r):=by
 unfold gV at h;refine aE.go Tryz.func22 rfl Tryz.ntmps22 Tryz.results22 an fun main J hJ A d hd hs=>?_;have e:=hs 0;have k1:=hs 1;have f:=hs 2;clear hs;apply aB hJ _;apply aA hJ;revert h;refine cS (fun c h=>?_) fun c h=>?_
 .cases h;apply ag _;apply aO;simp only[*,go_sem]
 cases h;apply ag _;apply aO;simp only[*,go_sem]
def n9 (u0:(List UInt8))(st:(Bool×Int)):Option (Fl (Bool×Int) Bool):=
 cond (decide (st.2<((u0).length:Int))) (ai (nJ u0 st.2) fun x9=>ai (gV (IntKind.i64.wrap x9) 97 122) fun a=>cond (!a) (cond ((st.2==0)) (some (.rt false)) (ai (gV (IntKind.i64.wrap x9) 48 57) fun b=>cond (!b) (some (.rt false)) (some (.nx (st.1,(IntKind.i64.wrap (st.2+1))))))) (some (.nx (st.1,(IntKind.i64.wrap (st.2+1)))))) (some (.bk (st.1,st.2)))
def oa (u0:(List UInt8)):Option Bool:=
 ai (aQ (n9 u0) fu (false,0)) fun o=>az o (fun b=>ai (gV ((u0).length:Int) 1 12) fun a=>some a) (fun _ _=>none) (fun r=>some r)
theorem AF {ro:Addr->Option Value}(u0:(List UInt8)){r:Bool}(h:oa u0=some r):aE Tryz.prog 123 #[.string ⟨⟨u0⟩⟩] ⟨ro,[]⟩ (fun v _=>v= .bool r):=by
 unfold oa at h;refine aE.go Tryz.func123 rfl Tryz.ntmps123 Tryz.results123 an fun main J hJ A i hd hs=>?_;have j:=hs 0;clear hs;apply aB hJ _;refine ah hJ (aA hJ ?_);apply ag _;apply aU hJ;revert h;refine bS fun k b d=>?_;refine bP hJ (rg 2 26 []) (fun m e F'=>∃(v1:Bool) (v2:Int),aQ (n9 u0) m (v1,v2)=some k/\F'=⟨ro,[]⟩/\slot e 2= .bool v1/\slot e 3= .int .i64 v2) fu ?_ ?_
 .refine ⟨false,0,b,rfl,?_⟩;simp only[*,go_sem]
 rintro c z F' f ⟨v1,v2,b,rfl,B,C⟩;obtain ⟨l,n,o⟩:=f.pick [0] aL;simp only[*,go_sem] at l n o;clear f i hd j;obtain _|c:=c
 .exact absurd b (by simp only[aQ,reduceCtorEq,not_false_eq_true])
 revert b;refine bS fun D h a=>?_;unfold n9 at h;try dsimp only at h
 refine ah hJ (aA hJ ?_);apply ag _;revert h;refine aV hJ (fun p h=>?_) fun p h=>?_
 .refine aK hJ (ah hJ ?_);refine aU hJ (ah hJ ?_);apply aG hJ;revert h;refine bS fun x9 g h=>?_;obtain ⟨E,F,q,G⟩:=zT g;try simp only[go_sem] at q
  clear g;revert h;refine bS fun H s h=>?_;try apply ag _
  refine bh hJ _ (jl (IntKind.i64.wrap x9) 97 122 s) (aJ ?_);revert h;refine cS (fun t h=>?_) fun t h=>?_
  .revert h;refine cS (fun u h=>?_) fun u h=>?_
   .cases h;(try apply ag _);refine cO hJ ?_;apply aB hJ _;obtain rfl:=sI a;clear a;have h:=d;dsimp only[az] at h;cases h;apply aO;simp only[*,go_sem]
   revert h;refine bS fun I w h=>?_;(try apply ag _);refine bh hJ _ (jl (IntKind.i64.wrap x9) 48 57 w) (aJ ?_);(try apply ag _);revert h;refine aV hJ (fun x h=>?_) fun x h=>?_
   .cases h;apply aB hJ _;obtain rfl:=sI a;clear a;have h:=d;dsimp only[az] at h;cases h;apply aO;simp only[*,go_sem]
   cases h;refine aK hJ (aG hJ ?_);apply ag _;(try apply ag _);refine ⟨c,Nat.lt_succ_self _,_,Le.sub (List.Sublist.refl _),v1,(IntKind.i64.wrap (v2+1)),a,rfl,?_⟩;simp only[*,go_sem]
  cases h;try apply ag _
  refine cE hJ ?_;refine aK hJ (aG hJ ?_);apply ag _;try apply ag _
  refine ⟨c,Nat.lt_succ_self _,_,Le.sub (List.Sublist.refl _),v1,(IntKind.i64.wrap (v2+1)),a,rfl,?_⟩;simp only[*,go_sem]
 cases h;apply bJ;simp only[go_sem];obtain rfl:=sI a;clear a;have h:=d;dsimp only[az] at h;apply aA hJ;revert h;refine bS fun K y h=>?_;cases h;apply ag _;refine bh hJ _ (jl ((u0).length:Int) 1 12 y) (aJ ?_);try apply ag _
 apply aO;simp only[*,go_sem]
def ob (u0:bX)(a:Int)(b:Int):Option Bool:=
 cond (decide (a<=u0.low)) (cond (decide (u0.low<=u0.high)) (some (decide (u0.high<=b))) (some false)) (some false)
theorem AG {ro:Addr->Option Value}(u0:bX)(a:Int)(b:Int){r:Bool}(h:ob u0 a b=some r):aE Tryz.prog 124 #[.agg #[.int .i64 u0.low,.int .i64 u0.high],.int .i64 a,.int .i64 b] ⟨ro,[]⟩ (fun v _=>v= .bool r):=by
 unfold ob at h;refine aE.go Tryz.func124 rfl Tryz.ntmps124 Tryz.results124 an fun main J hJ A e hd hs=>?_;have f:=hs 0;have k1:=hs 1;have g:=hs 2;clear hs;apply aB hJ _;refine bf fun i r1 n1=>?_;try simp only[aN] at n1
 apply aA hJ;revert h;refine cS (fun c h=>?_) fun c h=>?_
 .revert h;refine cS (fun d h=>?_) fun d h=>?_
  .cases h;apply ag _;apply aO;simp only[*,go_sem]
  cases h;apply ag _;apply aO;simp only[*,go_sem]
 cases h;apply ag _;apply aO;simp only[*,go_sem]
def kS (u0:bX):Option Int:=
 some (IntKind.i64.wrap ((IntKind.i64.wrap (u0.high - u0.low))+1))
theorem sB {ro:Addr->Option Value}(u0:bX){r:Int}(h:kS u0=some r):aE Tryz.prog 125 #[.agg #[.int .i64 u0.low,.int .i64 u0.high]] ⟨ro,[]⟩ (fun v _=>v= .int .i64 r):=by
 unfold kS at h;cases h;refine aE.go Tryz.func125 rfl Tryz.ntmps125 Tryz.results125 an fun main J hJ A a hd hs=>?_;have b:=hs 0;clear hs;apply aB hJ _;refine bf fun c r1 n1=>?_;try simp only[aN] at n1
 try apply ag _
 apply aB hJ _;apply aO;simp only[*,go_sem]
def l8 (u0:Int):Option Bool:=
 some (u0 != u0)
theorem sC {ro:Addr->Option Value}(u0:Int){r:Bool}(h:l8 u0=some r):aE Tryz.prog 224 #[.int .i64 u0] ⟨ro,[]⟩ (fun v _=>v= .bool r):=by
 unfold l8 at h;cases h;refine aE.go Tryz.func224 rfl Tryz.ntmps224 Tryz.results224 an fun main J hJ A a hd hs=>?_;have b:=hs 0;clear hs;apply aB hJ _;apply aB hJ _;apply aO;simp only[*,go_sem]
def vW (u0:Int)(a:Int):Option Int:=
 ai (l8 u0) fun x1=>ai (l8 a) fun x3=>cond (x1) (cond (x3) (some 0) (some (-1))) (cond (x3) (some 1) (cond (decide (u0<a)) (some (-1)) (cond (decide (a<u0)) (some 1) (some 0))))
theorem Gf {ro:Addr->Option Value}(u0:Int)(a:Int){r:Int}(h:vW u0 a=some r):aE Tryz.prog 215 #[.int .i64 u0,.int .i64 a] ⟨ro,[]⟩ (fun v _=>v= .int .i64 r):=by
 unfold vW at h;refine aE.go Tryz.func215 rfl Tryz.ntmps215 Tryz.results215 an fun main J hJ A j hd hs=>?_;have k:=hs 0;have k1:=hs 1;clear hs;apply aB hJ _;apply aA hJ;revert h;refine bS fun x1 b h=>?_;apply ag _;refine bh hJ _ (sC u0 b) (aJ ?_);apply ag _;apply aA hJ;revert h;refine bS fun x3 c h=>?_;apply ag _;refine bh hJ _ (sC a c) (aJ ?_);apply ag _;refine ah hJ (aA hJ ?_);apply ag _;revert h;refine aV hJ (fun d h=>?_) fun d h=>?_
 .refine ah hJ (aA hJ ?_);apply ag _;revert h;refine aV hJ (fun e h=>?_) fun e h=>?_
  .cases h;apply aB hJ _;apply aO;simp only[*,go_sem]
  cases h;refine aK hJ (ah hJ ?_);apply aM hJ _;apply aO;simp only[*,go_sem]
 refine aK hJ (ah hJ ?_);apply aB hJ _;revert h;refine aV hJ (fun f h=>?_) fun f h=>?_
 .cases h;apply aB hJ _;apply aO;simp only[*,go_sem]
 refine aK hJ (ah hJ ?_);apply aB hJ _;revert h;refine aV hJ (fun g h=>?_) fun g h=>?_
 .cases h;apply aB hJ _;apply aO;simp only[*,go_sem]
 refine aK hJ (ah hJ ?_);apply aB hJ _;revert h;refine aV hJ (fun i h=>?_) fun i h=>?_
 .cases h;apply aB hJ _;apply aO;simp only[*,go_sem]
 cases h;refine aK hJ (ah hJ ?_);apply aM hJ _;apply aO;simp only[*,go_sem]
def vX (a:(List Int))(i16:Nat)(c:Int)(st:Int):Option (Fl Int Int):=
 cond (decide ((a.length:Int)<=(i16:Int))) (some (.rt 1)) (ai (bD a (i16:Int)) fun d=>ai (vW c d) fun b=>cond ((b != 0)) (some (.rt b)) (some (.nx st)))
def vY (u0:(List Int))(a:(List Int)):Option Int:=
 ai (b7 (vX a) 0 u0 0) fun o=>az o (fun b=>cond (decide ((u0.length:Int)<(a.length:Int))) (some (-1)) (some 0)) (fun _ _=>none) (fun r=>some r)
theorem Gg {ro:Addr->Option Value}(u0:(List Int)){s1:Value}(g:aH rI ro s1 u0)(d:(List Int)){i:Value}(j:aH rI ro i d){r:Int}(h:vY u0 d=some r):aE Tryz.prog 188 #[s1,i] ⟨ro,[]⟩ (fun v _=>v= .int .i64 r):=by
 obtain ⟨d3,c4,rfl,U,w,-⟩:=id g;obtain ⟨d10,V,rfl,W,X,-⟩:=id j;unfold vY at h;refine aE.go Tryz.func188 rfl Tryz.ntmps188 Tryz.results188 an fun main J hJ A y hd hs=>?_;have z:=hs 0;have k1:=hs 1;clear hs;apply aB hJ _;refine ah hJ (aA hJ ?_);apply ag _;apply aU hJ;revert h;refine bS fun B a e=>?_;refine bP hJ (rg 11 20 [4,5,6,7,8]) (fun m k F'=>∃(i16:Nat) (c:Int),m=u0.length - i16/\i16<=u0.length/\b7 (vX d) i16 (u0.drop i16) c=some B/\F'=⟨ro,[]⟩/\slot k 11= .int .i64 (i16:Int)/\slot k 4= .int .i64 c) u0.length ?_ ?_
 .refine ⟨0,0,(Nat.sub_zero _).symm,Nat.zero_le _,a,rfl,?_⟩;simp only[*,go_sem]
 rintro Y Z F' l ⟨i16,c,rfl,ab,a,rfl,ad,ae⟩;obtain ⟨C,D,E⟩:=l.pick [0,1,9,10] aL;simp only[*,go_sem] at C D E;clear l y hd z k1;apply aB hJ _;apply ah hJ;rcases Nat.lt_or_ge i16 u0.length with F|o
 .refine cO hJ ?_;apply aK hJ;obtain ⟨p,f⟩:∃x,u0[i16]?=some x:=⟨_,List.getElem?_eq_getElem F⟩
  rw[e4 f] at a;revert a;refine bS fun al h b=>?_;unfold vX at h;try dsimp only at h
  obtain ⟨ao,G,H,I,q⟩:=g.el _ _ f;obtain rfl:G=[.int .i64 p]:=I;cases H;have K:=q 0 _ rfl;simp only[go_sem] at K;clear q f;refine ah hJ (aU hJ (ah hJ ?_));apply aM hJ _;refine ah hJ (aA hJ ?_);apply ag _;revert h;refine aV hJ (fun L h=>?_) fun L h=>?_
  .cases h;apply aB hJ _;obtain rfl:=sI b;clear b;have h:=e;dsimp only[az] at h;cases h;apply aO;simp only[*,go_sem]
  refine aK hJ (ah hJ ?_);apply aG hJ;revert h;refine bS fun s M h=>?_;obtain ⟨ar,a0,t⟩:=cG M;obtain ⟨a2,N,O,P,u⟩:=j.el _ _ t;obtain rfl:N=[.int .i64 s]:=P;cases O;have Q:=u 0 _ rfl;simp only[go_sem] at Q;clear u t;apply ag _;apply aA hJ;revert h;refine bS fun a3 R h=>?_;apply ag _;refine bh hJ _ (Gf p s R) (aJ ?_);apply ag _;apply aB hJ _;revert h;refine aV hJ (fun S h=>?_) fun S h=>?_
  .cases h;apply aB hJ _;obtain rfl:=sI b;clear b;have h:=e;dsimp only[az] at h;cases h;apply aO;simp only[*,go_sem]
  cases h;apply aK hJ;have a4:=dY (n:=i16) (by have:=w;omega);apply aM hJ _;refine ⟨u0.length - (i16+1),aa,_,Le.sub (List.Sublist.refl _),i16+1,c,rfl,aa,b,rfl,?_⟩;simp only[*,go_sem]
 have a5:=Nat.not_lt.2 o;refine cE hJ ?_;rw[List.drop_eq_nil_of_le o] at a;obtain rfl:=sI a;clear a;have h:=e;dsimp only[az] at h;apply bJ;simp only[go_sem];refine ah hJ (aA hJ ?_);apply ag _;revert h;refine aV hJ (fun T h=>?_) fun T h=>?_
 .cases h;apply aB hJ _;apply aO;simp only[*,go_sem]
 cases h;refine aK hJ (ah hJ ?_);apply aM hJ _;apply aO;simp only[*,go_sem]
def od (u0:(List Int))(a:(List Int)):Option Bool:=
 cond (((u0.length:Int) != (a.length:Int))) (some (decide ((u0.length:Int)<(a.length:Int)))) (ai (vY u0 a) fun b=>some (decide (b<0)))
theorem Gh {ro:Addr->Option Value}(u0:(List Int)){s1:Value}(b:aH rI ro s1 u0)(a:(List Int)){c:Value}(d:aH rI ro c a){r:Bool}(h:od u0 a=some r):aE Tryz.prog 154 #[s1,c] ⟨ro,[]⟩ (fun v _=>v= .bool r):=by
 obtain ⟨d3,c4,rfl,g,i,-⟩:=id b;obtain ⟨d10,j,rfl,k,l,-⟩:=id d;unfold od at h;refine aE.go Tryz.func154 rfl Tryz.ntmps154 Tryz.results154 an fun main J hJ A m hd hs=>?_;have n:=hs 0;have k1:=hs 1;clear hs;apply aB hJ _;refine ah hJ (aA hJ ?_);apply ag _;revert h;refine aV hJ (fun e h=>?_) fun e h=>?_
 .cases h;apply aB hJ _;apply aO;simp only[*,go_sem]
 refine aK hJ (ah hJ ?_);apply aG hJ;revert h;refine bS fun o f h=>?_;cases h;apply ag _;refine bh hJ _ (Gg u0 (b.mono aY) a (d.mono aY) f) (aJ ?_);try apply ag _
 apply aO;simp only[*,go_sem]
def vZ (u0:Int)(st:((List Int)×Int)):Option (Fl ((List Int)×Int) (List Int)):=
 cond (decide (st.2<4)) (ai (kP u0 st.2) fun a=>cond (((fE a 1)==1)) (ai (jI st.1 ([st.2])) fun b=>some (.nx (b,(IntKind.i64.wrap (st.2+1))))) (some (.nx (st.1,(IntKind.i64.wrap (st.2+1)))))) (some (.bk (st.1,st.2)))
def qp (u0:Int):Option (List Int):=
 ai (aQ (vZ u0) fu (([]:List Int),0)) fun o=>az o (fun a=>some a.1) (fun _ _=>none) (fun r=>some r)
theorem v5 {ro:Addr->Option Value}(u0:Int){r:(List Int)}(h:qp u0=some r):eZ Tryz.prog 150 #[.int .u64 u0] ro (fun v aF=>∃i,v=i/\aH rI aF i r):=by
 unfold qp at h;refine aE.go Tryz.func150 rfl Tryz.ntmps150 Tryz.results150 an fun main J hJ A w hd hs=>?_;have y:=hs 0;clear hs;apply aB hJ _;apply aB hJ _;refine ah hJ (aA hJ ?_);apply ag _;apply aU hJ;revert h;refine bS fun z b B=>?_;refine bP hJ (rg 3 15 []) (fun m j F'=>∃(d2:Option Addr) (c3:Nat) (c:List (Nat×Obj)) (v1:(List Int)) (a:Int),aQ (vZ u0) m (v1,a)=some z/\F'=⟨ro,c⟩/\aW rI ro 3 (.slice d2 v1.length c3) v1 c/\v1.length<=c3/\slot j 3= .slice d2 v1.length c3/\slot j 5= .int .i64 a) fu ?_ ?_
 .refine ⟨none,0,[],([]:List Int),0,b,rfl,aW.nil _ _ _,Nat.le_refl _,?_⟩;simp only[*,go_sem]
 rintro d W F' k ⟨d2,c3,c,v1,a,b,rfl,f,C,X,Y⟩;obtain ⟨D,E,F⟩:=k.pick [0,2] aL;simp only[*,go_sem] at D E F;clear k w hd y;obtain _|d:=d
 .exact absurd b (by simp only[aQ,reduceCtorEq,not_false_eq_true])
 revert b;refine bS fun Z h e=>?_;unfold vZ at h;try dsimp only at h
 apply ah hJ;refine aC hJ fun ab=>?_;apply aM hJ _;apply ah hJ;revert h;refine aV hJ (fun G h=>?_) fun G h=>?_
 .refine aK hJ (ah hJ ?_);refine aU hJ (ah hJ ?_);refine aC hJ fun ad=>?_;apply aM hJ _;apply ah hJ;refine aC hJ fun ae=>?_;apply aG hJ;revert h;refine bS fun al n h=>?_;obtain ⟨ao,H⟩:=vp n;clear n;try simp only[go_sem] at H
  try apply ag _
  revert h;refine aV hJ (fun I h=>?_) fun I h=>?_
  .refine aC hJ fun K=>?_;apply aG hJ;revert h;refine bS fun L M h=>?_;cases h;obtain ⟨N,o⟩:=nF M;apply ag _;refine bf fun p O q=>?_;have P:=bO.cons q K;try simp only[aN] at q
   (try apply ag _);refine vG (r:=rI) (l:=v1) (x:=a) (cs:=#[.int .i64 a]) (e2:=3) [(p,.cells #[.int .i64 a] 3)] [] f P N rfl bx O rfl rfl nW nW vH sr rfl vI aL aL (fun ar s g Q R a0=>?_);simp only[bN] at R;subst Q;rw[<-o] at g;clear o;obtain ⟨d30,S,rfl,T⟩:=g.len;refine ⟨⟨ro,(p,.cells #[.int .i64 a] 3)::s⟩,Le.refl _,?_⟩;apply aJ;(try apply ag _);refine aC hJ fun a2=>?_;apply aM hJ _;(try apply ag _);refine ⟨d,Nat.lt_succ_self _,_,Le.sub (List.Sublist.cons _ (List.Sublist.refl _)),d30,S,s,L,(IntKind.i64.wrap (a+1)),e,rfl,g,T,?_⟩;simp only[*,go_sem]
  cases h;apply aK hJ;refine aC hJ fun a3=>?_;apply aM hJ _;try apply ag _
  refine ⟨d,Nat.lt_succ_self _,_,Le.sub (List.Sublist.refl _),d2,c3,c,v1,(IntKind.i64.wrap (a+1)),e,rfl,f,C,?_⟩;simp only[*,go_sem]
 cases h;apply bJ;simp only[go_sem];obtain rfl:=sI e;clear e;have h:=B;dsimp only[az] at h;cases h;apply ah hJ;refine aC hJ fun a4=>?_;apply aM hJ _;refine aC hJ fun t=>?_;obtain ⟨a5,U,a6,u,V⟩:=f.ql [] [] t (bg.nil _);clear t;refine cq hJ V ?_;obtain ⟨a7,a8,-⟩:=u.op;refine b5 ?_;exact ⟨_,U,Le.sub (List.nil_sublist _),_,rfl,u⟩
def qq (u0:((List Int)->(List Int)->Option Bool))(i22:Nat)(a:(List Int))(st:(List Int)):Option (Fl (List Int) (List Int)):=
 ai (u0 a st) fun b=>cond (b) (some (.nx a)) (some (.nx st))
def sD (u0:((List Int)->(List Int)->Option Bool))(a:(List Int))(b:(List (List Int))):Option (List Int):=
 ai (b7 (qq u0) 0 b a) fun o=>az o (fun c=>some c) (fun _ _=>none) (fun r=>some r)
theorem Gi {ro:Addr->Option Value}(u0:((List Int)->(List Int)->Option Bool)){sE:FuncId}{v7 v8:Array Value}(F:aI Tryz.prog sE=true/\∀(aF:Addr->Option Value),Ext ro aF->∀(y0:(List Int)) (k:Value) (l:(List Int)) (o:Value) (z:Bool),aH rI aF k y0->aH rI aF o l->u0 y0 l=some z->aE Tryz.prog sE (v7++#[k,o]++v8) ⟨aF,[]⟩ (fun v _=>v= .bool z))(g:(List Int)){s1:Value}(p:aH rI ro s1 g)(b:(List (List Int))){q:Value}(s:aH (rL rI) ro q b){r:(List Int)}(h:sD u0 g b=some r):eZ Tryz.prog 153 #[.func (.func sE) v7 v8,s1,q] ro (fun v aF=>∃t,v=t/\aH rI aF t r):=by
 obtain ⟨d3,c4,rfl,X,Y,-⟩:=id p;obtain ⟨d10,Z,rfl,ab,u,-⟩:=id s;unfold sD at h;refine aE.go Tryz.func153 rfl Tryz.ntmps153 Tryz.results153 an fun main J hJ A G hd hs=>?_;have H:=hs 0;have k1:=hs 1;have I:=hs 2;clear hs;apply aB hJ _;refine ah hJ (aA hJ ?_);apply ag _;apply aU hJ;revert h;refine bS fun K c L=>?_;refine bP hJ (rg 11 10 [1,8]) (fun m w F'=>∃(i22:Nat) (d16:Option Addr) (e:Nat) (d:(List Int)),m=b.length - i22/\i22<=b.length/\b7 (qq u0) i22 (b.drop i22) d=some K/\F'=⟨ro,[]⟩/\aH rI ro (.slice d16 d.length e) d/\slot w 11= .int .i64 (i22:Int)/\slot w 1= .slice d16 d.length e) b.length ?_ ?_
 .refine ⟨0,d3,c4,g,(Nat.sub_zero _).symm,Nat.zero_le _,c,rfl,p,?_⟩;simp only[*,go_sem]
 rintro ad ae F' y ⟨i22,d16,e,d,rfl,al,c,rfl,f,ao,ar⟩;obtain ⟨a0,a2,-⟩:=f.op;obtain ⟨M,N,O⟩:=y.pick [0,6,9,10] aL;simp only[*,go_sem] at M N O;clear y G hd H k1 I;apply aB hJ _;apply ah hJ;rcases Nat.lt_or_ge i22 b.length with P|B
 .refine cO hJ ?_;apply aK hJ;obtain ⟨C,i⟩:∃x,b[i22]?=some x:=⟨_,List.getElem?_eq_getElem P⟩
  rw[e4 i] at c;revert c;refine bS fun a3 h D=>?_;unfold qq at h;try dsimp only at h
  obtain ⟨a4,a5,Q,R,E⟩:=s.el _ _ i;obtain ⟨a6,rfl,j⟩:=R;obtain ⟨d31,S,rfl,a7,a8,a9⟩:=id j;cases Q;have T:=E 0 _ rfl;simp only[go_sem] at T;clear E i;refine ah hJ (aU hJ (ah hJ ?_));apply aM hJ _;apply aA hJ;revert h;refine bS fun ba U h=>?_;apply ag _;refine bh hJ _ (F.2 _ (fun a v h=>aY a v h) C _ d _ _ (j.mono aY) (f.mono aY) U) ?_;try apply ag _
  revert h;refine aV hJ (fun V h=>?_) fun V h=>?_
  .cases h;apply aM hJ _;have W:=dY (n:=i22) (by have:=u;omega);apply aM hJ _;refine ⟨b.length - (i22+1),aa,_,Le.sub (List.Sublist.refl _),i22+1,d31,S,C,rfl,aa,D,rfl,j,?_⟩;simp only[*,go_sem]
  cases h;apply aK hJ;have W:=dY (n:=i22) (by have:=u;omega);apply aM hJ _;refine ⟨b.length - (i22+1),aa,_,Le.sub (List.Sublist.refl _),i22+1,d16,e,d,rfl,aa,D,rfl,f,?_⟩;simp only[*,go_sem]
 have bb:=Nat.not_lt.2 B;refine cE hJ ?_;rw[List.drop_eq_nil_of_le B] at c;obtain rfl:=sI c;clear c;have h:=L;dsimp only[az] at h;cases h;apply bJ;simp only[go_sem];apply aB hJ _;refine b5 ?_;exact ⟨_,Ext.refl _,Le.sub (List.nil_sublist _),_,rfl,f⟩
def sF (u0:Int)(a:Int)(w1:Int):Option Bool:=
 ai (gh u0 a w1) fun x1=>some (!x1)
theorem Gj {ro:Addr->Option Value}(u0:Int)(a:Int){b:Nat}(e:ro ⟨b,0,none⟩=some (.int .i64 a))(w1:Int){c:Nat}(f:ro ⟨c,0,none⟩=some (.int .i64 w1)){r:Bool}(h:sF u0 a w1=some r):aE Tryz.prog 162 #[.int .i64 u0,.pointer (some ⟨b,0,none⟩),.pointer (some ⟨c,0,none⟩)] ⟨ro,[]⟩ (fun v _=>v= .bool r):=by
 unfold sF at h;refine aE.go Tryz.func162 rfl Tryz.ntmps162 Tryz.results162 an fun main J hJ A g hd hs=>?_;have i:=hs 0;have k1:=hs 1;have j:=hs 2;clear hs;apply aB hJ _;apply aA hJ;revert h;refine bS fun x1 d h=>?_;obtain rfl:=sI h;apply ag _;refine bh hJ _ (iz u0 a w1 d) (aJ ?_);try apply ag _
 apply aO;simp only[*,go_sem]
def l9 (u0:ax)(a:aT)(b:Int)(c:bE):Option aP:=
 ai (aZ.get a.au b) fun d=>ai (fD (IntKind.i64.wrap (d+c.e6)) u0.steps) fun e=>ai (aZ.get a.av b) fun f=>some (⟨e,IntKind.i64.wrap (c.row+f)⟩:aP)
theorem v9 {ro:Addr->Option Value}(u0:ax){s1:Value}(t:aH bK ro s1 u0.ak)(a:aT)(c:Int)(b:bE){r:aP}(h:l9 u0 a c b=some r):aE Tryz.prog 116 #[cn u0 s1,jk a,.int .i64 c,.agg #[.string ⟨⟨b.bR⟩⟩,.int .i64 b.e6,.int .i64 b.row]] ⟨ro,[]⟩ (fun v _=>v=r.v):=by
 unfold l9 at h;refine aE.go Tryz.func116 rfl Tryz.ntmps116 Tryz.results116 an fun main J hJ A u hd hs=>?_;have w:=hs 0;have k1:=hs 1;have x:=hs 2;have y:=hs 3;clear hs;apply aB hJ _;refine bf fun g z i=>?_;try simp only[aN] at i
 refine bf fun j B k=>?_;try simp only[aN] at k
 refine bf fun l C m=>?_;try simp only[aN] at m
 refine bf fun D E n=>?_;try simp only[aN] at n
 try apply ag _
 apply ah hJ;refine eN hJ mixed 19 ⟨ro,[(l,.cells #[.string ⟨⟨b.bR⟩⟩,.int .i64 b.e6,.int .i64 b.row] 71),(j,gw a),(g,dM u0 s1)]⟩ bx aj ?_;revert h;refine bS fun o d h=>?_;obtain ⟨F,G,-⟩:=aZ.get_some d;have p:([.int .i64 a.au.e0,.int .i64 a.au.e1,.int .i64 a.au.e2,.int .i64 a.au.e3,.int .i64 a.av.e0,.int .i64 a.av.e1,.int .i64 a.av.e2,.int .i64 a.av.e3,.int .u64 a.aR]:List Value)[(c:Int).toNat]?=some (.int .i64 o):=aZ.qm [.int .i64 a.av.e0,.int .i64 a.av.e1,.int .i64 a.av.e2,.int .i64 a.av.e3,.int .u64 a.aR] d;try simp only[go_sem] at p
 revert h;refine bS fun H e h=>?_;obtain ⟨I,K⟩:=jJ e;clear e;revert h;refine bS fun q f h=>?_;obtain rfl:=sI h;obtain ⟨L,M,-⟩:=aZ.get_some f;have s:([.int .i64 a.au.e0,.int .i64 a.au.e1,.int .i64 a.au.e2,.int .i64 a.au.e3,.int .i64 a.av.e0,.int .i64 a.av.e1,.int .i64 a.av.e2,.int .i64 a.av.e3,.int .u64 a.aR]:List Value)[4+(c:Int).toNat]?=some (.int .i64 q):=aZ.sx [.int .i64 a.au.e0,.int .i64 a.au.e1,.int .i64 a.au.e2,.int .i64 a.au.e3] [.int .u64 a.aR] f;try simp only[go_sem] at s
 try apply ag _
 apply aO;simp only[*,go_sem]
def jM (u0:aT)(a:Int):Option Bool:=
 ai (kP u0.aR a) fun x2=>some ((fE x2 1)==1)
theorem sG {ro:Addr->Option Value}(u0:aT)(a:Int){r:Bool}(h:jM u0 a=some r):aE Tryz.prog 83 #[jk u0,.int .i64 a] ⟨ro,[]⟩ (fun v _=>v= .bool r):=by
 unfold jM at h;refine aE.go Tryz.func83 rfl Tryz.ntmps83 Tryz.results83 an fun main J hJ A d hd hs=>?_;have e:=hs 0;have k1:=hs 1;clear hs;apply aB hJ _;refine bf fun f r1 n1=>?_;try simp only[aN] at n1
 try apply ag _
 apply aA hJ;revert h;refine bS fun x2 b h=>?_;obtain rfl:=sI h;obtain ⟨g,c⟩:=vp b;clear b;try simp only[go_sem] at c
 try apply ag _
 apply aO;simp only[*,go_sem]
def iA (u0:ax):Option Bool:=
 some true
theorem sH {ro:Addr->Option Value}(u0:ax){s1:Value}(a:aH bK ro s1 u0.ak){r:Bool}(h:iA u0=some r):aE Tryz.prog 87 #[cn u0 s1] ⟨ro,[]⟩ (fun v _=>v= .bool r):=by
 obtain ⟨d3,c4,rfl,c,d,-⟩:=id a;unfold iA at h;obtain rfl:=sI h;refine aE.go Tryz.func87 rfl Tryz.ntmps87 Tryz.results87 an fun main J hJ A e hd hs=>?_;have f:=hs 0;clear hs;apply aB hJ _;refine bf fun g i b=>?_;try simp only[aN] at b
 try apply ag _
 apply aB hJ _;apply aO;simp only[*,go_sem]
def oe (a:(aT->Option Bool))(i17:Nat)(b:aT)(st:Int):Option (Fl Int Int):=
 ai (a b) fun c=>cond (c) (some (.nx (IntKind.i64.wrap (st+1)))) (some (.nx st))
def mb (u0:dD)(b:(aT->Option Bool)):Option Int:=
 ai (b7 (oe b) 0 u0.bF 0) fun o=>az o (fun a=>cond ((a==(u0.bF.length:Int))) (some 1) (cond ((a==0)) (some 2) (some 0))) (fun _ _=>none) (fun r=>some r)
theorem we {ro:Addr->Option Value}(u0:dD){s1:Value}(ad:aH bK ro s1 u0.round.ak){g:Value}(i:aH iQ ro g u0.bF)(e:(aT->Option Bool)){bQ:FuncId}{bY bZ:Array Value}(s:aI Tryz.prog bQ=true/\∀(aF:Addr->Option Value),Ext ro aF->∀(y0:aT) (z:Bool),e y0=some z->aE Tryz.prog bQ (bY++#[y0.v]++bZ) ⟨aF,[]⟩ (fun v _=>v= .bool z)){r:Int}(h:mb u0 e=some r):aE Tryz.prog 81 #[.agg #[.int .i64 u0.round.steps,.int .i64 u0.round.aR,s1,g],.func (.func bQ) bY bZ] ⟨ro,[]⟩ (fun v _=>v= .int .i64 r):=by
 obtain ⟨d10,t,rfl,ae,j,-⟩:=id i;unfold mb at h;refine aE.go Tryz.func81 rfl Tryz.ntmps81 Tryz.results81 an fun main J hJ A u hd hs=>?_;have w:=hs 0;have k1:=hs 1;clear hs;apply aB hJ _;refine bf fun y al B=>?_;try simp only[aN] at B
 apply aB hJ _;refine ah hJ (aA hJ ?_);apply ag _;apply aU hJ;revert h;refine bS fun C c D=>?_;refine bP hJ (rg 11 10 [5,7]) (fun m k F'=>∃(i17:Nat) (d:Int),m=u0.bF.length - i17/\i17<=u0.bF.length/\b7 (oe e) i17 (u0.bF.drop i17) d=some C/\F'=⟨ro,(y,.cells #[.int .i64 u0.round.steps,.int .i64 u0.round.aR,s1,.slice d10 u0.bF.length t] 104)::[]⟩/\slot k 11= .int .i64 (i17:Int)/\slot k 5= .int .i64 d) u0.bF.length ?_ ?_
 .refine ⟨0,0,(Nat.sub_zero _).symm,Nat.zero_le _,c,rfl,?_⟩;simp only[*,go_sem]
 rintro ao ar F' l ⟨i17,d,rfl,a0,c,rfl,a2,a3⟩;obtain ⟨E,F,G⟩:=l.pick [1,2,4,9,10] aL;simp only[*,go_sem] at E F G;clear l u hd w k1;apply aB hJ _;apply ah hJ;rcases Nat.lt_or_ge i17 u0.bF.length with H|o
 .refine cO hJ ?_;apply aK hJ;obtain ⟨p,f⟩:∃x,u0.bF[i17]?=some x:=⟨_,List.getElem?_eq_getElem H⟩
  rw[e4 f] at c;revert c;refine bS fun a4 h q=>?_;unfold oe at h;try dsimp only at h
  obtain ⟨a5,I,K,L,b⟩:=i.el _ _ f;obtain rfl:I=p.cells:=L;cases K;have M:=b 0 _ rfl;simp only[go_sem] at M;have N:=b 1 _ rfl;simp only[go_sem] at N;have O:=b 2 _ rfl;simp only[go_sem] at O;have P:=b 3 _ rfl;simp only[go_sem] at P;have Q:=b 4 _ rfl;simp only[go_sem] at Q;have R:=b 5 _ rfl;simp only[go_sem] at R;have S:=b 6 _ rfl;simp only[go_sem] at S;have T:=b 7 _ rfl;simp only[go_sem] at T;have U:=b 8 _ rfl;simp only[go_sem] at U;clear b f;refine ah hJ (aU hJ (ah hJ ?_));apply aM hJ _;refine bf fun a6 a7 V=>?_;try simp only[aN] at V
  apply aA hJ;revert h;refine bS fun a8 W h=>?_;apply ag _;refine bh hJ _ (s.2 _ (fun a v h=>aY a v h) p _ W) ?_;revert h;refine aV hJ (fun X h=>?_) fun X h=>?_
  .obtain rfl:=sI h;apply aM hJ _;have Y:=dY (n:=i17) (by have:=j;omega);apply aM hJ _;refine ⟨u0.bF.length - (i17+1),aa,_,Le.sub (List.Sublist.cons _ (List.Sublist.refl _)),i17+1,(IntKind.i64.wrap (d+1)),rfl,aa,q,rfl,?_⟩;simp only[*,go_sem]
  obtain rfl:=sI h;apply aK hJ;have Y:=dY (n:=i17) (by have:=j;omega);apply aM hJ _;refine ⟨u0.bF.length - (i17+1),aa,_,Le.sub (List.Sublist.cons _ (List.Sublist.refl _)),i17+1,d,rfl,aa,q,rfl,?_⟩;simp only[*,go_sem]
 have a9:=Nat.not_lt.2 o;refine cE hJ ?_;rw[List.drop_eq_nil_of_le o] at c;obtain rfl:=sI c;clear c;have h:=D;dsimp only[az] at h;apply bJ;simp only[go_sem];refine ah hJ (aA hJ ?_);apply ag _;refine aU hJ (ah hJ ?_);apply aM hJ _;revert h;refine aV hJ (fun Z h=>?_) fun Z h=>?_
 .obtain rfl:=sI h;apply aB hJ _;apply aO;simp only[*,go_sem]
 apply aB hJ _;revert h;refine aV hJ (fun ab h=>?_) fun ab h=>?_
 .obtain rfl:=sI h;apply aB hJ _;apply aO;simp only[*,go_sem]
 obtain rfl:=sI h;refine aK hJ (ah hJ ?_);apply aM hJ _;apply aO;simp only[*,go_sem]
def qs (u0:ax)(a:aT)(b:Int)(i11:Nat)(c:aS)(st:Bool):Option (Fl Bool Bool):=
 ai (jM a (i11:Int)) fun d=>cond (!d) (ai (aZ.get a.au (i11:Int)) fun e=>ai (fD (IntKind.i64.wrap ((IntKind.i64.wrap (b - e))+u0.steps)) u0.steps) fun f=>cond (decide (f<c.wide)) (some (.rt true)) (some (.nx st))) (some (.nx st))
def j9 (u0:ax)(a:aT)(b:Int):Option Bool:=
 ai (b7 (qs u0 a b) 0 u0.ak false) fun o=>az o (fun c=>some false) (fun _ _=>none) (fun r=>some r)
theorem wh {ro:Addr->Option Value}(u0:ax){s1:Value}(g:aH bK ro s1 u0.ak)(a:aT)(e:Int){r:Bool}(h:j9 u0 a e=some r):aE Tryz.prog 88 #[cn u0 s1,jk a,.int .i64 e] ⟨ro,[]⟩ (fun v _=>v= .bool r):=by
 obtain ⟨d3,c4,rfl,ab,i,-⟩:=id g;unfold j9 at h;refine aE.go Tryz.func88 rfl Tryz.ntmps88 Tryz.results88 an fun main J hJ A s hd hs=>?_;have t:=hs 0;have k1:=hs 1;have u:=hs 2;clear hs;apply aB hJ _;refine bf fun w ad y=>?_;try simp only[aN] at y
 refine bf fun z ae B=>?_;try simp only[aN] at B
 try apply ag _
 refine ah hJ (aA hJ ?_);apply ag _;apply aU hJ;revert h;refine bS fun C c j=>?_;refine bP hJ (rg 13 29 [6,7,8]) (fun m k F'=>∃(i11:Nat) (v10:Bool),m=u0.ak.length - i11/\i11<=u0.ak.length/\b7 (qs u0 a e) i11 (u0.ak.drop i11) v10=some C/\F'=⟨ro,(z,gw a)::(w,dM u0 (sl d3 u0.ak c4))::[]⟩/\slot k 13= .int .i64 (i11:Int)/\slot k 6= .bool v10) u0.ak.length ?_ ?_
 .refine ⟨0,false,(Nat.sub_zero _).symm,Nat.zero_le _,c,rfl,?_⟩;simp only[*,go_sem]
 rintro al ao F' l ⟨i11,v10,rfl,ar,c,rfl,a0,a2⟩;obtain ⟨D,E,G⟩:=l.pick [2,3,4,11,12] aL;simp only[*,go_sem] at D E G;clear l s hd t k1 u;apply aB hJ _;apply ah hJ;rcases Nat.lt_or_ge i11 u0.ak.length with H|o
 .refine cO hJ ?_;apply aK hJ;obtain ⟨a3,f⟩:∃x,u0.ak[i11]?=some x:=⟨_,List.getElem?_eq_getElem H⟩
  rw[e4 f] at c;revert c;refine bS fun a4 h d=>?_;unfold qs at h;try dsimp only at h
  obtain ⟨a5,a6,I,K,b⟩:=g.el _ _ f;obtain ⟨a7,rfl,L⟩:=K;obtain ⟨d20,a8,rfl,a9,ba,bb⟩:=id L;cases I;have M:=b 0 _ rfl;simp only[go_sem] at M;have N:=b 1 _ rfl;simp only[go_sem] at N;have O:=b 2 _ rfl;simp only[go_sem] at O;have P:=b 3 _ rfl;simp only[go_sem] at P;have Q:=b 4 _ rfl;simp only[go_sem] at Q;have R:=b 5 _ rfl;simp only[go_sem] at R;have S:=b 6 _ rfl;simp only[go_sem] at S;clear b f;refine ah hJ (aU hJ (ah hJ ?_));apply aM hJ _;refine bf fun bc bd T=>?_;try simp only[aN] at T
  try apply ag _
  apply ah hJ;refine dR hJ mixed 23 3 bx aj ?_;revert h;refine bS fun bj U h=>?_;apply ag _;refine ⟨_,dW hJ fun F hF=>sG a (i11:Int) U,eB ?_⟩;revert h;refine cS (fun V h=>?_) fun V h=>?_
  .revert h;refine bS fun W p h=>?_;obtain ⟨bk,bm,-⟩:=aZ.get_some p;have X:([.int .i64 a.au.e0,.int .i64 a.au.e1,.int .i64 a.au.e2,.int .i64 a.au.e3,.int .i64 a.av.e0,.int .i64 a.av.e1,.int .i64 a.av.e2,.int .i64 a.av.e3,.int .u64 a.aR]:List Value)[((i11:Int):Int).toNat]?=some (.int .i64 W):=aZ.qm [.int .i64 a.av.e0,.int .i64 a.av.e1,.int .i64 a.av.e2,.int .i64 a.av.e3,.int .u64 a.aR] p;(try simp only[go_sem] at X);revert h;refine bS fun bo q h=>?_;obtain ⟨br,bs⟩:=jJ q;clear q;(try apply ag _);revert h;refine aV hJ (fun Y h=>?_) fun Y h=>?_
   .obtain rfl:=sI h;apply aB hJ _;obtain rfl:=sI d;clear d;have h:=j;dsimp only[az] at h;obtain rfl:=sI h;apply aO;simp only[*,go_sem]
   obtain rfl:=sI h;apply aK hJ;have Z:=dY (n:=i11) (by have:=i;omega);apply aM hJ _;refine ⟨u0.ak.length - (i11+1),aa,_,Le.sub (List.Sublist.cons _ (List.Sublist.refl _)),i11+1,v10,rfl,aa,d,rfl,?_⟩;simp only[*,go_sem]
  obtain rfl:=sI h;try apply ag _
  refine cE hJ ?_;apply aK hJ;have Z:=dY (n:=i11) (by have:=i;omega);apply aM hJ _;refine ⟨u0.ak.length - (i11+1),aa,_,Le.sub (List.Sublist.cons _ (List.Sublist.refl _)),i11+1,v10,rfl,aa,d,rfl,?_⟩;simp only[*,go_sem]
 have b0:=Nat.not_lt.2 o;refine cE hJ ?_;rw[List.drop_eq_nil_of_le o] at c;obtain rfl:=sI c;clear c;have h:=j;dsimp only[az] at h;obtain rfl:=sI h;apply bJ;simp only[go_sem];apply aB hJ _;apply aO;simp only[*,go_sem]
def wj (u0:ax)(a:aT)(st:(Bool×Int)):Option (Fl (Bool×Int) Bool):=
 cond (decide (st.2<u0.steps)) (ai (j9 u0 a st.2) fun b=>cond (!b) (some (.rt false)) (some (.nx (st.1,(IntKind.i64.wrap (st.2+1)))))) (some (.bk (st.1,st.2)))
def sJ (u0:ax)(a:aT):Option Bool:=
 ai (aQ (wj u0 a) fu (false,0)) fun o=>az o (fun b=>some true) (fun _ _=>none) (fun r=>some r)
theorem Gk {ro:Addr->Option Value}(u0:ax){s1:Value}(i:aH bK ro s1 u0.ak)(a:aT){r:Bool}(h:sJ u0 a=some r):aE Tryz.prog 127 #[cn u0 s1,jk a] ⟨ro,[]⟩ (fun v _=>v= .bool r):=by
 unfold sJ at h;refine aE.go Tryz.func127 rfl Tryz.ntmps127 Tryz.results127 an fun main J hJ A j hd hs=>?_;have k:=hs 0;have k1:=hs 1;clear hs;apply aB hJ _;refine bf fun l z n=>?_;try simp only[aN] at n
 refine bf fun o B p=>?_;try simp only[aN] at p
 try apply ag _
 refine ah hJ (aA hJ ?_);apply ag _;apply aU hJ;revert h;refine bS fun q c e=>?_;refine bP hJ (rg 9 9 [4,5]) (fun m f F'=>∃(v10:Bool) (v11:Int),aQ (wj u0 a) m (v10,v11)=some q/\F'=⟨ro,(o,gw a)::(l,dM u0 s1)::[]⟩/\slot f 4= .bool v10/\slot f 9= .int .i64 v11) fu ?_ ?_
 .refine ⟨false,0,c,rfl,?_⟩;simp only[*,go_sem]
 rintro d C F' g ⟨v10,v11,c,rfl,D,E⟩;obtain ⟨s,t,u⟩:=g.pick [2,3,8] aL;simp only[*,go_sem] at s t u;clear g j hd k k1;obtain _|d:=d
 .exact absurd c (by simp only[aQ,reduceCtorEq,not_false_eq_true])
 revert c;refine bS fun F h b=>?_;unfold wj at h;try dsimp only at h
 apply aB hJ _;apply ah hJ;revert h;refine aV hJ (fun w h=>?_) fun w h=>?_
 .refine aK hJ (ah hJ ?_);refine aU hJ (ah hJ ?_);apply aM hJ _;apply aA hJ;revert h;refine bS fun G x h=>?_;apply ag _;refine bh hJ _ (wh u0 (i.mono aY) a v11 x) (aJ ?_);try apply ag _
  revert h;refine aV hJ (fun y h=>?_) fun y h=>?_
  .obtain rfl:=sI h;apply aB hJ _;obtain rfl:=sI b;clear b;have h:=e;dsimp only[az] at h;obtain rfl:=sI h;apply aO;simp only[*,go_sem]
  obtain rfl:=sI h;refine aK hJ (aG hJ ?_);apply ag _;try apply ag _
  refine ⟨d,Nat.lt_succ_self _,_,Le.sub (List.Sublist.refl _),v10,(IntKind.i64.wrap (v11+1)),b,rfl,?_⟩;simp only[*,go_sem]
 obtain rfl:=sI h;apply bJ;simp only[go_sem];obtain rfl:=sI b;clear b;have h:=e;dsimp only[az] at h;obtain rfl:=sI h;apply aB hJ _;apply aO;simp only[*,go_sem]
def qt (u0:aT)(a:dD)(w1:Int):Option Bool:=
 ai (j9 a.round u0 w1) fun b=>some b
theorem Gl {ro:Addr->Option Value}(u0:aT)(a:dD){b:Nat}(j:ro ⟨b,0,none⟩=some (.int .i64 a.round.steps))(k:ro ⟨b,1,none⟩=some (.int .i64 a.round.aR)){s1:Value}(c:aH bK ro s1 a.round.ak)(l:ro ⟨b,2,none⟩=some (s1)){d:Value}(f:aH iQ ro d a.bF)(m:ro ⟨b,3,none⟩=some (d))(w1:Int){e:Nat}(n:ro ⟨e,0,none⟩=some (.int .i64 w1)){r:Bool}(h:qt u0 a w1=some r):aE Tryz.prog 91 #[jk u0,.pointer (some ⟨b,0,none⟩),.pointer (some ⟨e,0,none⟩)] ⟨ro,[]⟩ (fun v _=>v= .bool r):=by
 obtain ⟨d3,c4,rfl,o,p,-⟩:=id c;obtain ⟨d10,q,rfl,s,t,-⟩:=id f;unfold qt at h;refine aE.go Tryz.func91 rfl Tryz.ntmps91 Tryz.results91 an fun main J hJ A u hd hs=>?_;have w:=hs 0;have k1:=hs 1;have x:=hs 2;clear hs;apply aB hJ _;refine bf fun y z g=>?_;try simp only[aN] at g
 try apply ag _
 apply aA hJ;revert h;refine bS fun B i h=>?_;obtain rfl:=sI h;apply ag _;refine bh hJ _ (wh a.round (c.mono aY) u0 w1 i) (aJ ?_);try apply ag _
 apply aO;simp only[*,go_sem]
def sK (u0:ax)(a:Int):Option Bool:=
 ai (gh a 0 (IntKind.i64.wrap (u0.steps - 1))) fun x9=>some x9
theorem Gm {ro:Addr->Option Value}(u0:ax){s1:Value}(b:aH bK ro s1 u0.ak)(a:Int){r:Bool}(h:sK u0 a=some r):aE Tryz.prog 90 #[cn u0 s1,.int .i64 a] ⟨ro,[]⟩ (fun v _=>v= .bool r):=by
 obtain ⟨d3,c4,rfl,e,f,-⟩:=id b;unfold sK at h;refine aE.go Tryz.func90 rfl Tryz.ntmps90 Tryz.results90 an fun main J hJ A g hd hs=>?_;have i:=hs 0;have k1:=hs 1;clear hs;apply aB hJ _;refine bf fun j k c=>?_;try simp only[aN] at c
 try apply ag _
 apply aA hJ;revert h;refine bS fun x9 d h=>?_;obtain rfl:=sI h;apply ag _;refine bh hJ _ (iz a 0 (IntKind.i64.wrap (u0.steps - 1)) d) (aJ ?_);try apply ag _
 apply aO;simp only[*,go_sem]
def mc (u0:ax)(a:Int):Option Bool:=
 ai (sK u0 a) fun x9=>some x9
theorem Gn {ro:Addr->Option Value}(u0:ax){s1:Value}(b:aH bK ro s1 u0.ak)(a:Int){c:Nat}(f:ro ⟨c,0,none⟩=some (.int .i64 a)){r:Bool}(h:mc u0 a=some r):aE Tryz.prog 89 #[cn u0 s1,.pointer (some ⟨c,0,none⟩)] ⟨ro,[]⟩ (fun v _=>v= .bool r):=by
 obtain ⟨d3,c4,rfl,g,i,-⟩:=id b;unfold mc at h;refine aE.go Tryz.func89 rfl Tryz.ntmps89 Tryz.results89 an fun main J hJ A j hd hs=>?_;have k:=hs 0;have k1:=hs 1;clear hs;apply aB hJ _;refine bf fun l m d=>?_;try simp only[aN] at d
 try apply ag _
 apply aA hJ;revert h;refine bS fun x9 e h=>?_;obtain rfl:=sI h;apply ag _;refine bh hJ _ (Gm u0 (b.mono aY) a e) (aJ ?_);try apply ag _
 apply aO;simp only[*,go_sem]
def jN (u0:ax)(a:Int):Option Bool:=
 ai (gh a 0 (IntKind.i64.wrap ((u0.ak.length:Int) - 1))) fun x9=>some x9
theorem sL {ro:Addr->Option Value}(u0:ax){s1:Value}(b:aH bK ro s1 u0.ak)(a:Int){r:Bool}(h:jN u0 a=some r):aE Tryz.prog 80 #[cn u0 s1,.int .i64 a] ⟨ro,[]⟩ (fun v _=>v= .bool r):=by
 obtain ⟨d3,c4,rfl,e,f,-⟩:=id b;unfold jN at h;refine aE.go Tryz.func80 rfl Tryz.ntmps80 Tryz.results80 an fun main J hJ A g hd hs=>?_;have i:=hs 0;have k1:=hs 1;clear hs;apply aB hJ _;refine bf fun j k c=>?_;try simp only[aN] at c
 try apply ag _
 apply aA hJ;revert h;refine bS fun x9 d h=>?_;obtain rfl:=sI h;apply ag _;refine bh hJ _ (iz a 0 (IntKind.i64.wrap ((u0.ak.length:Int) - 1)) d) (aJ ?_);try apply ag _
 apply aO;simp only[*,go_sem]
def jO (u0:ax)(a:Int):Option Bool:=
 ai (jN u0 a) fun x9=>some x9
theorem Gq {ro:Addr->Option Value}(u0:ax){s1:Value}(b:aH bK ro s1 u0.ak)(a:Int){c:Nat}(f:ro ⟨c,0,none⟩=some (.int .i64 a)){r:Bool}(h:jO u0 a=some r):aE Tryz.prog 84 #[cn u0 s1,.pointer (some ⟨c,0,none⟩)] ⟨ro,[]⟩ (fun v _=>v= .bool r):=by
 obtain ⟨d3,c4,rfl,g,i,-⟩:=id b;unfold jO at h;refine aE.go Tryz.func84 rfl Tryz.ntmps84 Tryz.results84 an fun main J hJ A j hd hs=>?_;have k:=hs 0;have k1:=hs 1;clear hs;apply aB hJ _;refine bf fun l m d=>?_;try simp only[aN] at d
 try apply ag _
 apply aA hJ;revert h;refine bS fun x9 e h=>?_;obtain rfl:=sI h;apply ag _;refine bh hJ _ (sL u0 (b.mono aY) a e) (aJ ?_);try apply ag _
 apply aO;simp only[*,go_sem]
def og (u0:aT)(a:Int):Option Int:=
 ai (aZ.get u0.au a) fun x2=>some x2
theorem Gs {ro:Addr->Option Value}(u0:aT)(a:Int){b:Nat}(e:ro ⟨b,0,none⟩=some (.int .i64 a)){r:Int}(h:og u0 a=some r):aE Tryz.prog 86 #[jk u0,.pointer (some ⟨b,0,none⟩)] ⟨ro,[]⟩ (fun v _=>v= .int .i64 r):=by
 unfold og at h;refine aE.go Tryz.func86 rfl Tryz.ntmps86 Tryz.results86 an fun main J hJ A f hd hs=>?_;have g:=hs 0;have k1:=hs 1;clear hs;apply aB hJ _;refine bf fun i r1 n1=>?_;try simp only[aN] at n1
 try apply ag _
 apply aA hJ;revert h;refine bS fun x2 c h=>?_;obtain rfl:=sI h;obtain ⟨j,k,-⟩:=aZ.get_some c;have d:([.int .i64 u0.au.e0,.int .i64 u0.au.e1,.int .i64 u0.au.e2,.int .i64 u0.au.e3,.int .i64 u0.av.e0,.int .i64 u0.av.e1,.int .i64 u0.av.e2,.int .i64 u0.av.e3,.int .u64 u0.aR]:List Value)[(a:Int).toNat]?=some (.int .i64 x2):=aZ.qm [.int .i64 u0.av.e0,.int .i64 u0.av.e1,.int .i64 u0.av.e2,.int .i64 u0.av.e3,.int .u64 u0.aR] c;try simp only[go_sem] at d
 try apply ag _
 apply aO;simp only[*,go_sem]
def me (u0:ax)(a:Int):Option Bool:=
 ai (jN u0 a) fun x9=>some x9
theorem Gt {ro:Addr->Option Value}(u0:ax){s1:Value}(b:aH bK ro s1 u0.ak)(a:Int){c:Nat}(f:ro ⟨c,0,none⟩=some (.int .i64 a)){r:Bool}(h:me u0 a=some r):aE Tryz.prog 99 #[cn u0 s1,.pointer (some ⟨c,0,none⟩)] ⟨ro,[]⟩ (fun v _=>v= .bool r):=by
 obtain ⟨d3,c4,rfl,g,i,-⟩:=id b;unfold me at h;refine aE.go Tryz.func99 rfl Tryz.ntmps99 Tryz.results99 an fun main J hJ A j hd hs=>?_;have k:=hs 0;have k1:=hs 1;clear hs;apply aB hJ _;refine bf fun l m d=>?_;try simp only[aN] at d
 try apply ag _
 apply aA hJ;revert h;refine bS fun x9 e h=>?_;obtain rfl:=sI h;apply ag _;refine bh hJ _ (sL u0 (b.mono aY) a e) (aJ ?_);try apply ag _
 apply aO;simp only[*,go_sem]
def oh (u0:aT)(a:Int):Option Int:=
 ai (aZ.get u0.av a) fun x2=>some x2
theorem Gu {ro:Addr->Option Value}(u0:aT)(a:Int){b:Nat}(e:ro ⟨b,0,none⟩=some (.int .i64 a)){r:Int}(h:oh u0 a=some r):aE Tryz.prog 100 #[jk u0,.pointer (some ⟨b,0,none⟩)] ⟨ro,[]⟩ (fun v _=>v= .int .i64 r):=by
 unfold oh at h;refine aE.go Tryz.func100 rfl Tryz.ntmps100 Tryz.results100 an fun main J hJ A f hd hs=>?_;have g:=hs 0;have k1:=hs 1;clear hs;apply aB hJ _;refine bf fun i r1 n1=>?_;try simp only[aN] at n1
 try apply ag _
 apply aA hJ;revert h;refine bS fun x2 c h=>?_;obtain rfl:=sI h;obtain ⟨j,k,-⟩:=aZ.get_some c;have d:([.int .i64 u0.au.e0,.int .i64 u0.au.e1,.int .i64 u0.au.e2,.int .i64 u0.au.e3,.int .i64 u0.av.e0,.int .i64 u0.av.e1,.int .i64 u0.av.e2,.int .i64 u0.av.e3,.int .u64 u0.aR]:List Value)[4+(a:Int).toNat]?=some (.int .i64 x2):=aZ.sx [.int .i64 u0.au.e0,.int .i64 u0.au.e1,.int .i64 u0.au.e2,.int .i64 u0.au.e3] [.int .u64 u0.aR] c;try simp only[go_sem] at d
 try apply ag _
 apply aO;simp only[*,go_sem]
def mg (u0:ax)(a:Int):Option Bool:=
 ai (jN u0 a) fun x9=>some x9
theorem Gv {ro:Addr->Option Value}(u0:ax){s1:Value}(b:aH bK ro s1 u0.ak)(a:Int){c:Nat}(f:ro ⟨c,0,none⟩=some (.int .i64 a)){r:Bool}(h:mg u0 a=some r):aE Tryz.prog 79 #[cn u0 s1,.pointer (some ⟨c,0,none⟩)] ⟨ro,[]⟩ (fun v _=>v= .bool r):=by
 obtain ⟨d3,c4,rfl,g,i,-⟩:=id b;unfold mg at h;refine aE.go Tryz.func79 rfl Tryz.ntmps79 Tryz.results79 an fun main J hJ A j hd hs=>?_;have k:=hs 0;have k1:=hs 1;clear hs;apply aB hJ _;refine bf fun l m d=>?_;try simp only[aN] at d
 try apply ag _
 apply aA hJ;revert h;refine bS fun x9 e h=>?_;obtain rfl:=sI h;apply ag _;refine bh hJ _ (sL u0 (b.mono aY) a e) (aJ ?_);try apply ag _
 apply aO;simp only[*,go_sem]
def qu (u0:aT)(a:Int):Option Bool:=
 ai (jM u0 a) fun x2=>some x2
theorem Gw {ro:Addr->Option Value}(u0:aT)(a:Int){b:Nat}(d:ro ⟨b,0,none⟩=some (.int .i64 a)){r:Bool}(h:qu u0 a=some r):aE Tryz.prog 82 #[jk u0,.pointer (some ⟨b,0,none⟩)] ⟨ro,[]⟩ (fun v _=>v= .bool r):=by
 unfold qu at h;refine aE.go Tryz.func82 rfl Tryz.ntmps82 Tryz.results82 an fun main J hJ A e hd hs=>?_;have f:=hs 0;have k1:=hs 1;clear hs;apply aB hJ _;refine bf fun g r1 n1=>?_;try simp only[aN] at n1
 try apply ag _
 apply aA hJ;revert h;refine bS fun x2 c h=>?_;obtain rfl:=sI h;apply ag _;refine bh hJ _ (sG u0 a c) (aJ ?_);try apply ag _
 apply aO;simp only[*,go_sem]
def qv (a:(bE->Option Bool))(i9:Nat)(b:bE)(st:Int):Option (Fl Int Int):=
 ai (a b) fun c=>cond (c) (some (.rt (i9:Int))) (some (.nx st))
def qw (u0:(List bE))(a:(bE->Option Bool)):Option Int:=
 ai (b7 (qv a) 0 u0 0) fun o=>az o (fun b=>some (-1)) (fun _ _=>none) (fun r=>some r)
theorem AH {ro:Addr->Option Value}(u0:(List bE)){s1:Value}(i:aH eo ro s1 u0)(e:(bE->Option Bool)){bQ:FuncId}{bY bZ:Array Value}(q:aI Tryz.prog bQ=true/\∀(aF:Addr->Option Value),Ext ro aF->∀(y0:bE) (z:Bool),e y0=some z->aE Tryz.prog bQ (bY++#[y0.v]++bZ) ⟨aF,[]⟩ (fun v _=>v= .bool z)){r:Int}(h:qw u0 e=some r):aE Tryz.prog 111 #[s1,.func (.func bQ) bY bZ] ⟨ro,[]⟩ (fun v _=>v= .int .i64 r):=by
 obtain ⟨d3,c4,rfl,N,s,-⟩:=id i;unfold qw at h;refine aE.go Tryz.func111 rfl Tryz.ntmps111 Tryz.results111 an fun main J hJ A t hd hs=>?_;have u:=hs 0;have k1:=hs 1;clear hs;apply aB hJ _;refine ah hJ (aA hJ ?_);apply ag _;apply aU hJ;revert h;refine bS fun w b j=>?_;refine bP hJ (rg 8 11 [4,5]) (fun m k F'=>∃(i9:Nat) (c:Int),m=u0.length - i9/\i9<=u0.length/\b7 (qv e) i9 (u0.drop i9) c=some w/\F'=⟨ro,[]⟩/\slot k 8= .int .i64 (i9:Int)/\slot k 4= .int .i64 c) u0.length ?_ ?_
 .refine ⟨0,0,(Nat.sub_zero _).symm,Nat.zero_le _,b,rfl,?_⟩;simp only[*,go_sem]
 rintro O P F' l ⟨i9,c,rfl,Q,b,rfl,R,S⟩;obtain ⟨y,B,C⟩:=l.pick [0,1,7] aL;simp only[*,go_sem] at y B C;clear l t hd u k1;apply aB hJ _;apply ah hJ;rcases Nat.lt_or_ge i9 u0.length with D|o
 .refine cO hJ ?_;apply aK hJ;obtain ⟨p,f⟩:∃x,u0[i9]?=some x:=⟨_,List.getElem?_eq_getElem D⟩
  rw[e4 f] at b;revert b;refine bS fun T h g=>?_;unfold qv at h;try dsimp only at h
  obtain ⟨U,E,F,G,d⟩:=i.el _ _ f;obtain rfl:E=p.cells:=G;cases F;have H:=d 0 _ rfl;simp only[go_sem] at H;have I:=d 1 _ rfl;simp only[go_sem] at I;have K:=d 2 _ rfl;simp only[go_sem] at K;clear d f;refine ah hJ (aU hJ (ah hJ ?_));apply aM hJ _;apply aA hJ;revert h;refine bS fun V L h=>?_;apply ag _;refine bh hJ _ (q.2 _ (fun a v h=>aY a v h) p _ L) ?_;try apply ag _
  revert h;refine aV hJ (fun M h=>?_) fun M h=>?_
  .obtain rfl:=sI h;apply aB hJ _;obtain rfl:=sI g;clear g;have h:=j;dsimp only[az] at h;obtain rfl:=sI h;apply aO;simp only[*,go_sem]
  obtain rfl:=sI h;apply aK hJ;have W:=dY (n:=i9) (by have:=s;omega);apply aM hJ _;refine ⟨u0.length - (i9+1),aa,_,Le.sub (List.Sublist.refl _),i9+1,c,rfl,aa,g,rfl,?_⟩;simp only[*,go_sem]
 have X:=Nat.not_lt.2 o;refine cE hJ ?_;rw[List.drop_eq_nil_of_le o] at b;obtain rfl:=sI b;clear b;have h:=j;dsimp only[az] at h;obtain rfl:=sI h;apply bJ;simp only[go_sem];apply aB hJ _;apply aO;simp only[*,go_sem]
def wm (a:(aS->Option Bool))(i9:Nat)(b:aS)(st:Int):Option (Fl Int Int):=
 ai (a b) fun c=>cond (c) (some (.rt (i9:Int))) (some (.nx st))
def wo (u0:(List aS))(a:(aS->Option Bool)):Option Int:=
 ai (b7 (wm a) 0 u0 0) fun o=>az o (fun b=>some (-1)) (fun _ _=>none) (fun r=>some r)
theorem Gx {ro:Addr->Option Value}(u0:(List aS)){s1:Value}(i:aH bK ro s1 u0)(e:(aS->Option Bool)){bQ:FuncId}{bY bZ:Array Value}(s:aI Tryz.prog bQ=true/\∀(aF:Addr->Option Value),Ext ro aF->∀(y0:aS) (j:Value) (z:Bool),aH eo aF j y0.marks->e y0=some z->aE Tryz.prog bQ (bY++#[jj y0 j]++bZ) ⟨aF,[]⟩ (fun v _=>v= .bool z)){r:Int}(h:wo u0 e=some r):aE Tryz.prog 157 #[s1,.func (.func bQ) bY bZ] ⟨ro,[]⟩ (fun v _=>v= .int .i64 r):=by
 obtain ⟨d3,c4,rfl,S,t,-⟩:=id i;unfold wo at h;refine aE.go Tryz.func157 rfl Tryz.ntmps157 Tryz.results157 an fun main J hJ A u hd hs=>?_;have w:=hs 0;have k1:=hs 1;clear hs;apply aB hJ _;refine ah hJ (aA hJ ?_);apply ag _;apply aU hJ;revert h;refine bS fun y c k=>?_;refine bP hJ (rg 8 11 [4,5]) (fun m l F'=>∃(i9:Nat) (d:Int),m=u0.length - i9/\i9<=u0.length/\b7 (wm e) i9 (u0.drop i9) d=some y/\F'=⟨ro,[]⟩/\slot l 8= .int .i64 (i9:Int)/\slot l 4= .int .i64 d) u0.length ?_ ?_
 .refine ⟨0,0,(Nat.sub_zero _).symm,Nat.zero_le _,c,rfl,?_⟩;simp only[*,go_sem]
 rintro T U F' o ⟨i9,d,rfl,V,c,rfl,W,X⟩;obtain ⟨B,C,D⟩:=o.pick [0,1,7] aL;simp only[*,go_sem] at B C D;clear o u hd w k1;apply aB hJ _;apply ah hJ;rcases Nat.lt_or_ge i9 u0.length with E|p
 .refine cO hJ ?_;apply aK hJ;obtain ⟨F,f⟩:∃x,u0[i9]?=some x:=⟨_,List.getElem?_eq_getElem E⟩
  rw[e4 f] at c;revert c;refine bS fun Y h g=>?_;unfold wm at h;try dsimp only at h
  obtain ⟨Z,ab,G,H,b⟩:=i.el _ _ f;obtain ⟨ad,rfl,q⟩:=H;obtain ⟨d18,ae,rfl,al,ao,ar⟩:=id q;cases G;have I:=b 0 _ rfl;simp only[go_sem] at I;have K:=b 1 _ rfl;simp only[go_sem] at K;have L:=b 2 _ rfl;simp only[go_sem] at L;have M:=b 3 _ rfl;simp only[go_sem] at M;have N:=b 4 _ rfl;simp only[go_sem] at N;have O:=b 5 _ rfl;simp only[go_sem] at O;have P:=b 6 _ rfl;simp only[go_sem] at P;clear b f;refine ah hJ (aU hJ (ah hJ ?_));apply aM hJ _;apply aA hJ;revert h;refine bS fun a0 Q h=>?_;apply ag _;refine bh hJ _ (s.2 _ (fun a v h=>aY a v h) F _ _ (q.mono aY) Q) ?_;try apply ag _
  revert h;refine aV hJ (fun R h=>?_) fun R h=>?_
  .obtain rfl:=sI h;apply aB hJ _;obtain rfl:=sI g;clear g;have h:=k;dsimp only[az] at h;obtain rfl:=sI h;apply aO;simp only[*,go_sem]
  obtain rfl:=sI h;apply aK hJ;have a2:=dY (n:=i9) (by have:=t;omega);apply aM hJ _;refine ⟨u0.length - (i9+1),aa,_,Le.sub (List.Sublist.refl _),i9+1,d,rfl,aa,g,rfl,?_⟩;simp only[*,go_sem]
 have a3:=Nat.not_lt.2 p;refine cE hJ ?_;rw[List.drop_eq_nil_of_le p] at c;obtain rfl:=sI c;clear c;have h:=k;dsimp only[az] at h;obtain rfl:=sI h;apply bJ;simp only[go_sem];apply aB hJ _;apply aO;simp only[*,go_sem]
def wq (u0:(List aS))(a:(aS->Option Bool)):Option Bool:=
 ai (wo u0 a) fun b=>some (decide (0<=b))
theorem Gz {ro:Addr->Option Value}(u0:(List aS)){s1:Value}(b:aH bK ro s1 u0)(a:(aS->Option Bool)){bQ:FuncId}{bY bZ:Array Value}(c:aI Tryz.prog bQ=true/\∀(aF:Addr->Option Value),Ext ro aF->∀(y0:aS) (d:Value) (z:Bool),aH eo aF d y0.marks->a y0=some z->aE Tryz.prog bQ (bY++#[jj y0 d]++bZ) ⟨aF,[]⟩ (fun v _=>v= .bool z)){r:Bool}(h:wq u0 a=some r):aE Tryz.prog 114 #[s1,.func (.func bQ) bY bZ] ⟨ro,[]⟩ (fun v _=>v= .bool r):=by
 obtain ⟨d3,c4,rfl,g,i,-⟩:=id b;unfold wq at h;refine aE.go Tryz.func114 rfl Tryz.ntmps114 Tryz.results114 an fun main J hJ A j hd hs=>?_;have k:=hs 0;have k1:=hs 1;clear hs;apply aB hJ _;apply aA hJ;revert h;refine bS fun l e h=>?_;obtain rfl:=sI h;apply ag _;refine bh hJ _ (Gx (bQ:=bQ) (bY:=bY) (bZ:=bZ) u0 (b.mono aY) a ⟨c.1,fun _ f=>c.2 _ (Ext.trans aY f)⟩ e) (aJ ?_);try apply ag _
 apply aO;simp only[*,go_sem]
def gW (u0:aP)(a:aP):Option Int:=
 cond ((u0.step != a.step)) (some (IntKind.i64.wrap (u0.step - a.step))) (some (IntKind.i64.wrap (u0.cL - a.cL)))
theorem AI {ro:Addr->Option Value}(u0:aP)(a:aP){r:Int}(h:gW u0 a=some r):aE Tryz.prog 118 #[.agg #[.int .i64 u0.step,.int .i64 u0.cL],.agg #[.int .i64 a.step,.int .i64 a.cL]] ⟨ro,[]⟩ (fun v _=>v= .int .i64 r):=by
 unfold gW at h;refine aE.go Tryz.func118 rfl Tryz.ntmps118 Tryz.results118 an fun main J hJ A d hd hs=>?_;have e:=hs 0;have k1:=hs 1;clear hs;apply aB hJ _;refine bf fun f r1 n1=>?_;try simp only[aN] at n1
 refine bf fun b2 r2 b=>?_;try simp only[aN] at b
 try apply ag _
 refine ah hJ (aA hJ ?_);apply ag _;revert h;refine aV hJ (fun c h=>?_) fun c h=>?_
 .obtain rfl:=sI h;apply aB hJ _;apply aO;simp only[*,go_sem]
 obtain rfl:=sI h;refine aK hJ (ah hJ ?_);apply aM hJ _;apply aO;simp only[*,go_sem]
def qx (u0:ax):Option Int:=
 ai (gh u0.steps 4 24) fun x9=>cond (!x9) (some 1) (ai (gh u0.aR 0 2) fun a=>cond (!a) (some 1) (ai (gh (u0.ak.length:Int) 1 4) fun b=>cond (!b) (some 2) (some 0)))
theorem GA {ro:Addr->Option Value}(u0:ax){s1:Value}(a:aH bK ro s1 u0.ak){r:Int}(h:qx u0=some r):aE Tryz.prog 243 #[cn u0 s1] ⟨ro,[]⟩ (fun v _=>v= .int .i64 r):=by
 obtain ⟨d3,c4,rfl,j,k,-⟩:=id a;unfold qx at h;refine aE.go Tryz.func243 rfl Tryz.ntmps243 Tryz.results243 an fun main J hJ A l hd hs=>?_;have m:=hs 0;clear hs;apply aB hJ _;refine bf fun n o b=>?_;try simp only[aN] at b
 try apply ag _
 refine ah hJ (aA hJ ?_);revert h;refine bS fun x9 c h=>?_;apply ag _;refine bh hJ _ (iz u0.steps 4 24 c) (aJ ?_);revert h;refine cS (fun d h=>?_) fun d h=>?_
 .obtain rfl:=sI h;try apply ag _
  refine cO hJ ?_;apply aB hJ _;apply aO;simp only[*,go_sem]
 revert h;refine bS fun p e h=>?_;try apply ag _
 refine bh hJ _ (iz u0.aR 0 2 e) (aJ ?_);try apply ag _
 revert h;refine aV hJ (fun f h=>?_) fun f h=>?_
 .obtain rfl:=sI h;apply aB hJ _;apply aO;simp only[*,go_sem]
 refine aK hJ (ah hJ ?_);apply aA hJ;revert h;refine bS fun q g h=>?_;apply ag _;refine bh hJ _ (iz (u0.ak.length:Int) 1 4 g) (aJ ?_);try apply ag _
 revert h;refine aV hJ (fun i h=>?_) fun i h=>?_
 .obtain rfl:=sI h;apply aB hJ _;apply aO;simp only[*,go_sem]
 obtain rfl:=sI h;refine aK hJ (ah hJ ?_);apply aM hJ _;apply aO;simp only[*,go_sem]
def qy (u0:(List bE))(a:(bE->Option Bool)):Option Bool:=
 ai (qw u0 a) fun b=>some (decide (0<=b))
theorem GB {ro:Addr->Option Value}(u0:(List bE)){s1:Value}(b:aH eo ro s1 u0)(a:(bE->Option Bool)){bQ:FuncId}{bY bZ:Array Value}(c:aI Tryz.prog bQ=true/\∀(aF:Addr->Option Value),Ext ro aF->∀(y0:bE) (z:Bool),a y0=some z->aE Tryz.prog bQ (bY++#[y0.v]++bZ) ⟨aF,[]⟩ (fun v _=>v= .bool z)){r:Bool}(h:qy u0 a=some r):aE Tryz.prog 248 #[s1,.func (.func bQ) bY bZ] ⟨ro,[]⟩ (fun v _=>v= .bool r):=by
 obtain ⟨d3,c4,rfl,f,g,-⟩:=id b;unfold qy at h;refine aE.go Tryz.func248 rfl Tryz.ntmps248 Tryz.results248 an fun main J hJ A i hd hs=>?_;have j:=hs 0;have k1:=hs 1;clear hs;apply aB hJ _;apply aA hJ;revert h;refine bS fun k d h=>?_;obtain rfl:=sI h;apply ag _;refine bh hJ _ (AH (bQ:=bQ) (bY:=bY) (bZ:=bZ) u0 (b.mono aY) a ⟨c.1,fun _ e=>c.2 _ (Ext.trans aY e)⟩ d) (aJ ?_);try apply ag _
 apply aO;simp only[*,go_sem]
def mh (u0:bE)(a:bE):Option Bool:=
 some (u0.bR==a.bR)
theorem GC {ro:Addr->Option Value}(u0:bE)(a:bE){b:Nat}(c:ro ⟨b,0,none⟩=some (.string ⟨⟨a.bR⟩⟩))(d:ro ⟨b,1,none⟩=some (.int .i64 a.e6))(e:ro ⟨b,2,none⟩=some (.int .i64 a.row)){r:Bool}(h:mh u0 a=some r):aE Tryz.prog 249 #[.agg #[.string ⟨⟨u0.bR⟩⟩,.int .i64 u0.e6,.int .i64 u0.row],.pointer (some ⟨b,0,none⟩)] ⟨ro,[]⟩ (fun v _=>v= .bool r):=by
 unfold mh at h;obtain rfl:=sI h;refine aE.go Tryz.func249 rfl Tryz.ntmps249 Tryz.results249 an fun main J hJ A f hd hs=>?_;have g:=hs 0;have k1:=hs 1;clear hs;apply aB hJ _;refine bf fun i r1 n1=>?_;try simp only[aN] at n1
 try apply ag _
 apply aB hJ _;apply aO;simp only[*,go_sem]
def qz (i10:Nat)(a:aS)(st:Int):Option (Fl Int Int):=
 some (.nx (IntKind.i64.wrap (st*(IntKind.i64.wrap ((IntKind.i64.wrap ((IntKind.i64.wrap (a.from_.high - a.from_.low))+1))*(IntKind.i64.wrap ((IntKind.i64.wrap (a.aD.high - a.aD.low))+1)))))))
def om (u0:ax):Option Int:=
 ai (b7 (qz) 0 u0.ak 1) fun o=>az o (fun a=>cond (decide (200<a)) (some 2) (some 0)) (fun _ _=>none) (fun r=>some r)
theorem GD {ro:Addr->Option Value}(u0:ax){s1:Value}(f:aH bK ro s1 u0.ak){r:Int}(h:om u0=some r):aE Tryz.prog 245 #[cn u0 s1] ⟨ro,[]⟩ (fun v _=>v= .int .i64 r):=by
 obtain ⟨d3,c4,rfl,P,k,-⟩:=id f;unfold om at h;refine aE.go Tryz.func245 rfl Tryz.ntmps245 Tryz.results245 an fun main J hJ A l hd hs=>?_;have o:=hs 0;clear hs;apply aB hJ _;refine bf fun p Q q=>?_;try simp only[aN] at q
 try apply ag _
 apply aB hJ _;refine ah hJ (aA hJ ?_);apply ag _;apply aU hJ;revert h;refine bS fun s b t=>?_;refine bP hJ (rg 10 24 [3,5]) (fun m g F'=>∃(i10:Nat) (c:Int),m=u0.ak.length - i10/\i10<=u0.ak.length/\b7 (qz) i10 (u0.ak.drop i10) c=some s/\F'=⟨ro,(p,dM u0 (sl d3 u0.ak c4))::[]⟩/\slot g 10= .int .i64 (i10:Int)/\slot g 3= .int .i64 c) u0.ak.length ?_ ?_
 .refine ⟨0,1,(Nat.sub_zero _).symm,Nat.zero_le _,b,rfl,?_⟩;simp only[*,go_sem]
 rintro R S F' i ⟨i10,c,rfl,T,b,rfl,U,V⟩;obtain ⟨u,w,y⟩:=i.pick [2,8,9] aL;simp only[*,go_sem] at u w y;clear i l hd o;apply aB hJ _;apply ah hJ;rcases Nat.lt_or_ge i10 u0.ak.length with z|j
 .refine cO hJ ?_;apply aK hJ;obtain ⟨d,e⟩:∃x,u0.ak[i10]?=some x:=⟨_,List.getElem?_eq_getElem z⟩
  rw[e4 e] at b;revert b;refine bS fun W h B=>?_;unfold qz at h;try dsimp only at h
  obtain rfl:=sI h;obtain ⟨X,Y,C,D,a⟩:=f.el _ _ e;obtain ⟨Z,rfl,E⟩:=D;obtain ⟨d19,ab,rfl,ad,ae,al⟩:=id E;cases C;have F:=a 0 _ rfl;simp only[go_sem] at F;have G:=a 1 _ rfl;simp only[go_sem] at G;have H:=a 2 _ rfl;simp only[go_sem] at H;have I:=a 3 _ rfl;simp only[go_sem] at I;have K:=a 4 _ rfl;simp only[go_sem] at K;have L:=a 5 _ rfl;simp only[go_sem] at L;have M:=a 6 _ rfl;simp only[go_sem] at M;clear a e;refine ah hJ (aU hJ (ah hJ ?_));apply aM hJ _;refine bf fun ao ar N=>?_;try simp only[aN] at N
  try apply ag _
  apply aM hJ _;have a0:=dY (n:=i10) (by have:=k;omega);apply aM hJ _;refine ⟨u0.ak.length - (i10+1),aa,_,Le.sub (List.Sublist.cons _ (List.Sublist.refl _)),i10+1,(IntKind.i64.wrap (c*(IntKind.i64.wrap ((IntKind.i64.wrap ((IntKind.i64.wrap (d.from_.high - d.from_.low))+1))*(IntKind.i64.wrap ((IntKind.i64.wrap (d.aD.high - d.aD.low))+1)))))),rfl,aa,B,rfl,?_⟩;simp only[*,go_sem]
 have a2:=Nat.not_lt.2 j;refine cE hJ ?_;rw[List.drop_eq_nil_of_le j] at b;obtain rfl:=sI b;clear b;have h:=t;dsimp only[az] at h;apply bJ;simp only[go_sem];refine ah hJ (aA hJ ?_);apply ag _;revert h;refine aV hJ (fun O h=>?_) fun O h=>?_
 .obtain rfl:=sI h;apply aB hJ _;apply aO;simp only[*,go_sem]
 obtain rfl:=sI h;refine aK hJ (ah hJ ?_);apply aM hJ _;apply aO;simp only[*,go_sem]
def qA (b:aS)(i43:Nat)(a:bE)(st:Int):Option (Fl Int Int):=
 ai (n8 a.bR) fun c=>cond (!c) (some (.rt 4)) (ai (lU b.marks 0 (i43:Int)) fun d=>ai (qy d (fun y0=>mh y0 a)) fun e=>cond (e) (some (.rt 5)) (ai (gh a.e6 0 (IntKind.i64.wrap (b.wide - 1))) fun f=>cond (!f) (some (.rt 1)) (ai (gh a.row (-9) 9) fun g=>cond (!g) (some (.rt 1)) (some (.nx st)))))
def qB (u0:ax)(i12:Nat)(a:aS)(st:(Int×(List ((List UInt8)×Bool)))):Option (Fl (Int×(List ((List UInt8)×Bool))) Int):=
 ai (n8 a.name) fun b=>cond (!b) (some (.rt 4)) (cond (((cI st.2 a.name).getD false)) (some (.rt 5)) (ai (n6 a.from_ 0 (IntKind.i64.wrap (u0.steps - 1)) 3) fun c=>cond (!c) (some (.rt 1)) (ai (gh a.wide 1 u0.steps) fun d=>cond (!d) (some (.rt 1)) (ai (n6 a.aD (-3) 3 3) fun e=>cond (!e) (some (.rt 1)) (cond (decide (4<(a.marks.length:Int))) (some (.rt 2)) (ai (b7 (qA a) 0 a.marks st.1) fun o=>az o (fun f=>some (.nx (f,(cF st.2 a.name true)))) (fun _ _=>none) (fun r=>some (.rt r))))))))
def oo (u0:ax):Option Int:=
 ai (b7 (qB u0) 0 u0.ak (0,([]:(List ((List UInt8)×Bool))))) fun o=>az o (fun a=>some 0) (fun _ _=>none) (fun r=>some r)
theorem GF {ro:Addr->Option Value}(u0:ax){s1:Value}(w:aH bK ro s1 u0.ak){r:Int}(h:oo u0=some r):aE Tryz.prog 244 #[cn u0 s1] ⟨ro,[]⟩ (fun v _=>v= .int .i64 r):=by
 obtain ⟨d3,c4,rfl,dv,N,-⟩:=id w;unfold oo at h;refine aE.go Tryz.func244 rfl Tryz.ntmps244 Tryz.results244 an fun main J hJ A O hd hs=>?_;have P:=hs 0;clear hs;apply aB hJ _;refine bf fun y dC Q=>?_;try simp only[aN] at Q
 try apply ag _
 apply aB hJ _;refine F9 fun z f9=>?_;have dE:=cT f9;have R:=cY f9;try simp only[aN] at R
 apply aJ;try apply ag _
 refine ah hJ (aA hJ ?_);apply ag _;apply aU hJ;revert h;refine bS fun S f c=>?_;refine bP hJ (rg 13 82 [2,5,6,7]) (fun m j F'=>∃(i12:Nat) (v10:Int) (v11:(List ((List UInt8)×Bool))),m=u0.ak.length - i12/\i12<=u0.ak.length/\b7 (qB u0) i12 (u0.ak.drop i12) (v10,v11)=some S/\F'=⟨ro,(z,n5 v11)::(y,dM u0 (sl d3 u0.ak c4))::[]⟩/\slot j 13= .int .i64 (i12:Int)/\slot j 2= .int .i64 v10) u0.ak.length ?_ ?_
 .refine ⟨0,0,([]:(List ((List UInt8)×Bool))),(Nat.sub_zero _).symm,Nat.zero_le _,f,rfl,?_⟩;simp only[*,go_sem]
 rintro dT T F' B ⟨i12,v10,v11,rfl,ea,f,rfl,U,V⟩;obtain ⟨C,D,E⟩:=B.pick [1,3,11,12] aL;simp only[*,go_sem] at C D E;clear B O hd P;apply aB hJ _;apply ah hJ;rcases Nat.lt_or_ge i12 u0.ak.length with W|F
 .refine cO hJ ?_;apply aK hJ;obtain ⟨b,q⟩:∃x,u0.ak[i12]?=some x:=⟨_,List.getElem?_eq_getElem W⟩
  rw[e4 q] at f;revert f;refine bS fun eb h a=>?_;unfold qB at h;try dsimp only at h
  obtain ⟨X,ec,Y,Z,e⟩:=w.el _ _ q;obtain ⟨ed,rfl,G⟩:=Z;obtain ⟨d21,H,rfl,eh,ab,ad⟩:=id G;cases Y;have ae:=e 0 _ rfl;simp only[go_sem] at ae;have al:=e 1 _ rfl;simp only[go_sem] at al;have ao:=e 2 _ rfl;simp only[go_sem] at ao;have ar:=e 3 _ rfl;simp only[go_sem] at ar;have a0:=e 4 _ rfl;simp only[go_sem] at a0;have a2:=e 5 _ rfl;simp only[go_sem] at a2;have a3:=e 6 _ rfl;simp only[go_sem] at a3;clear e q;refine ah hJ (aU hJ (ah hJ ?_));apply aM hJ _;refine bf fun a4 et a5=>?_;try simp only[aN] at a5
  try apply ag _
  refine ah hJ (aU hJ (ah hJ ?_));apply aG hJ;revert h;refine bS fun ev a6 h=>?_;apply ag _;refine bh hJ _ (AE b.name a6) (aJ ?_);try apply ag _
  revert h;refine aV hJ (fun a7 h=>?_) fun a7 h=>?_
  .obtain rfl:=sI h;apply aB hJ _;obtain rfl:=sI a;clear a;have h:=c;dsimp only[az] at h;obtain rfl:=sI h;apply aO;simp only[*,go_sem]
  apply aB hJ _;refine Ga (l:=v11) bx ?_;try apply aJ
  try apply ag _
  revert h;refine aV hJ (fun a8 h=>?_) fun a8 h=>?_
  .obtain rfl:=sI h;apply aB hJ _;obtain rfl:=sI a;clear a;have h:=c;dsimp only[az] at h;obtain rfl:=sI h;apply aO;simp only[*,go_sem]
  apply aA hJ;revert h;refine bS fun eQ a9 h=>?_;apply ag _;refine bh hJ _ (AB b.from_ 0 (IntKind.i64.wrap (u0.steps - 1)) 3 a9) (aJ ?_);revert h;refine cS (fun ba h=>?_) fun ba h=>?_
  .obtain rfl:=sI h;(try apply ag _);refine cO hJ ?_;apply aB hJ _;obtain rfl:=sI a;clear a;have h:=c;dsimp only[az] at h;obtain rfl:=sI h;apply aO;simp only[*,go_sem]
  revert h;refine bS fun eS bb h=>?_;try apply ag _
  refine bh hJ _ (iz b.wide 1 u0.steps bb) (aJ ?_);revert h;refine cS (fun bc h=>?_) fun bc h=>?_
  .obtain rfl:=sI h;(try apply ag _);refine cO hJ ?_;apply aB hJ _;obtain rfl:=sI a;clear a;have h:=c;dsimp only[az] at h;obtain rfl:=sI h;apply aO;simp only[*,go_sem]
  revert h;refine bS fun e0 bd h=>?_;try apply ag _
  refine bh hJ _ (AB b.aD (-3) 3 3 bd) (aJ ?_);try apply ag _
  revert h;refine aV hJ (fun bj h=>?_) fun bj h=>?_
  .obtain rfl:=sI h;apply aB hJ _;obtain rfl:=sI a;clear a;have h:=c;dsimp only[az] at h;obtain rfl:=sI h;apply aO;simp only[*,go_sem]
  apply aB hJ _;revert h;refine aV hJ (fun bk h=>?_) fun bk h=>?_
  .obtain rfl:=sI h;apply aB hJ _;obtain rfl:=sI a;clear a;have h:=c;dsimp only[az] at h;obtain rfl:=sI h;apply aO;simp only[*,go_sem]
  refine aK hJ (ah hJ ?_);apply aM hJ _;refine Gb (l:=v11) (v:=true) bx ?_;try apply aJ
  try apply ag _
  apply aB hJ _;apply aU hJ;revert h;refine bS fun bm g k=>?_;refine bP hJ (rg 62 32 [2,6,7]) (fun m j F'=>∃(i43:Nat) (o:Int),m=b.marks.length - i43/\i43<=b.marks.length/\b7 (qA b) i43 (b.marks.drop i43) o=some bm/\F'=⟨ro,(a4,de b (sl d21 b.marks H))::(z,n5 (cF v11 b.name true))::(y,dM u0 (sl (some X) u0.ak c4))::[]⟩/\slot j 62= .int .i64 (i43:Int)/\slot j 2= .int .i64 o) b.marks.length ?_ ?_
  .refine ⟨0,v10,(Nat.sub_zero _).symm,Nat.zero_le _,g,rfl,?_⟩;simp only[*,go_sem]
  rintro m2 bo F' s ⟨i43,o,rfl,e1,g,rfl,e2,e3⟩;obtain ⟨br,bs,b0⟩:=s.pick [1,3,5,11,12,13,14,16,17,18,19,20,21,22,23,24,25,26,27,28,29,30,31,32,33,34,35,36,37,38,39,40,41,42,43,44,45,46,47,48,49,50,51,52,53,54,55,56,57,58,59,60,61] aL;simp only[*,go_sem] at br bs b0;have fa:cj (rg 13 82 [2,5,6,7]) bo T:=(s.eC aL).trans bx;clear s C D E V U;apply aB hJ _;apply ah hJ;rcases Nat.lt_or_ge i43 b.marks.length with b1|I
  .refine cO hJ ?_;apply aK hJ;obtain ⟨i,t⟩:∃x,b.marks[i43]?=some x:=⟨_,List.getElem?_eq_getElem b1⟩
   rw[e4 t] at g;revert g;refine bS fun fb h d=>?_;unfold qA at h;(try dsimp only at h);obtain ⟨fc,b2,b3,b4,p⟩:=ad _ _ t;obtain rfl:b2=i.cells:=b4;cases b3;have ca:=p 0 _ rfl;simp only[go_sem] at ca;have cb:=p 1 _ rfl;simp only[go_sem] at cb;have cc:=p 2 _ rfl;simp only[go_sem] at cc;clear p t;refine ah hJ (aU hJ (ah hJ ?_));apply aM hJ _;refine bf fun cd fg cf=>?_;try simp only[aN] at cf
   (try apply ag _);refine aU hJ (ah hJ ?_);apply aG hJ;revert h;refine bS fun fh ck h=>?_;apply ag _;refine bh hJ _ (AE i.bR ck) (aJ ?_);(try apply ag _);revert h;refine aV hJ (fun cl h=>?_) fun cl h=>?_
   .obtain rfl:=sI h;apply aB hJ _;obtain rfl:=sI d;clear d;have h:=k;dsimp only[az] at h;obtain rfl:=sI h;obtain rfl:=sI a;clear a;have h:=c;dsimp only[az] at h;obtain rfl:=sI h;apply aO;simp only[*,go_sem]
   apply aA hJ;revert h;refine bS fun cv cy h=>?_;obtain ⟨fi,fj,fl,K⟩:=zS cy;have L:(0:Int).toNat<=((i43:Int)).toNat:=aa;have c0:((i43:Int)).toNat<=H:=aa;have fp:0<=((i43:Int)):=aa;obtain ⟨d56,da,db,M⟩:=aH.zU G (0:Int).toNat ((i43:Int)).toNat L aa K;simp only[go_sem] at da db L c0;obtain ⟨_,_,dd,fr,fs,ft⟩:=id M;cases dd;clear K;revert h;refine bS fun fu df h=>?_;(try apply ag _);refine bh hJ _ (GB (bQ:=249) (bY:=#[]) (bZ:=#[.pointer (some ⟨cd,0,none⟩)]) cv (M.mono aY) (fun y0=>mh y0 i) ⟨by simp only[go_sem],fun fv u y0 fw dk=>by simp only[go_sem];exact GC y0 i (u _ _ (by simp only[af.dQ,go_sem, *])) (u _ _ (by simp only[af.dQ,go_sem, *])) (u _ _ (by simp only[af.dQ,go_sem, *])) dk⟩ df) (aJ ?_);(try apply ag _);revert h;refine aV hJ (fun dp h=>?_) fun dp h=>?_
   .obtain rfl:=sI h;apply aB hJ _;obtain rfl:=sI d;clear d;have h:=k;dsimp only[az] at h;obtain rfl:=sI h;obtain rfl:=sI a;clear a;have h:=c;dsimp only[az] at h;obtain rfl:=sI h;apply aO;simp only[*,go_sem]
   apply aA hJ;revert h;refine bS fun fx dq h=>?_;apply ag _;refine bh hJ _ (iz i.e6 0 (IntKind.i64.wrap (b.wide - 1)) dq) (aJ ?_);revert h;refine cS (fun ds h=>?_) fun ds h=>?_
   .obtain rfl:=sI h;(try apply ag _);refine cO hJ ?_;apply aB hJ _;obtain rfl:=sI d;clear d;have h:=k;dsimp only[az] at h;obtain rfl:=sI h;obtain rfl:=sI a;clear a;have h:=c;dsimp only[az] at h;obtain rfl:=sI h;apply aO;simp only[*,go_sem]
   revert h;refine bS fun fz dt h=>?_;(try apply ag _);refine bh hJ _ (iz i.row (-9) 9 dt) (aJ ?_);(try apply ag _);revert h;refine aV hJ (fun du h=>?_) fun du h=>?_
   .obtain rfl:=sI h;apply aB hJ _;obtain rfl:=sI d;clear d;have h:=k;dsimp only[az] at h;obtain rfl:=sI h;obtain rfl:=sI a;clear a;have h:=c;dsimp only[az] at h;obtain rfl:=sI h;apply aO;simp only[*,go_sem]
   obtain rfl:=sI h;apply aK hJ;have gg:=dY (n:=i43) (by have:=ab;omega);apply aM hJ _;refine ⟨b.marks.length - (i43+1),aa,_,Le.sub (List.Sublist.cons _ (List.Sublist.refl _)),i43+1,o,rfl,aa,d,rfl,?_⟩;simp only[*,go_sem]
  have gj:=Nat.not_lt.2 I;refine cE hJ ?_;rw[List.drop_eq_nil_of_le I] at g;obtain rfl:=sI g;clear g;have h:=k;dsimp only[az] at h;obtain rfl:=sI h;apply bJ;simp only[go_sem];have gl:=dY (n:=i12) (by have:=N;omega);apply aM hJ _;refine ⟨u0.ak.length - (i12+1),aa,_,Le.sub (List.Sublist.cons _ (List.Sublist.refl _)),i12+1,o,(cF v11 b.name true),rfl,aa,a,rfl,?_⟩;simp only[*,go_sem]
 have gn:=Nat.not_lt.2 F;refine cE hJ ?_;rw[List.drop_eq_nil_of_le F] at f;obtain rfl:=sI f;clear f;have h:=c;dsimp only[az] at h;obtain rfl:=sI h;apply bJ;simp only[go_sem];apply aB hJ _;apply aO;simp only[*,go_sem]
def oq (u0:ax)(c:aT)(i13:Nat)(i34:Nat)(a:bE)(st:(Bool×(List ((List UInt8)×aP)))):Option (Fl (Bool×(List ((List UInt8)×aP))) Bool):=
 ai (l9 u0 c (i13:Int) a) fun b=>cond (((cI st.2 a.bR).isSome)) (cond (!(((((cI st.2 a.bR).getD (⟨0,0⟩:aP)).step)==b.step)&&((((cI st.2 a.bR).getD (⟨0,0⟩:aP)).cL)==b.cL))) (some (.rt false)) (some (.nx (st.1,(cF st.2 a.bR b))))) (some (.nx (st.1,(cF st.2 a.bR b))))
def kT (u0:ax)(a:aT)(i13:Nat)(c:aS)(st:(Bool×(List ((List UInt8)×aP)))):Option (Fl (Bool×(List ((List UInt8)×aP))) Bool):=
 ai (jM a (i13:Int)) fun d=>cond (d) (some (.nx (st.1,st.2))) (ai (b7 (oq u0 a i13) 0 c.marks (st.1,st.2)) fun o=>az o (fun b=>some (.nx (b.1,b.2))) (fun _ _=>none) (fun r=>some (.rt r)))
def jm (u0:ax)(a:aT):Option Bool:=
 ai (b7 (kT u0 a) 0 u0.ak (false,([]:(List ((List UInt8)×aP))))) fun o=>az o (fun b=>some true) (fun _ _=>none) (fun r=>some r)
theorem AJ {ro:Addr->Option Value}(u0:ax){s1:Value}(t:aH bK ro s1 u0.ak)(c:aT){r:Bool}(h:jm u0 c=some r):aE Tryz.prog 133 #[cn u0 s1,jk c] ⟨ro,[]⟩ (fun v _=>v= .bool r):=by
 obtain ⟨d3,c4,rfl,ck,z,-⟩:=id t;unfold jm at h;refine aE.go Tryz.func133 rfl Tryz.ntmps133 Tryz.results133 an fun main J hJ A O hd hs=>?_;have P:=hs 0;have k1:=hs 1;clear hs;apply aB hJ _;refine bf fun B cl Q=>?_;try simp only[aN] at Q
 refine bf fun C cv R=>?_;try simp only[aN] at R
 try apply ag _
 apply aB hJ _;refine F7 fun D f10=>?_;have cy:=cT f10;have S:=cY f10;try simp only[aN] at S
 apply aJ;try apply ag _
 refine ah hJ (aA hJ ?_);apply ag _;apply aU hJ;revert h;refine bS fun T e E=>?_;refine bP hJ (rg 18 39 [4,6,7,9,10,11,12]) (fun m i F'=>∃(i13:Nat) (v11:Bool) (j:(List ((List UInt8)×aP))),m=u0.ak.length - i13/\i13<=u0.ak.length/\b7 (kT u0 c) i13 (u0.ak.drop i13) (v11,j)=some T/\F'=⟨ro,(D,n4 j)::(C,gw c)::(B,dM u0 (sl d3 u0.ak c4))::[]⟩/\slot i 18= .int .i64 (i13:Int)/\slot i 4= .bool v11) u0.ak.length ?_ ?_
 .refine ⟨0,false,([]:(List ((List UInt8)×aP))),(Nat.sub_zero _).symm,Nat.zero_le _,e,rfl,?_⟩;simp only[*,go_sem]
 rintro c0 U F' F ⟨i13,v11,j,rfl,da,e,rfl,V,W⟩;obtain ⟨G,H,I⟩:=F.pick [2,3,5,16,17] aL;simp only[*,go_sem] at G H I;clear F O hd P k1;apply aB hJ _;apply ah hJ;rcases Nat.lt_or_ge i13 u0.ak.length with X|K
 .refine cO hJ ?_;apply aK hJ;obtain ⟨a,u⟩:∃x,u0.ak[i13]?=some x:=⟨_,List.getElem?_eq_getElem X⟩
  rw[e4 u] at e;revert e;refine bS fun db h k=>?_;unfold kT at h;try dsimp only at h
  obtain ⟨Y,dd,Z,ab,d⟩:=t.el _ _ u;obtain ⟨df,rfl,ad⟩:=ab;obtain ⟨d22,ae,rfl,dk,L,al⟩:=id ad;cases Z;have ao:=d 0 _ rfl;simp only[go_sem] at ao;have ar:=d 1 _ rfl;simp only[go_sem] at ar;have a0:=d 2 _ rfl;simp only[go_sem] at a0;have a2:=d 3 _ rfl;simp only[go_sem] at a2;have a3:=d 4 _ rfl;simp only[go_sem] at a3;have a4:=d 5 _ rfl;simp only[go_sem] at a4;have a5:=d 6 _ rfl;simp only[go_sem] at a5;clear d u;refine ah hJ (aU hJ (ah hJ ?_));apply aM hJ _;refine bf fun a6 dp a7=>?_;try simp only[aN] at a7
  try apply ag _
  refine ah hJ (aA hJ ?_);revert h;refine bS fun dq a8 h=>?_;apply ag _;refine bh hJ _ (sG c (i13:Int) a8) ?_;try apply ag _
  revert h;refine aV hJ (fun a9 h=>?_) fun a9 h=>?_
  .obtain rfl:=sI h;apply bJ;simp only[go_sem];have ba:=dY (n:=i13) (by have:=z;omega);apply aM hJ _;refine ⟨u0.ak.length - (i13+1),aa,_,Le.sub (List.Sublist.cons _ (List.Sublist.refl _)),i13+1,v11,j,rfl,aa,k,rfl,?_⟩;simp only[*,go_sem]
  refine aK hJ (ah hJ ?_);apply aM hJ _;apply aU hJ;revert h;refine bS fun bb f M=>?_;refine bP hJ (rg 29 27 [4,9,10,11,12]) (fun m i F'=>∃(i34:Nat) (g:Bool) (b:(List ((List UInt8)×aP))),m=a.marks.length - i34/\i34<=a.marks.length/\b7 (oq u0 c i13) i34 (a.marks.drop i34) (g,b)=some bb/\F'=⟨ro,(a6,de a (sl d22 a.marks ae))::(D,n4 b)::(C,gw c)::(B,dM u0 (sl (some Y) u0.ak c4))::[]⟩/\slot i 29= .int .i64 (i34:Int)/\slot i 4= .bool g) a.marks.length ?_ ?_
  .refine ⟨0,v11,j,(Nat.sub_zero _).symm,Nat.zero_le _,f,rfl,?_⟩;simp only[*,go_sem]
  rintro m2 bc F' w ⟨i34,g,b,rfl,ds,f,rfl,dt,du⟩;obtain ⟨bd,bj,bk⟩:=w.pick [2,3,5,6,7,16,17,18,19,20,22,23,24,25,26,27,28] aL;simp only[*,go_sem] at bd bj bk;have dv:cj (rg 18 39 [4,6,7,9,10,11,12]) bc U:=(w.eC aL).trans bx;clear w G H I W V;apply aB hJ _;apply ah hJ;rcases Nat.lt_or_ge i34 a.marks.length with bm|N
  .refine cO hJ ?_;apply aK hJ;obtain ⟨o,y⟩:∃x,a.marks[i34]?=some x:=⟨_,List.getElem?_eq_getElem bm⟩
   rw[e4 y] at f;revert f;refine bS fun dC h p=>?_;unfold oq at h;(try dsimp only at h);obtain ⟨dE,bo,br,bs,q⟩:=al _ _ y;obtain rfl:bo=o.cells:=bs;cases br;have b0:=q 0 _ rfl;simp only[go_sem] at b0;have b1:=q 1 _ rfl;simp only[go_sem] at b1;have b2:=q 2 _ rfl;simp only[go_sem] at b2;clear q y;refine ah hJ (aU hJ (ah hJ ?_));apply aM hJ _;refine bf fun dT ea b3=>?_;try simp only[aN] at b3
   (try apply ag _);apply aA hJ;revert h;refine bS fun s b4 h=>?_;apply ag _;refine bh hJ _ (v9 u0 (t.mono aY) c (i13:Int) o b4) (aJ ?_);(try apply ag _);refine bf fun eb ec ca=>?_;try simp only[aN] at ca
   (try apply ag _);refine ah hJ (aA hJ ?_);apply ag _;refine F8 (l:=b) bx ?_;(try apply aJ);(try apply ag _);refine bf fun ed eh cb=>?_;try simp only[aN] at cb
   (try apply ag _);apply aA hJ;revert h;refine cS (fun cc h=>?_) fun cc h=>?_
   ·(try apply ag _);revert h;refine aV hJ (fun cd h=>?_) fun cd h=>?_
    .obtain rfl:=sI h;apply aB hJ _;obtain rfl:=sI p;clear p;have h:=M;dsimp only[az] at h;obtain rfl:=sI h;obtain rfl:=sI k;clear k;have h:=E;dsimp only[az] at h;obtain rfl:=sI h;apply aO;simp only[*,go_sem]
    obtain rfl:=sI h;refine aK hJ (aG hJ ?_);apply ag _;refine AA (l:=b) (v:=s) bx ?_;(try apply aJ);(try apply ag _);have cf:=dY (n:=i34) (by have:=L;omega);apply aM hJ _;refine ⟨a.marks.length - (i34+1),aa,_,Le.sub (List.Sublist.cons _ (List.Sublist.cons _ (List.Sublist.cons _ (List.Sublist.refl _)))),i34+1,g,(cF b o.bR s),rfl,aa,p,rfl,?_⟩;simp only[*,go_sem]
   obtain rfl:=sI h;(try apply ag _);refine cE hJ ?_;refine aK hJ (aG hJ ?_);apply ag _;refine AA (l:=b) (v:=s) bx ?_;(try apply aJ);(try apply ag _);have cf:=dY (n:=i34) (by have:=L;omega);apply aM hJ _;refine ⟨a.marks.length - (i34+1),aa,_,Le.sub (List.Sublist.cons _ (List.Sublist.cons _ (List.Sublist.cons _ (List.Sublist.refl _)))),i34+1,g,(cF b o.bR s),rfl,aa,p,rfl,?_⟩;simp only[*,go_sem]
  have et:=Nat.not_lt.2 N;refine cE hJ ?_;rw[List.drop_eq_nil_of_le N] at f;obtain rfl:=sI f;clear f;have h:=M;dsimp only[az] at h;obtain rfl:=sI h;apply bJ;simp only[go_sem];have ba:=dY (n:=i13) (by have:=z;omega);apply aM hJ _;refine ⟨u0.ak.length - (i13+1),aa,_,Le.sub (List.Sublist.cons _ (List.Sublist.refl _)),i13+1,g,b,rfl,aa,k,rfl,?_⟩;simp only[*,go_sem]
 have ev:=Nat.not_lt.2 K;refine cE hJ ?_;rw[List.drop_eq_nil_of_le K] at e;obtain rfl:=sI e;clear e;have h:=E;dsimp only[az] at h;obtain rfl:=sI h;apply bJ;simp only[go_sem];apply aB hJ _;apply aO;simp only[*,go_sem]
def dw (ro:Addr->Option Value):Prop:=
 ro ⟨0,0,none⟩=some (.func (.func 243) #[] #[])/\ro ⟨0,1,none⟩=some (.func (.func 244) #[] #[])/\ro ⟨0,2,none⟩=some (.func (.func 245) #[] #[])
theorem dw.mono {ro aF:Addr->Option Value}(h:dw ro)(a:Ext ro aF):dw aF:=by
 obtain ⟨b,c,d⟩:=h;exact ⟨a _ _ b,a _ _ c,a _ _ d⟩
def sM (_:ax):Option Int:=some 0
def sN (b:ax):Option Int:=ai (om b) fun x=>cond (x != 0) (some x) (sM b)
def sO (b:ax):Option Int:=ai (oo b) fun x=>cond (x != 0) (some x) (sN b)
def wu (b:ax):Option Int:=ai (qx b) fun x=>cond (x != 0) (some x) (sO b)
def ef (b:ax):Option Int:=wu b
def sP:Nat->ax->Option Int
 |0=>wu|1=>sO|2=>sN|_=>sM
theorem kU {ro:Addr->Option Value}(f:dw ro)(u0:ax){s1:Value}(d:aH bK ro s1 u0.ak){r:Int}(h:ef u0=some r):
  aE Tryz.prog 92 #[.agg #[.int .i64 u0.steps,.int .i64 u0.aR,s1]] ⟨ro,[]⟩ (fun v _=>v= .int .i64 r):=by
 obtain ⟨k,l,n⟩:=f
 have g:=d.oc;simp only[dP] at g
 replace h:sP 0 u0=some r:=h
 refine aE.go Tryz.func92 rfl Tryz.ntmps92 Tryz.results92 an fun main J hJ A j hd hs=>?_
 have o:=hs 0
 clear hs
 first|refine aG hJ ?_|refine aA hJ ?_|refine ah hJ (aA hJ ?_)|refine ah hJ (ah hJ (aA hJ ?_))
 apply ag _
 intro b f1;have r1:=cT f1;have n1:=cY f1;simp only[aN] at n1
 first|refine aG hJ ?_|refine aA hJ ?_|refine ah hJ (aA hJ ?_)|refine ah hJ (ah hJ (aA hJ ?_))
 apply ag _
 first|refine aU hJ (vn hJ (fun m a F=>∃i:Nat,F=⟨ro,[(b,.cells #[.int .i64 u0.steps,.int .i64 u0.aR,s1] 24)]⟩/\m=3 - i/\sz a=18/\a.defers=[]/\slot a 1= .pointer (some ⟨b,0,none⟩)/\slot a 6= .agg #[.func (.func 243) #[] #[],.func (.func 244) #[] #[],.func (.func 245) #[] #[]]/\slot a 7= .int .i64 (i:Int)/\i<=3/\sP i u0=some r) (3) ?_ ?_)|refine ah hJ (aU hJ (vn hJ (fun m a F=>∃i:Nat,F=⟨ro,[(b,.cells #[.int .i64 u0.steps,.int .i64 u0.aR,s1] 24)]⟩/\m=3 - i/\sz a=18/\a.defers=[]/\slot a 1= .pointer (some ⟨b,0,none⟩)/\slot a 6= .agg #[.func (.func 243) #[] #[],.func (.func 244) #[] #[],.func (.func 245) #[] #[]]/\slot a 7= .int .i64 (i:Int)/\i<=3/\sP i u0=some r) (3) ?_ ?_))|refine ah hJ (ah hJ (aU hJ (vn hJ (fun m a F=>∃i:Nat,F=⟨ro,[(b,.cells #[.int .i64 u0.steps,.int .i64 u0.aR,s1] 24)]⟩/\m=3 - i/\sz a=18/\a.defers=[]/\slot a 1= .pointer (some ⟨b,0,none⟩)/\slot a 6= .agg #[.func (.func 243) #[] #[],.func (.func 244) #[] #[],.func (.func 245) #[] #[]]/\slot a 7= .int .i64 (i:Int)/\i<=3/\sP i u0=some r) (3) ?_ ?_)))
 .refine ⟨0,rfl,rfl,?_⟩
  apply bu _
  first|exact ⟨Nat.zero_le _,h⟩|exact h
 .clear h
  rintro m a F ⟨i,rfl,rfl,j,hd,p,s,t,hi,h⟩
  rcases i with _|_|_|i
  .replace h:ai (qx u0) (fun x=>cond (x != 0) (some x) (sO u0))=some r:=h
   have h':=eu h;clear h;obtain ⟨x,q,h⟩:=h'
   have e:((0:Nat):Int)=0:=rfl
   first|refine aG hJ ?_|refine aA hJ ?_|refine ah hJ (aA hJ ?_)|refine ah hJ (ah hJ (aA hJ ?_))
   apply bu _
   apply ah hJ
   refine dn hJ dz ?_
   apply aK hJ
   refine ah hJ (aU hJ ?_)
   first|refine aG hJ ?_|refine aA hJ ?_|refine ah hJ (aA hJ ?_)|refine ah hJ (ah hJ (aA hJ ?_))
   apply bu _
   first|refine aG hJ ?_|refine aA hJ ?_|refine ah hJ (aA hJ ?_)|refine ah hJ (ah hJ (aA hJ ?_))
   apply bu _
   refine bh hJ _ (GA u0 (d.mono aY) q) (aJ ?_)
   apply bu _
   first|refine aG hJ ?_|refine aA hJ ?_|refine ah hJ (aA hJ ?_)|refine ah hJ (ah hJ (aA hJ ?_))
   apply bu _
   have h':=nE h;clear h;rcases h' with ⟨c,h⟩|⟨c,h⟩
   .refine dn hJ dz ?_
    first|refine aG hJ ?_|refine aA hJ ?_|refine ah hJ (aA hJ ?_)|refine ah hJ (ah hJ (aA hJ ?_))
    apply bu _
    have h':=Option.some.inj h;clear h;subst h'
    apply aO
    simp only[*,go_sem]
   .refine dr hJ dz ?_
    apply aK hJ
    apply aG hJ
    apply bu _
    refine ⟨3 - 1,aa,_,Le.refl _,1,rfl,rfl,?_⟩
    have hw:IntKind.i64.wrap (0+1)=((1:Nat):Int):=aL
    apply bu _
    first|exact ⟨aa,h⟩|exact h
  .replace h:ai (oo u0) (fun x=>cond (x != 0) (some x) (sN u0))=some r:=h
   have h':=eu h;clear h;obtain ⟨x,q,h⟩:=h'
   have e:((0+1:Nat):Int)=1:=rfl
   first|refine aG hJ ?_|refine aA hJ ?_|refine ah hJ (aA hJ ?_)|refine ah hJ (ah hJ (aA hJ ?_))
   apply bu _
   apply ah hJ
   refine dn hJ dz ?_
   apply aK hJ
   refine ah hJ (aU hJ ?_)
   first|refine aG hJ ?_|refine aA hJ ?_|refine ah hJ (aA hJ ?_)|refine ah hJ (ah hJ (aA hJ ?_))
   apply bu _
   first|refine aG hJ ?_|refine aA hJ ?_|refine ah hJ (aA hJ ?_)|refine ah hJ (ah hJ (aA hJ ?_))
   apply bu _
   refine bh hJ _ (GF u0 (d.mono aY) q) (aJ ?_)
   apply bu _
   first|refine aG hJ ?_|refine aA hJ ?_|refine ah hJ (aA hJ ?_)|refine ah hJ (ah hJ (aA hJ ?_))
   apply bu _
   have h':=nE h;clear h;rcases h' with ⟨c,h⟩|⟨c,h⟩
   .refine dn hJ dz ?_
    first|refine aG hJ ?_|refine aA hJ ?_|refine ah hJ (aA hJ ?_)|refine ah hJ (ah hJ (aA hJ ?_))
    apply bu _
    have h':=Option.some.inj h;clear h;subst h'
    apply aO
    simp only[*,go_sem]
   .refine dr hJ dz ?_
    apply aK hJ
    apply aG hJ
    apply bu _
    refine ⟨3 - 2,aa,_,Le.refl _,2,rfl,rfl,?_⟩
    have hw:IntKind.i64.wrap (1+1)=((2:Nat):Int):=aL
    apply bu _
    first|exact ⟨aa,h⟩|exact h
  .replace h:ai (om u0) (fun x=>cond (x != 0) (some x) (sM u0))=some r:=h
   have h':=eu h;clear h;obtain ⟨x,q,h⟩:=h'
   have e:((0+1+1:Nat):Int)=2:=rfl
   first|refine aG hJ ?_|refine aA hJ ?_|refine ah hJ (aA hJ ?_)|refine ah hJ (ah hJ (aA hJ ?_))
   apply bu _
   apply ah hJ
   refine dn hJ dz ?_
   apply aK hJ
   refine ah hJ (aU hJ ?_)
   first|refine aG hJ ?_|refine aA hJ ?_|refine ah hJ (aA hJ ?_)|refine ah hJ (ah hJ (aA hJ ?_))
   apply bu _
   first|refine aG hJ ?_|refine aA hJ ?_|refine ah hJ (aA hJ ?_)|refine ah hJ (ah hJ (aA hJ ?_))
   apply bu _
   refine bh hJ _ (GD u0 (d.mono aY) q) (aJ ?_)
   apply bu _
   first|refine aG hJ ?_|refine aA hJ ?_|refine ah hJ (aA hJ ?_)|refine ah hJ (ah hJ (aA hJ ?_))
   apply bu _
   have h':=nE h;clear h;rcases h' with ⟨c,h⟩|⟨c,h⟩
   .refine dn hJ dz ?_
    first|refine aG hJ ?_|refine aA hJ ?_|refine ah hJ (aA hJ ?_)|refine ah hJ (ah hJ (aA hJ ?_))
    apply bu _
    have h':=Option.some.inj h;clear h;subst h'
    apply aO
    simp only[*,go_sem]
   .refine dr hJ dz ?_
    apply aK hJ
    apply aG hJ
    apply bu _
    refine ⟨3 - 3,aa,_,Le.refl _,3,rfl,rfl,?_⟩
    have hw:IntKind.i64.wrap (2+1)=((3:Nat):Int):=aL
    apply bu _
    first|exact ⟨aa,h⟩|exact h
  .have:i=0:=aa
   subst this
   replace h:some 0=some r:=h
   have e:((0+1+1+1:Nat):Int)=3:=rfl
   first|refine aG hJ ?_|refine aA hJ ?_|refine ah hJ (aA hJ ?_)|refine ah hJ (ah hJ (aA hJ ?_))
   apply bu _
   apply ah hJ
   refine dr hJ dz ?_
   apply bJ
   simp only[go_sem]
   first|refine aG hJ ?_|refine aA hJ ?_|refine ah hJ (aA hJ ?_)|refine ah hJ (ah hJ (aA hJ ?_))
   apply bu _
   have h':=Option.some.inj h;clear h;subst h'
   apply aO
   simp only[*,go_sem]
end Go.Proofs.YtlchekhkopimhaaGreatDoor
end
section
namespace Go.Sep
open Go Go.Conc
theorem sQ {H σ:Type}{step:σ->H->Option (Bool×σ)}{l l':List (Option H)}{s s':σ}{c:Bool}(h:dA step (l++l') s=some (c,s')):
  (∃s1,dA step l s=some (true,s1)/\dA step l' s1=some (c,s'))\/(dA step l s=some (false,s')/\c=false):=by
 rw[Ad] at h
 split at h
 .rename_i s1 a;exact .inl ⟨s1,a,h⟩
 .rename_i s1 a;simp only[Option.some.injEq,Prod.mk.injEq] at h;obtain ⟨rfl,rfl⟩:=h;exact .inr ⟨a,rfl⟩
 .cases h
theorem kV {H σ:Type}{step:σ->H->Option (Bool×σ)}{s:σ}{r:Bool×σ}(h:dA step [none] s=some r):False:=by cases h
end Go.Sep
end

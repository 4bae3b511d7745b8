/- A part of the proof: QS8. -/
import Derived.Test.YtcoalekambhghaaGreatDoorQS7
import Derived.Conc.Own2
import Derived.Conc.Own4
import Derived.Conc.MarkLaws
import Derived.Conc.ClockLaws
import Derived.Conc.SmallLaws
import Derived.Conc.DeferLaws
set_option linter.all false
section
namespace Go.Sep
open Go Go.Conc
structure dS (P:Program)(main:Bool)(J:Goroutine->ag->Prop):Prop where
 move:∀{fr fr':Frame} {cs cs':List Frame} {F:ag},(∀w,stepG P main (G fr cs) w= .go (G fr' cs') w #[])->J (G fr' cs') F->J (G fr cs) F
theorem Closed.en {P:Program}{main:Bool}{J:Goroutine->ag->Prop}(h:Closed P main J):dS P main J:=⟨fun hs a=>h.move hs a⟩
theorem dc {b:Frame}(h:b.roundOf=none)(a:Act)(todo:List Item):on b a todo=b.at a todo:=by
 cases b;simp only at h;subst h;rfl
structure BF (fi:FuncId)(b:Frame):Prop where
 kind:b.kind≠ .early
 round:b.roundOf=none
 fn:b.fn=fi
section
variable {P:Program}{main:Bool}{S:Type}{JF:S->Goroutine->ag->Prop}{fi:FuncId}
def cM (JF:S->Goroutine->ag->Prop)(fi:FuncId)(c:Code)(Q:Ex->Act->ag->S->Prop)(a:Act)(F:ag)(ph:S):Prop:=
 ∀(b:Frame) (k:List Item) (cs:List Frame),BF fi b->(∀e d F' aY,Q e d F' aY->xA (JF aY) b k cs e d F')->JF ph (G (on b a (.code c::k)) cs) F
def aE (JF:S->Goroutine->ag->Prop)(fi:FuncId)(ops:Array Oper)(i n:Nat)(Q:Act->ag->S->Prop)(a:Act)(F:ag)(ph:S):Prop:=
 ∀(b:Frame) (k:List Item) (cs:List Frame),BF fi b->(∀c F' aY,Q c F' aY->JF aY (G (on b c k) cs) F')->JF ph (G (on b a (.inRegion ops (List.range' i n)::k)) cs) F
def di (P:Program)(JF:S->Goroutine->ag->Prop)(f:FuncId)(args:Array Value)(F:ag)(ph:S)(R:Value->ag->S->Prop):Prop:=
 ∀(c:Frame) (cs:List Frame),(∀v F' aY,R v F' aY->JF aY (G (c.finish v) cs) F')->JF ph (G (Frame.enter P f args .normal) (c::cs)) F
variable {Q:Ex->Act->ag->S->Prop}{a:Act}{F:ag}{ph:S}
theorem cM.mono {c:Code}{d:Ex->Act->ag->S->Prop}(h:cM JF fi c Q a F ph)(f:∀e a F ph,Q e a F ph->d e a F ph):cM JF fi c d a F ph:=
 fun b k cs hb g=>h b k cs hb fun e i F' aY x=>g e i F' aY (f _ _ _ _ x)
theorem cM.of (hJ:Closed P main (JF ph)){c:Code}(h:Wp (JF ph) c (fun e a F=>Q e a F ph) a F):cM JF fi c Q a F ph:=
 fun b k cs hb d=>h b k cs ⟨hb.kind,.inl hb.round⟩ fun e f F' g=>d e f F' ph g
theorem dV (hM:dS P main (JF ph))(h:Q .normal a F ph):cM JF fi .skip Q a F ph:=fun b k cs _ c=>hM.move (fun _=>xg) (c _ _ _ _ h)
theorem vo {id:Nat}(h:Q (.exit id) a F ph):cM JF fi (.exit id) Q a F ph:=fun b k cs _ c=>c _ _ _ _ h k rfl
theorem gx (h:Q .ret a F ph):cM JF fi .ret Q a F ph:=fun b k cs _ c=>c _ _ _ _ h k
def z8 (JF:S->Goroutine->ag->Prop)(fi:FuncId)(y:Code)(Q:Ex->Act->ag->S->Prop):Ex->Act->ag->S->Prop
 | .normal,a,F,ph=>cM JF fi y Q a F ph
 |e,a,F,ph=>Q e a F ph
theorem bq (hM:dS P main (JF ph)){x y:Code}(h:cM JF fi x (z8 JF fi y Q) a F ph):cM JF fi (.seq x y) Q a F ph:=fun b k cs hb c=>by
 refine hM.move (fun _=>xj) (h b (.code y::k) cs hb fun e i F' aY d=>?_)
 cases e with
 |normal=>exact d b k cs hb c
 |exit id=>exact fun f g=>c _ _ _ _ d f (by rw[g];rfl)
 |ret=>exact c _ _ _ _ d
theorem z9 (hM:dS P main (JF ph)){c:Operand}{x y:Code}(t:Bool)(d:a.eval c= .bool t)(h:cM JF fi (if t then x else y) Q a F ph):cM JF fi (.cond c x y) Q a F ph:=fun b k cs hb e=>
 hM.move (fun _=>xk d) (h b k cs hb e)
theorem eR (hM:dS P main (JF ph)){c:Operand}{x y:Code}(b:ev a c= .bool true)(h:cM JF fi x Q a F ph):cM JF fi (.cond c x y) Q a F ph:=z9 hM true b h
theorem dW (hM:dS P main (JF ph)){c:Operand}{x y:Code}(b:ev a c= .bool false)(h:cM JF fi y Q a F ph):cM JF fi (.cond c x y) Q a F ph:=z9 hM false b h
def vp (id:Nat)(Q:Ex->Act->ag->S->Prop):Ex->Act->ag->S->Prop
 | .normal,a,F,ph=>Q .normal a F ph
 | .exit i,a,F,ph=>if i=id then Q .normal a F ph else Q (.exit i) a F ph
 | .ret,a,F,ph=>Q .ret a F ph
theorem j8 (hM:∀ph,dS P main (JF ph)){id:Nat}{c:Code}(h:cM JF fi c (vp id Q) a F ph):cM JF fi (.block id c) Q a F ph:=fun b k cs hb f=>by
 refine (hM ph).move (fun _=>xl) (h b (.inBlock id::k) cs hb fun e l F' aY d=>?_)
 cases e with
 |normal=>exact (hM aY).move (fun _=>xh) (f _ _ _ _ d)
 |exit i=>
  intro g j
  simp only[vp] at d
  by_cases hi:i=id
  .rw[if_pos hi] at d
   subst hi
   have:exitTo i g=some k:=by rw[j];simp[exitTo]
   exact (hM aY).move (fun _=>xp this) (f _ _ _ _ d)
  .rw[if_neg hi] at d
   refine f _ _ _ _ d g ?_
   rw[j]
   simp[exitTo,Ne.symm hi]
 |ret=>exact f _ _ _ _ d
def Aa (I:Nat->Act->ag->S->Prop)(n:Nat)(Q:Ex->Act->ag->S->Prop):Ex->Act->ag->S->Prop
 | .normal,a,F,ph=>∃m,m<n/\I m a F ph
 |e,a,F,ph=>Q e a F ph
theorem q6 (hM:∀ph,dS P main (JF ph)){c:Code}(I:Nat->Act->ag->S->Prop)(n:Nat)(g:I n a F ph)(hs:∀n a F ph,I n a F ph->cM JF fi c (Aa I n Q) a F ph):cM JF fi (.loop c) Q a F ph:=by
 intro b k cs hb f;have key:∀n a F ph,I n a F ph->JF ph (G (on b a (.code c:: .inLoop c::k)) cs) F:=by
  intro n
  induction n using Nat.strongRecOn with
  |_ n ih=>
   intro a F ph h;refine hs n a F ph h b (.inLoop c::k) cs hb fun e j F' aY d=>?_;cases e with
   |normal=>
    obtain ⟨m,hm,l⟩:=d;exact (hM aY).move (fun _=>xo) (ih m hm j F' aY l)
   |exit i=>exact fun o p=>f _ _ _ _ d o (by rw[p];rfl)
   |ret=>exact f _ _ _ _ d
 exact (hM ph).move (fun _=>xm) (key n a F ph g)
theorem mR (hM:∀ph,dS P main (JF ph)){id:Nat}{ops:Array Oper}(h:aE JF fi ops 0 ops.size (Q .normal) a F ph):cM JF fi (.region id ops false) Q a F ph:=fun b k cs hb c=>by
 refine (hM ph).move (fun _=>xq) ?_
 rw[List.range_eq_range']
 exact h b k cs hb fun d F' aY e=>c .normal d F' aY e
variable {ops:Array Oper}{i n:Nat}{Q:Act->ag->S->Prop}
theorem aE.nil (hM:∀ph,dS P main (JF ph))(h:Q a F ph):aE JF fi ops i 0 Q a F ph:=fun b k cs hb c=>
 (hM ph).move (fun _=>xu) (c _ _ _ h)
theorem Ab (hJ:Closed P main (JF ph)):∀(m i n:Nat) (a:Act) (F:ag),eI P (JF ph) ops (fun c F'=>aE JF fi ops (i+m) n Q c F' ph) (List.range' i m) a F->aE JF fi ops i (m+n) Q a F ph
 |0,i,n,a,F,h=>by rw[Nat.zero_add];exact h
 |m+1,i,n,a,F,h=>fun b k cs hb d=>by
  have e:m+1+n=(m+n)+1:=ai
  rw[e,List.range'_succ]
  rw[List.range'_succ] at h
  refine se hJ ⟨hb.kind,.inl hb.round⟩ h fun c F' h'=>?_
  have e2:i+(m+1)=(i+1)+m:=ai
  rw[e2] at h'
  exact Ab hJ m (i+1) n c F' h' b k cs hb d
theorem vq {J:Goroutine->ag->Prop}{K:Act->ag->Prop}:∀(l:List Oper) (k:Nat) (go:Bool) (a:Act) (F:ag),(∀j o,l[j]?=some o->ops[k+j]?=some o)->ej P J ops K l go a F->eI P J ops K (List.range' k l.length) a F
 |[],k,_,a,F,_,h=>by rw[sQ] at h;exact h
 |o::rest,k,go,a,F,b,h=>by
  have ho:ops[k]?=some o:=b 0 o rfl
  have c:∀j x,rest[j]?=some x->ops[k+1+j]?=some x:=fun j x d=>by rw[Nat.add_assoc,Nat.add_comm 1 j];exact b (j+1) x d
  simp only[List.length_cons,List.range'_succ]
  show dy P J ops k (eI P J ops K (List.range' (k+1) rest.length)) a F
  unfold dy
  simp only[ho]
  have h:ej P J ops K (o::rest) true a F:=by unfold ej at h ⊢;exact h
  rw[sR] at h
  split at h
  .rename_i hg
   rw[if_pos (cx hg)]
   exact gk (lq (fun v F' hv=>vq rest (k+1) _ _ F' c hv) (fun _ _ x=>x)) _ _ (jj h)
  .rename_i hg
   rw[if_neg (by rw[cx hg];simp)]
   exact vq rest (k+1) _ _ F c h
  .exact h.elim
theorem aE.e6 (hJ:Closed P main (JF ph))(m:Nat){n:Nat}(l:List Oper)(c:(ops.toList.drop i).take m=l)(hm:l.length=m)(h:ej P (JF ph) ops (fun d F'=>aE JF fi ops (i+m) n Q d F' ph) l true a F):aE JF fi ops i (m+n) Q a F ph:=by
 subst hm;refine Ab hJ l.length i n a F (vq l i true a F (fun j o b=>?_) h);rw[<-c] at b;have e:j<l.length:=by
  rcases Nat.lt_or_ge j l.length with x|x
  .exact x
  .rw[c,List.getElem?_eq_none x] at b;cases b
 rw[List.getElem?_take,if_pos e,List.getElem?_drop] at b;simpa using b
theorem aE.skip (hM:dS P main (JF ph)){o:Oper}(ho:ops[i]?=some o)(hg:cA ops o a=some false)(h:aE JF fi ops (i+1) n Q (bt a o.dst undef) F ph):aE JF fi ops i (n+1) Q a F ph:=fun b k cs hb c=>by
 rw[List.range'_succ]
 refine hM.move (fun _=>r9 (by simp[ho,cx hg])) ?_
 simp only[ho,Option.bind_some]
 exact h b k cs hb c
theorem aE.plain (hM:dS P main (JF ph)){o:Oper}(v:Value)(ho:ops[i]?=some o)(hg:cA ops o a=some true)(c:∀w,(execOp a.eval o).run P w= .ok (.value v) w)(he:∀w,(execOp a.eval o).events P w #[]=#[])
  (h:aE JF fi ops (i+1) n Q (bt a o.dst v) F ph):aE JF fi ops i (n+1) Q a F ph:=fun b k cs hb d=>by
 rw[List.range'_succ,dc hb.round]
 refine hM.move (fr':=b.at (a.put o.dst v) (.inRegion ops (List.range' (i+1) n)::k)) (fun w=>?_) (by rw[<-dc hb.round];exact h b k cs hb d)
 rw[stepG_value ho (cx hg) hb.kind (c w)]
 unfold listed
 rw[he w,seen_none]
theorem aE.call (hM:dS P main (JF ph)){o:Oper}{f:FuncId}{args:Array Value}{R:Value->ag->S->Prop}(ho:ops[i]?=some o)(hg:cA ops o a=some true)(c:∀w,(execOp a.eval o).run P w= .ok (.enter f args) w)(he:∀w,(execOp a.eval o).events P w #[]=#[])
  (d:di P JF f args F ph R) (h:∀v F' aY,R v F' aY->aE JF fi ops (i+1) n Q (bt a o.dst v) F' aY):aE JF fi ops i (n+1) Q a F ph:=fun b k cs hb e=>by
 rw[List.range'_succ,dc hb.round]
 refine hM.move (fr':=Frame.enter P f args .normal) (cs':=b.at a (.inRegion ops (i::List.range' (i+1) n)::k)::cs) (fun w=>?_) (d _ cs fun v F' aY hR=>?_)
 .rw[stepG_enter ho (cx hg) hb.kind (c w)]
  unfold listed
  rw[he w,seen_none]
 .rw[Frame.finish_at,ho]
  rw[show (Option.some o).bind (·.dst)=o.dst from rfl,<-dc hb.round]
  exact h v F' aY hR b k cs hb e
def iY (P:Program)(fn:Func)(R:Value->ag->S->Prop):Ex->Act->ag->S->Prop
 | .exit _,_,_,_=>False
 |_,a,F,ph=>a.defers=[]/\∃v,(∀w,(results fn a.tmps).run P w= .ok v w/\(results fn a.tmps).events P w #[]=#[])/\R v F ph
theorem di.of (hM:∀ph,dS P main (JF ph)){f:FuncId}{fn:Func}{c:Code}{args:Array Value}{R:Value->ag->S->Prop}(k:P.funcs[f]?=some fn)(hb:fn.body=some c)
  (h:cM JF f c (iY P fn R) {tmps:=args++Array.replicate (fn.ntmps - args.size) undef,defers:=[]} F ph):di P JF f args F ph R:=by
 intro j cs hR
 let b:Frame:={(default:Frame) with fn:=f,kind:=.normal}
 have l:b.roundOf=none:=rfl
 have m:Frame.enter P f args .normal=on b {tmps:=args++Array.replicate (fn.ntmps - args.size) undef,defers:=[]} [.code c]:=by
  simp[Frame.enter,on,k,hb,b]
  rfl
 rw[m]
 have leave:∀(d:Act) (todo:List Item) F' aY,d.defers=[]->(∃v,(∀w,(results fn d.tmps).run P w= .ok v w/\(results fn d.tmps).events P w #[]=#[])/\R v F' aY)->JF aY (G {on b d todo with mode:=.returning} (j::cs)) F':=by
  intro d todo F' aY hd ⟨v,hv,n⟩
  refine (hM aY).move (fr':=j.finish v) (cs':=cs) (fun w=>?_) (hR v F' aY n)
  have:=stepG_leave (P:=P) (main:=main) (b:=b) (a:=d) (todo:=todo) (cs:=cs) (w:=w) (c:=j) (v:=v) rfl hd k (hv w).1 (hv w).2
  rw[dc l];exact this
 refine h b [] (j::cs) ⟨by simp[b],rfl,rfl⟩ fun e d F' aY g=>?_
 cases e with
 |normal=>exact (hM aY).move (fun _=>jJ rfl) (leave d _ F' aY g.1 g.2)
 |exit i=>exact g.elim
 |ret=>exact fun o=>(hM aY).move (fun _=>stepG_ret' rfl) (leave d _ F' aY g.1 g.2)
end
end Go.Sep
namespace Go.Sep
open Go Go.Conc
section
variable {P:Program}{main:Bool}{S:Type}{JF:S->Goroutine->ag->Prop}{F:ag}{ph:S}
theorem di.go (hM:∀ph,dS P main (JF ph)){f:FuncId}{fn:Func}{c:Code}{n:Nat}{args:Array Value}{R:Value->ag->S->Prop}(a:P.funcs[f]?=some fn)(hb:fn.body=some c)(hn:fn.ntmps=n)(b:args.size<=n)
  (h:∀A:Act,sz A=n->A.defers=[]->(∀i,slot A i=args.getD i undef)->cM JF f c (iY P fn R) A F ph):di P JF f args F ph R:=by
 refine di.of hM a hb (h _ (by simp[sz,hn];omega) rfl fun i=>?_)
 simp only[slot,hn,Array.getD_eq_getD_getElem?]
 rcases Nat.lt_or_ge i args.size with hi|hi
 .rw[Array.getElem?_append_left hi]
 .rw[Array.getElem?_append_right hi,Array.getElem?_replicate,Array.getElem?_eq_none hi]
  split<;>rfl
theorem Ac {fn:Func}{R:Value->ag->S->Prop}{a:Act}(b:fn.results=#[])(hd:a.defers=[])(h:R (.tuple #[]) F ph):iY P fn R .normal a F ph/\iY P fn R .ret a F ph:=
 have x:a.defers=[]/\∃v,(∀w,(results fn a.tmps).run P w= .ok v w/\(results fn a.tmps).events P w #[]=#[])/\R v F ph:=⟨hd,.tuple #[],fun w=>⟨results_none b _ P w,events_results_none b _ _⟩,h⟩
 ⟨x,x⟩
theorem F4 {fn:Func}{R:Value->ag->S->Prop}{a:Act}(b:fn.results=#[])(hd:a.defers=[])(h:R (.tuple #[]) F ph):iY P fn R .normal a F ph:=(Ac b hd h).1
theorem Ad {fn:Func}{R:Value->ag->S->Prop}{a:Act}(b:fn.results=#[])(hd:a.defers=[])(h:R (.tuple #[]) F ph):iY P fn R .ret a F ph:=(Ac b hd h).2
theorem j9 {fn:Func}{R:Value->ag->S->Prop}{a:Act}{t:Tmp}{v:Value}(b:fn.results=#[.tmp t])(hd:a.defers=[])(hv:slot a t=v)(h:R v F ph):iY P fn R .normal a F ph/\iY P fn R .ret a F ph:=
 have x:a.defers=[]/\∃v,(∀w,(results fn a.tmps).run P w= .ok v w/\(results fn a.tmps).events P w #[]=#[])/\R v F ph:=⟨hd,v,fun w=>⟨by rw[<-hv];exact results_tmp b _ P w,events_results_tmp b _ _⟩,h⟩
 ⟨x,x⟩
end
end Go.Sep
namespace Go.Sep
open Go Go.Conc
attribute [go_sem] z8 vp Aa List.getElem_toArray List.getElem_cons_zero List.getElem_cons_succ
section
variable {P:Program}{main:Bool}{S:Type}{JF:S->Goroutine->ag->Prop}{F:ag}{ph:S}{fi:FuncId}{ops:Array Oper}{i n:Nat}{a:Act}{Q:Act->ag->S->Prop}
theorem Ae {f:FuncId}(h:aP P f=true)(args:Array Value)(w:World)(es:Array Event):(callFunc f args).run P w= .ok (.enter f args) w/\(callFunc f args).events P w es=es:=by
 unfold aP at h;split at h
 .rename_i fn a;simp only[Bool.not_eq_true',Bool.or_eq_false_iff] at h;obtain ⟨b,e⟩:=h;have d:fn.name≠ "runtime.NumGoroutine":=ne_of_beq_false e;cases hb:fn.body with
  |none=>rw[hb] at b;cases b
  |some c=>exact ⟨by simp[callFunc,a,d,hb],by simp[callFunc,a,d,hb]⟩
 .cases h
theorem aE.iZ (hM:dS P main (JF ph)){o:Oper}{f:FuncId}{cH:Array Operand}{dj:Array TypeId}{args:Array Value}{R:Value->ag->S->Prop}(ho:ops[i]?=some o)(hg:cA ops o a=some true)(c:o.op= .call {callee:=.value (.func f),args:=cH,argTypes:=dj})(b:aP P f=true)
  (d:cH.map (ev a)=args) (e:di P JF f args F ph R) (h:∀v F' aY,R v F' aY->aE JF fi ops (i+1) n Q (bt a o.dst v) F' aY):aE JF fi ops i (n+1) Q a F ph:=by
 have e1:execOp a.eval o=callFunc f args:=by rw[execOp_call_func (a:=a) c,<-d];rfl
 exact aE.call hM ho hg (fun w=>by rw[e1];exact (Ae b args w #[]).1) (fun w=>by rw[e1];exact (Ae b args w #[]).2) e h
end
structure Entry (P:Program)(f:FuncId)(e:Array Value->Sem Value):Prop where
 ex:∃fn,P.funcs[f]?=some fn/\(fn.name== "runtime.NumGoroutine")=false/\fn.body.isNone=true/\Extern.findNext fn=none/\Extern.find fn=some e
theorem Entry.F5 {P:Program}{f:FuncId}{e:Array Value->Sem Value}(h:Entry P f e):(P.funcs[f]?).any (·.body.isSome)=false:=by
 obtain ⟨fn,a,_,hb,_⟩:=h.ex;rw[a];simpa using hb
end Go.Sep
end
section
namespace Go.Sep
open Go Go.Conc
open Go.ConcN (sumTo upd upd_ne upd_same)
open Go.ConcM (MuAt muA msA muBlock OsLater)
open Go.ConcR (WgAt wgBlock stA smA)
def At (ops:Array Oper)(j:Nat)(a:Act)(f:FuncId)(vals:List Value)(d:Option Tmp):Prop:=
 ∃o cH dj,ops[j]?=some o/\cA ops o a=some true/\o.op= .call {callee:=.value (.func f),args:=cH,argTypes:=dj}/\cH.toList.map (ev a)=vals/\o.dst=d
def iB (ops:Array Oper)(j:Nat)(a:Act)(op:Op)(d:Option Tmp):Prop:=∃o,ops[j]?=some o/\cA ops o a=some true/\o.op=op/\o.dst=d
theorem k3 {a:Act}{cH:Array Operand}{p:Value}(h:cH.toList.map (ev a)=[p]):∃x,cH=#[x]/\ev a x=p:=by
 obtain ⟨l⟩:=cH
 match l,h with
 |[x],h=>exact ⟨x,rfl,by simpa using h⟩
theorem q7 {a:Act}{cH:Array Operand}{p q:Value}(h:cH.toList.map (ev a)=[p,q]):∃x y,cH=#[x,y]/\ev a x=p/\ev a y=q:=by
 obtain ⟨l⟩:=cH
 match l,h with
 |[x,y],h=>exact ⟨x,y,rfl,by simpa using h⟩
theorem Af {a:Act}{cH:Array Operand}{p q r:Value}(h:cH.toList.map (ev a)=[p,q,r]):∃x y z,cH=#[x,y,z]/\ev a x=p/\ev a y=q/\ev a z=r:=by
 obtain ⟨l⟩:=cH
 match l,h with
 |[x,y,z],h=>exact ⟨x,y,z,rfl,by simpa using h⟩
section
variable {c:Cy}{i:Nat}{ph:Ph}{φ:Nat->Ph}{p0:P0}{k:Nat}{s:Sh}{w:World}
theorem vr {α:Type}(f:Nat->α)(i:Nat):upd f i (f i)=f:=by
 funext j;by_cases h:j=i
 .subst h;exact upd_same _ _ _
 .exact upd_ne _ _ h
variable {ops:Array Oper}{j n:Nat}{Q:Act->ag->Ph->Prop}{a:Act}{F:ag}{o:Oper}{f fi:FuncId}{cH:Array Operand}{dj:Array TypeId}
theorem heap_set (w:World){a:Addr}{v:Value}{cs:Array Value}{t:TypeId}{fr:Nat×Nat}(h:w.heap[a.block]?=some (.cells cs t fr))(hs:a.spot=none):(w.setCell a v).heap[a.block]?=some (.cells (cs.setIfInBounds a.off v) t fr):=by
 simp[World.setCell,Array.getElem?_modify,h,hs]
theorem vt (w:World){a:Addr}{v:Value}{b:Nat}(h:b≠a.block):(w.setCell a v).heap[b]?=w.heap[b]?:=by
 simp only[World.setCell];rw[Array.getElem?_modify,if_neg (fun e=>h e.symm)]
theorem eH.set {a:Addr}(v:Value)(h:c.shared a.block):eH c w (w.setCell a v):=
 ⟨rfl,rfl,by simp[World.setCell],.refl _,fun b hb=>vt w fun e=>hb (e▸h)⟩
theorem Inv.gh (h:Inv c.n c.bs k φ p0 s)(hi:i<c.n)(he:φ i=ph){aY:Ph}{s':Sh}(hg:ph.gp≠ .new)(g:aY.gp≠ .new)(hm:∃C S W L m,j4 c.n (upd φ i aY) s'.mu s'.ms C S W L m)(hw:cX c.n (upd φ i aY) p0 s'.wg s'.ws)
  (d:s'.is=s.is.set i aY.stored) (hd:aY.gp≠ .cnt->aY.stored=c.bs i/\aY.mp= .fin):Inv c.n c.bs k (upd φ i aY) p0 s':=by
 refine ⟨hm,hw,by rw[d,List.length_set];exact h.i.len,h.i.kn,fun j a=>?_,fun j a=>?_,fun j a hn=>?_,fun j a b f=>?_⟩<;>by_cases e:j=i
 .subst e;rw[upd_same,d,List.getElem?_set_self (by rw[h.i.len];exact a)]
 .rw[upd_ne _ _ e,d,List.getElem?_set_ne (Ne.symm e)];exact h.i.all j a
 .subst e;rw[upd_same,h.i.born j a,he];exact ⟨fun _=>g,fun _=>hg⟩
 .rw[upd_ne _ _ e];exact h.i.born j a
 .subst e;rw[upd_same] at hn;exact absurd hn g
 .rw[upd_ne _ _ e] at hn ⊢;exact h.i.new j a hn
 .subst e;rw[upd_same] at b f ⊢;exact hd b
 .rw[upd_ne _ _ e] at b f ⊢;exact h.i.done j a b f
theorem F6 {l:List Bool}{i:Nat}{x:Bool}(h:l[i]?=some x):l.set i x=l:=by
 refine List.ext_getElem? fun j=>?_;by_cases e:i=j
 .subst e;have a:i<l.length:=by
   rcases Nat.lt_or_ge i l.length with y|y
   .exact y
   .rw[List.getElem?_eq_none y] at h;cases h
  rw[List.getElem?_set_self a,h]
 .rw[List.getElem?_set_ne e]
end
end Go.Sep
end
section
namespace Go.Proofs.YtcoalekambhghaaGreatDoor
open Go Go.Sep Go.Proofs Go.Conc
open Go.ConcN (upd)
open Go.ConcM (muA msA)
open Go.ConcR (stA smA)
set_option maxRecDepth 100000
set_option maxHeartbeats 4000000
theorem vu:Entry Tryz.prog 142 (fun _=>do mark .disable;pure Extern.Race.none_):=⟨_,Tryz.func142,aS,aS,aS,aS⟩
theorem q8:Entry Tryz.prog 143 (fun _=>do mark .enable;pure Extern.Race.none_):=⟨_,Tryz.func143,aS,aS,aS,aS⟩
theorem Ag:Entry Tryz.prog 154 (Extern.Race.marked .acquire):=⟨_,Tryz.func154,aS,aS,aS,aS⟩
theorem F7:Entry Tryz.prog 141 (Extern.Race.marked .releaseMerge):=⟨_,Tryz.func141,aS,aS,aS,aS⟩
theorem vv:Entry Tryz.prog 174 (Extern.Atomic.loadT (.int .u64)):=⟨_,Tryz.func174,aS,aS,aS,aS⟩
theorem Ah:Entry Tryz.prog 173 (Extern.Atomic.update (Op.intArith .add) .u64 true):=⟨_,Tryz.func173,aS,aS,aS,aS⟩
theorem F8:Entry Tryz.prog 176 (Extern.Atomic.casT (.int .u64)):=⟨_,Tryz.func176,aS,aS,aS,aS⟩
theorem F9:Entry Tryz.prog 175 Extern.Atomic.storeT:=⟨_,Tryz.func175,aS,aS,aS,aS⟩
theorem Ai:Entry Tryz.prog 144 (fun _=>pure (.bool false)):=⟨_,Tryz.func144,aS,aS,aS,aS⟩
theorem Ga:Entry Tryz.prog 149 (Extern.Race.marked .read):=⟨_,Tryz.func149,aS,aS,aS,aS⟩
theorem Gb:Entry Tryz.prog 157 (Extern.Race.marked .write):=⟨_,Tryz.func157,aS,aS,aS,aS⟩
theorem Gc:Entry Tryz.prog 158 Extern.Sync.semacquire:=⟨_,Tryz.func158,aS,aS,aS,aS⟩
theorem Gd:Entry Tryz.prog 153 Extern.Sync.semrelease:=⟨_,Tryz.func153,aS,aS,aS,aS⟩
theorem vw:Tryz.prog.underlying 176=some (.pointer 160):=aS
theorem Aj:Tryz.prog.underlying 183=some (.pointer 158):=aS
theorem o4:Tryz.prog.underlying 178=some .unsafePointer:=aS
theorem vz:(Tryz.prog.info? 160).map (fun i=>decide (i.size=0))=some false:=aS
theorem Ak:(Tryz.prog.info? 158).map (fun i=>decide (i.size=0))=some false:=aS
end Go.Proofs.YtcoalekambhghaaGreatDoor
end

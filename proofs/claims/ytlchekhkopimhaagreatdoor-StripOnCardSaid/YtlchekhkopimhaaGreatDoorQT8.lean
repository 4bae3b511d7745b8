/- A part of the proof: QT8. -/
import Derived.Test.YtlchekhkopimhaaGreatDoorQT7
import Derived.Conc.Own2
import Derived.Conc.Own4
import Derived.Conc.MarkLaws
import Derived.Conc.ClockLaws
import Derived.Conc.SmallLaws
import Derived.Conc.DeferLaws
set_option linter.all false
section
namespace Go.Sep
open Go Go.Conc
structure ez (P:Program)(main:Bool)(J:Goroutine->af->Prop):Prop where
 move:∀{fr fr':Frame} {cs cs':List Frame} {F:af},(∀w,stepG P main (G fr cs) w= .go (G fr' cs') w #[])->J (G fr' cs') F->J (G fr cs) F
theorem Closed.eT {P:Program}{main:Bool}{J:Goroutine->af->Prop}(h:Closed P main J):ez P main J:=⟨fun hs a=>h.move hs a⟩
theorem dy {b:Frame}(h:b.roundOf=none)(a:Act)(todo:List Item):on b a todo=b.at a todo:=by
 cases b;simp only at h;subst h;rfl
structure BF (fi:FuncId)(b:Frame):Prop where
 kind:b.kind≠ .early
 round:b.roundOf=none
 fn:b.fn=fi
section
variable {P:Program}{main:Bool}{S:Type}{JF:S->Goroutine->af->Prop}{fi:FuncId}
def cV (JF:S->Goroutine->af->Prop)(fi:FuncId)(c:Code)(Q:Ex->Act->af->S->Prop)(a:Act)(F:af)(ph:S):Prop:=
 ∀(b:Frame) (k:List Item) (cs:List Frame),BF fi b->(∀e d F' aX,Q e d F' aX->zl (JF aX) b k cs e d F')->JF ph (G (on b a (.code c::k)) cs) F
def ay (JF:S->Goroutine->af->Prop)(fi:FuncId)(ops:Array Oper)(i n:Nat)(Q:Act->af->S->Prop)(a:Act)(F:af)(ph:S):Prop:=
 ∀(b:Frame) (k:List Item) (cs:List Frame),BF fi b->(∀c F' aX,Q c F' aX->JF aX (G (on b c k) cs) F')->JF ph (G (on b a (.inRegion ops (List.range' i n)::k)) cs) F
def dH (P:Program)(JF:S->Goroutine->af->Prop)(f:FuncId)(args:Array Value)(F:af)(ph:S)(R:Value->af->S->Prop):Prop:=
 ∀(c:Frame) (cs:List Frame),(∀v F' aX,R v F' aX->JF aX (G (c.finish v) cs) F')->JF ph (G (Frame.enter P f args .normal) (c::cs)) F
variable {Q:Ex->Act->af->S->Prop}{a:Act}{F:af}{ph:S}
theorem cV.mono {c:Code}{d:Ex->Act->af->S->Prop}(h:cV JF fi c Q a F ph)(f:∀e a F ph,Q e a F ph->d e a F ph):cV JF fi c d a F ph:=
 fun b k cs hb g=>h b k cs hb fun e i F' aX x=>g e i F' aX (f _ _ _ _ x)
theorem cV.of (hJ:Closed P main (JF ph)){c:Code}(h:Wp (JF ph) c (fun e a F=>Q e a F ph) a F):cV JF fi c Q a F ph:=
 fun b k cs hb d=>h b k cs ⟨hb.kind,.inl hb.round⟩ fun e f F' g=>d e f F' ph g
theorem eE (hM:ez P main (JF ph))(h:Q .normal a F ph):cV JF fi .skip Q a F ph:=fun b k cs _ c=>hM.move (fun _=>y4) (c _ _ _ _ h)
theorem w5 {id:Nat}(h:Q (.exit id) a F ph):cV JF fi (.exit id) Q a F ph:=fun b k cs _ c=>c _ _ _ _ h k rfl
theorem g5 (h:Q .ret a F ph):cV JF fi .ret Q a F ph:=fun b k cs _ c=>c _ _ _ _ h k
def Bz (JF:S->Goroutine->af->Prop)(fi:FuncId)(y:Code)(Q:Ex->Act->af->S->Prop):Ex->Act->af->S->Prop
 | .normal,a,F,ph=>cV JF fi y Q a F ph
 |e,a,F,ph=>Q e a F ph
theorem bp (hM:ez P main (JF ph)){x y:Code}(h:cV JF fi x (Bz JF fi y Q) a F ph):cV JF fi (.seq x y) Q a F ph:=fun b k cs hb c=>by
 refine hM.move (fun _=>y6) (h b (.code y::k) cs hb fun e i F' aX d=>?_)
 cases e with
 |normal=>exact d b k cs hb c
 |exit id=>exact fun f g=>c _ _ _ _ d f (by rw[g];rfl)
 |ret=>exact c _ _ _ _ d
theorem BA (hM:ez P main (JF ph)){c:Operand}{x y:Code}(t:Bool)(d:a.eval c= .bool t)(h:cV JF fi (if t then x else y) Q a F ph):cV JF fi (.cond c x y) Q a F ph:=fun b k cs hb e=>
 hM.move (fun _=>y7 d) (h b k cs hb e)
theorem fI (hM:ez P main (JF ph)){c:Operand}{x y:Code}(b:ev a c= .bool true)(h:cV JF fi x Q a F ph):cV JF fi (.cond c x y) Q a F ph:=BA hM true b h
theorem eF (hM:ez P main (JF ph)){c:Operand}{x y:Code}(b:ev a c= .bool false)(h:cV JF fi y Q a F ph):cV JF fi (.cond c x y) Q a F ph:=BA hM false b h
def w6 (id:Nat)(Q:Ex->Act->af->S->Prop):Ex->Act->af->S->Prop
 | .normal,a,F,ph=>Q .normal a F ph
 | .exit i,a,F,ph=>if i=id then Q .normal a F ph else Q (.exit i) a F ph
 | .ret,a,F,ph=>Q .ret a F ph
theorem lp (hM:∀ph,ez P main (JF ph)){id:Nat}{c:Code}(h:cV JF fi c (w6 id Q) a F ph):cV JF fi (.block id c) Q a F ph:=fun b k cs hb f=>by
 refine (hM ph).move (fun _=>y8) (h b (.inBlock id::k) cs hb fun e l F' aX d=>?_)
 cases e with
 |normal=>exact (hM aX).move (fun _=>y5) (f _ _ _ _ d)
 |exit i=>
  intro g j
  simp only[w6] at d
  by_cases hi:i=id
  .rw[if_pos hi] at d
   subst hi
   have:exitTo i g=some k:=by rw[j];simp[exitTo]
   exact (hM aX).move (fun _=>zb this) (f _ _ _ _ d)
  .rw[if_neg hi] at d
   refine f _ _ _ _ d g ?_
   rw[j]
   simp[exitTo,Ne.symm hi]
 |ret=>exact f _ _ _ _ d
def BB (I:Nat->Act->af->S->Prop)(n:Nat)(Q:Ex->Act->af->S->Prop):Ex->Act->af->S->Prop
 | .normal,a,F,ph=>∃m,m<n/\I m a F ph
 |e,a,F,ph=>Q e a F ph
theorem s9 (hM:∀ph,ez P main (JF ph)){c:Code}(I:Nat->Act->af->S->Prop)(n:Nat)(g:I n a F ph)(hs:∀n a F ph,I n a F ph->cV JF fi c (BB I n Q) a F ph):cV JF fi (.loop c) Q a F ph:=by
 intro b k cs hb f;have key:∀n a F ph,I n a F ph->JF ph (G (on b a (.code c:: .inLoop c::k)) cs) F:=by
  intro n
  induction n using Nat.strongRecOn with
  |_ n ih=>
   intro a F ph h;refine hs n a F ph h b (.inLoop c::k) cs hb fun e j F' aX d=>?_;cases e with
   |normal=>
    obtain ⟨m,hm,l⟩:=d;exact (hM aX).move (fun _=>za) (ih m hm j F' aX l)
   |exit i=>exact fun o p=>f _ _ _ _ d o (by rw[p];rfl)
   |ret=>exact f _ _ _ _ d
 exact (hM ph).move (fun _=>y9) (key n a F ph g)
theorem oU (hM:∀ph,ez P main (JF ph)){id:Nat}{ops:Array Oper}(h:ay JF fi ops 0 ops.size (Q .normal) a F ph):cV JF fi (.region id ops false) Q a F ph:=fun b k cs hb c=>by
 refine (hM ph).move (fun _=>ze) ?_
 rw[List.range_eq_range']
 exact h b k cs hb fun d F' aX e=>c .normal d F' aX e
variable {ops:Array Oper}{i n:Nat}{Q:Act->af->S->Prop}
theorem ay.nil (hM:∀ph,ez P main (JF ph))(h:Q a F ph):ay JF fi ops i 0 Q a F ph:=fun b k cs hb c=>
 (hM ph).move (fun _=>zf) (c _ _ _ h)
theorem BC (hJ:Closed P main (JF ph)):∀(m i n:Nat) (a:Act) (F:af),fB P (JF ph) ops (fun c F'=>ay JF fi ops (i+m) n Q c F' ph) (List.range' i m) a F->ay JF fi ops i (m+n) Q a F ph
 |0,i,n,a,F,h=>by rw[Nat.zero_add];exact h
 |m+1,i,n,a,F,h=>fun b k cs hb d=>by
  have e:m+1+n=(m+n)+1:=aa
  rw[e,List.range'_succ]
  rw[List.range'_succ] at h
  refine uD hJ ⟨hb.kind,.inl hb.round⟩ h fun c F' h'=>?_
  have e2:i+(m+1)=(i+1)+m:=aa
  rw[e2] at h'
  exact BC hJ m (i+1) n c F' h' b k cs hb d
theorem w7 {J:Goroutine->af->Prop}{K:Act->af->Prop}:∀(l:List Oper) (k:Nat) (go:Bool) (a:Act) (F:af),(∀j o,l[j]?=some o->ops[k+j]?=some o)->eM P J ops K l go a F->fB P J ops K (List.range' k l.length) a F
 |[],k,_,a,F,_,h=>by rw[u7] at h;exact h
 |o::rest,k,go,a,F,b,h=>by
  have ho:ops[k]?=some o:=b 0 o rfl
  have c:∀j x,rest[j]?=some x->ops[k+1+j]?=some x:=fun j x d=>by rw[Nat.add_assoc,Nat.add_comm 1 j];exact b (j+1) x d
  simp only[List.length_cons,List.range'_succ]
  show ee P J ops k (fB P J ops K (List.range' (k+1) rest.length)) a F
  unfold ee
  simp only[ho]
  have h:eM P J ops K (o::rest) true a F:=by unfold eM at h ⊢;exact h
  rw[u9] at h
  split at h
  .rename_i hg
   rw[if_pos (cH hg)]
   exact gO (nk (fun v F' hv=>w7 rest (k+1) _ _ F' c hv) (fun _ _ x=>x)) _ _ (j4 h)
  .rename_i hg
   rw[if_neg (by rw[cH hg];simp)]
   exact w7 rest (k+1) _ _ F c h
  .exact h.elim
theorem ay.fT (hJ:Closed P main (JF ph))(m:Nat){n:Nat}(l:List Oper)(c:(ops.toList.drop i).take m=l)(hm:l.length=m)(h:eM P (JF ph) ops (fun d F'=>ay JF fi ops (i+m) n Q d F' ph) l true a F):ay JF fi ops i (m+n) Q a F ph:=by
 subst hm;refine BC hJ l.length i n a F (w7 l i true a F (fun j o b=>?_) h);rw[<-c] at b;have e:j<l.length:=by
  rcases Nat.lt_or_ge j l.length with x|x
  .exact x
  .rw[c,List.getElem?_eq_none x] at b;cases b
 rw[List.getElem?_take,if_pos e,List.getElem?_drop] at b;simpa using b
theorem ay.skip (hM:ez P main (JF ph)){o:Oper}(ho:ops[i]?=some o)(hg:cJ ops o a=some false)(h:ay JF fi ops (i+1) n Q (bC a o.dst undef) F ph):ay JF fi ops i (n+1) Q a F ph:=fun b k cs hb c=>by
 rw[List.range'_succ]
 refine hM.move (fun _=>uB (by simp[ho,cH hg])) ?_
 simp only[ho,Option.bind_some]
 exact h b k cs hb c
theorem ay.plain (hM:ez P main (JF ph)){o:Oper}(v:Value)(ho:ops[i]?=some o)(hg:cJ ops o a=some true)(c:∀w,(execOp a.eval o).run P w= .ok (.value v) w)(he:∀w,(execOp a.eval o).events P w #[]=#[])
  (h:ay JF fi ops (i+1) n Q (bC a o.dst v) F ph):ay JF fi ops i (n+1) Q a F ph:=fun b k cs hb d=>by
 rw[List.range'_succ,dy hb.round]
 refine hM.move (fr':=b.at (a.put o.dst v) (.inRegion ops (List.range' (i+1) n)::k)) (fun w=>?_) (by rw[<-dy hb.round];exact h b k cs hb d)
 rw[stepG_value ho (cH hg) hb.kind (c w)]
 unfold listed
 rw[he w,seen_none]
theorem ay.call (hM:ez P main (JF ph)){o:Oper}{f:FuncId}{args:Array Value}{R:Value->af->S->Prop}(ho:ops[i]?=some o)(hg:cJ ops o a=some true)(c:∀w,(execOp a.eval o).run P w= .ok (.enter f args) w)(he:∀w,(execOp a.eval o).events P w #[]=#[])
  (d:dH P JF f args F ph R) (h:∀v F' aX,R v F' aX->ay JF fi ops (i+1) n Q (bC a o.dst v) F' aX):ay JF fi ops i (n+1) Q a F ph:=fun b k cs hb e=>by
 rw[List.range'_succ,dy hb.round]
 refine hM.move (fr':=Frame.enter P f args .normal) (cs':=b.at a (.inRegion ops (i::List.range' (i+1) n)::k)::cs) (fun w=>?_) (d _ cs fun v F' aX hR=>?_)
 .rw[stepG_enter ho (cH hg) hb.kind (c w)]
  unfold listed
  rw[he w,seen_none]
 .rw[Frame.finish_at,ho]
  rw[show (Option.some o).bind (·.dst)=o.dst from rfl,<-dy hb.round]
  exact h v F' aX hR b k cs hb e
def jU (P:Program)(fn:Func)(R:Value->af->S->Prop):Ex->Act->af->S->Prop
 | .exit _,_,_,_=>False
 |_,a,F,ph=>a.defers=[]/\∃v,(∀w,(results fn a.tmps).run P w= .ok v w/\(results fn a.tmps).events P w #[]=#[])/\R v F ph
theorem dH.of (hM:∀ph,ez P main (JF ph)){f:FuncId}{fn:Func}{c:Code}{args:Array Value}{R:Value->af->S->Prop}(k:P.funcs[f]?=some fn)(hb:fn.body=some c)
  (h:cV JF f c (jU P fn R) {tmps:=args++Array.replicate (fn.ntmps - args.size) undef,defers:=[]} F ph):dH P JF f args F ph R:=by
 intro j cs hR
 let b:Frame:={(default:Frame) with fn:=f,kind:=.normal}
 have l:b.roundOf=none:=rfl
 have m:Frame.enter P f args .normal=on b {tmps:=args++Array.replicate (fn.ntmps - args.size) undef,defers:=[]} [.code c]:=by
  simp[Frame.enter,on,k,hb,b]
  rfl
 rw[m]
 have leave:∀(d:Act) (todo:List Item) F' aX,d.defers=[]->(∃v,(∀w,(results fn d.tmps).run P w= .ok v w/\(results fn d.tmps).events P w #[]=#[])/\R v F' aX)->JF aX (G {on b d todo with mode:=.returning} (j::cs)) F':=by
  intro d todo F' aX hd ⟨v,hv,n⟩
  refine (hM aX).move (fr':=j.finish v) (cs':=cs) (fun w=>?_) (hR v F' aX n)
  have:=stepG_leave (P:=P) (main:=main) (b:=b) (a:=d) (todo:=todo) (cs:=cs) (w:=w) (c:=j) (v:=v) rfl hd k (hv w).1 (hv w).2
  rw[dy l];exact this
 refine h b [] (j::cs) ⟨by simp[b],rfl,rfl⟩ fun e d F' aX g=>?_
 cases e with
 |normal=>exact (hM aX).move (fun _=>kI rfl) (leave d _ F' aX g.1 g.2)
 |exit i=>exact g.elim
 |ret=>exact fun o=>(hM aX).move (fun _=>stepG_ret' rfl) (leave d _ F' aX g.1 g.2)
end
end Go.Sep
namespace Go.Sep
open Go Go.Conc
section
variable {P:Program}{main:Bool}{S:Type}{JF:S->Goroutine->af->Prop}{F:af}{ph:S}
theorem dH.go (hM:∀ph,ez P main (JF ph)){f:FuncId}{fn:Func}{c:Code}{n:Nat}{args:Array Value}{R:Value->af->S->Prop}(a:P.funcs[f]?=some fn)(hb:fn.body=some c)(hn:fn.ntmps=n)(b:args.size<=n)
  (h:∀A:Act,sz A=n->A.defers=[]->(∀i,slot A i=args.getD i undef)->cV JF f c (jU P fn R) A F ph):dH P JF f args F ph R:=by
 refine dH.of hM a hb (h _ (by simp[sz,hn];omega) rfl fun i=>?_)
 simp only[slot,hn,Array.getD_eq_getD_getElem?]
 rcases Nat.lt_or_ge i args.size with hi|hi
 .rw[Array.getElem?_append_left hi]
 .rw[Array.getElem?_append_right hi,Array.getElem?_replicate,Array.getElem?_eq_none hi]
  split<;>rfl
theorem BD {fn:Func}{R:Value->af->S->Prop}{a:Act}(b:fn.results=#[])(hd:a.defers=[])(h:R (.tuple #[]) F ph):jU P fn R .normal a F ph/\jU P fn R .ret a F ph:=
 have x:a.defers=[]/\∃v,(∀w,(results fn a.tmps).run P w= .ok v w/\(results fn a.tmps).events P w #[]=#[])/\R v F ph:=⟨hd,.tuple #[],fun w=>⟨results_none b _ P w,events_results_none b _ _⟩,h⟩
 ⟨x,x⟩
theorem Ir {fn:Func}{R:Value->af->S->Prop}{a:Act}(b:fn.results=#[])(hd:a.defers=[])(h:R (.tuple #[]) F ph):jU P fn R .normal a F ph:=(BD b hd h).1
theorem BE {fn:Func}{R:Value->af->S->Prop}{a:Act}(b:fn.results=#[])(hd:a.defers=[])(h:R (.tuple #[]) F ph):jU P fn R .ret a F ph:=(BD b hd h).2
theorem lq {fn:Func}{R:Value->af->S->Prop}{a:Act}{t:Tmp}{v:Value}(b:fn.results=#[.tmp t])(hd:a.defers=[])(hv:slot a t=v)(h:R v F ph):jU P fn R .normal a F ph/\jU P fn R .ret a F ph:=
 have x:a.defers=[]/\∃v,(∀w,(results fn a.tmps).run P w= .ok v w/\(results fn a.tmps).events P w #[]=#[])/\R v F ph:=⟨hd,v,fun w=>⟨by rw[<-hv];exact results_tmp b _ P w,events_results_tmp b _ _⟩,h⟩
 ⟨x,x⟩
end
end Go.Sep
namespace Go.Sep
open Go Go.Conc
attribute [go_sem] Bz w6 BB List.getElem_toArray List.getElem_cons_zero List.getElem_cons_succ
section
variable {P:Program}{main:Bool}{S:Type}{JF:S->Goroutine->af->Prop}{F:af}{ph:S}{fi:FuncId}{ops:Array Oper}{i n:Nat}{a:Act}{Q:Act->af->S->Prop}
theorem BG {f:FuncId}(h:aI P f=true)(args:Array Value)(w:World)(es:Array Event):(callFunc f args).run P w= .ok (.enter f args) w/\(callFunc f args).events P w es=es:=by
 unfold aI at h;split at h
 .rename_i fn a;simp only[Bool.not_eq_true',Bool.or_eq_false_iff] at h;obtain ⟨b,e⟩:=h;have d:fn.name≠ "runtime.NumGoroutine":=ne_of_beq_false e;cases hb:fn.body with
  |none=>rw[hb] at b;cases b
  |some c=>exact ⟨by simp[callFunc,a,d,hb],by simp[callFunc,a,d,hb]⟩
 .cases h
theorem ay.jV (hM:ez P main (JF ph)){o:Oper}{f:FuncId}{cM:Array Operand}{dI:Array TypeId}{args:Array Value}{R:Value->af->S->Prop}(ho:ops[i]?=some o)(hg:cJ ops o a=some true)(c:o.op= .call {callee:=.value (.func f),args:=cM,argTypes:=dI})(b:aI P f=true)
  (d:cM.map (ev a)=args) (e:dH P JF f args F ph R) (h:∀v F' aX,R v F' aX->ay JF fi ops (i+1) n Q (bC a o.dst v) F' aX):ay JF fi ops i (n+1) Q a F ph:=by
 have e1:execOp a.eval o=callFunc f args:=by rw[execOp_call_func (a:=a) c,<-d];rfl
 exact ay.call hM ho hg (fun w=>by rw[e1];exact (BG b args w #[]).1) (fun w=>by rw[e1];exact (BG b args w #[]).2) e h
end
structure Entry (P:Program)(f:FuncId)(e:Array Value->Sem Value):Prop where
 ex:∃fn,P.funcs[f]?=some fn/\(fn.name== "runtime.NumGoroutine")=false/\fn.body.isNone=true/\Extern.findNext fn=none/\Extern.find fn=some e
theorem Entry.It {P:Program}{f:FuncId}{e:Array Value->Sem Value}(h:Entry P f e):(P.funcs[f]?).any (·.body.isSome)=false:=by
 obtain ⟨fn,a,_,hb,_⟩:=h.ex;rw[a];simpa using hb
end Go.Sep
end
section
namespace Go.Sep
open Go Go.Conc
open Go.ConcN (sumTo upd upd_ne upd_same)
open Go.ConcM (MuAt muA msA muBlock OsLater)
open Go.ConcR (WgAt wgBlock stA smA)
def At (ops:Array Oper)(j:Nat)(a:Act)(f:FuncId)(vals:List Value)(d:Option Tmp):Prop:=
 ∃o cM dI,ops[j]?=some o/\cJ ops o a=some true/\o.op= .call {callee:=.value (.func f),args:=cM,argTypes:=dI}/\cM.toList.map (ev a)=vals/\o.dst=d
def jw (ops:Array Oper)(j:Nat)(a:Act)(op:Op)(d:Option Tmp):Prop:=∃o,ops[j]?=some o/\cJ ops o a=some true/\o.op=op/\o.dst=d
theorem mQ {a:Act}{cM:Array Operand}{p:Value}(h:cM.toList.map (ev a)=[p]):∃x,cM=#[x]/\ev a x=p:=by
 obtain ⟨l⟩:=cM
 match l,h with
 |[x],h=>exact ⟨x,rfl,by simpa using h⟩
theorem tc {a:Act}{cM:Array Operand}{p q:Value}(h:cM.toList.map (ev a)=[p,q]):∃x y,cM=#[x,y]/\ev a x=p/\ev a y=q:=by
 obtain ⟨l⟩:=cM
 match l,h with
 |[x,y],h=>exact ⟨x,y,rfl,by simpa using h⟩
theorem BH {a:Act}{cM:Array Operand}{p q r:Value}(h:cM.toList.map (ev a)=[p,q,r]):∃x y z,cM=#[x,y,z]/\ev a x=p/\ev a y=q/\ev a z=r:=by
 obtain ⟨l⟩:=cM
 match l,h with
 |[x,y,z],h=>exact ⟨x,y,z,rfl,by simpa using h⟩
section
variable {c:Cy}{i:Nat}{ph:Ph}{φ:Nat->Ph}{p0:P0}{k:Nat}{s:Sh}{w:World}
theorem w8 {α:Type}(f:Nat->α)(i:Nat):upd f i (f i)=f:=by
 funext j;by_cases h:j=i
 .subst h;exact upd_same _ _ _
 .exact upd_ne _ _ h
variable {ops:Array Oper}{j n:Nat}{Q:Act->af->Ph->Prop}{a:Act}{F:af}{o:Oper}{f fi:FuncId}{cM:Array Operand}{dI:Array TypeId}
theorem heap_set (w:World){a:Addr}{v:Value}{cs:Array Value}{t:TypeId}{fr:Nat×Nat}(h:w.heap[a.block]?=some (.cells cs t fr))(hs:a.spot=none):(w.setCell a v).heap[a.block]?=some (.cells (cs.setIfInBounds a.off v) t fr):=by
 simp[World.setCell,Array.getElem?_modify,h,hs]
theorem w9 (w:World){a:Addr}{v:Value}{b:Nat}(h:b≠a.block):(w.setCell a v).heap[b]?=w.heap[b]?:=by
 simp only[World.setCell];rw[Array.getElem?_modify,if_neg (fun e=>h e.symm)]
theorem fq.set {a:Addr}(v:Value)(h:c.shared a.block):fq c w (w.setCell a v):=
 ⟨rfl,rfl,by simp[World.setCell],.refl _,fun b hb=>w9 w fun e=>hb (e▸h)⟩
theorem Inv.gL (h:Inv c.n c.bs k φ p0 s)(hi:i<c.n)(he:φ i=ph){aX:Ph}{s':Sh}(hg:ph.gp≠ .new)(g:aX.gp≠ .new)(hm:∃C S W L m,k8 c.n (upd φ i aX) s'.mu s'.ms C S W L m)(hw:c9 c.n (upd φ i aX) p0 s'.wg s'.ws)
  (d:s'.is=s.is.set i aX.stored) (hd:aX.gp≠ .cnt->aX.stored=c.bs i/\aX.mp= .fin):Inv c.n c.bs k (upd φ i aX) p0 s':=by
 refine ⟨hm,hw,by rw[d,List.length_set];exact h.i.len,h.i.kn,fun j a=>?_,fun j a=>?_,fun j a hn=>?_,fun j a b f=>?_⟩<;>by_cases e:j=i
 .subst e;rw[upd_same,d,List.getElem?_set_self (by rw[h.i.len];exact a)]
 .rw[upd_ne _ _ e,d,List.getElem?_set_ne (Ne.symm e)];exact h.i.all j a
 .subst e;rw[upd_same,h.i.born j a,he];exact ⟨fun _=>g,fun _=>hg⟩
 .rw[upd_ne _ _ e];exact h.i.born j a
 .subst e;rw[upd_same] at hn;exact absurd hn g
 .rw[upd_ne _ _ e] at hn ⊢;exact h.i.new j a hn
 .subst e;rw[upd_same] at b f ⊢;exact hd b
 .rw[upd_ne _ _ e] at b f ⊢;exact h.i.done j a b f
theorem Iu {l:List Bool}{i:Nat}{x:Bool}(h:l[i]?=some x):l.set i x=l:=by
 refine List.ext_getElem? fun j=>?_;by_cases e:i=j
 .subst e;have a:i<l.length:=by
   rcases Nat.lt_or_ge i l.length with y|y
   .exact y
   .rw[List.getElem?_eq_none y] at h;cases h
  rw[List.getElem?_set_self a,h]
 .rw[List.getElem?_set_ne e]
end
end Go.Sep
end
section
namespace Go.Proofs.YtlchekhkopimhaaGreatDoor
open Go Go.Sep Go.Proofs Go.Conc
open Go.ConcN (upd)
open Go.ConcM (muA msA)
open Go.ConcR (stA smA)
set_option maxRecDepth 100000
set_option maxHeartbeats 4000000
theorem xb:Entry Tryz.prog 171 (fun _=>do mark .disable;pure Extern.Race.none_):=⟨_,Tryz.func171,aj,aj,aj,aj⟩
theorem td:Entry Tryz.prog 172 (fun _=>do mark .enable;pure Extern.Race.none_):=⟨_,Tryz.func172,aj,aj,aj,aj⟩
theorem BI:Entry Tryz.prog 183 (Extern.Race.marked .acquire):=⟨_,Tryz.func183,aj,aj,aj,aj⟩
theorem Iv:Entry Tryz.prog 170 (Extern.Race.marked .releaseMerge):=⟨_,Tryz.func170,aj,aj,aj,aj⟩
theorem xd:Entry Tryz.prog 212 (Extern.Atomic.loadT (.int .u64)):=⟨_,Tryz.func212,aj,aj,aj,aj⟩
theorem BJ:Entry Tryz.prog 211 (Extern.Atomic.update (Op.intArith .add) .u64 true):=⟨_,Tryz.func211,aj,aj,aj,aj⟩
theorem Iw:Entry Tryz.prog 214 (Extern.Atomic.casT (.int .u64)):=⟨_,Tryz.func214,aj,aj,aj,aj⟩
theorem Ix:Entry Tryz.prog 213 Extern.Atomic.storeT:=⟨_,Tryz.func213,aj,aj,aj,aj⟩
theorem BK:Entry Tryz.prog 173 (fun _=>pure (.bool false)):=⟨_,Tryz.func173,aj,aj,aj,aj⟩
theorem Iy:Entry Tryz.prog 178 (Extern.Race.marked .read):=⟨_,Tryz.func178,aj,aj,aj,aj⟩
theorem Iz:Entry Tryz.prog 186 (Extern.Race.marked .write):=⟨_,Tryz.func186,aj,aj,aj,aj⟩
theorem IA:Entry Tryz.prog 187 Extern.Sync.semacquire:=⟨_,Tryz.func187,aj,aj,aj,aj⟩
theorem IB:Entry Tryz.prog 182 Extern.Sync.semrelease:=⟨_,Tryz.func182,aj,aj,aj,aj⟩
theorem xe:Tryz.prog.underlying 196=some (.pointer 179):=aj
theorem BL:Tryz.prog.underlying 203=some (.pointer 177):=aj
theorem q5:Tryz.prog.underlying 198=some .unsafePointer:=aj
theorem xg:(Tryz.prog.info? 179).map (fun i=>decide (i.size=0))=some false:=aj
theorem BM:(Tryz.prog.info? 177).map (fun i=>decide (i.size=0))=some false:=aj
end Go.Proofs.YtlchekhkopimhaaGreatDoor
end

/- A part of the proof of a row and its tied card: part 8. -/
import Derived.Test.YtipgiooobncfbaaGreatDoorQ7
import Derived.Conc.Own2
import Derived.Conc.Own4
import Derived.Conc.MarkLaws
import Derived.Conc.ClockLaws
import Derived.Conc.SmallLaws
import Derived.Conc.DeferLaws
set_option linter.all false
section
namespace Go.Sep
open Go Go.Conc
structure dy (P:Program)(main:Bool)(J:Goroutine->af->Prop):Prop where
 move:∀{fr fr':Frame} {cs cs':List Frame} {F:af},(∀w,stepG P main (G fr cs) w= .go (G fr' cs') w #[])->J (G fr' cs') F->J (G fr cs) F
theorem Closed.dQ {P:Program}{main:Bool}{J:Goroutine->af->Prop}(h:Closed P main J):dy P main J:=⟨fun hs a=>h.move hs a⟩
theorem dZ {b:Frame}(h:b.roundOf=none)(a:Act)(todo:List Item):on b a todo=b.at a todo:=by
 cases b
 simp only at h
 subst h
 rfl
structure BF (fi:FuncId)(b:Frame):Prop where
 kind:b.kind≠ .early
 round:b.roundOf=none
 fn:b.fn=fi
section
variable {P : Program} {main : Bool} {S : Type} {JF : S → Goroutine → af → Prop} {fi : FuncId}
def cw (JF:S->Goroutine->af->Prop)(fi:FuncId)(c:Code)(Q:Ex->Act->af->S->Prop)(a:Act)(F:af)(ph:S):Prop:=
 ∀(b:Frame) (k:List Item) (cs:List Frame),BF fi b->(∀e d F' aF,Q e d F' aF->wF (JF aF) b k cs e d F')->JF ph (G (on b a (.code c::k)) cs) F
def ai (JF:S->Goroutine->af->Prop)(fi:FuncId)(ops:Array Oper)(i n:Nat)(Q:Act->af->S->Prop)(a:Act)(F:af)(ph:S):Prop:=
 ∀(b:Frame) (k:List Item) (cs:List Frame),BF fi b->(∀c F' aF,Q c F' aF->JF aF (G (on b c k) cs) F')->JF ph (G (on b a (.inRegion ops (List.range' i n)::k)) cs) F
def cq (P:Program)(JF:S->Goroutine->af->Prop)(f:FuncId)(args:Array Value)(F:af)(ph:S)(R:Value->af->S->Prop):Prop:=
 ∀(c:Frame) (cs:List Frame),(∀v F' aF,R v F' aF->JF aF (G (c.finish v) cs) F')->JF ph (G (Frame.enter P f args .normal) (c::cs)) F
variable {Q : Ex → Act → af → S → Prop} {a : Act} {F : af} {ph : S}
theorem cw.mono {c:Code}{d:Ex->Act->af->S->Prop}(h:cw JF fi c Q a F ph)(f:∀e a F ph,Q e a F ph->d e a F ph):cw JF fi c d a F ph:=
 fun b k cs hb g=>h b k cs hb fun e i F' aF x=>g e i F' aF (f _ _ _ _ x)
theorem cw.of (hJ:Closed P main (JF ph)){c:Code}(h:Wp (JF ph) c (fun e a F=>Q e a F ph) a F):cw JF fi c Q a F ph:=
 fun b k cs hb d=>h b k cs ⟨hb.kind,.inl hb.round⟩ fun e f F' g=>d e f F' ph g
theorem cr (c:dy P main (JF ph))(h:Q .normal a F ph):cw JF fi .skip Q a F ph:=fun b k cs _ d=>c.move (fun _=>v7) (d _ _ _ _ h)
theorem mQ {id:Nat}(h:Q (.exit id) a F ph):cw JF fi (.exit id) Q a F ph:=fun b k cs _ c=>c _ _ _ _ h k rfl
theorem eL (h:Q .ret a F ph):cw JF fi .ret Q a F ph:=fun b k cs _ c=>c _ _ _ _ h k
def zX (JF:S->Goroutine->af->Prop)(fi:FuncId)(y:Code)(Q:Ex->Act->af->S->Prop):Ex->Act->af->S->Prop
 | .normal,a,F,ph=>cw JF fi y Q a F ph
 |e,a,F,ph=>Q e a F ph
theorem ax (f:dy P main (JF ph)){x y:Code}(h:cw JF fi x (zX JF fi y Q) a F ph):cw JF fi (.seq x y) Q a F ph:=fun b k cs hb c=>by
 refine f.move (fun _=>v9) (h b (.code y::k) cs hb fun e j F' aF d=>?_)
 cases e with
 |normal=>exact d b k cs hb c
 |exit id=>exact fun g i=>c _ _ _ _ d g (by rw[i];rfl)
 |ret=>exact c _ _ _ _ d
theorem zY (d:dy P main (JF ph)){c:Operand}{x y:Code}(t:Bool)(e:a.eval c= .bool t)(h:cw JF fi (if t then x else y) Q a F ph):cw JF fi (.cond c x y) Q a F ph:=fun b k cs hb f=>
 d.move (fun _=>we e) (h b k cs hb f)
theorem cG (b:dy P main (JF ph)){c:Operand}{x y:Code}(d:ev a c= .bool true)(h:cw JF fi x Q a F ph):cw JF fi (.cond c x y) Q a F ph:=zY b true d h
theorem cn (b:dy P main (JF ph)){c:Operand}{x y:Code}(d:ev a c= .bool false)(h:cw JF fi y Q a F ph):cw JF fi (.cond c x y) Q a F ph:=zY b false d h
def vj (id:Nat)(Q:Ex->Act->af->S->Prop):Ex->Act->af->S->Prop
 | .normal,a,F,ph=>Q .normal a F ph
 | .exit i,a,F,ph=>if i=id then Q .normal a F ph else Q (.exit i) a F ph
 | .ret,a,F,ph=>Q .ret a F ph
theorem iL (j:∀ph,dy P main (JF ph)){id:Nat}{c:Code}(h:cw JF fi c (vj id Q) a F ph):cw JF fi (.block id c) Q a F ph:=fun b k cs hb f=>by
 refine (j ph).move (fun _=>wh) (h b (.inBlock id::k) cs hb fun e n F' aF d=>?_)
 cases e with
 |normal=>exact (j aF).move (fun _=>v8) (f _ _ _ _ d)
 |exit i=>
  intro l m
  simp only[vj] at d
  by_cases g:i=id
  ·rw[if_pos g] at d
   subst g
   have:exitTo i l=some k:=by rw[m];simp[exitTo]
   exact (j aF).move (fun _=>wo this) (f _ _ _ _ d)
  ·rw[if_neg g] at d
   refine f _ _ _ _ d l ?_
   rw[m]
   simp[exitTo,Ne.symm g]
 |ret=>exact f _ _ _ _ d
def vk (I:Nat->Act->af->S->Prop)(n:Nat)(Q:Ex->Act->af->S->Prop):Ex->Act->af->S->Prop
 | .normal,a,F,ph=>∃m,m<n/\I m a F ph
 |e,a,F,ph=>Q e a F ph
theorem oL (f:∀ph,dy P main (JF ph)){c:Code}(I:Nat->Act->af->S->Prop)(n:Nat)(h0:I n a F ph)(hs:∀n a F ph,I n a F ph->cw JF fi c (vk I n Q) a F ph):cw JF fi (.loop c) Q a F ph:=by
 intro b k cs hb g
 have key:∀n a F ph,I n a F ph->JF ph (G (on b a (.code c:: .inLoop c::k)) cs) F:=by
  intro n
  induction n using Nat.strongRecOn with
  |_ n ih=>
   intro a F ph h
   refine hs n a F ph h b (.inLoop c::k) cs hb fun e j F' aF d=>?_
   cases e with
   |normal=>
    obtain ⟨m,hm,l⟩:=d
    exact (f aF).move (fun _=>wm) (ih m hm j F' aF l)
   |exit i=>exact fun o p=>g _ _ _ _ d o (by rw[p];rfl)
   |ret=>exact g _ _ _ _ d
 exact (f ph).move (fun _=>wj) (key n a F ph h0)
theorem cH (c:∀ph,dy P main (JF ph)){id:Nat}{ops:Array Oper}(h:ai JF fi ops 0 ops.size (Q .normal) a F ph):cw JF fi (.region id ops false) Q a F ph:=fun b k cs hb d=>by
 refine (c ph).move (fun _=>wq) ?_
 rw[List.range_eq_range']
 exact h b k cs hb fun e F' aF f=>d .normal e F' aF f
variable {ops : Array Oper} {i n : Nat} {Q : Act → af → S → Prop}
theorem ai.nil (c:∀ph,dy P main (JF ph))(h:Q a F ph):ai JF fi ops i 0 Q a F ph:=fun b k cs hb d=>
 (c ph).move (fun _=>wv) (d _ _ _ h)
theorem zZ (hJ:Closed P main (JF ph)):∀(m i n:Nat) (a:Act) (F:af),e4 P (JF ph) ops (fun c F'=>ai JF fi ops (i+m) n Q c F' ph) (List.range' i m) a F->ai JF fi ops i (m+n) Q a F ph
 |0,i,n,a,F,h=>by rw[Nat.zero_add];exact h
 |m+1,i,n,a,F,h=>fun b k cs hb f=>by
  have e:m+1+n=(m+n)+1:=by omega
  rw[e,List.range'_succ]
  rw[List.range'_succ] at h
  refine wB hJ ⟨hb.kind,.inl hb.round⟩ h fun c F' d=>?_
  have e2:i+(m+1)=(i+1)+m:=by omega
  rw[e2] at d
  exact zZ hJ m (i+1) n c F' d b k cs hb f
theorem vl {J:Goroutine->af->Prop}{K:Act->af->Prop}:∀(l:List Oper) (k:Nat) (go:Bool) (a:Act) (F:af),(∀j o,l[j]?=some o->ops[k+j]?=some o)->eT P J ops K l go a F->e4 P J ops K (List.range' k l.length) a F
 |[],k,_,a,F,_,h=>by rw[w8] at h;exact h
 |o::rest,k,go,a,F,b,h=>by
  have d:ops[k]?=some o:=b 0 o rfl
  have c:∀j x,rest[j]?=some x->ops[k+1+j]?=some x:=fun j x e=>by rw[Nat.add_assoc,Nat.add_comm 1 j];exact b (j+1) x e
  simp only[List.length_cons,List.range'_succ]
  show dh P J ops k (e4 P J ops K (List.range' (k+1) rest.length)) a F
  unfold dh
  simp only[d]
  have h:eT P J ops K (o::rest) true a F:=by unfold eT at h ⊢;exact h
  rw[w9] at h
  split at h
  ·rename_i hg
   rw[if_pos (bV hg)]
   exact fX (m0 (fun v F' f=>vl rest (k+1) _ _ F' c f) (fun _ _ x=>x)) _ _ (jB h)
  ·rename_i hg
   rw[if_neg (by rw[bV hg];simp)]
   exact vl rest (k+1) _ _ F c h
  ·exact h.elim
theorem ai.bh (hJ:Closed P main (JF ph))(m:Nat){n:Nat}(l:List Oper)(c:(ops.toList.drop i).take m=l)(hm:l.length=m)(h:eT P (JF ph) ops (fun d F'=>ai JF fi ops (i+m) n Q d F' ph) l true a F):ai JF fi ops i (m+n) Q a F ph:=by
 subst hm
 refine zZ hJ l.length i n a F (vl l i true a F (fun j o b=>?_) h)
 rw[<-c] at b
 have e:j<l.length:=by
  rcases Nat.lt_or_ge j l.length with x|x
  ·exact x
  ·rw[c,List.getElem?_eq_none x] at b;cases b
 rw[List.getElem?_take,if_pos e,List.getElem?_drop] at b
 simpa using b
theorem ai.skip (d:dy P main (JF ph)){o:Oper}(c:ops[i]?=some o)(hg:cp ops o a=some false)(h:ai JF fi ops (i+1) n Q (aV a o.dst undef) F ph):ai JF fi ops i (n+1) Q a F ph:=fun b k cs hb e=>by
 rw[List.range'_succ]
 refine d.move (fun _=>rH (by simp[c,bV hg])) ?_
 simp only[c,Option.bind_some]
 exact h b k cs hb e
theorem ai.plain (c:dy P main (JF ph)){o:Oper}(v:Value)(d:ops[i]?=some o)(hg:cp ops o a=some true)(e:∀w,(execOp a.eval o).run P w= .ok (.value v) w)(he:∀w,(execOp a.eval o).events P w #[]=#[])
  (h:ai JF fi ops (i+1) n Q (aV a o.dst v) F ph):ai JF fi ops i (n+1) Q a F ph:=fun b k cs hb f=>by
 rw[List.range'_succ,dZ hb.round]
 refine c.move (fr':=b.at (a.put o.dst v) (.inRegion ops (List.range' (i+1) n)::k)) (fun w=>?_) (by rw[<-dZ hb.round];exact h b k cs hb f)
 rw[stepG_value d (bV hg) hb.kind (e w)]
 unfold listed
 rw[he w,seen_none]
theorem ai.call (d:dy P main (JF ph)){o:Oper}{f:FuncId}{args:Array Value}{R:Value->af->S->Prop}(c:ops[i]?=some o)(hg:cp ops o a=some true)(e:∀w,(execOp a.eval o).run P w= .ok (.enter f args) w)(he:∀w,(execOp a.eval o).events P w #[]=#[])
  (g:cq P JF f args F ph R) (h:∀v F' aF,R v F' aF->ai JF fi ops (i+1) n Q (aV a o.dst v) F' aF):ai JF fi ops i (n+1) Q a F ph:=fun b k cs hb j=>by
 rw[List.range'_succ,dZ hb.round]
 refine d.move (fr':=Frame.enter P f args .normal) (cs':=b.at a (.inRegion ops (i::List.range' (i+1) n)::k)::cs) (fun w=>?_) (g _ cs fun v F' aF l=>?_)
 ·rw[stepG_enter c (bV hg) hb.kind (e w)]
  unfold listed
  rw[he w,seen_none]
 ·rw[Frame.finish_at,c]
  rw[show (Option.some o).bind (·.dst)=o.dst from rfl,<-dZ hb.round]
  exact h v F' aF l b k cs hb j
def iM (P:Program)(fn:Func)(R:Value->af->S->Prop):Ex->Act->af->S->Prop
 | .exit _,_,_,_=>False
 |_,a,F,ph=>a.defers=[]/\∃v,(∀w,(results fn a.tmps).run P w= .ok v w/\(results fn a.tmps).events P w #[]=#[])/\R v F ph
theorem cq.of (k:∀ph,dy P main (JF ph)){f:FuncId}{fn:Func}{c:Code}{args:Array Value}{R:Value->af->S->Prop}(l:P.funcs[f]?=some fn)(hb:fn.body=some c)
  (h:cw JF f c (iM P fn R) {tmps:=args++Array.replicate (fn.ntmps - args.size) undef,defers:=[]} F ph):cq P JF f args F ph R:=by
 intro j cs n
 let b:Frame:={(default:Frame) with fn:=f,kind:=.normal}
 have o:b.roundOf=none:=rfl
 have p:Frame.enter P f args .normal=on b {tmps:=args++Array.replicate (fn.ntmps - args.size) undef,defers:=[]} [.code c]:=by
  simp[Frame.enter,on,l,hb,b]
  rfl
 rw[p]
 have leave:∀(d:Act) (todo:List Item) F' aF,d.defers=[]->(∃v,(∀w,(results fn d.tmps).run P w= .ok v w/\(results fn d.tmps).events P w #[]=#[])/\R v F' aF)->JF aF (G {on b d todo with mode:=.returning} (j::cs)) F':=by
  intro d todo F' aF hd ⟨v,m,q⟩
  refine (k aF).move (fr':=j.finish v) (cs':=cs) (fun w=>?_) (n v F' aF q)
  have:=stepG_leave (P:=P) (main:=main) (b:=b) (a:=d) (todo:=todo) (cs:=cs) (w:=w) (c:=j) (v:=v) rfl hd l (m w).1 (m w).2
  rw[dZ o];exact this
 refine h b [] (j::cs) ⟨by simp[b],rfl,rfl⟩ fun e d F' aF g=>?_
 cases e with
 |normal=>exact (k aF).move (fun _=>ko rfl) (leave d _ F' aF g.1 g.2)
 |exit i=>exact g.elim
 |ret=>exact fun r=>(k aF).move (fun _=>stepG_ret' rfl) (leave d _ F' aF g.1 g.2)
end
end Go.Sep
namespace Go.Sep
open Go Go.Conc
section
variable {P : Program} {main : Bool} {S : Type} {JF : S → Goroutine → af → Prop} {F : af} {ph : S}
theorem cq.go (d:∀ph,dy P main (JF ph)){f:FuncId}{fn:Func}{c:Code}{n:Nat}{args:Array Value}{R:Value->af->S->Prop}(e:P.funcs[f]?=some fn)(hb:fn.body=some c)(b:fn.ntmps=n)(g:args.size<=n)
  (h:∀A:Act,sz A=n->A.defers=[]->(∀i,slot A i=args.getD i undef)->cw JF f c (iM P fn R) A F ph):cq P JF f args F ph R:=by
 refine cq.of d e hb (h _ (by simp[sz,b];omega) rfl fun i=>?_)
 simp only[slot,b,Array.getD_eq_getD_getElem?]
 rcases Nat.lt_or_ge i args.size with a|a
 ·rw[Array.getElem?_append_left a]
 ·rw[Array.getElem?_append_right a,Array.getElem?_replicate,Array.getElem?_eq_none a]
  split<;>rfl
theorem z0 {fn:Func}{R:Value->af->S->Prop}{a:Act}(b:fn.results=#[])(hd:a.defers=[])(h:R (.tuple #[]) F ph):iM P fn R .normal a F ph/\iM P fn R .ret a F ph:=
 have x:a.defers=[]/\∃v,(∀w,(results fn a.tmps).run P w= .ok v w/\(results fn a.tmps).events P w #[]=#[])/\R v F ph:=⟨hd,.tuple #[],fun w=>⟨results_none b _ P w,events_results_none b _ _⟩,h⟩
 ⟨x,x⟩
theorem j5 {fn:Func}{R:Value->af->S->Prop}{a:Act}(b:fn.results=#[])(hd:a.defers=[])(h:R (.tuple #[]) F ph):iM P fn R .normal a F ph:=(z0 b hd h).1
theorem mR {fn:Func}{R:Value->af->S->Prop}{a:Act}(b:fn.results=#[])(hd:a.defers=[])(h:R (.tuple #[]) F ph):iM P fn R .ret a F ph:=(z0 b hd h).2
theorem j6 {fn:Func}{R:Value->af->S->Prop}{a:Act}{t:Tmp}{v:Value}(b:fn.results=#[.tmp t])(hd:a.defers=[])(c:slot a t=v)(h:R v F ph):iM P fn R .normal a F ph/\iM P fn R .ret a F ph:=
 have x:a.defers=[]/\∃v,(∀w,(results fn a.tmps).run P w= .ok v w/\(results fn a.tmps).events P w #[]=#[])/\R v F ph:=⟨hd,v,fun w=>⟨by rw[<-c];exact results_tmp b _ P w,events_results_tmp b _ _⟩,h⟩
 ⟨x,x⟩
end
end Go.Sep
namespace Go.Sep
open Go Go.Conc
attribute [go_sem] zX vj vk List.getElem_toArray List.getElem_cons_zero List.getElem_cons_succ
section
variable {P : Program} {main : Bool} {S : Type} {JF : S → Goroutine → af → Prop} {F : af} {ph : S} {fi : FuncId} {ops : Array Oper} {i n : Nat} {a : Act} {Q : Act → af → S → Prop}
theorem z1 {f:FuncId}(h:aD P f=true)(args:Array Value)(w:World)(es:Array Event):(callFunc f args).run P w= .ok (.enter f args) w/\(callFunc f args).events P w es=es:=by
 unfold aD at h
 split at h
 ·rename_i fn a
  simp only[Bool.not_eq_true',Bool.or_eq_false_iff] at h
  obtain ⟨h1,h2⟩:=h
  have b:fn.name≠ "runtime.NumGoroutine":=ne_of_beq_false h2
  cases hb:fn.body with
  |none=>rw[hb] at h1;cases h1
  |some c=>exact ⟨by simp[callFunc,a,b,hb],by simp[callFunc,a,b,hb]⟩
 ·cases h
theorem ai.fh (c:dy P main (JF ph)){o:Oper}{f:FuncId}{ck:Array Operand}{cQ:Array TypeId}{args:Array Value}{R:Value->af->S->Prop}(d:ops[i]?=some o)(hg:cp ops o a=some true)(e:o.op= .call {callee:=.value (.func f),args:=ck,argTypes:=cQ})(b:aD P f=true)
  (g:ck.map (ev a)=args) (j:cq P JF f args F ph R) (h:∀v F' aF,R v F' aF->ai JF fi ops (i+1) n Q (aV a o.dst v) F' aF):ai JF fi ops i (n+1) Q a F ph:=by
 have e1:execOp a.eval o=callFunc f args:=by rw[execOp_call_func (a:=a) e,<-g];rfl
 exact ai.call c d hg (fun w=>by rw[e1];exact (z1 b args w #[]).1) (fun w=>by rw[e1];exact (z1 b args w #[]).2) j h
end
structure Entry (P:Program)(f:FuncId)(e:Array Value->Sem Value):Prop where
 ex:∃fn,P.funcs[f]?=some fn/\(fn.name== "runtime.NumGoroutine")=false/\fn.body.isNone=true/\Extern.findNext fn=none/\Extern.find fn=some e
theorem Entry.z2 {P:Program}{f:FuncId}{e:Array Value->Sem Value}(h:Entry P f e):(P.funcs[f]?).any (·.body.isSome)=false:=by
 obtain ⟨fn,a,_,hb,_⟩:=h.ex
 rw[a]
 simpa using hb
end Go.Sep
end
section
namespace Go.Proofs.YtipgiooobncfbaaGreatDoor
open Go Go.Sep Go.Proofs Go.Conc
open Go.ConcN (upd)
open Go.ConcM (muA msA)
open Go.ConcR (stA smA)
set_option maxRecDepth 100000
set_option maxHeartbeats 4000000
theorem oM:Entry Tryz.prog 152 (fun _=>do mark .disable;pure Extern.Race.none_):=⟨_,Tryz.func152,by kernel_rfl,by kernel_rfl,by kernel_rfl,by kernel_rfl⟩
theorem j7:Entry Tryz.prog 153 (fun _=>do mark .enable;pure Extern.Race.none_):=⟨_,Tryz.func153,by kernel_rfl,by kernel_rfl,by kernel_rfl,by kernel_rfl⟩
theorem q4:Entry Tryz.prog 167 (Extern.Race.marked .acquire):=⟨_,Tryz.func167,by kernel_rfl,by kernel_rfl,by kernel_rfl,by kernel_rfl⟩
theorem z3:Entry Tryz.prog 151 (Extern.Race.marked .releaseMerge):=⟨_,Tryz.func151,by kernel_rfl,by kernel_rfl,by kernel_rfl,by kernel_rfl⟩
theorem q5:Entry Tryz.prog 182 (Extern.Atomic.casT (.int .i32)):=⟨_,Tryz.func182,by kernel_rfl,by kernel_rfl,by kernel_rfl,by kernel_rfl⟩
theorem vm:Entry Tryz.prog 184 (Extern.Atomic.update (Op.intArith .add) .i32 true):=⟨_,Tryz.func184,by kernel_rfl,by kernel_rfl,by kernel_rfl,by kernel_rfl⟩
theorem Fa:Entry Tryz.prog 203 Extern.Sync.semacquire:=⟨_,Tryz.func203,by kernel_rfl,by kernel_rfl,by kernel_rfl,by kernel_rfl⟩
theorem z4:Entry Tryz.prog 205 Extern.Sync.semrelease:=⟨_,Tryz.func205,by kernel_rfl,by kernel_rfl,by kernel_rfl,by kernel_rfl⟩
theorem z5:Entry Tryz.prog 202 Extern.OsHooks.nano:=⟨_,Tryz.func202,by kernel_rfl,by kernel_rfl,by kernel_rfl,by kernel_rfl⟩
theorem Fb:Entry Tryz.prog 199 Extern.Sync.canSpin:=⟨_,Tryz.func199,by kernel_rfl,by kernel_rfl,by kernel_rfl,by kernel_rfl⟩
theorem Fc:Entry Tryz.prog 200 (fun _=>pure (.tuple #[])):=⟨_,Tryz.func200,by kernel_rfl,by kernel_rfl,by kernel_rfl,by kernel_rfl⟩
theorem vn:Entry Tryz.prog 179 (Extern.Atomic.loadT (.int .u64)):=⟨_,Tryz.func179,by kernel_rfl,by kernel_rfl,by kernel_rfl,by kernel_rfl⟩
theorem z6:Entry Tryz.prog 178 (Extern.Atomic.update (Op.intArith .add) .u64 true):=⟨_,Tryz.func178,by kernel_rfl,by kernel_rfl,by kernel_rfl,by kernel_rfl⟩
theorem Fe:Entry Tryz.prog 186 (Extern.Atomic.casT (.int .u64)):=⟨_,Tryz.func186,by kernel_rfl,by kernel_rfl,by kernel_rfl,by kernel_rfl⟩
theorem Ff:Entry Tryz.prog 180 Extern.Atomic.storeT:=⟨_,Tryz.func180,by kernel_rfl,by kernel_rfl,by kernel_rfl,by kernel_rfl⟩
theorem z7:Entry Tryz.prog 154 (fun _=>pure (.bool false)):=⟨_,Tryz.func154,by kernel_rfl,by kernel_rfl,by kernel_rfl,by kernel_rfl⟩
theorem Fg:Entry Tryz.prog 159 (Extern.Race.marked .read):=⟨_,Tryz.func159,by kernel_rfl,by kernel_rfl,by kernel_rfl,by kernel_rfl⟩
theorem Fh:Entry Tryz.prog 170 (Extern.Race.marked .write):=⟨_,Tryz.func170,by kernel_rfl,by kernel_rfl,by kernel_rfl,by kernel_rfl⟩
theorem Fi:Entry Tryz.prog 171 Extern.Sync.semacquire:=⟨_,Tryz.func171,by kernel_rfl,by kernel_rfl,by kernel_rfl,by kernel_rfl⟩
theorem Fj:Entry Tryz.prog 163 Extern.Sync.semrelease:=⟨_,Tryz.func163,by kernel_rfl,by kernel_rfl,by kernel_rfl,by kernel_rfl⟩
theorem vo:Tryz.prog.underlying 223=some (.pointer 173):=by kernel_rfl
theorem vp:Tryz.prog.underlying 195=some (.pointer 182):=by kernel_rfl
theorem z8:Tryz.prog.underlying 203=some (.pointer 171):=by kernel_rfl
theorem j8:Tryz.prog.underlying 197=some .unsafePointer:=by kernel_rfl
theorem mS:Tryz.prog.underlying 21=some (.int .i32):=by kernel_rfl
theorem Fo:Tryz.prog.underlying 4=some .bool:=by kernel_rfl
theorem vq:(Tryz.prog.info? 173).map (fun i=>decide (i.size=0))=some false:=by kernel_rfl
theorem vr:(Tryz.prog.info? 182).map (fun i=>decide (i.size=0))=some false:=by kernel_rfl
theorem z9:(Tryz.prog.info? 171).map (fun i=>decide (i.size=0))=some false:=by kernel_rfl
theorem q6:(Tryz.prog.funcs[183]?).any (·.norace)=true:=by kernel_rfl
theorem Fp:(Tryz.prog.funcs[166]?).any (·.norace)=true:=by kernel_rfl
theorem Fq:(Tryz.prog.funcs[185]?).any (·.norace)=true:=by kernel_rfl
theorem Aa:(Tryz.prog.funcs[202]?).any (·.norace)=true:=by kernel_rfl
noncomputable abbrev CY (Mu Wg Is n:Nat)(bs:Nat->Bool)(base T0:Nat):Cy:=⟨Tryz.prog,Mu,Wg,Is,175,182,4,n,bs,base,T0⟩
end Go.Proofs.YtipgiooobncfbaaGreatDoor
end
section
namespace Go.Sep
open Go Go.Conc
open Go.ConcN (sumTo upd upd_ne upd_same)
open Go.ConcM (MuAt muA msA muBlock OsLater)
open Go.ConcR (WgAt wgBlock stA smA)
def At (ops:Array Oper)(j:Nat)(a:Act)(f:FuncId)(vals:List Value)(d:Option Tmp):Prop:=
 ∃o ck cQ,ops[j]?=some o/\cp ops o a=some true/\o.op= .call {callee:=.value (.func f),args:=ck,argTypes:=cQ}/\ck.toList.map (ev a)=vals/\o.dst=d
def lC (ops:Array Oper)(j:Nat)(a:Act)(op:Op)(d:Option Tmp):Prop:=∃o,ops[j]?=some o/\cp ops o a=some true/\o.op=op/\o.dst=d
theorem iN {a:Act}{ck:Array Operand}{p:Value}(h:ck.toList.map (ev a)=[p]):∃x,ck=#[x]/\ev a x=p:=by
 obtain ⟨l⟩:=ck
 match l,h with
 |[x],h=>exact ⟨x,rfl,by simpa using h⟩
theorem oN {a:Act}{ck:Array Operand}{p q:Value}(h:ck.toList.map (ev a)=[p,q]):∃x y,ck=#[x,y]/\ev a x=p/\ev a y=q:=by
 obtain ⟨l⟩:=ck
 match l,h with
 |[x,y],h=>exact ⟨x,y,rfl,by simpa using h⟩
theorem oO {a:Act}{ck:Array Operand}{p q r:Value}(h:ck.toList.map (ev a)=[p,q,r]):∃x y z,ck=#[x,y,z]/\ev a x=p/\ev a y=q/\ev a z=r:=by
 obtain ⟨l⟩:=ck
 match l,h with
 |[x,y,z],h=>exact ⟨x,y,z,rfl,by simpa using h⟩
abbrev WJ (c:Cy)(i:Nat):Ph->Goroutine->af->Prop:=fun ph g F=>Wk c i ph g F
section
variable {c : Cy} {i : Nat} {ph : Ph} {φ : Nat → Ph} {p0 : P0} {k : Nat} {s : Sh} {w : World}
theorem vt {α:Type}(f:Nat->α)(i:Nat):upd f i (f i)=f:=by
 funext j
 by_cases h:j=i
 ·subst h;exact upd_same _ _ _
 ·exact upd_ne _ _ h
theorem lD {aF:Ph}(hd:aF.deaf=ph.deaf)(hg:aF.gp= .cnt↔ph.gp= .cnt):EvA c i ph aF #[]:=.book (by simp) (by rw[hd];rfl) (by simp) hg
theorem WJ.dQ (c:Cy)(i:Nat)(ph:Ph):dy c.P false (WJ c i ph):=⟨fun {fr fr' cs cs' F} hs h=>by
 by_cases hg:ph.gp= .gone
 ·obtain ⟨F0,r,hle,hW⟩:=h
  obtain ⟨q,_,a⟩:=hW.left hg
  exact Wk.gone (q:=q+1) hg (.inr ⟨rfl,G fr' cs',#[],by simp,hs,by rw[deafBehind_nil];exact a⟩)
 ·refine Wk.act rfl rfl hg fun w s k φ p0 h1 h2 h3 b d=>.inr ⟨G fr' cs',w,#[],s,ph,hs w,h2,.refl _ _,?_,lD rfl Iff.rfl,.inr ⟨Int.le_refl _,Int.le_refl _⟩,h⟩
  rw[<-b,vt];exact d⟩
variable {ops : Array Oper} {j n : Nat} {Q : Act → af → Ph → Prop} {a : Act} {F : af} {o : Oper} {f fi : FuncId} {ck : Array Operand} {cQ : Array TypeId}
theorem eM (g:ops[j]?=some o)(l:ph.gp≠ .gone)
  (h:∀(w:World) (s:Sh) (k:Nat) (φ:Nat->Ph) (p0:P0),Has F w->cj c w s->i<c.n->φ i=ph->Inv c.n c.bs k φ p0 s->
   (ph.mp.gG=true/\s.ms=0/\∀(b:Frame) (d:List Item) (cs:List Frame),stepG c.P false (G (b.at a (.inRegion ops (j::List.range' (j+1) n)::d)) cs) w= .go {G (b.at a (.inRegion ops (j::List.range' (j+1) n)::d)) cs with status:=.blocked} w #[])\/
   (∃(v:Value) (w':World) (es:Array Event) (s':Sh) (aF:Ph),(∀(b:Frame) (d:List Item) (cs:List Frame),BF fi b->
    stepG c.P false (G (b.at a (.inRegion ops (j::List.range' (j+1) n)::d)) cs) w= .go (G (b.at (a.put o.dst v) (.inRegion ops (List.range' (j+1) n)::d)) cs) w' es)/\cj c w' s'/\gh c w w'/\Inv c.n c.bs k (upd φ i aF) p0 s'/\EvA c i ph aF es/\
    ((∃call,o.op= .call call/\∀x,call.callee= .value x->∃f,a.eval x= .func (.func f) #[] #[]/\(c.P.funcs[f]?).any (·.body.isSome)=false)\/(s'.ms<=s.ms/\s'.ws<=s.ws))/\ai (WJ c i) fi ops (j+1) n Q (a.put o.dst v) F aF)):ai (WJ c i) fi ops j (n+1) Q a F ph:=fun b d cs hb m=>by
 rw[List.range'_succ,dZ hb.round]
 refine Wk.act rfl rfl l fun w s k φ p0 e1 e2 p q r=>?_
 rcases h w s k φ p0 e1 e2 p q r with ⟨x,y,z⟩|⟨v,w',es,s',aF,z,t,u,A,B,e,C⟩
 ·exact .inl ⟨x,y,z b d cs⟩
 ·refine .inr ⟨_,w',es,s',aF,z b d cs hb,t,u,A,B,?_,?_⟩
  ·rcases e with ⟨call,D,E⟩|e
   ·refine .inl ?_
    simp only[mayWake,G,Frame.at,g,Option.map_some,D]
    obtain ⟨callee,args,argTypes⟩:=call
    cases callee with
    |value x=>
     obtain ⟨f,H,hb⟩:=E x rfl
     have:Frame.eval (b.at a (.inRegion ops (j::List.range' (j+1) n)::d)) x= .func (.func f) #[] #[]:=by rw[Frame.eval_at];exact H
     simp only[Frame.at] at this
     simp only[this,hb,Bool.not_false]
    |_=>rfl
   ·exact .inr e
  ·rw[<-dZ hb.round];exact C b d cs hb m
theorem heap_set (w:World){a:Addr}{v:Value}{cs:Array Value}{t:TypeId}{fr:Nat×Nat}(h:w.heap[a.block]?=some (.cells cs t fr))(hs:a.spot=none):(w.setCell a v).heap[a.block]?=some (.cells (cs.setIfInBounds a.off v) t fr):=by
 simp[World.setCell,Array.getElem?_modify,h,hs]
theorem hU (w:World){a:Addr}{v:Value}{b:Nat}(h:b≠a.block):(w.setCell a v).heap[b]?=w.heap[b]?:=by
 simp only[World.setCell]
 rw[Array.getElem?_modify,if_neg (fun e=>h e.symm)]
theorem cj.mu (h:cj c w s):w.cell? (muA c.Mu)=some (.int .i32 s.mu)/\w.frozen? (muA c.Mu)=false:=by
 have:=h.1;unfold MuAt muBlock at this;simp[World.cell?,World.frozen?,muA,this]
theorem cj.ms (h:cj c w s):w.cell? (msA c.Mu)=some (.int .u32 s.ms)/\w.frozen? (msA c.Mu)=false:=by
 have:=h.1;unfold MuAt muBlock at this;simp[World.cell?,World.frozen?,msA,this]
theorem cj.wg (h:cj c w s):w.cell? (stA c.Wg)=some (.int .u64 s.wg)/\w.frozen? (stA c.Wg)=false:=by
 have:=h.2.1;unfold WgAt wgBlock at this;simp[World.cell?,World.frozen?,stA,this]
theorem cj.ws (h:cj c w s):w.cell? (smA c.Wg)=some (.int .u32 s.ws)/\w.frozen? (smA c.Wg)=false:=by
 have:=h.2.1;unfold WgAt wgBlock at this;simp[World.cell?,World.frozen?,smA,this]
theorem gh.set {a:Addr}(v:Value)(h:c.shared a.block):gh c w (w.setCell a v):=
 ⟨rfl,rfl,by simp[World.setCell],.refl _,fun b hb=>hU w fun e=>hb (e▸h)⟩
theorem cj.Ab (b:c.Mu≠c.Wg/\c.Mu≠c.Is/\c.Wg≠c.Is)(h:cj c w s)(v:Int):cj c (w.setCell (muA c.Mu) (.int .i32 v)) {s with mu:=v}:=by
 obtain ⟨h1,h2,h3⟩:=h
 refine ⟨?_,?_,?_⟩
 ·unfold MuAt muBlock at*;exact (heap_set w (a:=muA c.Mu) h1 rfl).trans rfl
 ·unfold WgAt at*;rw[hU w (Ne.symm b.1)];exact h2
 ·rw[hU w (Ne.symm b.2.1)];exact h3
theorem cj.Ac (b:c.Mu≠c.Wg/\c.Mu≠c.Is/\c.Wg≠c.Is)(h:cj c w s)(v:Int):cj c (w.setCell (msA c.Mu) (.int .u32 v)) {s with ms:=v}:=by
 obtain ⟨h1,h2,h3⟩:=h
 refine ⟨?_,?_,?_⟩
 ·unfold MuAt muBlock at*;exact (heap_set w (a:=msA c.Mu) h1 rfl).trans rfl
 ·unfold WgAt at*;rw[hU w (Ne.symm b.1)];exact h2
 ·rw[hU w (Ne.symm b.2.1)];exact h3
theorem cj.q7 (b:c.Mu≠c.Wg/\c.Mu≠c.Is/\c.Wg≠c.Is)(h:cj c w s)(v:Int):cj c (w.setCell (stA c.Wg) (.int .u64 v)) {s with wg:=v}:=by
 obtain ⟨h1,h2,h3⟩:=h
 refine ⟨?_,?_,?_⟩
 ·unfold MuAt at*;rw[hU w b.1];exact h1
 ·unfold WgAt wgBlock at*;exact (heap_set w (a:=stA c.Wg) h2 rfl).trans rfl
 ·rw[hU w (Ne.symm b.2.2)];exact h3
theorem cj.Ad (b:c.Mu≠c.Wg/\c.Mu≠c.Is/\c.Wg≠c.Is)(h:cj c w s)(v:Int):cj c (w.setCell (smA c.Wg) (.int .u32 v)) {s with ws:=v}:=by
 obtain ⟨h1,h2,h3⟩:=h
 refine ⟨?_,?_,?_⟩
 ·unfold MuAt at*;rw[hU w b.1];exact h1
 ·unfold WgAt wgBlock at*;exact (heap_set w (a:=smA c.Wg) h2 rfl).trans rfl
 ·rw[hU w (Ne.symm b.2.2)];exact h3
theorem cj.Fs (b:c.Mu≠c.Wg/\c.Mu≠c.Is/\c.Wg≠c.Is)(h:cj c w s)(m:Nat)(v:Bool):cj c (w.setCell ⟨c.Is,m,none⟩ (.bool v)) {s with is:=s.is.set m v}:=by
 obtain ⟨h1,h2,h3⟩:=h
 refine ⟨?_,?_,?_⟩
 ·unfold MuAt at*;rw[hU w b.2.1];exact h1
 ·unfold WgAt at*;rw[hU w b.2.2];exact h2
 ·rw[heap_set w (a:=⟨c.Is,m,none⟩) h3 rfl]
  simp[List.map_set]
theorem Ft:EvA c i ph {ph with deaf:=ph.deaf+1} #[cu .disable]:=
 .book (fun e he=>by simp at he;exact .inl he) rfl (fun j e he=>.inl (by have:=Array.mem_of_getElem? he;simp at this;subst this;rfl)) Iff.rfl
theorem Fu {d:Nat}(hd:ph.deaf=d+1):EvA c i ph {ph with deaf:=d} #[cu .enable]:=
 .book (fun e he=>by simp at he;exact .inr (.inl he)) (by rw[hd];rfl) (fun j e he=>.inl (by have:=Array.mem_of_getElem? he;simp at this;subst this;rfl)) Iff.rfl
theorem vu {aF:Ph}{a:Addr}(x:Bool)(hd:aF.deaf=ph.deaf)(hg:aF.gp= .cnt↔ph.gp= .cnt)(h0:0<ph.deaf)(b:a.block=c.Wg\/(a.block=c.Mu/\ph.gp= .cnt)):EvA c i ph aF #[⟨.cell a,x,true⟩]:=by
 refine .book (fun e he=>?_) (by rw[hd];simp[deafBehind]) (fun j e he=>?_) hg
 ·simp at he;exact .inr (.inr ⟨a,x,he,b⟩)
 ·match j,he with
  |0,_=>exact .inr (by simpa [deafBehind] using h0)
  |j+1,he=>simp at he
theorem vv {aF:Ph}{a:Addr}(hd:aF.deaf=ph.deaf)(hg:aF.gp= .cnt↔ph.gp= .cnt)(h0:0<ph.deaf)(b:a.block=c.Wg\/(a.block=c.Mu/\ph.gp= .cnt)):EvA c i ph aF #[⟨.cell a,false,true⟩,⟨.cell a,true,true⟩]:=by
 refine .book (fun e he=>?_) (by rw[hd];simp[deafBehind]) (fun j e he=>?_) hg
 ·simp at he;rcases he with he|he<;>exact .inr (.inr ⟨a,_,he,b⟩)
 ·match j,he with
  |0,_=>exact .inr (by simpa [deafBehind] using h0)
  |1,_=>exact .inr (by simpa [deafBehind] using h0)
  |j+2,he=>simp at he
theorem vw {aF:Ph}{a:Addr}(hd:aF.deaf=ph.deaf)(hg:aF.gp= .cnt↔ph.gp= .cnt)(b:a.block=c.Wg\/(a.block=c.Mu/\ph.gp= .cnt)):EvA c i ph aF (semEvents a):=by
 refine .book (fun e he=>?_) (by rw[hd];simp[deafBehind,semEvents]) (fun j e he=>?_) hg
 ·simp[semEvents] at he
  rcases he with rfl|rfl|rfl|rfl
  ·exact .inl rfl
  ·exact .inr (.inr ⟨a,_,rfl,b⟩)
  ·exact .inr (.inr ⟨a,_,rfl,b⟩)
  ·exact .inr (.inl rfl)
 ·match j,he with
  |0,he=>simp[semEvents] at he;subst he;exact .inl rfl
  |1,_=>exact .inr (by simp[deafBehind,semEvents])
  |2,_=>exact .inr (by simp[deafBehind,semEvents])
  |3,he=>simp[semEvents] at he;subst he;exact .inl rfl
  |j+4,he=>simp[semEvents] at he
theorem Inv.iK (h:Inv c.n c.bs k φ p0 s)(g:i<c.n)(he:φ i=ph){aF:Ph}{s':Sh}(hg:ph.gp≠ .new)(f:aF.gp≠ .new)(hm:∃C S W L m,b8 c.n (upd φ i aF) s'.mu s'.ms C S W L m)(hw:cZ c.n (upd φ i aF) p0 s'.wg s'.ws)
  (d:s'.is=s.is.set i aF.stored) (hd:aF.gp≠ .cnt->aF.stored=c.bs i/\aF.mp= .fin):Inv c.n c.bs k (upd φ i aF) p0 s':=by
 refine ⟨hm,hw,by rw[d,List.length_set];exact h.i.len,h.i.kn,fun j a=>?_,fun j a=>?_,fun j a b=>?_,fun j a h1 h2=>?_⟩<;>by_cases e:j=i
 ·subst e;rw[upd_same,d,List.getElem?_set_self (by rw[h.i.len];exact a)]
 ·rw[upd_ne _ _ e,d,List.getElem?_set_ne (Ne.symm e)];exact h.i.all j a
 ·subst e;rw[upd_same,h.i.born j a,he];exact ⟨fun _=>f,fun _=>hg⟩
 ·rw[upd_ne _ _ e];exact h.i.born j a
 ·subst e;rw[upd_same] at b;exact absurd b f
 ·rw[upd_ne _ _ e] at b ⊢;exact h.i.new j a b
 ·subst e;rw[upd_same] at h1 h2 ⊢;exact hd h1
 ·rw[upd_ne _ _ e] at h1 h2 ⊢;exact h.i.done j a h1 h2
theorem vz {l:List Bool}{i:Nat}{x:Bool}(h:l[i]?=some x):l.set i x=l:=by
 refine List.ext_getElem? fun j=>?_
 by_cases e:i=j
 ·subst e
  have a:i<l.length:=by
   rcases Nat.lt_or_ge i l.length with y|y
   ·exact y
   ·rw[List.getElem?_eq_none y] at h;cases h
  rw[List.getElem?_set_self a,h]
 ·rw[List.getElem?_set_ne e]
theorem Inv.mutex (h:Inv c.n c.bs k φ p0 s)(a:i<c.n)(he:φ i=ph)(hg:ph.gp= .cnt){mp:Mp}{mu ms:Int}(hm:∃C S W L m,b8 c.n (upd φ i {ph with mp:=mp}) mu ms C S W L m):Inv c.n c.bs k (upd φ i {ph with mp:=mp}) p0 {s with mu:=mu,ms:=ms}:=
 h.iK a he (by rw[hg];simp) (by rw[hg];simp) hm (qW h.w a _ (.inl (by rw[he]))) (by
  have:=h.i.all i a
  rw[he] at this
  exact (vz this).symm) (fun b=>absurd hg b)
theorem Inv.Ae (h:Inv c.n c.bs k φ p0 s)(a:i<c.n)(he:φ i=ph)(hg:ph.gp≠ .new)(d:Nat):Inv c.n c.bs k (upd φ i {ph with deaf:=d}) p0 s:=by
 subst he;exact h.deaf a hg d
end
end Go.Sep
end

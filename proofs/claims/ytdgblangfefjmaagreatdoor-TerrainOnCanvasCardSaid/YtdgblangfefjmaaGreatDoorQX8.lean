/- A part of the proof: QX8. -/
import Derived.Test.YtdgblangfefjmaaGreatDoorQX7
import Derived.Conc.Own2
import Derived.Conc.Own4
import Derived.Conc.MarkLaws
import Derived.Conc.ClockLaws
import Derived.Conc.SmallLaws
import Derived.Conc.DeferLaws
set_option linter.all false
section
namespace Go.Sep
open Go Go.Conc
structure eD (P:Program)(main:Bool)(J:Goroutine->af->Prop):Prop where
 move:∀{fr fr':Frame} {cs cs':List Frame} {F:af},(∀w,stepG P main (G fr cs) w= .go (G fr' cs') w #[])->J (G fr' cs') F->J (G fr cs) F
theorem Closed.eL {P:Program}{main:Bool}{J:Goroutine->af->Prop}(h:Closed P main J):eD P main J:=⟨fun hs a=>h.move hs a⟩
theorem eX {b:Frame}(h:b.roundOf=none)(a:Act)(todo:List Item):on b a todo=b.at a todo:=by
 cases b;simp only at h;subst h;rfl
structure BF (fi:FuncId)(b:Frame):Prop where
 kind:b.kind≠ .early
 round:b.roundOf=none
 fn:b.fn=fi
section
variable {P:Program}{main:Bool}{S:Type}{JF:S->Goroutine->af->Prop}{fi:FuncId}
def cX (JF:S->Goroutine->af->Prop)(fi:FuncId)(c:Code)(Q:Ex->Act->af->S->Prop)(a:Act)(F:af)(ph:S):Prop:=
 ∀(b:Frame) (k:List Item) (cs:List Frame),BF fi b->(∀e d F' aV,Q e d F' aV->yx (JF aV) b k cs e d F')->JF ph (G (on b a (.code c::k)) cs) F
def ak (JF:S->Goroutine->af->Prop)(fi:FuncId)(ops:Array Oper)(i n:Nat)(Q:Act->af->S->Prop)(a:Act)(F:af)(ph:S):Prop:=
 ∀(b:Frame) (k:List Item) (cs:List Frame),BF fi b->(∀c F' aV,Q c F' aV->JF aV (G (on b c k) cs) F')->JF ph (G (on b a (.inRegion ops (List.range' i n)::k)) cs) F
def cO (P:Program)(JF:S->Goroutine->af->Prop)(f:FuncId)(args:Array Value)(F:af)(ph:S)(R:Value->af->S->Prop):Prop:=
 ∀(c:Frame) (cs:List Frame),(∀v F' aV,R v F' aV->JF aV (G (c.finish v) cs) F')->JF ph (G (Frame.enter P f args .normal) (c::cs)) F
variable {Q:Ex->Act->af->S->Prop}{a:Act}{F:af}{ph:S}
theorem cX.mono {c:Code}{d:Ex->Act->af->S->Prop}(h:cX JF fi c Q a F ph)(f:∀e a F ph,Q e a F ph->d e a F ph):cX JF fi c d a F ph:=
 fun b k cs hb g=>h b k cs hb fun e i F' aV x=>g e i F' aV (f _ _ _ _ x)
theorem cX.of (hJ:Closed P main (JF ph)){c:Code}(h:Wp (JF ph) c (fun e a F=>Q e a F ph) a F):cX JF fi c Q a F ph:=
 fun b k cs hb d=>h b k cs ⟨hb.kind,.inl hb.round⟩ fun e f F' g=>d e f F' ph g
theorem cP (hM:eD P main (JF ph))(h:Q .normal a F ph):cX JF fi .skip Q a F ph:=fun b k cs _ c=>hM.move (fun _=>ya) (c _ _ _ _ h)
theorem n9 {id:Nat}(h:Q (.exit id) a F ph):cX JF fi (.exit id) Q a F ph:=fun b k cs _ c=>c _ _ _ _ h k rfl
theorem fM (h:Q .ret a F ph):cX JF fi .ret Q a F ph:=fun b k cs _ c=>c _ _ _ _ h k
def Bi (JF:S->Goroutine->af->Prop)(fi:FuncId)(y:Code)(Q:Ex->Act->af->S->Prop):Ex->Act->af->S->Prop
 | .normal,a,F,ph=>cX JF fi y Q a F ph
 |e,a,F,ph=>Q e a F ph
theorem aH (hM:eD P main (JF ph)){x y:Code}(h:cX JF fi x (Bi JF fi y Q) a F ph):cX JF fi (.seq x y) Q a F ph:=fun b k cs hb c=>by
 refine hM.move (fun _=>yc) (h b (.code y::k) cs hb fun e i F' aV d=>?_)
 cases e with
 |normal=>exact d b k cs hb c
 |exit id=>exact fun f g=>c _ _ _ _ d f (by rw[g];rfl)
 |ret=>exact c _ _ _ _ d
theorem Bj (hM:eD P main (JF ph)){c:Operand}{x y:Code}(t:Bool)(d:a.eval c= .bool t)(h:cX JF fi (if t then x else y) Q a F ph):cX JF fi (.cond c x y) Q a F ph:=fun b k cs hb e=>
 hM.move (fun _=>yd d) (h b k cs hb e)
theorem dm (hM:eD P main (JF ph)){c:Operand}{x y:Code}(b:ev a c= .bool true)(h:cX JF fi x Q a F ph):cX JF fi (.cond c x y) Q a F ph:=Bj hM true b h
theorem cK (hM:eD P main (JF ph)){c:Operand}{x y:Code}(b:ev a c= .bool false)(h:cX JF fi y Q a F ph):cX JF fi (.cond c x y) Q a F ph:=Bj hM false b h
def xo (id:Nat)(Q:Ex->Act->af->S->Prop):Ex->Act->af->S->Prop
 | .normal,a,F,ph=>Q .normal a F ph
 | .exit i,a,F,ph=>if i=id then Q .normal a F ph else Q (.exit i) a F ph
 | .ret,a,F,ph=>Q .ret a F ph
theorem jO (hM:∀ph,eD P main (JF ph)){id:Nat}{c:Code}(h:cX JF fi c (xo id Q) a F ph):cX JF fi (.block id c) Q a F ph:=fun b k cs hb f=>by
 refine (hM ph).move (fun _=>ye) (h b (.inBlock id::k) cs hb fun e m F' aV d=>?_)
 cases e with
 |normal=>exact (hM aV).move (fun _=>yb) (f _ _ _ _ d)
 |exit i=>
  intro j l
  simp only[xo] at d
  by_cases g:i=id
  .rw[if_pos g] at d
   subst g
   have:exitTo i j=some k:=by rw[l];simp[exitTo]
   exact (hM aV).move (fun _=>yh this) (f _ _ _ _ d)
  .rw[if_neg g] at d
   refine f _ _ _ _ d j ?_
   rw[l]
   simp[exitTo,Ne.symm g]
 |ret=>exact f _ _ _ _ d
def xp (I:Nat->Act->af->S->Prop)(n:Nat)(Q:Ex->Act->af->S->Prop):Ex->Act->af->S->Prop
 | .normal,a,F,ph=>∃m,m<n/\I m a F ph
 |e,a,F,ph=>Q e a F ph
theorem p5 (hM:∀ph,eD P main (JF ph)){c:Code}(I:Nat->Act->af->S->Prop)(n:Nat)(g:I n a F ph)(hs:∀n a F ph,I n a F ph->cX JF fi c (xp I n Q) a F ph):cX JF fi (.loop c) Q a F ph:=by
 intro b k cs hb f;have key:∀n a F ph,I n a F ph->JF ph (G (on b a (.code c:: .inLoop c::k)) cs) F:=by
  intro n
  induction n using Nat.strongRecOn with
  |_ n ih=>
   intro a F ph h;refine hs n a F ph h b (.inLoop c::k) cs hb fun e j F' aV d=>?_;cases e with
   |normal=>
    obtain ⟨m,hm,l⟩:=d;exact (hM aV).move (fun _=>yg) (ih m hm j F' aV l)
   |exit i=>exact fun o p=>f _ _ _ _ d o (by rw[p];rfl)
   |ret=>exact f _ _ _ _ d
 exact (hM ph).move (fun _=>yf) (key n a F ph g)
theorem dn (hM:∀ph,eD P main (JF ph)){id:Nat}{ops:Array Oper}(h:ak JF fi ops 0 ops.size (Q .normal) a F ph):cX JF fi (.region id ops false) Q a F ph:=fun b k cs hb c=>by
 refine (hM ph).move (fun _=>yj) ?_
 rw[List.range_eq_range']
 exact h b k cs hb fun d F' aV e=>c .normal d F' aV e
variable {ops:Array Oper}{i n:Nat}{Q:Act->af->S->Prop}
theorem ak.nil (hM:∀ph,eD P main (JF ph))(h:Q a F ph):ak JF fi ops i 0 Q a F ph:=fun b k cs hb c=>
 (hM ph).move (fun _=>ym) (c _ _ _ h)
theorem Bl (hJ:Closed P main (JF ph)):∀(m i n:Nat) (a:Act) (F:af),fY P (JF ph) ops (fun c F'=>ak JF fi ops (i+m) n Q c F' ph) (List.range' i m) a F->ak JF fi ops i (m+n) Q a F ph
 |0,i,n,a,F,h=>by rw[Nat.zero_add];exact h
 |m+1,i,n,a,F,h=>fun b k cs hb f=>by
  have e:m+1+n=(m+n)+1:=aa
  rw[e,List.range'_succ]
  rw[List.range'_succ] at h
  refine yq hJ ⟨hb.kind,.inl hb.round⟩ h fun c F' d=>?_
  have e2:i+(m+1)=(i+1)+m:=aa
  rw[e2] at d
  exact Bl hJ m (i+1) n c F' d b k cs hb f
theorem xq {J:Goroutine->af->Prop}{K:Act->af->Prop}:∀(l:List Oper) (k:Nat) (go:Bool) (a:Act) (F:af),(∀j o,l[j]?=some o->ops[k+j]?=some o)->fh P J ops K l go a F->fY P J ops K (List.range' k l.length) a F
 |[],k,_,a,F,_,h=>by rw[yT] at h;exact h
 |o::rest,k,go,a,F,b,h=>by
  have d:ops[k]?=some o:=b 0 o rfl
  have c:∀j x,rest[j]?=some x->ops[k+1+j]?=some x:=fun j x e=>by rw[Nat.add_assoc,Nat.add_comm 1 j];exact b (j+1) x e
  simp only[List.length_cons,List.range'_succ]
  show ef P J ops k (fY P J ops K (List.range' (k+1) rest.length)) a F
  unfold ef
  simp only[d]
  have h:fh P J ops K (o::rest) true a F:=by unfold fh at h ⊢;exact h
  rw[yU] at h
  split at h
  .rename_i hg
   rw[if_pos (cv hg)]
   exact gW (oq (fun v F' f=>xq rest (k+1) _ _ F' c f) (fun _ _ x=>x)) _ _ (kI h)
  .rename_i hg
   rw[if_neg (by rw[cv hg];simp)]
   exact xq rest (k+1) _ _ F c h
  .exact h.elim
theorem ak.bK (hJ:Closed P main (JF ph))(m:Nat){n:Nat}(l:List Oper)(c:(ops.toList.drop i).take m=l)(hm:l.length=m)(h:fh P (JF ph) ops (fun d F'=>ak JF fi ops (i+m) n Q d F' ph) l true a F):ak JF fi ops i (m+n) Q a F ph:=by
 subst hm;refine Bl hJ l.length i n a F (xq l i true a F (fun j o b=>?_) h);rw[<-c] at b;have e:j<l.length:=by
  rcases Nat.lt_or_ge j l.length with x|x
  .exact x
  .rw[c,List.getElem?_eq_none x] at b;cases b
 rw[List.getElem?_take,if_pos e,List.getElem?_drop] at b;simpa using b
theorem ak.skip (hM:eD P main (JF ph)){o:Oper}(c:ops[i]?=some o)(hg:cJ ops o a=some false)(h:ak JF fi ops (i+1) n Q (bq a o.dst undef) F ph):ak JF fi ops i (n+1) Q a F ph:=fun b k cs hb d=>by
 rw[List.range'_succ]
 refine hM.move (fun _=>s9 (by simp[c,cv hg])) ?_
 simp only[c,Option.bind_some]
 exact h b k cs hb d
theorem ak.plain (hM:eD P main (JF ph)){o:Oper}(v:Value)(c:ops[i]?=some o)(hg:cJ ops o a=some true)(d:∀w,(execOp a.eval o).run P w= .ok (.value v) w)(he:∀w,(execOp a.eval o).events P w #[]=#[])
  (h:ak JF fi ops (i+1) n Q (bq a o.dst v) F ph):ak JF fi ops i (n+1) Q a F ph:=fun b k cs hb e=>by
 rw[List.range'_succ,eX hb.round]
 refine hM.move (fr':=b.at (a.put o.dst v) (.inRegion ops (List.range' (i+1) n)::k)) (fun w=>?_) (by rw[<-eX hb.round];exact h b k cs hb e)
 rw[stepG_value c (cv hg) hb.kind (d w)]
 unfold listed
 rw[he w,seen_none]
theorem ak.call (hM:eD P main (JF ph)){o:Oper}{f:FuncId}{args:Array Value}{R:Value->af->S->Prop}(c:ops[i]?=some o)(hg:cJ ops o a=some true)(d:∀w,(execOp a.eval o).run P w= .ok (.enter f args) w)(he:∀w,(execOp a.eval o).events P w #[]=#[])
  (e:cO P JF f args F ph R) (h:∀v F' aV,R v F' aV->ak JF fi ops (i+1) n Q (bq a o.dst v) F' aV):ak JF fi ops i (n+1) Q a F ph:=fun b k cs hb g=>by
 rw[List.range'_succ,eX hb.round]
 refine hM.move (fr':=Frame.enter P f args .normal) (cs':=b.at a (.inRegion ops (i::List.range' (i+1) n)::k)::cs) (fun w=>?_) (e _ cs fun v F' aV j=>?_)
 .rw[stepG_enter c (cv hg) hb.kind (d w)]
  unfold listed
  rw[he w,seen_none]
 .rw[Frame.finish_at,c]
  rw[show (Option.some o).bind (·.dst)=o.dst from rfl,<-eX hb.round]
  exact h v F' aV j b k cs hb g
def jP (P:Program)(fn:Func)(R:Value->af->S->Prop):Ex->Act->af->S->Prop
 | .exit _,_,_,_=>False
 |_,a,F,ph=>a.defers=[]/\∃v,(∀w,(results fn a.tmps).run P w= .ok v w/\(results fn a.tmps).events P w #[]=#[])/\R v F ph
theorem cO.of (hM:∀ph,eD P main (JF ph)){f:FuncId}{fn:Func}{c:Code}{args:Array Value}{R:Value->af->S->Prop}(k:P.funcs[f]?=some fn)(hb:fn.body=some c)
  (h:cX JF f c (jP P fn R) {tmps:=args++Array.replicate (fn.ntmps - args.size) undef,defers:=[]} F ph):cO P JF f args F ph R:=by
 intro j cs m
 let b:Frame:={(default:Frame) with fn:=f,kind:=.normal}
 have n:b.roundOf=none:=rfl
 have o:Frame.enter P f args .normal=on b {tmps:=args++Array.replicate (fn.ntmps - args.size) undef,defers:=[]} [.code c]:=by
  simp[Frame.enter,on,k,hb,b]
  rfl
 rw[o]
 have leave:∀(d:Act) (todo:List Item) F' aV,d.defers=[]->(∃v,(∀w,(results fn d.tmps).run P w= .ok v w/\(results fn d.tmps).events P w #[]=#[])/\R v F' aV)->JF aV (G {on b d todo with mode:=.returning} (j::cs)) F':=by
  intro d todo F' aV hd ⟨v,l,p⟩
  refine (hM aV).move (fr':=j.finish v) (cs':=cs) (fun w=>?_) (m v F' aV p)
  have:=stepG_leave (P:=P) (main:=main) (b:=b) (a:=d) (todo:=todo) (cs:=cs) (w:=w) (c:=j) (v:=v) rfl hd k (l w).1 (l w).2
  rw[eX n];exact this
 refine h b [] (j::cs) ⟨by simp[b],rfl,rfl⟩ fun e d F' aV g=>?_
 cases e with
 |normal=>exact (hM aV).move (fun _=>lI rfl) (leave d _ F' aV g.1 g.2)
 |exit i=>exact g.elim
 |ret=>exact fun q=>(hM aV).move (fun _=>stepG_ret' rfl) (leave d _ F' aV g.1 g.2)
end
end Go.Sep
namespace Go.Sep
open Go Go.Conc
section
variable {P:Program}{main:Bool}{S:Type}{JF:S->Goroutine->af->Prop}{F:af}{ph:S}
theorem cO.go (hM:∀ph,eD P main (JF ph)){f:FuncId}{fn:Func}{c:Code}{n:Nat}{args:Array Value}{R:Value->af->S->Prop}(d:P.funcs[f]?=some fn)(hb:fn.body=some c)(b:fn.ntmps=n)(e:args.size<=n)
  (h:∀A:Act,sz A=n->A.defers=[]->(∀i,slot A i=args.getD i undef)->cX JF f c (jP P fn R) A F ph):cO P JF f args F ph R:=by
 refine cO.of hM d hb (h _ (by simp[sz,b];omega) rfl fun i=>?_)
 simp only[slot,b,Array.getD_eq_getD_getElem?]
 rcases Nat.lt_or_ge i args.size with a|a
 .rw[Array.getElem?_append_left a]
 .rw[Array.getElem?_append_right a,Array.getElem?_replicate,Array.getElem?_eq_none a]
  split<;>rfl
theorem Bm {fn:Func}{R:Value->af->S->Prop}{a:Act}(b:fn.results=#[])(hd:a.defers=[])(h:R (.tuple #[]) F ph):jP P fn R .normal a F ph/\jP P fn R .ret a F ph:=
 have x:a.defers=[]/\∃v,(∀w,(results fn a.tmps).run P w= .ok v w/\(results fn a.tmps).events P w #[]=#[])/\R v F ph:=⟨hd,.tuple #[],fun w=>⟨results_none b _ P w,events_results_none b _ _⟩,h⟩
 ⟨x,x⟩
theorem lB {fn:Func}{R:Value->af->S->Prop}{a:Act}(b:fn.results=#[])(hd:a.defers=[])(h:R (.tuple #[]) F ph):jP P fn R .normal a F ph:=(Bm b hd h).1
theorem oa {fn:Func}{R:Value->af->S->Prop}{a:Act}(b:fn.results=#[])(hd:a.defers=[])(h:R (.tuple #[]) F ph):jP P fn R .ret a F ph:=(Bm b hd h).2
theorem lC {fn:Func}{R:Value->af->S->Prop}{a:Act}{t:Tmp}{v:Value}(b:fn.results=#[.tmp t])(hd:a.defers=[])(c:slot a t=v)(h:R v F ph):jP P fn R .normal a F ph/\jP P fn R .ret a F ph:=
 have x:a.defers=[]/\∃v,(∀w,(results fn a.tmps).run P w= .ok v w/\(results fn a.tmps).events P w #[]=#[])/\R v F ph:=⟨hd,v,fun w=>⟨by rw[<-c];exact results_tmp b _ P w,events_results_tmp b _ _⟩,h⟩
 ⟨x,x⟩
end
end Go.Sep
namespace Go.Sep
open Go Go.Conc
attribute [go_sem] Bi xo xp List.getElem_toArray List.getElem_cons_zero List.getElem_cons_succ
section
variable {P:Program}{main:Bool}{S:Type}{JF:S->Goroutine->af->Prop}{F:af}{ph:S}{fi:FuncId}{ops:Array Oper}{i n:Nat}{a:Act}{Q:Act->af->S->Prop}
theorem Bn {f:FuncId}(h:aN P f=true)(args:Array Value)(w:World)(es:Array Event):(callFunc f args).run P w= .ok (.enter f args) w/\(callFunc f args).events P w es=es:=by
 unfold aN at h;split at h
 .rename_i fn a;simp only[Bool.not_eq_true',Bool.or_eq_false_iff] at h;obtain ⟨b,e⟩:=h;have d:fn.name≠ "runtime.NumGoroutine":=ne_of_beq_false e;cases hb:fn.body with
  |none=>rw[hb] at b;cases b
  |some c=>exact ⟨by simp[callFunc,a,d,hb],by simp[callFunc,a,d,hb]⟩
 .cases h
theorem ak.gk (hM:eD P main (JF ph)){o:Oper}{f:FuncId}{cI:Array Operand}{dG:Array TypeId}{args:Array Value}{R:Value->af->S->Prop}(c:ops[i]?=some o)(hg:cJ ops o a=some true)(d:o.op= .call {callee:=.value (.func f),args:=cI,argTypes:=dG})(b:aN P f=true)
  (e:cI.map (ev a)=args) (g:cO P JF f args F ph R) (h:∀v F' aV,R v F' aV->ak JF fi ops (i+1) n Q (bq a o.dst v) F' aV):ak JF fi ops i (n+1) Q a F ph:=by
 have e1:execOp a.eval o=callFunc f args:=by rw[execOp_call_func (a:=a) d,<-e];rfl
 exact ak.call hM c hg (fun w=>by rw[e1];exact (Bn b args w #[]).1) (fun w=>by rw[e1];exact (Bn b args w #[]).2) g h
end
structure Entry (P:Program)(f:FuncId)(e:Array Value->Sem Value):Prop where
 ex:∃fn,P.funcs[f]?=some fn/\(fn.name== "runtime.NumGoroutine")=false/\fn.body.isNone=true/\Extern.findNext fn=none/\Extern.find fn=some e
theorem Entry.Bo {P:Program}{f:FuncId}{e:Array Value->Sem Value}(h:Entry P f e):(P.funcs[f]?).any (·.body.isSome)=false:=by
 obtain ⟨fn,a,_,hb,_⟩:=h.ex;rw[a];simpa using hb
end Go.Sep
end
section
namespace Go.Proofs.YtdgblangfefjmaaGreatDoor
open Go Go.Sep Go.Proofs Go.Conc
open Go.ConcN (upd)
open Go.ConcM (muA msA)
open Go.ConcR (stA smA)
set_option maxRecDepth 100000
set_option maxHeartbeats 4000000
theorem p6:Entry Tryz.prog 172 (fun _=>do mark .disable;pure Extern.Race.none_):=⟨_,Tryz.func172,ai,ai,ai,ai⟩
theorem lD:Entry Tryz.prog 173 (fun _=>do mark .enable;pure Extern.Race.none_):=⟨_,Tryz.func173,ai,ai,ai,ai⟩
theorem sM:Entry Tryz.prog 187 (Extern.Race.marked .acquire):=⟨_,Tryz.func187,ai,ai,ai,ai⟩
theorem Bp:Entry Tryz.prog 171 (Extern.Race.marked .releaseMerge):=⟨_,Tryz.func171,ai,ai,ai,ai⟩
theorem sN:Entry Tryz.prog 212 (Extern.Atomic.casT (.int .i32)):=⟨_,Tryz.func212,ai,ai,ai,ai⟩
theorem xu:Entry Tryz.prog 214 (Extern.Atomic.update (Op.intArith .add) .i32 true):=⟨_,Tryz.func214,ai,ai,ai,ai⟩
theorem HL:Entry Tryz.prog 226 Extern.Sync.semacquire:=⟨_,Tryz.func226,ai,ai,ai,ai⟩
theorem Bq:Entry Tryz.prog 228 Extern.Sync.semrelease:=⟨_,Tryz.func228,ai,ai,ai,ai⟩
theorem Br:Entry Tryz.prog 225 Extern.OsHooks.nano:=⟨_,Tryz.func225,ai,ai,ai,ai⟩
theorem HM:Entry Tryz.prog 222 Extern.Sync.canSpin:=⟨_,Tryz.func222,ai,ai,ai,ai⟩
theorem HN:Entry Tryz.prog 223 (fun _=>pure (.tuple #[])):=⟨_,Tryz.func223,ai,ai,ai,ai⟩
theorem xw:Entry Tryz.prog 209 (Extern.Atomic.loadT (.int .u64)):=⟨_,Tryz.func209,ai,ai,ai,ai⟩
theorem Bs:Entry Tryz.prog 208 (Extern.Atomic.update (Op.intArith .add) .u64 true):=⟨_,Tryz.func208,ai,ai,ai,ai⟩
theorem HO:Entry Tryz.prog 216 (Extern.Atomic.casT (.int .u64)):=⟨_,Tryz.func216,ai,ai,ai,ai⟩
theorem HP:Entry Tryz.prog 210 Extern.Atomic.storeT:=⟨_,Tryz.func210,ai,ai,ai,ai⟩
theorem Bt:Entry Tryz.prog 174 (fun _=>pure (.bool false)):=⟨_,Tryz.func174,ai,ai,ai,ai⟩
theorem HQ:Entry Tryz.prog 179 (Extern.Race.marked .read):=⟨_,Tryz.func179,ai,ai,ai,ai⟩
theorem HR:Entry Tryz.prog 190 (Extern.Race.marked .write):=⟨_,Tryz.func190,ai,ai,ai,ai⟩
theorem HS:Entry Tryz.prog 191 Extern.Sync.semacquire:=⟨_,Tryz.func191,ai,ai,ai,ai⟩
theorem HT:Entry Tryz.prog 183 Extern.Sync.semrelease:=⟨_,Tryz.func183,ai,ai,ai,ai⟩
theorem xx:Tryz.prog.underlying 291=some (.pointer 222):=ai
theorem xy:Tryz.prog.underlying 255=some (.pointer 231):=ai
theorem Bu:Tryz.prog.underlying 262=some (.pointer 220):=ai
theorem lE:Tryz.prog.underlying 257=some .unsafePointer:=ai
theorem ob:Tryz.prog.underlying 21=some (.int .i32):=ai
theorem HU:Tryz.prog.underlying 4=some .bool:=ai
theorem xz:(Tryz.prog.info? 222).map (fun i=>decide (i.size=0))=some false:=ai
theorem xA:(Tryz.prog.info? 231).map (fun i=>decide (i.size=0))=some false:=ai
theorem Bv:(Tryz.prog.info? 220).map (fun i=>decide (i.size=0))=some false:=ai
theorem sO:(Tryz.prog.funcs[213]?).any (·.norace)=true:=ai
theorem HV:(Tryz.prog.funcs[186]?).any (·.norace)=true:=ai
theorem HW:(Tryz.prog.funcs[215]?).any (·.norace)=true:=ai
theorem Bw:(Tryz.prog.funcs[225]?).any (·.norace)=true:=ai
noncomputable abbrev CY (Mu Wg Is n:Nat)(bs:Nat->Bool)(base T0:Nat):Cy:=⟨Tryz.prog,Mu,Wg,Is,224,231,4,n,bs,base,T0⟩
end Go.Proofs.YtdgblangfefjmaaGreatDoor
end
section
namespace Go.Sep
open Go Go.Conc
open Go.ConcN (sumTo upd upd_ne upd_same)
open Go.ConcM (MuAt muA msA muBlock OsLater)
open Go.ConcR (WgAt wgBlock stA smA)
def At (ops:Array Oper)(j:Nat)(a:Act)(f:FuncId)(vals:List Value)(d:Option Tmp):Prop:=
 ∃o cI dG,ops[j]?=some o/\cJ ops o a=some true/\o.op= .call {callee:=.value (.func f),args:=cI,argTypes:=dG}/\cI.toList.map (ev a)=vals/\o.dst=d
def mI (ops:Array Oper)(j:Nat)(a:Act)(op:Op)(d:Option Tmp):Prop:=∃o,ops[j]?=some o/\cJ ops o a=some true/\o.op=op/\o.dst=d
theorem jQ {a:Act}{cI:Array Operand}{p:Value}(h:cI.toList.map (ev a)=[p]):∃x,cI=#[x]/\ev a x=p:=by
 obtain ⟨l⟩:=cI
 match l,h with
 |[x],h=>exact ⟨x,rfl,by simpa using h⟩
theorem p7 {a:Act}{cI:Array Operand}{p q:Value}(h:cI.toList.map (ev a)=[p,q]):∃x y,cI=#[x,y]/\ev a x=p/\ev a y=q:=by
 obtain ⟨l⟩:=cI
 match l,h with
 |[x,y],h=>exact ⟨x,y,rfl,by simpa using h⟩
theorem p8 {a:Act}{cI:Array Operand}{p q r:Value}(h:cI.toList.map (ev a)=[p,q,r]):∃x y z,cI=#[x,y,z]/\ev a x=p/\ev a y=q/\ev a z=r:=by
 obtain ⟨l⟩:=cI
 match l,h with
 |[x,y,z],h=>exact ⟨x,y,z,rfl,by simpa using h⟩
abbrev WJ (c:Cy)(i:Nat):Ph->Goroutine->af->Prop:=fun ph g F=>Wk c i ph g F
section
variable {c:Cy}{i:Nat}{ph:Ph}{φ:Nat->Ph}{p0:P0}{k:Nat}{s:Sh}{w:World}
theorem xB {α:Type}(f:Nat->α)(i:Nat):upd f i (f i)=f:=by
 funext j;by_cases h:j=i
 .subst h;exact upd_same _ _ _
 .exact upd_ne _ _ h
theorem mJ {aV:Ph}(hd:aV.deaf=ph.deaf)(hg:aV.gp= .cnt↔ph.gp= .cnt):EvA c i ph aV #[]:=.book av (by rw[hd];rfl) av hg
theorem WJ.eL (c:Cy)(i:Nat)(ph:Ph):eD c.P false (WJ c i ph):=⟨fun {fr fr' cs cs' F} hs h=>by
 by_cases hg:ph.gp= .gone
 .obtain ⟨F0,r,hle,hW⟩:=h
  obtain ⟨q,_,a⟩:=hW.left hg
  exact Wk.gone (q:=q+1) hg (.inr ⟨rfl,G fr' cs',#[],av,hs,by rw[deafBehind_nil];exact a⟩)
 .refine Wk.act rfl rfl hg fun w s k φ p0 f b g d e=>.inr ⟨G fr' cs',w,#[],s,ph,hs w,b,.refl _ _,?_,mJ rfl Iff.rfl,.inr ⟨Int.le_refl _,Int.le_refl _⟩,h⟩
  rw[<-d,xB];exact e⟩
variable {ops:Array Oper}{j n:Nat}{Q:Act->af->Ph->Prop}{a:Act}{F:af}{o:Oper}{f fi:FuncId}{cI:Array Operand}{dG:Array TypeId}
theorem fN (g:ops[j]?=some o)(l:ph.gp≠ .gone)
  (h:∀(w:World) (s:Sh) (k:Nat) (φ:Nat->Ph) (p0:P0),Has F w->cH c w s->i<c.n->φ i=ph->Inv c.n c.bs k φ p0 s->
   (ph.mp.iI=true/\s.ms=0/\∀(b:Frame) (d:List Item) (cs:List Frame),stepG c.P false (G (b.at a (.inRegion ops (j::List.range' (j+1) n)::d)) cs) w= .go {G (b.at a (.inRegion ops (j::List.range' (j+1) n)::d)) cs with status:=.blocked} w #[])\/
   (∃(v:Value) (w':World) (es:Array Event) (s':Sh) (aV:Ph),(∀(b:Frame) (d:List Item) (cs:List Frame),BF fi b->
    stepG c.P false (G (b.at a (.inRegion ops (j::List.range' (j+1) n)::d)) cs) w= .go (G (b.at (a.put o.dst v) (.inRegion ops (List.range' (j+1) n)::d)) cs) w' es)/\cH c w' s'/\ia c w w'/\Inv c.n c.bs k (upd φ i aV) p0 s'/\EvA c i ph aV es/\
    ((∃call,o.op= .call call/\∀x,call.callee= .value x->∃f,a.eval x= .func (.func f) #[] #[]/\(c.P.funcs[f]?).any (·.body.isSome)=false)\/(s'.ms<=s.ms/\s'.ws<=s.ws))/\ak (WJ c i) fi ops (j+1) n Q (a.put o.dst v) F aV)):ak (WJ c i) fi ops j (n+1) Q a F ph:=fun b d cs hb m=>by
 rw[List.range'_succ,eX hb.round]
 refine Wk.act rfl rfl l fun w s k φ p0 e1 e2 p q r=>?_
 rcases h w s k φ p0 e1 e2 p q r with ⟨x,y,z⟩|⟨v,w',es,s',aV,z,t,u,A,B,e,C⟩
 .exact .inl ⟨x,y,z b d cs⟩
 .refine .inr ⟨_,w',es,s',aV,z b d cs hb,t,u,A,B,?_,?_⟩
  .rcases e with ⟨call,D,E⟩|e
   .refine .inl ?_
    simp only[mayWake,G,Frame.at,g,Option.map_some,D]
    obtain ⟨callee,args,argTypes⟩:=call
    cases callee with
    |value x=>
     obtain ⟨f,H,hb⟩:=E x rfl
     have:Frame.eval (b.at a (.inRegion ops (j::List.range' (j+1) n)::d)) x= .func (.func f) #[] #[]:=by rw[Frame.eval_at];exact H
     simp only[Frame.at] at this
     simp only[this,hb,Bool.not_false]
    |_=>rfl
   .exact .inr e
  .rw[<-eX hb.round];exact C b d cs hb m
theorem heap_set (w:World){a:Addr}{v:Value}{cs:Array Value}{t:TypeId}{fr:Nat×Nat}(h:w.heap[a.block]?=some (.cells cs t fr))(hs:a.spot=none):(w.setCell a v).heap[a.block]?=some (.cells (cs.setIfInBounds a.off v) t fr):=by
 simp[World.setCell,Array.getElem?_modify,h,hs]
theorem jk (w:World){a:Addr}{v:Value}{b:Nat}(h:b≠a.block):(w.setCell a v).heap[b]?=w.heap[b]?:=by
 simp only[World.setCell];rw[Array.getElem?_modify,if_neg (fun e=>h e.symm)]
theorem cH.mu (h:cH c w s):w.cell? (muA c.Mu)=some (.int .i32 s.mu)/\w.frozen? (muA c.Mu)=false:=by
 have:=h.1;unfold MuAt muBlock at this;simp[World.cell?,World.frozen?,muA,this]
theorem cH.ms (h:cH c w s):w.cell? (msA c.Mu)=some (.int .u32 s.ms)/\w.frozen? (msA c.Mu)=false:=by
 have:=h.1;unfold MuAt muBlock at this;simp[World.cell?,World.frozen?,msA,this]
theorem cH.wg (h:cH c w s):w.cell? (stA c.Wg)=some (.int .u64 s.wg)/\w.frozen? (stA c.Wg)=false:=by
 have:=h.2.1;unfold WgAt wgBlock at this;simp[World.cell?,World.frozen?,stA,this]
theorem cH.ws (h:cH c w s):w.cell? (smA c.Wg)=some (.int .u32 s.ws)/\w.frozen? (smA c.Wg)=false:=by
 have:=h.2.1;unfold WgAt wgBlock at this;simp[World.cell?,World.frozen?,smA,this]
theorem ia.set {a:Addr}(v:Value)(h:c.shared a.block):ia c w (w.setCell a v):=
 ⟨rfl,rfl,by simp[World.setCell],.refl _,fun b hb=>jk w fun e=>hb (e▸h)⟩
theorem cH.Bx (b:c.Mu≠c.Wg/\c.Mu≠c.Is/\c.Wg≠c.Is)(h:cH c w s)(v:Int):cH c (w.setCell (muA c.Mu) (.int .i32 v)) {s with mu:=v}:=by
 obtain ⟨d,e,f⟩:=h;refine ⟨?_,?_,?_⟩
 .unfold MuAt muBlock at*;exact (heap_set w (a:=muA c.Mu) d rfl).trans rfl
 .unfold WgAt at*;rw[jk w (Ne.symm b.1)];exact e
 .rw[jk w (Ne.symm b.2.1)];exact f
theorem cH.By (b:c.Mu≠c.Wg/\c.Mu≠c.Is/\c.Wg≠c.Is)(h:cH c w s)(v:Int):cH c (w.setCell (msA c.Mu) (.int .u32 v)) {s with ms:=v}:=by
 obtain ⟨d,e,f⟩:=h;refine ⟨?_,?_,?_⟩
 .unfold MuAt muBlock at*;exact (heap_set w (a:=msA c.Mu) d rfl).trans rfl
 .unfold WgAt at*;rw[jk w (Ne.symm b.1)];exact e
 .rw[jk w (Ne.symm b.2.1)];exact f
theorem cH.sP (b:c.Mu≠c.Wg/\c.Mu≠c.Is/\c.Wg≠c.Is)(h:cH c w s)(v:Int):cH c (w.setCell (stA c.Wg) (.int .u64 v)) {s with wg:=v}:=by
 obtain ⟨d,e,f⟩:=h;refine ⟨?_,?_,?_⟩
 .unfold MuAt at*;rw[jk w b.1];exact d
 .unfold WgAt wgBlock at*;exact (heap_set w (a:=stA c.Wg) e rfl).trans rfl
 .rw[jk w (Ne.symm b.2.2)];exact f
theorem cH.Bz (b:c.Mu≠c.Wg/\c.Mu≠c.Is/\c.Wg≠c.Is)(h:cH c w s)(v:Int):cH c (w.setCell (smA c.Wg) (.int .u32 v)) {s with ws:=v}:=by
 obtain ⟨d,e,f⟩:=h;refine ⟨?_,?_,?_⟩
 .unfold MuAt at*;rw[jk w b.1];exact d
 .unfold WgAt wgBlock at*;exact (heap_set w (a:=smA c.Wg) e rfl).trans rfl
 .rw[jk w (Ne.symm b.2.2)];exact f
theorem cH.HX (b:c.Mu≠c.Wg/\c.Mu≠c.Is/\c.Wg≠c.Is)(h:cH c w s)(m:Nat)(v:Bool):cH c (w.setCell ⟨c.Is,m,none⟩ (.bool v)) {s with is:=s.is.set m v}:=by
 obtain ⟨d,e,f⟩:=h;refine ⟨?_,?_,?_⟩
 .unfold MuAt at*;rw[jk w b.2.1];exact d
 .unfold WgAt at*;rw[jk w b.2.2];exact e
 .rw[heap_set w (a:=⟨c.Is,m,none⟩) f rfl];simp[List.map_set]
theorem HY:EvA c i ph {ph with deaf:=ph.deaf+1} #[cQ .disable]:=
 .book (fun e he=>by simp at he;exact .inl he) rfl (fun j e he=>.inl (by have:=Array.mem_of_getElem? he;simp at this;subst this;rfl)) Iff.rfl
theorem HZ {d:Nat}(hd:ph.deaf=d+1):EvA c i ph {ph with deaf:=d} #[cQ .enable]:=
 .book (fun e he=>by simp at he;exact .inr (.inl he)) (by rw[hd];rfl) (fun j e he=>.inl (by have:=Array.mem_of_getElem? he;simp at this;subst this;rfl)) Iff.rfl
theorem xC {aV:Ph}{a:Addr}(x:Bool)(hd:aV.deaf=ph.deaf)(hg:aV.gp= .cnt↔ph.gp= .cnt)(b:0<ph.deaf)(d:a.block=c.Wg\/(a.block=c.Mu/\ph.gp= .cnt)):EvA c i ph aV #[⟨.cell a,x,true⟩]:=by
 refine .book (fun e he=>?_) (by rw[hd];simp[deafBehind]) (fun j e he=>?_) hg
 .simp at he;exact .inr (.inr ⟨a,x,he,d⟩)
 .match j,he with
  |0,_=>exact .inr (by simpa [deafBehind] using b)
  |j+1,he=>simp at he
theorem xD {aV:Ph}{a:Addr}(hd:aV.deaf=ph.deaf)(hg:aV.gp= .cnt↔ph.gp= .cnt)(b:0<ph.deaf)(d:a.block=c.Wg\/(a.block=c.Mu/\ph.gp= .cnt)):EvA c i ph aV #[⟨.cell a,false,true⟩,⟨.cell a,true,true⟩]:=by
 refine .book (fun e he=>?_) (by rw[hd];simp[deafBehind]) (fun j e he=>?_) hg
 .simp at he;rcases he with he|he<;>exact .inr (.inr ⟨a,_,he,d⟩)
 .match j,he with
  |0,_=>exact .inr (by simpa [deafBehind] using b)
  |1,_=>exact .inr (by simpa [deafBehind] using b)
  |j+2,he=>simp at he
theorem xE {aV:Ph}{a:Addr}(hd:aV.deaf=ph.deaf)(hg:aV.gp= .cnt↔ph.gp= .cnt)(b:a.block=c.Wg\/(a.block=c.Mu/\ph.gp= .cnt)):EvA c i ph aV (semEvents a):=by
 refine .book (fun e he=>?_) (by rw[hd];simp[deafBehind,semEvents]) (fun j e he=>?_) hg
 .simp[semEvents] at he;rcases he with rfl|rfl|rfl|rfl
  .exact .inl rfl
  .exact .inr (.inr ⟨a,_,rfl,b⟩)
  .exact .inr (.inr ⟨a,_,rfl,b⟩)
  .exact .inr (.inl rfl)
 .match j,he with
  |0,he=>simp[semEvents] at he;subst he;exact .inl rfl
  |1,_=>exact .inr (by simp[deafBehind,semEvents])
  |2,_=>exact .inr (by simp[deafBehind,semEvents])
  |3,he=>simp[semEvents] at he;subst he;exact .inl rfl
  |j+4,he=>simp[semEvents] at he
theorem Inv.jN (h:Inv c.n c.bs k φ p0 s)(o:i<c.n)(he:φ i=ph){aV:Ph}{s':Sh}(hg:ph.gp≠ .new)(l:aV.gp≠ .new)(hm:∃C S W L m,cF c.n (upd φ i aV) s'.mu s'.ms C S W L m)(hw:dW c.n (upd φ i aV) p0 s'.wg s'.ws)
  (f:s'.is=s.is.set i aV.stored) (hd:aV.gp≠ .cnt->aV.stored=c.bs i/\aV.mp= .fin):Inv c.n c.bs k (upd φ i aV) p0 s':=by
 refine ⟨hm,hw,by rw[f,List.length_set];exact h.i.len,h.i.kn,fun j a=>?_,fun j a=>?_,fun j a b=>?_,fun j a d g=>?_⟩<;>by_cases e:j=i
 .subst e;rw[upd_same,f,List.getElem?_set_self (by rw[h.i.len];exact a)]
 .rw[upd_ne _ _ e,f,List.getElem?_set_ne (Ne.symm e)];exact h.i.all j a
 .subst e;rw[upd_same,h.i.born j a,he];exact ⟨fun _=>l,fun _=>hg⟩
 .rw[upd_ne _ _ e];exact h.i.born j a
 .subst e;rw[upd_same] at b;exact absurd b l
 .rw[upd_ne _ _ e] at b ⊢;exact h.i.new j a b
 .subst e;rw[upd_same] at d g ⊢;exact hd d
 .rw[upd_ne _ _ e] at d g ⊢;exact h.i.done j a d g
theorem xF {l:List Bool}{i:Nat}{x:Bool}(h:l[i]?=some x):l.set i x=l:=by
 refine List.ext_getElem? fun j=>?_;by_cases e:i=j
 .subst e;have a:i<l.length:=by
   rcases Nat.lt_or_ge i l.length with y|y
   .exact y
   .rw[List.getElem?_eq_none y] at h;cases h
  rw[List.getElem?_set_self a,h]
 .rw[List.getElem?_set_ne e]
theorem Inv.mutex (h:Inv c.n c.bs k φ p0 s)(a:i<c.n)(he:φ i=ph)(hg:ph.gp= .cnt){mp:Mp}{mu ms:Int}(hm:∃C S W L m,cF c.n (upd φ i {ph with mp:=mp}) mu ms C S W L m):Inv c.n c.bs k (upd φ i {ph with mp:=mp}) p0 {s with mu:=mu,ms:=ms}:=
 h.jN a he (by rw[hg];simp) (by rw[hg];simp) hm (sF h.w a _ (.inl (by rw[he]))) (by
  have:=h.i.all i a
  rw[he] at this
  exact (xF this).symm) (fun b=>absurd hg b)
theorem Inv.BA (h:Inv c.n c.bs k φ p0 s)(a:i<c.n)(he:φ i=ph)(hg:ph.gp≠ .new)(d:Nat):Inv c.n c.bs k (upd φ i {ph with deaf:=d}) p0 s:=by
 subst he;exact h.deaf a hg d
end
end Go.Sep
end

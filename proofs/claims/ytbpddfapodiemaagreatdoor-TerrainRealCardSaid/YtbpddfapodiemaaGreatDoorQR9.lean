/- A part of the proof: QR9. -/
import Derived.Test.YtbpddfapodiemaaGreatDoorQR8
import Derived.Conc.Own2
import Derived.Conc.Own4
import Derived.Conc.MarkLaws
import Derived.Conc.ClockLaws
import Derived.Conc.SmallLaws
import Derived.Conc.DeferLaws
set_option linter.all false
section
namespace Go.Sep
open Go Go.Conc
structure eF (P:Program)(main:Bool)(J:Goroutine->af->Prop):Prop where
 move:∀{fr fr':Frame} {cs cs':List Frame} {F:af},(∀w,stepG P main (G fr cs) w= .go (G fr' cs') w #[])->J (G fr' cs') F->J (G fr cs) F
theorem Closed.eR {P:Program}{main:Bool}{J:Goroutine->af->Prop}(h:Closed P main J):eF P main J:=⟨fun hs a=>h.move hs a⟩
theorem e6 {b:Frame}(h:b.roundOf=none)(a:Act)(todo:List Item):on b a todo=b.at a todo:=by
 cases b;simp only at h;subst h;rfl
structure BF (fi:FuncId)(b:Frame):Prop where
 kind:b.kind≠ .early
 round:b.roundOf=none
 fn:b.fn=fi
section
variable {P:Program}{main:Bool}{S:Type}{JF:S->Goroutine->af->Prop}{fi:FuncId}
def c9 (JF:S->Goroutine->af->Prop)(fi:FuncId)(c:Code)(Q:Ex->Act->af->S->Prop)(a:Act)(F:af)(ph:S):Prop:=
 ∀(b:Frame) (k:List Item) (cs:List Frame),BF fi b->(∀e d F' aU,Q e d F' aU->Az (JF aU) b k cs e d F')->JF ph (G (on b a (.code c::k)) cs) F
def ak (JF:S->Goroutine->af->Prop)(fi:FuncId)(ops:Array Oper)(i n:Nat)(Q:Act->af->S->Prop)(a:Act)(F:af)(ph:S):Prop:=
 ∀(b:Frame) (k:List Item) (cs:List Frame),BF fi b->(∀c F' aU,Q c F' aU->JF aU (G (on b c k) cs) F')->JF ph (G (on b a (.inRegion ops (List.range' i n)::k)) cs) F
def cX (P:Program)(JF:S->Goroutine->af->Prop)(f:FuncId)(args:Array Value)(F:af)(ph:S)(R:Value->af->S->Prop):Prop:=
 ∀(c:Frame) (cs:List Frame),(∀v F' aU,R v F' aU->JF aU (G (c.finish v) cs) F')->JF ph (G (Frame.enter P f args .normal) (c::cs)) F
variable {Q:Ex->Act->af->S->Prop}{a:Act}{F:af}{ph:S}
theorem c9.mono {c:Code}{d:Ex->Act->af->S->Prop}(h:c9 JF fi c Q a F ph)(f:∀e a F ph,Q e a F ph->d e a F ph):c9 JF fi c d a F ph:=
 fun b k cs hb g=>h b k cs hb fun e i F' aU x=>g e i F' aU (f _ _ _ _ x)
theorem c9.of (hJ:Closed P main (JF ph)){c:Code}(h:Wp (JF ph) c (fun e a F=>Q e a F ph) a F):c9 JF fi c Q a F ph:=
 fun b k cs hb d=>h b k cs ⟨hb.kind,.inl hb.round⟩ fun e f F' g=>d e f F' ph g
theorem cY (hM:eF P main (JF ph))(h:Q .normal a F ph):c9 JF fi .skip Q a F ph:=fun b k cs _ c=>hM.move (fun _=>Ah) (c _ _ _ _ h)
theorem qb {id:Nat}(h:Q (.exit id) a F ph):c9 JF fi (.exit id) Q a F ph:=fun b k cs _ c=>c _ _ _ _ h k rfl
theorem gh (h:Q .ret a F ph):c9 JF fi .ret Q a F ph:=fun b k cs _ c=>c _ _ _ _ h k
def D3 (JF:S->Goroutine->af->Prop)(fi:FuncId)(y:Code)(Q:Ex->Act->af->S->Prop):Ex->Act->af->S->Prop
 | .normal,a,F,ph=>c9 JF fi y Q a F ph
 |e,a,F,ph=>Q e a F ph
theorem aI (hM:eF P main (JF ph)){x y:Code}(h:c9 JF fi x (D3 JF fi y Q) a F ph):c9 JF fi (.seq x y) Q a F ph:=fun b k cs hb c=>by
 refine hM.move (fun _=>Aj) (h b (.code y::k) cs hb fun e i F' aU d=>?_)
 cases e with
 |normal=>exact d b k cs hb c
 |exit id=>exact fun f g=>c _ _ _ _ d f (by rw[g];rfl)
 |ret=>exact c _ _ _ _ d
theorem D4 (hM:eF P main (JF ph)){c:Operand}{x y:Code}(t:Bool)(hc:a.eval c= .bool t)(h:c9 JF fi (if t then x else y) Q a F ph):c9 JF fi (.cond c x y) Q a F ph:=fun b k cs hb d=>
 hM.move (fun _=>Ak hc) (h b k cs hb d)
theorem dA (hM:eF P main (JF ph)){c:Operand}{x y:Code}(hc:ev a c= .bool true)(h:c9 JF fi x Q a F ph):c9 JF fi (.cond c x y) Q a F ph:=D4 hM true hc h
theorem cV (hM:eF P main (JF ph)){c:Operand}{x y:Code}(hc:ev a c= .bool false)(h:c9 JF fi y Q a F ph):c9 JF fi (.cond c x y) Q a F ph:=D4 hM false hc h
def zy (id:Nat)(Q:Ex->Act->af->S->Prop):Ex->Act->af->S->Prop
 | .normal,a,F,ph=>Q .normal a F ph
 | .exit i,a,F,ph=>if i=id then Q .normal a F ph else Q (.exit i) a F ph
 | .ret,a,F,ph=>Q .ret a F ph
theorem kM (hM:∀ph,eF P main (JF ph)){id:Nat}{c:Code}(h:c9 JF fi c (zy id Q) a F ph):c9 JF fi (.block id c) Q a F ph:=fun b k cs hb f=>by
 refine (hM ph).move (fun _=>Al) (h b (.inBlock id::k) cs hb fun e l F' aU d=>?_)
 cases e with
 |normal=>exact (hM aU).move (fun _=>Ai) (f _ _ _ _ d)
 |exit i=>
  intro g j
  simp only[zy] at d
  by_cases hi:i=id
  .rw[if_pos hi] at d
   subst hi
   have:exitTo i g=some k:=by rw[j];simp[exitTo]
   exact (hM aU).move (fun _=>Ao this) (f _ _ _ _ d)
  .rw[if_neg hi] at d
   refine f _ _ _ _ d g ?_
   rw[j]
   simp[exitTo,Ne.symm hi]
 |ret=>exact f _ _ _ _ d
def zz (I:Nat->Act->af->S->Prop)(n:Nat)(Q:Ex->Act->af->S->Prop):Ex->Act->af->S->Prop
 | .normal,a,F,ph=>∃m,m<n/\I m a F ph
 |e,a,F,ph=>Q e a F ph
theorem sC (hM:∀ph,eF P main (JF ph)){c:Code}(I:Nat->Act->af->S->Prop)(n:Nat)(g:I n a F ph)(hs:∀n a F ph,I n a F ph->c9 JF fi c (zz I n Q) a F ph):c9 JF fi (.loop c) Q a F ph:=by
 intro b k cs hb f;have key:∀n a F ph,I n a F ph->JF ph (G (on b a (.code c:: .inLoop c::k)) cs) F:=by
  intro n
  induction n using Nat.strongRecOn with
  |_ n ih=>
   intro a F ph h;refine hs n a F ph h b (.inLoop c::k) cs hb fun e j F' aU d=>?_;cases e with
   |normal=>
    obtain ⟨m,hm,l⟩:=d;exact (hM aU).move (fun _=>An) (ih m hm j F' aU l)
   |exit i=>exact fun o p=>f _ _ _ _ d o (by rw[p];rfl)
   |ret=>exact f _ _ _ _ d
 exact (hM ph).move (fun _=>Am) (key n a F ph g)
theorem dB (hM:∀ph,eF P main (JF ph)){id:Nat}{ops:Array Oper}(h:ak JF fi ops 0 ops.size (Q .normal) a F ph):c9 JF fi (.region id ops false) Q a F ph:=fun b k cs hb c=>by
 refine (hM ph).move (fun _=>Ap) ?_
 rw[List.range_eq_range']
 exact h b k cs hb fun d F' aU e=>c .normal d F' aU e
variable {ops:Array Oper}{i n:Nat}{Q:Act->af->S->Prop}
theorem ak.nil (hM:∀ph,eF P main (JF ph))(h:Q a F ph):ak JF fi ops i 0 Q a F ph:=fun b k cs hb c=>
 (hM ph).move (fun _=>Ar) (c _ _ _ h)
theorem D5 (hJ:Closed P main (JF ph)):∀(m i n:Nat) (a:Act) (F:af),gx P (JF ph) ops (fun c F'=>ak JF fi ops (i+m) n Q c F' ph) (List.range' i m) a F->ak JF fi ops i (m+n) Q a F ph
 |0,i,n,a,F,h=>by rw[Nat.zero_add];exact h
 |m+1,i,n,a,F,h=>fun b k cs hb f=>by
  have e:m+1+n=(m+n)+1:=aa
  rw[e,List.range'_succ]
  rw[List.range'_succ] at h
  refine Av hJ ⟨hb.kind,.inl hb.round⟩ h fun c F' d=>?_
  have e2:i+(m+1)=(i+1)+m:=aa
  rw[e2] at d
  exact D5 hJ m (i+1) n c F' d b k cs hb f
theorem zA {J:Goroutine->af->Prop}{K:Act->af->Prop}:∀(l:List Oper) (k:Nat) (go:Bool) (a:Act) (F:af),(∀j o,l[j]?=some o->ops[k+j]?=some o)->fE P J ops K l go a F->gx P J ops K (List.range' k l.length) a F
 |[],k,_,a,F,_,h=>by rw[AX] at h;exact h
 |o::rest,k,go,a,F,b,h=>by
  have d:ops[k]?=some o:=b 0 o rfl
  have c:∀j x,rest[j]?=some x->ops[k+1+j]?=some x:=fun j x e=>by rw[Nat.add_assoc,Nat.add_comm 1 j];exact b (j+1) x e
  simp only[List.length_cons,List.range'_succ]
  show ek P J ops k (gx P J ops K (List.range' (k+1) rest.length)) a F
  unfold ek
  simp only[d]
  have h:fE P J ops K (o::rest) true a F:=by unfold fE at h ⊢;exact h
  rw[AY] at h
  split at h
  .rename_i hg
   rw[if_pos (cA hg)]
   exact iC (qq (fun v F' f=>zA rest (k+1) _ _ F' c f) (fun _ _ x=>x)) _ _ (lY h)
  .rename_i hg
   rw[if_neg (by rw[cA hg];simp)]
   exact zA rest (k+1) _ _ F c h
  .exact h.elim
theorem ak.bK (hJ:Closed P main (JF ph))(m:Nat){n:Nat}(l:List Oper)(c:(ops.toList.drop i).take m=l)(hm:l.length=m)(h:fE P (JF ph) ops (fun d F'=>ak JF fi ops (i+m) n Q d F' ph) l true a F):ak JF fi ops i (m+n) Q a F ph:=by
 subst hm;refine D5 hJ l.length i n a F (zA l i true a F (fun j o b=>?_) h);rw[<-c] at b;have e:j<l.length:=by
  rcases Nat.lt_or_ge j l.length with x|x
  .exact x
  .rw[c,List.getElem?_eq_none x] at b;cases b
 rw[List.getElem?_take,if_pos e,List.getElem?_drop] at b;simpa using b
theorem ak.skip (hM:eF P main (JF ph)){o:Oper}(c:ops[i]?=some o)(hg:cT ops o a=some false)(h:ak JF fi ops (i+1) n Q (bB a o.dst undef) F ph):ak JF fi ops i (n+1) Q a F ph:=fun b k cs hb d=>by
 rw[List.range'_succ]
 refine hM.move (fun _=>vT (by simp[c,cA hg])) ?_
 simp only[c,Option.bind_some]
 exact h b k cs hb d
theorem ak.plain (hM:eF P main (JF ph)){o:Oper}(v:Value)(c:ops[i]?=some o)(hg:cT ops o a=some true)(d:∀w,(execOp a.eval o).run P w= .ok (.value v) w)(he:∀w,(execOp a.eval o).events P w #[]=#[])
  (h:ak JF fi ops (i+1) n Q (bB a o.dst v) F ph):ak JF fi ops i (n+1) Q a F ph:=fun b k cs hb e=>by
 rw[List.range'_succ,e6 hb.round]
 refine hM.move (fr':=b.at (a.put o.dst v) (.inRegion ops (List.range' (i+1) n)::k)) (fun w=>?_) (by rw[<-e6 hb.round];exact h b k cs hb e)
 rw[stepG_value c (cA hg) hb.kind (d w)]
 unfold listed
 rw[he w,seen_none]
theorem ak.call (hM:eF P main (JF ph)){o:Oper}{f:FuncId}{args:Array Value}{R:Value->af->S->Prop}(c:ops[i]?=some o)(hg:cT ops o a=some true)(d:∀w,(execOp a.eval o).run P w= .ok (.enter f args) w)(he:∀w,(execOp a.eval o).events P w #[]=#[])
  (hc:cX P JF f args F ph R) (h:∀v F' aU,R v F' aU->ak JF fi ops (i+1) n Q (bB a o.dst v) F' aU):ak JF fi ops i (n+1) Q a F ph:=fun b k cs hb e=>by
 rw[List.range'_succ,e6 hb.round]
 refine hM.move (fr':=Frame.enter P f args .normal) (cs':=b.at a (.inRegion ops (i::List.range' (i+1) n)::k)::cs) (fun w=>?_) (hc _ cs fun v F' aU g=>?_)
 .rw[stepG_enter c (cA hg) hb.kind (d w)]
  unfold listed
  rw[he w,seen_none]
 .rw[Frame.finish_at,c]
  rw[show (Option.some o).bind (·.dst)=o.dst from rfl,<-e6 hb.round]
  exact h v F' aU g b k cs hb e
def kN (P:Program)(fn:Func)(R:Value->af->S->Prop):Ex->Act->af->S->Prop
 | .exit _,_,_,_=>False
 |_,a,F,ph=>a.defers=[]/\∃v,(∀w,(results fn a.tmps).run P w= .ok v w/\(results fn a.tmps).events P w #[]=#[])/\R v F ph
theorem cX.of (hM:∀ph,eF P main (JF ph)){f:FuncId}{fn:Func}{c:Code}{args:Array Value}{R:Value->af->S->Prop}(k:P.funcs[f]?=some fn)(hb:fn.body=some c)
  (h:c9 JF f c (kN P fn R) {tmps:=args++Array.replicate (fn.ntmps - args.size) undef,defers:=[]} F ph):cX P JF f args F ph R:=by
 intro j cs m
 let b:Frame:={(default:Frame) with fn:=f,kind:=.normal}
 have n:b.roundOf=none:=rfl
 have o:Frame.enter P f args .normal=on b {tmps:=args++Array.replicate (fn.ntmps - args.size) undef,defers:=[]} [.code c]:=by
  simp[Frame.enter,on,k,hb,b]
  rfl
 rw[o]
 have leave:∀(d:Act) (todo:List Item) F' aU,d.defers=[]->(∃v,(∀w,(results fn d.tmps).run P w= .ok v w/\(results fn d.tmps).events P w #[]=#[])/\R v F' aU)->JF aU (G {on b d todo with mode:=.returning} (j::cs)) F':=by
  intro d todo F' aU hd ⟨v,l,p⟩
  refine (hM aU).move (fr':=j.finish v) (cs':=cs) (fun w=>?_) (m v F' aU p)
  have:=stepG_leave (P:=P) (main:=main) (b:=b) (a:=d) (todo:=todo) (cs:=cs) (w:=w) (c:=j) (v:=v) rfl hd k (l w).1 (l w).2
  rw[e6 n];exact this
 refine h b [] (j::cs) ⟨by simp[b],rfl,rfl⟩ fun e d F' aU g=>?_
 cases e with
 |normal=>exact (hM aU).move (fun _=>mU rfl) (leave d _ F' aU g.1 g.2)
 |exit i=>exact g.elim
 |ret=>exact fun q=>(hM aU).move (fun _=>stepG_ret' rfl) (leave d _ F' aU g.1 g.2)
end
end Go.Sep
namespace Go.Sep
open Go Go.Conc
section
variable {P:Program}{main:Bool}{S:Type}{JF:S->Goroutine->af->Prop}{F:af}{ph:S}
theorem cX.go (hM:∀ph,eF P main (JF ph)){f:FuncId}{fn:Func}{c:Code}{n:Nat}{args:Array Value}{R:Value->af->S->Prop}(b:P.funcs[f]?=some fn)(hb:fn.body=some c)(a:fn.ntmps=n)(d:args.size<=n)
  (h:∀A:Act,sz A=n->A.defers=[]->(∀i,slot A i=args.getD i undef)->c9 JF f c (kN P fn R) A F ph):cX P JF f args F ph R:=by
 refine cX.of hM b hb (h _ (by simp[sz,a];omega) rfl fun i=>?_)
 simp only[slot,a,Array.getD_eq_getD_getElem?]
 rcases Nat.lt_or_ge i args.size with hi|hi
 .rw[Array.getElem?_append_left hi]
 .rw[Array.getElem?_append_right hi,Array.getElem?_replicate,Array.getElem?_eq_none hi]
  split<;>rfl
theorem D6 {fn:Func}{R:Value->af->S->Prop}{a:Act}(b:fn.results=#[])(hd:a.defers=[])(h:R (.tuple #[]) F ph):kN P fn R .normal a F ph/\kN P fn R .ret a F ph:=
 have x:a.defers=[]/\∃v,(∀w,(results fn a.tmps).run P w= .ok v w/\(results fn a.tmps).events P w #[]=#[])/\R v F ph:=⟨hd,.tuple #[],fun w=>⟨results_none b _ P w,events_results_none b _ _⟩,h⟩
 ⟨x,x⟩
theorem mN {fn:Func}{R:Value->af->S->Prop}{a:Act}(b:fn.results=#[])(hd:a.defers=[])(h:R (.tuple #[]) F ph):kN P fn R .normal a F ph:=(D6 b hd h).1
theorem qc {fn:Func}{R:Value->af->S->Prop}{a:Act}(b:fn.results=#[])(hd:a.defers=[])(h:R (.tuple #[]) F ph):kN P fn R .ret a F ph:=(D6 b hd h).2
theorem mO {fn:Func}{R:Value->af->S->Prop}{a:Act}{t:Tmp}{v:Value}(b:fn.results=#[.tmp t])(hd:a.defers=[])(c:slot a t=v)(h:R v F ph):kN P fn R .normal a F ph/\kN P fn R .ret a F ph:=
 have x:a.defers=[]/\∃v,(∀w,(results fn a.tmps).run P w= .ok v w/\(results fn a.tmps).events P w #[]=#[])/\R v F ph:=⟨hd,v,fun w=>⟨by rw[<-c];exact results_tmp b _ P w,events_results_tmp b _ _⟩,h⟩
 ⟨x,x⟩
end
end Go.Sep
namespace Go.Sep
open Go Go.Conc
attribute [go_sem] D3 zy zz List.getElem_toArray List.getElem_cons_zero List.getElem_cons_succ
section
variable {P:Program}{main:Bool}{S:Type}{JF:S->Goroutine->af->Prop}{F:af}{ph:S}{fi:FuncId}{ops:Array Oper}{i n:Nat}{a:Act}{Q:Act->af->S->Prop}
theorem D7 {f:FuncId}(h:aR P f=true)(args:Array Value)(w:World)(es:Array Event):(callFunc f args).run P w= .ok (.enter f args) w/\(callFunc f args).events P w es=es:=by
 unfold aR at h;split at h
 .rename_i fn a;simp only[Bool.not_eq_true',Bool.or_eq_false_iff] at h;obtain ⟨b,e⟩:=h;have d:fn.name≠ "runtime.NumGoroutine":=ne_of_beq_false e;cases hb:fn.body with
  |none=>rw[hb] at b;cases b
  |some c=>exact ⟨by simp[callFunc,a,d,hb],by simp[callFunc,a,d,hb]⟩
 .cases h
theorem ak.gJ (hM:eF P main (JF ph)){o:Oper}{f:FuncId}{cR:Array Operand}{dN:Array TypeId}{args:Array Value}{R:Value->af->S->Prop}(c:ops[i]?=some o)(hg:cT ops o a=some true)(d:o.op= .call {callee:=.value (.func f),args:=cR,argTypes:=dN})(b:aR P f=true)
  (e:cR.map (ev a)=args) (hc:cX P JF f args F ph R) (h:∀v F' aU,R v F' aU->ak JF fi ops (i+1) n Q (bB a o.dst v) F' aU):ak JF fi ops i (n+1) Q a F ph:=by
 have e1:execOp a.eval o=callFunc f args:=by rw[execOp_call_func (a:=a) d,<-e];rfl
 exact ak.call hM c hg (fun w=>by rw[e1];exact (D7 b args w #[]).1) (fun w=>by rw[e1];exact (D7 b args w #[]).2) hc h
end
structure Entry (P:Program)(f:FuncId)(e:Array Value->Sem Value):Prop where
 ex:∃fn,P.funcs[f]?=some fn/\(fn.name== "runtime.NumGoroutine")=false/\fn.body.isNone=true/\Extern.findNext fn=none/\Extern.find fn=some e
theorem Entry.D8 {P:Program}{f:FuncId}{e:Array Value->Sem Value}(h:Entry P f e):(P.funcs[f]?).any (·.body.isSome)=false:=by
 obtain ⟨fn,a,_,hb,_⟩:=h.ex;rw[a];simpa using hb
end Go.Sep
end
section
namespace Go.Proofs.YtbpddfapodiemaaGreatDoor
open Go Go.Sep Go.Proofs Go.Conc
open Go.ConcN (upd)
open Go.ConcM (muA msA)
open Go.ConcR (stA smA)
set_option maxRecDepth 100000
set_option maxHeartbeats 4000000
theorem sD:Entry Tryz.prog 152 (fun _=>do mark .disable;pure Extern.Race.none_):=⟨_,Tryz.func152,aj,aj,aj,aj⟩
theorem mP:Entry Tryz.prog 153 (fun _=>do mark .enable;pure Extern.Race.none_):=⟨_,Tryz.func153,aj,aj,aj,aj⟩
theorem vv:Entry Tryz.prog 167 (Extern.Race.marked .acquire):=⟨_,Tryz.func167,aj,aj,aj,aj⟩
theorem D9:Entry Tryz.prog 151 (Extern.Race.marked .releaseMerge):=⟨_,Tryz.func151,aj,aj,aj,aj⟩
theorem vw:Entry Tryz.prog 185 (Extern.Atomic.casT (.int .i32)):=⟨_,Tryz.func185,aj,aj,aj,aj⟩
theorem zB:Entry Tryz.prog 187 (Extern.Atomic.update (Op.intArith .add) .i32 true):=⟨_,Tryz.func187,aj,aj,aj,aj⟩
theorem Lp:Entry Tryz.prog 206 Extern.Sync.semacquire:=⟨_,Tryz.func206,aj,aj,aj,aj⟩
theorem Ea:Entry Tryz.prog 208 Extern.Sync.semrelease:=⟨_,Tryz.func208,aj,aj,aj,aj⟩
theorem Eb:Entry Tryz.prog 205 Extern.OsHooks.nano:=⟨_,Tryz.func205,aj,aj,aj,aj⟩
theorem Lq:Entry Tryz.prog 202 Extern.Sync.canSpin:=⟨_,Tryz.func202,aj,aj,aj,aj⟩
theorem Lr:Entry Tryz.prog 203 (fun _=>pure (.tuple #[])):=⟨_,Tryz.func203,aj,aj,aj,aj⟩
theorem zC:Entry Tryz.prog 182 (Extern.Atomic.loadT (.int .u64)):=⟨_,Tryz.func182,aj,aj,aj,aj⟩
theorem Ec:Entry Tryz.prog 181 (Extern.Atomic.update (Op.intArith .add) .u64 true):=⟨_,Tryz.func181,aj,aj,aj,aj⟩
theorem Ls:Entry Tryz.prog 189 (Extern.Atomic.casT (.int .u64)):=⟨_,Tryz.func189,aj,aj,aj,aj⟩
theorem Lt:Entry Tryz.prog 183 Extern.Atomic.storeT:=⟨_,Tryz.func183,aj,aj,aj,aj⟩
theorem Ed:Entry Tryz.prog 154 (fun _=>pure (.bool false)):=⟨_,Tryz.func154,aj,aj,aj,aj⟩
theorem Lu:Entry Tryz.prog 159 (Extern.Race.marked .read):=⟨_,Tryz.func159,aj,aj,aj,aj⟩
theorem Lv:Entry Tryz.prog 170 (Extern.Race.marked .write):=⟨_,Tryz.func170,aj,aj,aj,aj⟩
theorem Lx:Entry Tryz.prog 171 Extern.Sync.semacquire:=⟨_,Tryz.func171,aj,aj,aj,aj⟩
theorem Ly:Entry Tryz.prog 163 Extern.Sync.semrelease:=⟨_,Tryz.func163,aj,aj,aj,aj⟩
theorem zD:Tryz.prog.underlying 231=some (.pointer 177):=aj
theorem zE:Tryz.prog.underlying 202=some (.pointer 186):=aj
theorem Ee:Tryz.prog.underlying 210=some (.pointer 175):=aj
theorem mQ:Tryz.prog.underlying 204=some .unsafePointer:=aj
theorem qd:Tryz.prog.underlying 21=some (.int .i32):=aj
theorem Lz:Tryz.prog.underlying 4=some .bool:=aj
theorem zF:(Tryz.prog.info? 177).map (fun i=>decide (i.size=0))=some false:=aj
theorem zG:(Tryz.prog.info? 186).map (fun i=>decide (i.size=0))=some false:=aj
theorem Ef:(Tryz.prog.info? 175).map (fun i=>decide (i.size=0))=some false:=aj
theorem vz:(Tryz.prog.funcs[186]?).any (·.norace)=true:=aj
theorem LA:(Tryz.prog.funcs[166]?).any (·.norace)=true:=aj
theorem LB:(Tryz.prog.funcs[188]?).any (·.norace)=true:=aj
theorem Eg:(Tryz.prog.funcs[205]?).any (·.norace)=true:=aj
noncomputable abbrev CY (Mu Wg Is n:Nat)(bs:Nat->Bool)(base T0:Nat):Cy:=⟨Tryz.prog,Mu,Wg,Is,179,186,4,n,bs,base,T0⟩
end Go.Proofs.YtbpddfapodiemaaGreatDoor
end
section
namespace Go.Sep
open Go Go.Conc
open Go.ConcN (sumTo upd upd_ne upd_same)
open Go.ConcM (MuAt muA msA muBlock OsLater)
open Go.ConcR (WgAt wgBlock stA smA)
def At (ops:Array Oper)(j:Nat)(a:Act)(f:FuncId)(vals:List Value)(d:Option Tmp):Prop:=
 ∃o cR dN,ops[j]?=some o/\cT ops o a=some true/\o.op= .call {callee:=.value (.func f),args:=cR,argTypes:=dN}/\cR.toList.map (ev a)=vals/\o.dst=d
def ou (ops:Array Oper)(j:Nat)(a:Act)(op:Op)(d:Option Tmp):Prop:=∃o,ops[j]?=some o/\cT ops o a=some true/\o.op=op/\o.dst=d
theorem kO {a:Act}{cR:Array Operand}{p:Value}(h:cR.toList.map (ev a)=[p]):∃x,cR=#[x]/\ev a x=p:=by
 obtain ⟨l⟩:=cR
 match l,h with
 |[x],h=>exact ⟨x,rfl,by simpa using h⟩
theorem sE {a:Act}{cR:Array Operand}{p q:Value}(h:cR.toList.map (ev a)=[p,q]):∃x y,cR=#[x,y]/\ev a x=p/\ev a y=q:=by
 obtain ⟨l⟩:=cR
 match l,h with
 |[x,y],h=>exact ⟨x,y,rfl,by simpa using h⟩
theorem sF {a:Act}{cR:Array Operand}{p q r:Value}(h:cR.toList.map (ev a)=[p,q,r]):∃x y z,cR=#[x,y,z]/\ev a x=p/\ev a y=q/\ev a z=r:=by
 obtain ⟨l⟩:=cR
 match l,h with
 |[x,y,z],h=>exact ⟨x,y,z,rfl,by simpa using h⟩
abbrev WJ (c:Cy)(i:Nat):Ph->Goroutine->af->Prop:=fun ph g F=>Wk c i ph g F
section
variable {c:Cy}{i:Nat}{ph:Ph}{φ:Nat->Ph}{p0:P0}{k:Nat}{s:Sh}{w:World}
theorem zH {α:Type}(f:Nat->α)(i:Nat):upd f i (f i)=f:=by
 funext j;by_cases h:j=i
 .subst h;exact upd_same _ _ _
 .exact upd_ne _ _ h
theorem ov {aU:Ph}(hd:aU.deaf=ph.deaf)(hg:aU.gp= .cnt↔ph.gp= .cnt):EvA c i ph aU #[]:=.book au (by rw[hd];rfl) au hg
theorem WJ.eR (c:Cy)(i:Nat)(ph:Ph):eF c.P false (WJ c i ph):=⟨fun {fr fr' cs cs' F} hs h=>by
 by_cases hg:ph.gp= .gone
 .obtain ⟨F0,r,hle,hW⟩:=h
  obtain ⟨q,_,a⟩:=hW.left hg
  exact Wk.gone (q:=q+1) hg (.inr ⟨rfl,G fr' cs',#[],au,hs,by rw[deafBehind_nil];exact a⟩)
 .refine Wk.act rfl rfl hg fun w s k φ p0 f b g d e=>.inr ⟨G fr' cs',w,#[],s,ph,hs w,b,.refl _ _,?_,ov rfl Iff.rfl,.inr ⟨Int.le_refl _,Int.le_refl _⟩,h⟩
  rw[<-d,zH];exact e⟩
variable {ops:Array Oper}{j n:Nat}{Q:Act->af->Ph->Prop}{a:Act}{F:af}{o:Oper}{f fi:FuncId}{cR:Array Operand}{dN:Array TypeId}
theorem gi (g:ops[j]?=some o)(l:ph.gp≠ .gone)
  (h:∀(w:World) (s:Sh) (k:Nat) (φ:Nat->Ph) (p0:P0),Has F w->cQ c w s->i<c.n->φ i=ph->Inv c.n c.bs k φ p0 s->
   (ph.mp.jl=true/\s.ms=0/\∀(b:Frame) (d:List Item) (cs:List Frame),stepG c.P false (G (b.at a (.inRegion ops (j::List.range' (j+1) n)::d)) cs) w= .go {G (b.at a (.inRegion ops (j::List.range' (j+1) n)::d)) cs with status:=.blocked} w #[])\/
   (∃(v:Value) (w':World) (es:Array Event) (s':Sh) (aU:Ph),(∀(b:Frame) (d:List Item) (cs:List Frame),BF fi b->
    stepG c.P false (G (b.at a (.inRegion ops (j::List.range' (j+1) n)::d)) cs) w= .go (G (b.at (a.put o.dst v) (.inRegion ops (List.range' (j+1) n)::d)) cs) w' es)/\cQ c w' s'/\iV c w w'/\Inv c.n c.bs k (upd φ i aU) p0 s'/\EvA c i ph aU es/\
    ((∃call,o.op= .call call/\∀x,call.callee= .value x->∃f,a.eval x= .func (.func f) #[] #[]/\(c.P.funcs[f]?).any (·.body.isSome)=false)\/(s'.ms<=s.ms/\s'.ws<=s.ws))/\ak (WJ c i) fi ops (j+1) n Q (a.put o.dst v) F aU)):ak (WJ c i) fi ops j (n+1) Q a F ph:=fun b d cs hb m=>by
 rw[List.range'_succ,e6 hb.round]
 refine Wk.act rfl rfl l fun w s k φ p0 e1 e2 p q r=>?_
 rcases h w s k φ p0 e1 e2 p q r with ⟨x,y,z⟩|⟨v,w',es,s',aU,z,t,u,A,B,e,C⟩
 .exact .inl ⟨x,y,z b d cs⟩
 .refine .inr ⟨_,w',es,s',aU,z b d cs hb,t,u,A,B,?_,?_⟩
  .rcases e with ⟨call,hc,D⟩|e
   .refine .inl ?_
    simp only[mayWake,G,Frame.at,g,Option.map_some,hc]
    obtain ⟨callee,args,argTypes⟩:=call
    cases callee with
    |value x=>
     obtain ⟨f,E,hb⟩:=D x rfl
     have:Frame.eval (b.at a (.inRegion ops (j::List.range' (j+1) n)::d)) x= .func (.func f) #[] #[]:=by rw[Frame.eval_at];exact E
     simp only[Frame.at] at this
     simp only[this,hb,Bool.not_false]
    |_=>rfl
   .exact .inr e
  .rw[<-e6 hb.round];exact C b d cs hb m
theorem heap_set (w:World){a:Addr}{v:Value}{cs:Array Value}{t:TypeId}{fr:Nat×Nat}(h:w.heap[a.block]?=some (.cells cs t fr))(hs:a.spot=none):(w.setCell a v).heap[a.block]?=some (.cells (cs.setIfInBounds a.off v) t fr):=by
 simp[World.setCell,Array.getElem?_modify,h,hs]
theorem jW (w:World){a:Addr}{v:Value}{b:Nat}(h:b≠a.block):(w.setCell a v).heap[b]?=w.heap[b]?:=by
 simp only[World.setCell];rw[Array.getElem?_modify,if_neg (fun e=>h e.symm)]
theorem cQ.mu (h:cQ c w s):w.cell? (muA c.Mu)=some (.int .i32 s.mu)/\w.frozen? (muA c.Mu)=false:=by
 have:=h.1;unfold MuAt muBlock at this;simp[World.cell?,World.frozen?,muA,this]
theorem cQ.ms (h:cQ c w s):w.cell? (msA c.Mu)=some (.int .u32 s.ms)/\w.frozen? (msA c.Mu)=false:=by
 have:=h.1;unfold MuAt muBlock at this;simp[World.cell?,World.frozen?,msA,this]
theorem cQ.wg (h:cQ c w s):w.cell? (stA c.Wg)=some (.int .u64 s.wg)/\w.frozen? (stA c.Wg)=false:=by
 have:=h.2.1;unfold WgAt wgBlock at this;simp[World.cell?,World.frozen?,stA,this]
theorem cQ.ws (h:cQ c w s):w.cell? (smA c.Wg)=some (.int .u32 s.ws)/\w.frozen? (smA c.Wg)=false:=by
 have:=h.2.1;unfold WgAt wgBlock at this;simp[World.cell?,World.frozen?,smA,this]
theorem iV.set {a:Addr}(v:Value)(h:c.shared a.block):iV c w (w.setCell a v):=
 ⟨rfl,rfl,by simp[World.setCell],.refl _,fun b hb=>jW w fun e=>hb (e▸h)⟩
theorem cQ.Eh (aL:c.Mu≠c.Wg/\c.Mu≠c.Is/\c.Wg≠c.Is)(h:cQ c w s)(v:Int):cQ c (w.setCell (muA c.Mu) (.int .i32 v)) {s with mu:=v}:=by
 obtain ⟨b,d,e⟩:=h;refine ⟨?_,?_,?_⟩
 .unfold MuAt muBlock at*;exact (heap_set w (a:=muA c.Mu) b rfl).trans rfl
 .unfold WgAt at*;rw[jW w (Ne.symm aL.1)];exact d
 .rw[jW w (Ne.symm aL.2.1)];exact e
theorem cQ.Ei (aL:c.Mu≠c.Wg/\c.Mu≠c.Is/\c.Wg≠c.Is)(h:cQ c w s)(v:Int):cQ c (w.setCell (msA c.Mu) (.int .u32 v)) {s with ms:=v}:=by
 obtain ⟨b,d,e⟩:=h;refine ⟨?_,?_,?_⟩
 .unfold MuAt muBlock at*;exact (heap_set w (a:=msA c.Mu) b rfl).trans rfl
 .unfold WgAt at*;rw[jW w (Ne.symm aL.1)];exact d
 .rw[jW w (Ne.symm aL.2.1)];exact e
theorem cQ.vA (aL:c.Mu≠c.Wg/\c.Mu≠c.Is/\c.Wg≠c.Is)(h:cQ c w s)(v:Int):cQ c (w.setCell (stA c.Wg) (.int .u64 v)) {s with wg:=v}:=by
 obtain ⟨b,d,e⟩:=h;refine ⟨?_,?_,?_⟩
 .unfold MuAt at*;rw[jW w aL.1];exact b
 .unfold WgAt wgBlock at*;exact (heap_set w (a:=stA c.Wg) d rfl).trans rfl
 .rw[jW w (Ne.symm aL.2.2)];exact e
theorem cQ.Ej (aL:c.Mu≠c.Wg/\c.Mu≠c.Is/\c.Wg≠c.Is)(h:cQ c w s)(v:Int):cQ c (w.setCell (smA c.Wg) (.int .u32 v)) {s with ws:=v}:=by
 obtain ⟨b,d,e⟩:=h;refine ⟨?_,?_,?_⟩
 .unfold MuAt at*;rw[jW w aL.1];exact b
 .unfold WgAt wgBlock at*;exact (heap_set w (a:=smA c.Wg) d rfl).trans rfl
 .rw[jW w (Ne.symm aL.2.2)];exact e
theorem cQ.LC (aL:c.Mu≠c.Wg/\c.Mu≠c.Is/\c.Wg≠c.Is)(h:cQ c w s)(m:Nat)(v:Bool):cQ c (w.setCell ⟨c.Is,m,none⟩ (.bool v)) {s with is:=s.is.set m v}:=by
 obtain ⟨b,d,e⟩:=h;refine ⟨?_,?_,?_⟩
 .unfold MuAt at*;rw[jW w aL.2.1];exact b
 .unfold WgAt at*;rw[jW w aL.2.2];exact d
 .rw[heap_set w (a:=⟨c.Is,m,none⟩) e rfl];simp[List.map_set]
theorem LD:EvA c i ph {ph with deaf:=ph.deaf+1} #[c5 .disable]:=
 .book (fun e he=>by simp at he;exact .inl he) rfl (fun j e he=>.inl (by have:=Array.mem_of_getElem? he;simp at this;subst this;rfl)) Iff.rfl
theorem LF {d:Nat}(hd:ph.deaf=d+1):EvA c i ph {ph with deaf:=d} #[c5 .enable]:=
 .book (fun e he=>by simp at he;exact .inr (.inl he)) (by rw[hd];rfl) (fun j e he=>.inl (by have:=Array.mem_of_getElem? he;simp at this;subst this;rfl)) Iff.rfl
theorem zI {aU:Ph}{a:Addr}(x:Bool)(hd:aU.deaf=ph.deaf)(hg:aU.gp= .cnt↔ph.gp= .cnt)(b:0<ph.deaf)(d:a.block=c.Wg\/(a.block=c.Mu/\ph.gp= .cnt)):EvA c i ph aU #[⟨.cell a,x,true⟩]:=by
 refine .book (fun e he=>?_) (by rw[hd];simp[deafBehind]) (fun j e he=>?_) hg
 .simp at he;exact .inr (.inr ⟨a,x,he,d⟩)
 .match j,he with
  |0,_=>exact .inr (by simpa [deafBehind] using b)
  |j+1,he=>simp at he
theorem zJ {aU:Ph}{a:Addr}(hd:aU.deaf=ph.deaf)(hg:aU.gp= .cnt↔ph.gp= .cnt)(b:0<ph.deaf)(d:a.block=c.Wg\/(a.block=c.Mu/\ph.gp= .cnt)):EvA c i ph aU #[⟨.cell a,false,true⟩,⟨.cell a,true,true⟩]:=by
 refine .book (fun e he=>?_) (by rw[hd];simp[deafBehind]) (fun j e he=>?_) hg
 .simp at he;rcases he with he|he<;>exact .inr (.inr ⟨a,_,he,d⟩)
 .match j,he with
  |0,_=>exact .inr (by simpa [deafBehind] using b)
  |1,_=>exact .inr (by simpa [deafBehind] using b)
  |j+2,he=>simp at he
theorem zK {aU:Ph}{a:Addr}(hd:aU.deaf=ph.deaf)(hg:aU.gp= .cnt↔ph.gp= .cnt)(b:a.block=c.Wg\/(a.block=c.Mu/\ph.gp= .cnt)):EvA c i ph aU (semEvents a):=by
 refine .book (fun e he=>?_) (by rw[hd];simp[deafBehind,semEvents]) (fun j e he=>?_) hg
 .simp[semEvents] at he;rcases he with rfl|rfl|rfl|rfl
  .exact .inl rfl
  .exact .inr (.inr ⟨a,_,rfl,b⟩)
  .exact .inr (.inr ⟨a,_,rfl,b⟩)
  .exact .inr (.inl rfl)
 .match j,he with
  |0,he=>simp[semEvents] at he;subst he;exact .inl rfl
  |1,_=>exact .inr (by simp[deafBehind,semEvents])
  |2,_=>exact .inr (by simp[deafBehind,semEvents])
  |3,he=>simp[semEvents] at he;subst he;exact .inl rfl
  |j+4,he=>simp[semEvents] at he
theorem Inv.kL (h:Inv c.n c.bs k φ p0 s)(hi:i<c.n)(he:φ i=ph){aU:Ph}{s':Sh}(hg:ph.gp≠ .new)(l:aU.gp≠ .new)(hm:∃C S W L m,cL c.n (upd φ i aU) s'.mu s'.ms C S W L m)(hw:dY c.n (upd φ i aU) p0 s'.wg s'.ws)
  (f:s'.is=s.is.set i aU.stored) (hd:aU.gp≠ .cnt->aU.stored=c.bs i/\aU.mp= .fin):Inv c.n c.bs k (upd φ i aU) p0 s':=by
 refine ⟨hm,hw,by rw[f,List.length_set];exact h.i.len,h.i.kn,fun j a=>?_,fun j a=>?_,fun j a b=>?_,fun j a d g=>?_⟩<;>by_cases e:j=i
 .subst e;rw[upd_same,f,List.getElem?_set_self (by rw[h.i.len];exact a)]
 .rw[upd_ne _ _ e,f,List.getElem?_set_ne (Ne.symm e)];exact h.i.all j a
 .subst e;rw[upd_same,h.i.born j a,he];exact ⟨fun _=>l,fun _=>hg⟩
 .rw[upd_ne _ _ e];exact h.i.born j a
 .subst e;rw[upd_same] at b;exact absurd b l
 .rw[upd_ne _ _ e] at b ⊢;exact h.i.new j a b
 .subst e;rw[upd_same] at d g ⊢;exact hd d
 .rw[upd_ne _ _ e] at d g ⊢;exact h.i.done j a d g
theorem zL {l:List Bool}{i:Nat}{x:Bool}(h:l[i]?=some x):l.set i x=l:=by
 refine List.ext_getElem? fun j=>?_;by_cases e:i=j
 .subst e;have a:i<l.length:=by
   rcases Nat.lt_or_ge i l.length with y|y
   .exact y
   .rw[List.getElem?_eq_none y] at h;cases h
  rw[List.getElem?_set_self a,h]
 .rw[List.getElem?_set_ne e]
theorem Inv.mutex (h:Inv c.n c.bs k φ p0 s)(hi:i<c.n)(he:φ i=ph)(hg:ph.gp= .cnt){mp:Mp}{mu ms:Int}(hm:∃C S W L m,cL c.n (upd φ i {ph with mp:=mp}) mu ms C S W L m):Inv c.n c.bs k (upd φ i {ph with mp:=mp}) p0 {s with mu:=mu,ms:=ms}:=
 h.kL hi he (by rw[hg];simp) (by rw[hg];simp) hm (vo h.w hi _ (.inl (by rw[he]))) (by
  have:=h.i.all i hi
  rw[he] at this
  exact (zL this).symm) (fun a=>absurd hg a)
theorem Inv.Ek (h:Inv c.n c.bs k φ p0 s)(hi:i<c.n)(he:φ i=ph)(hg:ph.gp≠ .new)(d:Nat):Inv c.n c.bs k (upd φ i {ph with deaf:=d}) p0 s:=by
 subst he;exact h.deaf hi hg d
end
end Go.Sep
end

/- A part of the proof: QT9. -/
import Derived.Test.YtbpddfapodiemaaGreatDoorQT8
import Derived.Conc.Own2
import Derived.Conc.Own4
import Derived.Conc.MarkLaws
import Derived.Conc.ClockLaws
import Derived.Conc.SmallLaws
import Derived.Conc.DeferLaws
set_option linter.all false
section
namespace Go.Sep
open Go Go.Conc
structure eL (P:Program)(main:Bool)(J:Goroutine->af->Prop):Prop where
 move:∀{fr fr':Frame} {cs cs':List Frame} {F:af},(∀w,stepG P main (G fr cs) w= .go (G fr' cs') w #[])->J (G fr' cs') F->J (G fr cs) F
theorem Closed.eY {P:Program}{main:Bool}{J:Goroutine->af->Prop}(h:Closed P main J):eL P main J:=⟨fun hs a=>h.move hs a⟩
theorem fo {b:Frame}(h:b.roundOf=none)(a:Act)(todo:List Item):on b a todo=b.at a todo:=by
 cases b;simp only at h;subst h;rfl
structure BF (fi:FuncId)(b:Frame):Prop where
 kind:b.kind≠ .early
 round:b.roundOf=none
 fn:b.fn=fi
section
variable {P:Program}{main:Bool}{S:Type}{JF:S->Goroutine->af->Prop}{fi:FuncId}
def dg (JF:S->Goroutine->af->Prop)(fi:FuncId)(c:Code)(Q:Ex->Act->af->S->Prop)(a:Act)(F:af)(ph:S):Prop:=
 ∀(b:Frame) (k:List Item) (cs:List Frame),BF fi b->(∀e d F' aX,Q e d F' aX->As (JF aX) b k cs e d F')->JF ph (G (on b a (.code c::k)) cs) F
def ak (JF:S->Goroutine->af->Prop)(fi:FuncId)(ops:Array Oper)(i n:Nat)(Q:Act->af->S->Prop)(a:Act)(F:af)(ph:S):Prop:=
 ∀(b:Frame) (k:List Item) (cs:List Frame),BF fi b->(∀c F' aX,Q c F' aX->JF aX (G (on b c k) cs) F')->JF ph (G (on b a (.inRegion ops (List.range' i n)::k)) cs) F
def c6 (P:Program)(JF:S->Goroutine->af->Prop)(f:FuncId)(args:Array Value)(F:af)(ph:S)(R:Value->af->S->Prop):Prop:=
 ∀(c:Frame) (cs:List Frame),(∀v F' aX,R v F' aX->JF aX (G (c.finish v) cs) F')->JF ph (G (Frame.enter P f args .normal) (c::cs)) F
variable {Q:Ex->Act->af->S->Prop}{a:Act}{F:af}{ph:S}
theorem dg.mono {c:Code}{d:Ex->Act->af->S->Prop}(h:dg JF fi c Q a F ph)(f:∀e a F ph,Q e a F ph->d e a F ph):dg JF fi c d a F ph:=
 fun b k cs hb hk=>h b k cs hb fun e g F' aX x=>hk e g F' aX (f _ _ _ _ x)
theorem dg.of (hJ:Closed P main (JF ph)){c:Code}(h:Wp (JF ph) c (fun e a F=>Q e a F ph) a F):dg JF fi c Q a F ph:=
 fun b k cs hb hk=>h b k cs ⟨hb.kind,.inl hb.round⟩ fun e d F' f=>hk e d F' ph f
theorem c7 (hM:eL P main (JF ph))(h:Q .normal a F ph):dg JF fi .skip Q a F ph:=fun b k cs _ hk=>hM.move (fun _=>Aa) (hk _ _ _ _ h)
theorem qi {id:Nat}(h:Q (.exit id) a F ph):dg JF fi (.exit id) Q a F ph:=fun b k cs _ hk=>hk _ _ _ _ h k rfl
theorem gk (h:Q .ret a F ph):dg JF fi .ret Q a F ph:=fun b k cs _ hk=>hk _ _ _ _ h k
def DY (JF:S->Goroutine->af->Prop)(fi:FuncId)(y:Code)(Q:Ex->Act->af->S->Prop):Ex->Act->af->S->Prop
 | .normal,a,F,ph=>dg JF fi y Q a F ph
 |e,a,F,ph=>Q e a F ph
theorem aM (hM:eL P main (JF ph)){x y:Code}(h:dg JF fi x (DY JF fi y Q) a F ph):dg JF fi (.seq x y) Q a F ph:=fun b k cs hb hk=>by
 refine hM.move (fun _=>Ac) (h b (.code y::k) cs hb fun e g F' aX c=>?_)
 cases e with
 |normal=>exact c b k cs hb hk
 |exit id=>exact fun d f=>hk _ _ _ _ c d (by rw[f];rfl)
 |ret=>exact hk _ _ _ _ c
theorem DZ (hM:eL P main (JF ph)){c:Operand}{x y:Code}(t:Bool)(d:a.eval c= .bool t)(h:dg JF fi (if t then x else y) Q a F ph):dg JF fi (.cond c x y) Q a F ph:=fun b k cs hb hk=>
 hM.move (fun _=>Ad d) (h b k cs hb hk)
theorem dB (hM:eL P main (JF ph)){c:Operand}{x y:Code}(b:ev a c= .bool true)(h:dg JF fi x Q a F ph):dg JF fi (.cond c x y) Q a F ph:=DZ hM true b h
theorem cX (hM:eL P main (JF ph)){c:Operand}{x y:Code}(b:ev a c= .bool false)(h:dg JF fi y Q a F ph):dg JF fi (.cond c x y) Q a F ph:=DZ hM false b h
def zf (id:Nat)(Q:Ex->Act->af->S->Prop):Ex->Act->af->S->Prop
 | .normal,a,F,ph=>Q .normal a F ph
 | .exit i,a,F,ph=>if i=id then Q .normal a F ph else Q (.exit i) a F ph
 | .ret,a,F,ph=>Q .ret a F ph
theorem kP (hM:∀ph,eL P main (JF ph)){id:Nat}{c:Code}(h:dg JF fi c (zf id Q) a F ph):dg JF fi (.block id c) Q a F ph:=fun b k cs hb hk=>by
 refine (hM ph).move (fun _=>Ae) (h b (.inBlock id::k) cs hb fun e j F' aX d=>?_)
 cases e with
 |normal=>exact (hM aX).move (fun _=>Ab) (hk _ _ _ _ d)
 |exit i=>
  intro f g
  simp only[zf] at d
  by_cases hi:i=id
  .rw[if_pos hi] at d
   subst hi
   have:exitTo i f=some k:=by rw[g];simp[exitTo]
   exact (hM aX).move (fun _=>Ai this) (hk _ _ _ _ d)
  .rw[if_neg hi] at d
   refine hk _ _ _ _ d f ?_
   rw[g]
   simp[exitTo,Ne.symm hi]
 |ret=>exact hk _ _ _ _ d
def zg (I:Nat->Act->af->S->Prop)(n:Nat)(Q:Ex->Act->af->S->Prop):Ex->Act->af->S->Prop
 | .normal,a,F,ph=>∃m,m<n/\I m a F ph
 |e,a,F,ph=>Q e a F ph
theorem sD (hM:∀ph,eL P main (JF ph)){c:Code}(I:Nat->Act->af->S->Prop)(n:Nat)(f:I n a F ph)(hs:∀n a F ph,I n a F ph->dg JF fi c (zg I n Q) a F ph):dg JF fi (.loop c) Q a F ph:=by
 intro b k cs hb hk;have key:∀n a F ph,I n a F ph->JF ph (G (on b a (.code c:: .inLoop c::k)) cs) F:=by
  intro n
  induction n using Nat.strongRecOn with
  |_ n ih=>
   intro a F ph g;refine hs n a F ph g b (.inLoop c::k) cs hb fun e h F' aX d=>?_;cases e with
   |normal=>
    obtain ⟨m,hm,j⟩:=d;exact (hM aX).move (fun _=>Ah) (ih m hm h F' aX j)
   |exit i=>exact fun l o=>hk _ _ _ _ d l (by rw[o];rfl)
   |ret=>exact hk _ _ _ _ d
 exact (hM ph).move (fun _=>Af) (key n a F ph f)
theorem dD (hM:∀ph,eL P main (JF ph)){id:Nat}{ops:Array Oper}(h:ak JF fi ops 0 ops.size (Q .normal) a F ph):dg JF fi (.region id ops false) Q a F ph:=fun b k cs hb hk=>by
 refine (hM ph).move (fun _=>Aj) ?_
 rw[List.range_eq_range']
 exact h b k cs hb fun c F' aX d=>hk .normal c F' aX d
variable {ops:Array Oper}{i n:Nat}{Q:Act->af->S->Prop}
theorem ak.nil (hM:∀ph,eL P main (JF ph))(h:Q a F ph):ak JF fi ops i 0 Q a F ph:=fun b k cs hb hk=>
 (hM ph).move (fun _=>Al) (hk _ _ _ h)
theorem D1 (hJ:Closed P main (JF ph)):∀(m i n:Nat) (a:Act) (F:af),gG P (JF ph) ops (fun c F'=>ak JF fi ops (i+m) n Q c F' ph) (List.range' i m) a F->ak JF fi ops i (m+n) Q a F ph
 |0,i,n,a,F,h=>by rw[Nat.zero_add];exact h
 |m+1,i,n,a,F,h=>fun b k cs hb hk=>by
  have e:m+1+n=(m+n)+1:=aa
  rw[e,List.range'_succ]
  rw[List.range'_succ] at h
  refine Ao hJ ⟨hb.kind,.inl hb.round⟩ h fun c F' d=>?_
  have e2:i+(m+1)=(i+1)+m:=aa
  rw[e2] at d
  exact D1 hJ m (i+1) n c F' d b k cs hb hk
theorem zh {J:Goroutine->af->Prop}{K:Act->af->Prop}:∀(l:List Oper) (k:Nat) (go:Bool) (a:Act) (F:af),(∀j o,l[j]?=some o->ops[k+j]?=some o)->fL P J ops K l go a F->gG P J ops K (List.range' k l.length) a F
 |[],k,_,a,F,_,h=>by rw[AQ] at h;exact h
 |o::rest,k,go,a,F,hl,h=>by
  have c:ops[k]?=some o:=hl 0 o rfl
  have b:∀j x,rest[j]?=some x->ops[k+1+j]?=some x:=fun j x d=>by rw[Nat.add_assoc,Nat.add_comm 1 j];exact hl (j+1) x d
  simp only[List.length_cons,List.range'_succ]
  show ek P J ops k (gG P J ops K (List.range' (k+1) rest.length)) a F
  unfold ek
  simp only[c]
  have h:fL P J ops K (o::rest) true a F:=by unfold fL at h ⊢;exact h
  rw[AR] at h
  split at h
  .rename_i hg
   rw[if_pos (cD hg)]
   exact iI (qB (fun v F' e=>zh rest (k+1) _ _ F' b e) (fun _ _ x=>x)) _ _ (lT h)
  .rename_i hg
   rw[if_neg (by rw[cD hg];simp)]
   exact zh rest (k+1) _ _ F b h
  .exact h.elim
theorem ak.bK (hJ:Closed P main (JF ph))(m:Nat){n:Nat}(l:List Oper)(hl:(ops.toList.drop i).take m=l)(hm:l.length=m)(h:fL P (JF ph) ops (fun c F'=>ak JF fi ops (i+m) n Q c F' ph) l true a F):ak JF fi ops i (m+n) Q a F ph:=by
 subst hm;refine D1 hJ l.length i n a F (zh l i true a F (fun j o b=>?_) h);rw[<-hl] at b;have d:j<l.length:=by
  rcases Nat.lt_or_ge j l.length with x|x
  .exact x
  .rw[hl,List.getElem?_eq_none x] at b;cases b
 rw[List.getElem?_take,if_pos d,List.getElem?_drop] at b;simpa using b
theorem ak.skip (hM:eL P main (JF ph)){o:Oper}(c:ops[i]?=some o)(hg:cV ops o a=some false)(h:ak JF fi ops (i+1) n Q (bB a o.dst undef) F ph):ak JF fi ops i (n+1) Q a F ph:=fun b k cs hb hk=>by
 rw[List.range'_succ]
 refine hM.move (fun _=>vO (by simp[c,cD hg])) ?_
 simp only[c,Option.bind_some]
 exact h b k cs hb hk
theorem ak.plain (hM:eL P main (JF ph)){o:Oper}(v:Value)(c:ops[i]?=some o)(hg:cV ops o a=some true)(d:∀w,(execOp a.eval o).run P w= .ok (.value v) w)(he:∀w,(execOp a.eval o).events P w #[]=#[])
  (h:ak JF fi ops (i+1) n Q (bB a o.dst v) F ph):ak JF fi ops i (n+1) Q a F ph:=fun b k cs hb hk=>by
 rw[List.range'_succ,fo hb.round]
 refine hM.move (fr':=b.at (a.put o.dst v) (.inRegion ops (List.range' (i+1) n)::k)) (fun w=>?_) (by rw[<-fo hb.round];exact h b k cs hb hk)
 rw[stepG_value c (cD hg) hb.kind (d w)]
 unfold listed
 rw[he w,seen_none]
theorem ak.call (hM:eL P main (JF ph)){o:Oper}{f:FuncId}{args:Array Value}{R:Value->af->S->Prop}(c:ops[i]?=some o)(hg:cV ops o a=some true)(d:∀w,(execOp a.eval o).run P w= .ok (.enter f args) w)(he:∀w,(execOp a.eval o).events P w #[]=#[])
  (e:c6 P JF f args F ph R) (h:∀v F' aX,R v F' aX->ak JF fi ops (i+1) n Q (bB a o.dst v) F' aX):ak JF fi ops i (n+1) Q a F ph:=fun b k cs hb hk=>by
 rw[List.range'_succ,fo hb.round]
 refine hM.move (fr':=Frame.enter P f args .normal) (cs':=b.at a (.inRegion ops (i::List.range' (i+1) n)::k)::cs) (fun w=>?_) (e _ cs fun v F' aX g=>?_)
 .rw[stepG_enter c (cD hg) hb.kind (d w)]
  unfold listed
  rw[he w,seen_none]
 .rw[Frame.finish_at,c]
  rw[show (Option.some o).bind (·.dst)=o.dst from rfl,<-fo hb.round]
  exact h v F' aX g b k cs hb hk
def kQ (P:Program)(fn:Func)(R:Value->af->S->Prop):Ex->Act->af->S->Prop
 | .exit _,_,_,_=>False
 |_,a,F,ph=>a.defers=[]/\∃v,(∀w,(results fn a.tmps).run P w= .ok v w/\(results fn a.tmps).events P w #[]=#[])/\R v F ph
theorem c6.of (hM:∀ph,eL P main (JF ph)){f:FuncId}{fn:Func}{c:Code}{args:Array Value}{R:Value->af->S->Prop}(k:P.funcs[f]?=some fn)(hb:fn.body=some c)
  (h:dg JF f c (kQ P fn R) {tmps:=args++Array.replicate (fn.ntmps - args.size) undef,defers:=[]} F ph):c6 P JF f args F ph R:=by
 intro j cs m
 let b:Frame:={(default:Frame) with fn:=f,kind:=.normal}
 have n:b.roundOf=none:=rfl
 have o:Frame.enter P f args .normal=on b {tmps:=args++Array.replicate (fn.ntmps - args.size) undef,defers:=[]} [.code c]:=by
  simp[Frame.enter,on,k,hb,b]
  rfl
 rw[o]
 have leave:∀(d:Act) (todo:List Item) F' aX,d.defers=[]->(∃v,(∀w,(results fn d.tmps).run P w= .ok v w/\(results fn d.tmps).events P w #[]=#[])/\R v F' aX)->JF aX (G {on b d todo with mode:=.returning} (j::cs)) F':=by
  intro d todo F' aX hd ⟨v,l,p⟩
  refine (hM aX).move (fr':=j.finish v) (cs':=cs) (fun w=>?_) (m v F' aX p)
  have:=stepG_leave (P:=P) (main:=main) (b:=b) (a:=d) (todo:=todo) (cs:=cs) (w:=w) (c:=j) (v:=v) rfl hd k (l w).1 (l w).2
  rw[fo n];exact this
 refine h b [] (j::cs) ⟨by simp[b],rfl,rfl⟩ fun e d F' aX g=>?_
 cases e with
 |normal=>exact (hM aX).move (fun _=>mP rfl) (leave d _ F' aX g.1 g.2)
 |exit i=>exact g.elim
 |ret=>exact fun q=>(hM aX).move (fun _=>stepG_ret' rfl) (leave d _ F' aX g.1 g.2)
end
end Go.Sep
namespace Go.Sep
open Go Go.Conc
section
variable {P:Program}{main:Bool}{S:Type}{JF:S->Goroutine->af->Prop}{F:af}{ph:S}
theorem c6.go (hM:∀ph,eL P main (JF ph)){f:FuncId}{fn:Func}{c:Code}{n:Nat}{args:Array Value}{R:Value->af->S->Prop}(b:P.funcs[f]?=some fn)(hb:fn.body=some c)(a:fn.ntmps=n)(d:args.size<=n)
  (h:∀A:Act,sz A=n->A.defers=[]->(∀i,slot A i=args.getD i undef)->dg JF f c (kQ P fn R) A F ph):c6 P JF f args F ph R:=by
 refine c6.of hM b hb (h _ (by simp[sz,a];omega) rfl fun i=>?_)
 simp only[slot,a,Array.getD_eq_getD_getElem?]
 rcases Nat.lt_or_ge i args.size with hi|hi
 .rw[Array.getElem?_append_left hi]
 .rw[Array.getElem?_append_right hi,Array.getElem?_replicate,Array.getElem?_eq_none hi]
  split<;>rfl
theorem D2 {fn:Func}{R:Value->af->S->Prop}{a:Act}(b:fn.results=#[])(hd:a.defers=[])(h:R (.tuple #[]) F ph):kQ P fn R .normal a F ph/\kQ P fn R .ret a F ph:=
 have x:a.defers=[]/\∃v,(∀w,(results fn a.tmps).run P w= .ok v w/\(results fn a.tmps).events P w #[]=#[])/\R v F ph:=⟨hd,.tuple #[],fun w=>⟨results_none b _ P w,events_results_none b _ _⟩,h⟩
 ⟨x,x⟩
theorem mH {fn:Func}{R:Value->af->S->Prop}{a:Act}(b:fn.results=#[])(hd:a.defers=[])(h:R (.tuple #[]) F ph):kQ P fn R .normal a F ph:=(D2 b hd h).1
theorem qj {fn:Func}{R:Value->af->S->Prop}{a:Act}(b:fn.results=#[])(hd:a.defers=[])(h:R (.tuple #[]) F ph):kQ P fn R .ret a F ph:=(D2 b hd h).2
theorem mI {fn:Func}{R:Value->af->S->Prop}{a:Act}{t:Tmp}{v:Value}(b:fn.results=#[.tmp t])(hd:a.defers=[])(c:slot a t=v)(h:R v F ph):kQ P fn R .normal a F ph/\kQ P fn R .ret a F ph:=
 have x:a.defers=[]/\∃v,(∀w,(results fn a.tmps).run P w= .ok v w/\(results fn a.tmps).events P w #[]=#[])/\R v F ph:=⟨hd,v,fun w=>⟨by rw[<-c];exact results_tmp b _ P w,events_results_tmp b _ _⟩,h⟩
 ⟨x,x⟩
end
end Go.Sep
namespace Go.Sep
open Go Go.Conc
attribute [go_sem] DY zf zg List.getElem_toArray List.getElem_cons_zero List.getElem_cons_succ
section
variable {P:Program}{main:Bool}{S:Type}{JF:S->Goroutine->af->Prop}{F:af}{ph:S}{fi:FuncId}{ops:Array Oper}{i n:Nat}{a:Act}{Q:Act->af->S->Prop}
theorem D3 {f:FuncId}(h:aR P f=true)(args:Array Value)(w:World)(es:Array Event):(callFunc f args).run P w= .ok (.enter f args) w/\(callFunc f args).events P w es=es:=by
 unfold aR at h;split at h
 .rename_i fn a;simp only[Bool.not_eq_true',Bool.or_eq_false_iff] at h;obtain ⟨b,e⟩:=h;have d:fn.name≠ "runtime.NumGoroutine":=ne_of_beq_false e;cases hb:fn.body with
  |none=>rw[hb] at b;cases b
  |some c=>exact ⟨by simp[callFunc,a,d,hb],by simp[callFunc,a,d,hb]⟩
 .cases h
theorem ak.gW (hM:eL P main (JF ph)){o:Oper}{f:FuncId}{cT:Array Operand}{dN:Array TypeId}{args:Array Value}{R:Value->af->S->Prop}(c:ops[i]?=some o)(hg:cV ops o a=some true)(d:o.op= .call {callee:=.value (.func f),args:=cT,argTypes:=dN})(b:aR P f=true)
  (e:cT.map (ev a)=args) (g:c6 P JF f args F ph R) (h:∀v F' aX,R v F' aX->ak JF fi ops (i+1) n Q (bB a o.dst v) F' aX):ak JF fi ops i (n+1) Q a F ph:=by
 have e1:execOp a.eval o=callFunc f args:=by rw[execOp_call_func (a:=a) d,<-e];rfl
 exact ak.call hM c hg (fun w=>by rw[e1];exact (D3 b args w #[]).1) (fun w=>by rw[e1];exact (D3 b args w #[]).2) g h
end
structure Entry (P:Program)(f:FuncId)(e:Array Value->Sem Value):Prop where
 ex:∃fn,P.funcs[f]?=some fn/\(fn.name== "runtime.NumGoroutine")=false/\fn.body.isNone=true/\Extern.findNext fn=none/\Extern.find fn=some e
theorem Entry.D4 {P:Program}{f:FuncId}{e:Array Value->Sem Value}(h:Entry P f e):(P.funcs[f]?).any (·.body.isSome)=false:=by
 obtain ⟨fn,a,_,hb,_⟩:=h.ex;rw[a];simpa using hb
end Go.Sep
end
section
namespace Go.Proofs.YtbpddfapodiemaaGreatDoor
open Go Go.Sep Go.Proofs Go.Conc
open Go.ConcN (upd)
open Go.ConcM (muA msA)
open Go.ConcR (stA smA)
set_option maxRecDepth 100000
set_option maxHeartbeats 4000000
theorem sE:Entry Tryz.prog 152 (fun _=>do mark .disable;pure Extern.Race.none_):=⟨_,Tryz.func152,aj,aj,aj,aj⟩
theorem mJ:Entry Tryz.prog 153 (fun _=>do mark .enable;pure Extern.Race.none_):=⟨_,Tryz.func153,aj,aj,aj,aj⟩
theorem vn:Entry Tryz.prog 167 (Extern.Race.marked .acquire):=⟨_,Tryz.func167,aj,aj,aj,aj⟩
theorem D5:Entry Tryz.prog 151 (Extern.Race.marked .releaseMerge):=⟨_,Tryz.func151,aj,aj,aj,aj⟩
theorem vo:Entry Tryz.prog 185 (Extern.Atomic.casT (.int .i32)):=⟨_,Tryz.func185,aj,aj,aj,aj⟩
theorem zi:Entry Tryz.prog 187 (Extern.Atomic.update (Op.intArith .add) .i32 true):=⟨_,Tryz.func187,aj,aj,aj,aj⟩
theorem KQ:Entry Tryz.prog 206 Extern.Sync.semacquire:=⟨_,Tryz.func206,aj,aj,aj,aj⟩
theorem D6:Entry Tryz.prog 208 Extern.Sync.semrelease:=⟨_,Tryz.func208,aj,aj,aj,aj⟩
theorem D7:Entry Tryz.prog 205 Extern.OsHooks.nano:=⟨_,Tryz.func205,aj,aj,aj,aj⟩
theorem KR:Entry Tryz.prog 202 Extern.Sync.canSpin:=⟨_,Tryz.func202,aj,aj,aj,aj⟩
theorem KS:Entry Tryz.prog 203 (fun _=>pure (.tuple #[])):=⟨_,Tryz.func203,aj,aj,aj,aj⟩
theorem zj:Entry Tryz.prog 182 (Extern.Atomic.loadT (.int .u64)):=⟨_,Tryz.func182,aj,aj,aj,aj⟩
theorem D8:Entry Tryz.prog 181 (Extern.Atomic.update (Op.intArith .add) .u64 true):=⟨_,Tryz.func181,aj,aj,aj,aj⟩
theorem KT:Entry Tryz.prog 189 (Extern.Atomic.casT (.int .u64)):=⟨_,Tryz.func189,aj,aj,aj,aj⟩
theorem KU:Entry Tryz.prog 183 Extern.Atomic.storeT:=⟨_,Tryz.func183,aj,aj,aj,aj⟩
theorem D9:Entry Tryz.prog 154 (fun _=>pure (.bool false)):=⟨_,Tryz.func154,aj,aj,aj,aj⟩
theorem KV:Entry Tryz.prog 159 (Extern.Race.marked .read):=⟨_,Tryz.func159,aj,aj,aj,aj⟩
theorem KW:Entry Tryz.prog 170 (Extern.Race.marked .write):=⟨_,Tryz.func170,aj,aj,aj,aj⟩
theorem KX:Entry Tryz.prog 171 Extern.Sync.semacquire:=⟨_,Tryz.func171,aj,aj,aj,aj⟩
theorem KY:Entry Tryz.prog 163 Extern.Sync.semrelease:=⟨_,Tryz.func163,aj,aj,aj,aj⟩
theorem zk:Tryz.prog.underlying 231=some (.pointer 177):=aj
theorem zl:Tryz.prog.underlying 202=some (.pointer 186):=aj
theorem Ea:Tryz.prog.underlying 210=some (.pointer 175):=aj
theorem mK:Tryz.prog.underlying 204=some .unsafePointer:=aj
theorem ql:Tryz.prog.underlying 21=some (.int .i32):=aj
theorem KZ:Tryz.prog.underlying 4=some .bool:=aj
theorem zm:(Tryz.prog.info? 177).map (fun i=>decide (i.size=0))=some false:=aj
theorem zn:(Tryz.prog.info? 186).map (fun i=>decide (i.size=0))=some false:=aj
theorem Eb:(Tryz.prog.info? 175).map (fun i=>decide (i.size=0))=some false:=aj
theorem vp:(Tryz.prog.funcs[186]?).any (·.norace)=true:=aj
theorem K0:(Tryz.prog.funcs[166]?).any (·.norace)=true:=aj
theorem K1:(Tryz.prog.funcs[188]?).any (·.norace)=true:=aj
theorem Ec:(Tryz.prog.funcs[205]?).any (·.norace)=true:=aj
noncomputable abbrev CY (Mu Wg Is n:Nat)(bs:Nat->Bool)(base T0:Nat):Cy:=⟨Tryz.prog,Mu,Wg,Is,179,186,4,n,bs,base,T0⟩
end Go.Proofs.YtbpddfapodiemaaGreatDoor
end
section
namespace Go.Sep
open Go Go.Conc
open Go.ConcN (sumTo upd upd_ne upd_same)
open Go.ConcM (MuAt muA msA muBlock OsLater)
open Go.ConcR (WgAt wgBlock stA smA)
def At (ops:Array Oper)(j:Nat)(a:Act)(f:FuncId)(vals:List Value)(d:Option Tmp):Prop:=
 ∃o cT dN,ops[j]?=some o/\cV ops o a=some true/\o.op= .call {callee:=.value (.func f),args:=cT,argTypes:=dN}/\cT.toList.map (ev a)=vals/\o.dst=d
def oo (ops:Array Oper)(j:Nat)(a:Act)(op:Op)(d:Option Tmp):Prop:=∃o,ops[j]?=some o/\cV ops o a=some true/\o.op=op/\o.dst=d
theorem kR {a:Act}{cT:Array Operand}{p:Value}(h:cT.toList.map (ev a)=[p]):∃x,cT=#[x]/\ev a x=p:=by
 obtain ⟨l⟩:=cT
 match l,h with
 |[x],h=>exact ⟨x,rfl,by simpa using h⟩
theorem sF {a:Act}{cT:Array Operand}{p q:Value}(h:cT.toList.map (ev a)=[p,q]):∃x y,cT=#[x,y]/\ev a x=p/\ev a y=q:=by
 obtain ⟨l⟩:=cT
 match l,h with
 |[x,y],h=>exact ⟨x,y,rfl,by simpa using h⟩
theorem sG {a:Act}{cT:Array Operand}{p q r:Value}(h:cT.toList.map (ev a)=[p,q,r]):∃x y z,cT=#[x,y,z]/\ev a x=p/\ev a y=q/\ev a z=r:=by
 obtain ⟨l⟩:=cT
 match l,h with
 |[x,y,z],h=>exact ⟨x,y,z,rfl,by simpa using h⟩
abbrev WJ (c:Cy)(i:Nat):Ph->Goroutine->af->Prop:=fun ph g F=>Wk c i ph g F
section
variable {c:Cy}{i:Nat}{ph:Ph}{φ:Nat->Ph}{p0:P0}{k:Nat}{s:Sh}{w:World}
theorem zo {α:Type}(f:Nat->α)(i:Nat):upd f i (f i)=f:=by
 funext j;by_cases h:j=i
 .subst h;exact upd_same _ _ _
 .exact upd_ne _ _ h
theorem oq {aX:Ph}(hd:aX.deaf=ph.deaf)(hg:aX.gp= .cnt↔ph.gp= .cnt):EvA c i ph aX #[]:=.book av (by rw[hd];rfl) av hg
theorem WJ.eY (c:Cy)(i:Nat)(ph:Ph):eL c.P false (WJ c i ph):=⟨fun {fr fr' cs cs' F} hs h=>by
 by_cases hg:ph.gp= .gone
 .obtain ⟨F0,r,hle,hW⟩:=h
  obtain ⟨q,_,a⟩:=hW.left hg
  exact Wk.gone (q:=q+1) hg (.inr ⟨rfl,G fr' cs',#[],av,hs,by rw[deafBehind_nil];exact a⟩)
 .refine Wk.act rfl rfl hg fun w s k φ p0 f b g d e=>.inr ⟨G fr' cs',w,#[],s,ph,hs w,b,.refl _ _,?_,oq rfl Iff.rfl,.inr ⟨Int.le_refl _,Int.le_refl _⟩,h⟩
  rw[<-d,zo];exact e⟩
variable {ops:Array Oper}{j n:Nat}{Q:Act->af->Ph->Prop}{a:Act}{F:af}{o:Oper}{f fi:FuncId}{cT:Array Operand}{dN:Array TypeId}
theorem gm (g:ops[j]?=some o)(l:ph.gp≠ .gone)
  (h:∀(w:World) (s:Sh) (k:Nat) (φ:Nat->Ph) (p0:P0),Has F w->cQ c w s->i<c.n->φ i=ph->Inv c.n c.bs k φ p0 s->
   (ph.mp.jo=true/\s.ms=0/\∀(b:Frame) (d:List Item) (cs:List Frame),stepG c.P false (G (b.at a (.inRegion ops (j::List.range' (j+1) n)::d)) cs) w= .go {G (b.at a (.inRegion ops (j::List.range' (j+1) n)::d)) cs with status:=.blocked} w #[])\/
   (∃(v:Value) (w':World) (es:Array Event) (s':Sh) (aX:Ph),(∀(b:Frame) (d:List Item) (cs:List Frame),BF fi b->
    stepG c.P false (G (b.at a (.inRegion ops (j::List.range' (j+1) n)::d)) cs) w= .go (G (b.at (a.put o.dst v) (.inRegion ops (List.range' (j+1) n)::d)) cs) w' es)/\cQ c w' s'/\iV c w w'/\Inv c.n c.bs k (upd φ i aX) p0 s'/\EvA c i ph aX es/\
    ((∃call,o.op= .call call/\∀x,call.callee= .value x->∃f,a.eval x= .func (.func f) #[] #[]/\(c.P.funcs[f]?).any (·.body.isSome)=false)\/(s'.ms<=s.ms/\s'.ws<=s.ws))/\ak (WJ c i) fi ops (j+1) n Q (a.put o.dst v) F aX)):ak (WJ c i) fi ops j (n+1) Q a F ph:=fun b d cs hb hk=>by
 rw[List.range'_succ,fo hb.round]
 refine Wk.act rfl rfl l fun w s k φ p0 e1 e2 m p q=>?_
 rcases h w s k φ p0 e1 e2 m p q with ⟨x,y,z⟩|⟨v,w',es,s',aX,z,r,t,u,A,e,B⟩
 .exact .inl ⟨x,y,z b d cs⟩
 .refine .inr ⟨_,w',es,s',aX,z b d cs hb,r,t,u,A,?_,?_⟩
  .rcases e with ⟨call,C,D⟩|e
   .refine .inl ?_
    simp only[mayWake,G,Frame.at,g,Option.map_some,C]
    obtain ⟨callee,args,argTypes⟩:=call
    cases callee with
    |value x=>
     obtain ⟨f,E,hb⟩:=D x rfl
     have:Frame.eval (b.at a (.inRegion ops (j::List.range' (j+1) n)::d)) x= .func (.func f) #[] #[]:=by rw[Frame.eval_at];exact E
     simp only[Frame.at] at this
     simp only[this,hb,Bool.not_false]
    |_=>rfl
   .exact .inr e
  .rw[<-fo hb.round];exact B b d cs hb hk
theorem heap_set (w:World){a:Addr}{v:Value}{cs:Array Value}{t:TypeId}{fr:Nat×Nat}(h:w.heap[a.block]?=some (.cells cs t fr))(hs:a.spot=none):(w.setCell a v).heap[a.block]?=some (.cells (cs.setIfInBounds a.off v) t fr):=by
 simp[World.setCell,Array.getElem?_modify,h,hs]
theorem j4 (w:World){a:Addr}{v:Value}{b:Nat}(h:b≠a.block):(w.setCell a v).heap[b]?=w.heap[b]?:=by
 simp only[World.setCell];rw[Array.getElem?_modify,if_neg (fun e=>h e.symm)]
theorem cQ.mu (h:cQ c w s):w.cell? (muA c.Mu)=some (.int .i32 s.mu)/\w.frozen? (muA c.Mu)=false:=by
 have:=h.1;unfold MuAt muBlock at this;simp[World.cell?,World.frozen?,muA,this]
theorem cQ.ms (h:cQ c w s):w.cell? (msA c.Mu)=some (.int .u32 s.ms)/\w.frozen? (msA c.Mu)=false:=by
 have:=h.1;unfold MuAt muBlock at this;simp[World.cell?,World.frozen?,msA,this]
theorem cQ.wg (h:cQ c w s):w.cell? (stA c.Wg)=some (.int .u64 s.wg)/\w.frozen? (stA c.Wg)=false:=by
 have:=h.2.1;unfold WgAt wgBlock at this;simp[World.cell?,World.frozen?,stA,this]
theorem cQ.ws (h:cQ c w s):w.cell? (smA c.Wg)=some (.int .u32 s.ws)/\w.frozen? (smA c.Wg)=false:=by
 have:=h.2.1;unfold WgAt wgBlock at this;simp[World.cell?,World.frozen?,smA,this]
theorem iV.set {a:Addr}(v:Value)(h:c.shared a.block):iV c w (w.setCell a v):=
 ⟨rfl,rfl,by simp[World.setCell],.refl _,fun b hb=>j4 w fun e=>hb (e▸h)⟩
theorem cQ.Ed (aO:c.Mu≠c.Wg/\c.Mu≠c.Is/\c.Wg≠c.Is)(h:cQ c w s)(v:Int):cQ c (w.setCell (muA c.Mu) (.int .i32 v)) {s with mu:=v}:=by
 obtain ⟨b,d,e⟩:=h;refine ⟨?_,?_,?_⟩
 .unfold MuAt muBlock at*;exact (heap_set w (a:=muA c.Mu) b rfl).trans rfl
 .unfold WgAt at*;rw[j4 w (Ne.symm aO.1)];exact d
 .rw[j4 w (Ne.symm aO.2.1)];exact e
theorem cQ.Ee (aO:c.Mu≠c.Wg/\c.Mu≠c.Is/\c.Wg≠c.Is)(h:cQ c w s)(v:Int):cQ c (w.setCell (msA c.Mu) (.int .u32 v)) {s with ms:=v}:=by
 obtain ⟨b,d,e⟩:=h;refine ⟨?_,?_,?_⟩
 .unfold MuAt muBlock at*;exact (heap_set w (a:=msA c.Mu) b rfl).trans rfl
 .unfold WgAt at*;rw[j4 w (Ne.symm aO.1)];exact d
 .rw[j4 w (Ne.symm aO.2.1)];exact e
theorem cQ.vq (aO:c.Mu≠c.Wg/\c.Mu≠c.Is/\c.Wg≠c.Is)(h:cQ c w s)(v:Int):cQ c (w.setCell (stA c.Wg) (.int .u64 v)) {s with wg:=v}:=by
 obtain ⟨b,d,e⟩:=h;refine ⟨?_,?_,?_⟩
 .unfold MuAt at*;rw[j4 w aO.1];exact b
 .unfold WgAt wgBlock at*;exact (heap_set w (a:=stA c.Wg) d rfl).trans rfl
 .rw[j4 w (Ne.symm aO.2.2)];exact e
theorem cQ.Ef (aO:c.Mu≠c.Wg/\c.Mu≠c.Is/\c.Wg≠c.Is)(h:cQ c w s)(v:Int):cQ c (w.setCell (smA c.Wg) (.int .u32 v)) {s with ws:=v}:=by
 obtain ⟨b,d,e⟩:=h;refine ⟨?_,?_,?_⟩
 .unfold MuAt at*;rw[j4 w aO.1];exact b
 .unfold WgAt wgBlock at*;exact (heap_set w (a:=smA c.Wg) d rfl).trans rfl
 .rw[j4 w (Ne.symm aO.2.2)];exact e
theorem cQ.K2 (aO:c.Mu≠c.Wg/\c.Mu≠c.Is/\c.Wg≠c.Is)(h:cQ c w s)(m:Nat)(v:Bool):cQ c (w.setCell ⟨c.Is,m,none⟩ (.bool v)) {s with is:=s.is.set m v}:=by
 obtain ⟨b,d,e⟩:=h;refine ⟨?_,?_,?_⟩
 .unfold MuAt at*;rw[j4 w aO.2.1];exact b
 .unfold WgAt at*;rw[j4 w aO.2.2];exact d
 .rw[heap_set w (a:=⟨c.Is,m,none⟩) e rfl];simp[List.map_set]
theorem K3:EvA c i ph {ph with deaf:=ph.deaf+1} #[c8 .disable]:=
 .book (fun e he=>by simp at he;exact .inl he) rfl (fun j e he=>.inl (by have:=Array.mem_of_getElem? he;simp at this;subst this;rfl)) Iff.rfl
theorem K4 {d:Nat}(hd:ph.deaf=d+1):EvA c i ph {ph with deaf:=d} #[c8 .enable]:=
 .book (fun e he=>by simp at he;exact .inr (.inl he)) (by rw[hd];rfl) (fun j e he=>.inl (by have:=Array.mem_of_getElem? he;simp at this;subst this;rfl)) Iff.rfl
theorem zq {aX:Ph}{a:Addr}(x:Bool)(hd:aX.deaf=ph.deaf)(hg:aX.gp= .cnt↔ph.gp= .cnt)(b:0<ph.deaf)(d:a.block=c.Wg\/(a.block=c.Mu/\ph.gp= .cnt)):EvA c i ph aX #[⟨.cell a,x,true⟩]:=by
 refine .book (fun e he=>?_) (by rw[hd];simp[deafBehind]) (fun j e he=>?_) hg
 .simp at he;exact .inr (.inr ⟨a,x,he,d⟩)
 .match j,he with
  |0,_=>exact .inr (by simpa [deafBehind] using b)
  |j+1,he=>simp at he
theorem zu {aX:Ph}{a:Addr}(hd:aX.deaf=ph.deaf)(hg:aX.gp= .cnt↔ph.gp= .cnt)(b:0<ph.deaf)(d:a.block=c.Wg\/(a.block=c.Mu/\ph.gp= .cnt)):EvA c i ph aX #[⟨.cell a,false,true⟩,⟨.cell a,true,true⟩]:=by
 refine .book (fun e he=>?_) (by rw[hd];simp[deafBehind]) (fun j e he=>?_) hg
 .simp at he;rcases he with he|he<;>exact .inr (.inr ⟨a,_,he,d⟩)
 .match j,he with
  |0,_=>exact .inr (by simpa [deafBehind] using b)
  |1,_=>exact .inr (by simpa [deafBehind] using b)
  |j+2,he=>simp at he
theorem zv {aX:Ph}{a:Addr}(hd:aX.deaf=ph.deaf)(hg:aX.gp= .cnt↔ph.gp= .cnt)(b:a.block=c.Wg\/(a.block=c.Mu/\ph.gp= .cnt)):EvA c i ph aX (semEvents a):=by
 refine .book (fun e he=>?_) (by rw[hd];simp[deafBehind,semEvents]) (fun j e he=>?_) hg
 .simp[semEvents] at he;rcases he with rfl|rfl|rfl|rfl
  .exact .inl rfl
  .exact .inr (.inr ⟨a,_,rfl,b⟩)
  .exact .inr (.inr ⟨a,_,rfl,b⟩)
  .exact .inr (.inl rfl)
 .match j,he with
  |0,he=>simp[semEvents] at he;subst he;exact .inl rfl
  |1,_=>exact .inr (by simp[deafBehind,semEvents])
  |2,_=>exact .inr (by simp[deafBehind,semEvents])
  |3,he=>simp[semEvents] at he;subst he;exact .inl rfl
  |j+4,he=>simp[semEvents] at he
theorem Inv.kO (h:Inv c.n c.bs k φ p0 s)(hi:i<c.n)(he:φ i=ph){aX:Ph}{s':Sh}(hg:ph.gp≠ .new)(l:aX.gp≠ .new)(hm:∃C S W L m,cK c.n (upd φ i aX) s'.mu s'.ms C S W L m)(hw:ee c.n (upd φ i aX) p0 s'.wg s'.ws)
  (f:s'.is=s.is.set i aX.stored) (hd:aX.gp≠ .cnt->aX.stored=c.bs i/\aX.mp= .fin):Inv c.n c.bs k (upd φ i aX) p0 s':=by
 refine ⟨hm,hw,by rw[f,List.length_set];exact h.i.len,h.i.kn,fun j a=>?_,fun j a=>?_,fun j a b=>?_,fun j a d g=>?_⟩<;>by_cases e:j=i
 .subst e;rw[upd_same,f,List.getElem?_set_self (by rw[h.i.len];exact a)]
 .rw[upd_ne _ _ e,f,List.getElem?_set_ne (Ne.symm e)];exact h.i.all j a
 .subst e;rw[upd_same,h.i.born j a,he];exact ⟨fun _=>l,fun _=>hg⟩
 .rw[upd_ne _ _ e];exact h.i.born j a
 .subst e;rw[upd_same] at b;exact absurd b l
 .rw[upd_ne _ _ e] at b ⊢;exact h.i.new j a b
 .subst e;rw[upd_same] at d g ⊢;exact hd d
 .rw[upd_ne _ _ e] at d g ⊢;exact h.i.done j a d g
theorem zw {l:List Bool}{i:Nat}{x:Bool}(h:l[i]?=some x):l.set i x=l:=by
 refine List.ext_getElem? fun j=>?_;by_cases e:i=j
 .subst e;have a:i<l.length:=by
   rcases Nat.lt_or_ge i l.length with y|y
   .exact y
   .rw[List.getElem?_eq_none y] at h;cases h
  rw[List.getElem?_set_self a,h]
 .rw[List.getElem?_set_ne e]
theorem Inv.mutex (h:Inv c.n c.bs k φ p0 s)(hi:i<c.n)(he:φ i=ph)(hg:ph.gp= .cnt){mp:Mp}{mu ms:Int}(hm:∃C S W L m,cK c.n (upd φ i {ph with mp:=mp}) mu ms C S W L m):Inv c.n c.bs k (upd φ i {ph with mp:=mp}) p0 {s with mu:=mu,ms:=ms}:=
 h.kO hi he (by rw[hg];simp) (by rw[hg];simp) hm (vh h.w hi _ (.inl (by rw[he]))) (by
  have:=h.i.all i hi
  rw[he] at this
  exact (zw this).symm) (fun a=>absurd hg a)
theorem Inv.Eg (h:Inv c.n c.bs k φ p0 s)(hi:i<c.n)(he:φ i=ph)(hg:ph.gp≠ .new)(d:Nat):Inv c.n c.bs k (upd φ i {ph with deaf:=d}) p0 s:=by
 subst he;exact h.deaf hi hg d
end
end Go.Sep
end

/- A part of the proof of a row and its tied card: Q8. -/
import Derived.Test.YtjepffnffjdloaaGreatDoorQ7
import Derived.Conc.Own2
import Derived.Conc.Own4
import Derived.Conc.MarkLaws
import Derived.Conc.ClockLaws
import Derived.Conc.SmallLaws
import Derived.Conc.DeferLaws
set_option linter.all false
section
namespace Go.Sep
open Go Go.Conc
structure dO (P:Program)(main:Bool)(J:Goroutine->af->Prop):Prop where
 move:∀{fr fr':Frame} {cs cs':List Frame} {F:af},(∀w,stepG P main (G fr cs) w= .go (G fr' cs') w #[])->J (G fr' cs') F->J (G fr cs) F
theorem Closed.ek {P:Program}{main:Bool}{J:Goroutine->af->Prop}(h:Closed P main J):dO P main J:=⟨fun hs a=>h.move hs a⟩
theorem eG {b:Frame}(h:b.roundOf=none)(a:Act)(todo:List Item):on b a todo=b.at a todo:=by
 cases b
 simp only at h
 subst h
 rfl
structure BF (fi:FuncId)(b:Frame):Prop where
 kind:b.kind≠ .early
 round:b.roundOf=none
 fn:b.fn=fi
section
variable {P : Program} {main : Bool} {S : Type} {JF : S → Goroutine → af → Prop} {fi : FuncId}
def cF (JF:S->Goroutine->af->Prop)(fi:FuncId)(c:Code)(Q:Ex->Act->af->S->Prop)(a:Act)(F:af)(ph:S):Prop:=
 ∀(b:Frame) (k:List Item) (cs:List Frame),BF fi b->(∀e d F' aI,Q e d F' aI->zB (JF aI) b k cs e d F')->JF ph (G (on b a (.code c::k)) cs) F
def ai (JF:S->Goroutine->af->Prop)(fi:FuncId)(ops:Array Oper)(i n:Nat)(Q:Act->af->S->Prop)(a:Act)(F:af)(ph:S):Prop:=
 ∀(b:Frame) (k:List Item) (cs:List Frame),BF fi b->(∀c F' aI,Q c F' aI->JF aI (G (on b c k) cs) F')->JF ph (G (on b a (.inRegion ops (List.range' i n)::k)) cs) F
def cz (P:Program)(JF:S->Goroutine->af->Prop)(f:FuncId)(args:Array Value)(F:af)(ph:S)(R:Value->af->S->Prop):Prop:=
 ∀(c:Frame) (cs:List Frame),(∀v F' aI,R v F' aI->JF aI (G (c.finish v) cs) F')->JF ph (G (Frame.enter P f args .normal) (c::cs)) F
variable {Q : Ex → Act → af → S → Prop} {a : Act} {F : af} {ph : S}
theorem cF.mono {c:Code}{d:Ex->Act->af->S->Prop}(h:cF JF fi c Q a F ph)(hq:∀e a F ph,Q e a F ph->d e a F ph):cF JF fi c d a F ph:=
 fun b k cs hb f=>h b k cs hb fun e g F' aI x=>f e g F' aI (hq _ _ _ _ x)
theorem cF.of (hJ:Closed P main (JF ph)){c:Code}(h:Wp (JF ph) c (fun e a F=>Q e a F ph) a F):cF JF fi c Q a F ph:=
 fun b k cs hb d=>h b k cs ⟨hb.kind,.inl hb.round⟩ fun e f F' hq=>d e f F' ph hq
theorem cA (c:dO P main (JF ph))(h:Q .normal a F ph):cF JF fi .skip Q a F ph:=fun b k cs _ d=>c.move (fun _=>zh) (d _ _ _ _ h)
theorem oZ {id:Nat}(h:Q (.exit id) a F ph):cF JF fi (.exit id) Q a F ph:=fun b k cs _ c=>c _ _ _ _ h k rfl
theorem fC (h:Q .ret a F ph):cF JF fi .ret Q a F ph:=fun b k cs _ c=>c _ _ _ _ h k
def CX (JF:S->Goroutine->af->Prop)(fi:FuncId)(y:Code)(Q:Ex->Act->af->S->Prop):Ex->Act->af->S->Prop
 | .normal,a,F,ph=>cF JF fi y Q a F ph
 |e,a,F,ph=>Q e a F ph
theorem az (d:dO P main (JF ph)){x y:Code}(h:cF JF fi x (CX JF fi y Q) a F ph):cF JF fi (.seq x y) Q a F ph:=fun b k cs hb c=>by
 refine d.move (fun _=>zj) (h b (.code y::k) cs hb fun e i F' aI hq=>?_)
 cases e with
 |normal=>exact hq b k cs hb c
 |exit id=>exact fun f g=>c _ _ _ _ hq f (by rw[g];rfl)
 |ret=>exact c _ _ _ _ hq
theorem CZ (d:dO P main (JF ph)){c:Operand}{x y:Code}(t:Bool)(e:a.eval c= .bool t)(h:cF JF fi (if t then x else y) Q a F ph):cF JF fi (.cond c x y) Q a F ph:=fun b k cs hb f=>
 d.move (fun _=>zk e) (h b k cs hb f)
theorem cQ (b:dO P main (JF ph)){c:Operand}{x y:Code}(d:ev a c= .bool true)(h:cF JF fi x Q a F ph):cF JF fi (.cond c x y) Q a F ph:=CZ b true d h
theorem cx (b:dO P main (JF ph)){c:Operand}{x y:Code}(d:ev a c= .bool false)(h:cF JF fi y Q a F ph):cF JF fi (.cond c x y) Q a F ph:=CZ b false d h
def yu (id:Nat)(Q:Ex->Act->af->S->Prop):Ex->Act->af->S->Prop
 | .normal,a,F,ph=>Q .normal a F ph
 | .exit i,a,F,ph=>if i=id then Q .normal a F ph else Q (.exit i) a F ph
 | .ret,a,F,ph=>Q .ret a F ph
theorem jW (f:∀ph,dO P main (JF ph)){id:Nat}{c:Code}(h:cF JF fi c (yu id Q) a F ph):cF JF fi (.block id c) Q a F ph:=fun b k cs hb d=>by
 refine (f ph).move (fun _=>zl) (h b (.inBlock id::k) cs hb fun e l F' aI hq=>?_)
 cases e with
 |normal=>exact (f aI).move (fun _=>zi) (d _ _ _ _ hq)
 |exit i=>
  intro g j
  simp only[yu] at hq
  by_cases hi:i=id
  ·rw[if_pos hi] at hq
   subst hi
   have:exitTo i g=some k:=by rw[j];simp[exitTo]
   exact (f aI).move (fun _=>zo this) (d _ _ _ _ hq)
  ·rw[if_neg hi] at hq
   refine d _ _ _ _ hq g ?_
   rw[j]
   simp[exitTo,Ne.symm hi]
 |ret=>exact d _ _ _ _ hq
def yw (I:Nat->Act->af->S->Prop)(n:Nat)(Q:Ex->Act->af->S->Prop):Ex->Act->af->S->Prop
 | .normal,a,F,ph=>∃m,m<n/\I m a F ph
 |e,a,F,ph=>Q e a F ph
theorem qS (d:∀ph,dO P main (JF ph)){c:Code}(I:Nat->Act->af->S->Prop)(n:Nat)(h0:I n a F ph)(hs:∀n a F ph,I n a F ph->cF JF fi c (yw I n Q) a F ph):cF JF fi (.loop c) Q a F ph:=by
 intro b k cs hb f
 have key:∀n a F ph,I n a F ph->JF ph (G (on b a (.code c:: .inLoop c::k)) cs) F:=by
  intro n
  induction n using Nat.strongRecOn with
  |_ n ih=>
   intro a F ph g
   refine hs n a F ph g b (.inLoop c::k) cs hb fun e h F' aI hq=>?_
   cases e with
   |normal=>
    obtain ⟨m,hm,j⟩:=hq
    exact (d aI).move (fun _=>zn) (ih m hm h F' aI j)
   |exit i=>exact fun l o=>f _ _ _ _ hq l (by rw[o];rfl)
   |ret=>exact f _ _ _ _ hq
 exact (d ph).move (fun _=>zm) (key n a F ph h0)
theorem cR (c:∀ph,dO P main (JF ph)){id:Nat}{ops:Array Oper}(h:ai JF fi ops 0 ops.size (Q .normal) a F ph):cF JF fi (.region id ops false) Q a F ph:=fun b k cs hb d=>by
 refine (c ph).move (fun _=>zp) ?_
 rw[List.range_eq_range']
 exact h b k cs hb fun e F' aI hq=>d .normal e F' aI hq
variable {ops : Array Oper} {i n : Nat} {Q : Act → af → S → Prop}
theorem ai.nil (c:∀ph,dO P main (JF ph))(h:Q a F ph):ai JF fi ops i 0 Q a F ph:=fun b k cs hb d=>
 (c ph).move (fun _=>zu) (d _ _ _ h)
theorem C0 (hJ:Closed P main (JF ph)):∀(m i n:Nat) (a:Act) (F:af),fW P (JF ph) ops (fun c F'=>ai JF fi ops (i+m) n Q c F' ph) (List.range' i m) a F->ai JF fi ops i (m+n) Q a F ph
 |0,i,n,a,F,h=>by rw[Nat.zero_add];exact h
 |m+1,i,n,a,F,h=>fun b k cs hb f=>by
  have e:m+1+n=(m+n)+1:=by omega
  rw[e,List.range'_succ]
  rw[List.range'_succ] at h
  refine zx hJ ⟨hb.kind,.inl hb.round⟩ h fun c F' d=>?_
  have e2:i+(m+1)=(i+1)+m:=by omega
  rw[e2] at d
  exact C0 hJ m (i+1) n c F' d b k cs hb f
theorem yx {J:Goroutine->af->Prop}{K:Act->af->Prop}:∀(l:List Oper) (k:Nat) (go:Bool) (a:Act) (F:af),(∀j o,l[j]?=some o->ops[k+j]?=some o)->fI P J ops K l go a F->fW P J ops K (List.range' k l.length) a F
 |[],k,_,a,F,_,h=>by rw[zZ] at h;exact h
 |o::rest,k,go,a,F,b,h=>by
  have d:ops[k]?=some o:=b 0 o rfl
  have c:∀j x,rest[j]?=some x->ops[k+1+j]?=some x:=fun j x e=>by rw[Nat.add_assoc,Nat.add_comm 1 j];exact b (j+1) x e
  simp only[List.length_cons,List.range'_succ]
  show dD P J ops k (fW P J ops K (List.range' (k+1) rest.length)) a F
  unfold dD
  simp only[d]
  have h:fI P J ops K (o::rest) true a F:=by unfold fI at h ⊢;exact h
  rw[z0] at h
  split at h
  ·rename_i hg
   rw[if_pos (b7 hg)]
   exact gZ (pz (fun v F' f=>yx rest (k+1) _ _ F' c f) (fun _ _ x=>x)) _ _ (k9 h)
  ·rename_i hg
   rw[if_neg (by rw[b7 hg];simp)]
   exact yx rest (k+1) _ _ F c h
  ·exact h.elim
theorem ai.bu (hJ:Closed P main (JF ph))(m:Nat){n:Nat}(l:List Oper)(c:(ops.toList.drop i).take m=l)(hm:l.length=m)(h:fI P (JF ph) ops (fun d F'=>ai JF fi ops (i+m) n Q d F' ph) l true a F):ai JF fi ops i (m+n) Q a F ph:=by
 subst hm
 refine C0 hJ l.length i n a F (yx l i true a F (fun j o b=>?_) h)
 rw[<-c] at b
 have e:j<l.length:=by
  rcases Nat.lt_or_ge j l.length with x|x
  ·exact x
  ·rw[c,List.getElem?_eq_none x] at b;cases b
 rw[List.getElem?_take,if_pos e,List.getElem?_drop] at b
 simpa using b
theorem ai.skip (d:dO P main (JF ph)){o:Oper}(c:ops[i]?=some o)(hg:cu ops o a=some false)(h:ai JF fi ops (i+1) n Q (aX a o.dst undef) F ph):ai JF fi ops i (n+1) Q a F ph:=fun b k cs hb e=>by
 rw[List.range'_succ]
 refine d.move (fun _=>uV (by simp[c,b7 hg])) ?_
 simp only[c,Option.bind_some]
 exact h b k cs hb e
theorem ai.plain (c:dO P main (JF ph)){o:Oper}(v:Value)(d:ops[i]?=some o)(hg:cu ops o a=some true)(e:∀w,(execOp a.eval o).run P w= .ok (.value v) w)(he:∀w,(execOp a.eval o).events P w #[]=#[])
  (h:ai JF fi ops (i+1) n Q (aX a o.dst v) F ph):ai JF fi ops i (n+1) Q a F ph:=fun b k cs hb f=>by
 rw[List.range'_succ,eG hb.round]
 refine c.move (fr':=b.at (a.put o.dst v) (.inRegion ops (List.range' (i+1) n)::k)) (fun w=>?_) (by rw[<-eG hb.round];exact h b k cs hb f)
 rw[stepG_value d (b7 hg) hb.kind (e w)]
 unfold listed
 rw[he w,seen_none]
theorem ai.call (d:dO P main (JF ph)){o:Oper}{f:FuncId}{args:Array Value}{R:Value->af->S->Prop}(c:ops[i]?=some o)(hg:cu ops o a=some true)(e:∀w,(execOp a.eval o).run P w= .ok (.enter f args) w)(he:∀w,(execOp a.eval o).events P w #[]=#[])
  (g:cz P JF f args F ph R) (h:∀v F' aI,R v F' aI->ai JF fi ops (i+1) n Q (aX a o.dst v) F' aI):ai JF fi ops i (n+1) Q a F ph:=fun b k cs hb j=>by
 rw[List.range'_succ,eG hb.round]
 refine d.move (fr':=Frame.enter P f args .normal) (cs':=b.at a (.inRegion ops (i::List.range' (i+1) n)::k)::cs) (fun w=>?_) (g _ cs fun v F' aI l=>?_)
 ·rw[stepG_enter c (b7 hg) hb.kind (e w)]
  unfold listed
  rw[he w,seen_none]
 ·rw[Frame.finish_at,c]
  rw[show (Option.some o).bind (·.dst)=o.dst from rfl,<-eG hb.round]
  exact h v F' aI l b k cs hb j
def jX (P:Program)(fn:Func)(R:Value->af->S->Prop):Ex->Act->af->S->Prop
 | .exit _,_,_,_=>False
 |_,a,F,ph=>a.defers=[]/\∃v,(∀w,(results fn a.tmps).run P w= .ok v w/\(results fn a.tmps).events P w #[]=#[])/\R v F ph
theorem cz.of (j:∀ph,dO P main (JF ph)){f:FuncId}{fn:Func}{c:Code}{args:Array Value}{R:Value->af->S->Prop}(k:P.funcs[f]?=some fn)(hb:fn.body=some c)
  (h:cF JF f c (jX P fn R) {tmps:=args++Array.replicate (fn.ntmps - args.size) undef,defers:=[]} F ph):cz P JF f args F ph R:=by
 intro g cs m
 let b:Frame:={(default:Frame) with fn:=f,kind:=.normal}
 have n:b.roundOf=none:=rfl
 have o:Frame.enter P f args .normal=on b {tmps:=args++Array.replicate (fn.ntmps - args.size) undef,defers:=[]} [.code c]:=by
  simp[Frame.enter,on,k,hb,b]
  rfl
 rw[o]
 have leave:∀(d:Act) (todo:List Item) F' aI,d.defers=[]->(∃v,(∀w,(results fn d.tmps).run P w= .ok v w/\(results fn d.tmps).events P w #[]=#[])/\R v F' aI)->JF aI (G {on b d todo with mode:=.returning} (g::cs)) F':=by
  intro d todo F' aI hd ⟨v,l,p⟩
  refine (j aI).move (fr':=g.finish v) (cs':=cs) (fun w=>?_) (m v F' aI p)
  have:=stepG_leave (P:=P) (main:=main) (b:=b) (a:=d) (todo:=todo) (cs:=cs) (w:=w) (c:=g) (v:=v) rfl hd k (l w).1 (l w).2
  rw[eG n];exact this
 refine h b [] (g::cs) ⟨by simp[b],rfl,rfl⟩ fun e d F' aI hq=>?_
 cases e with
 |normal=>exact (j aI).move (fun _=>me rfl) (leave d _ F' aI hq.1 hq.2)
 |exit i=>exact hq.elim
 |ret=>exact fun q=>(j aI).move (fun _=>stepG_ret' rfl) (leave d _ F' aI hq.1 hq.2)
end
end Go.Sep
namespace Go.Sep
open Go Go.Conc
section
variable {P : Program} {main : Bool} {S : Type} {JF : S → Goroutine → af → Prop} {F : af} {ph : S}
theorem cz.go (a:∀ph,dO P main (JF ph)){f:FuncId}{fn:Func}{c:Code}{n:Nat}{args:Array Value}{R:Value->af->S->Prop}(b:P.funcs[f]?=some fn)(hb:fn.body=some c)(hn:fn.ntmps=n)(d:args.size<=n)
  (h:∀A:Act,sz A=n->A.defers=[]->(∀i,slot A i=args.getD i undef)->cF JF f c (jX P fn R) A F ph):cz P JF f args F ph R:=by
 refine cz.of a b hb (h _ (by simp[sz,hn];omega) rfl fun i=>?_)
 simp only[slot,hn,Array.getD_eq_getD_getElem?]
 rcases Nat.lt_or_ge i args.size with hi|hi
 ·rw[Array.getElem?_append_left hi]
 ·rw[Array.getElem?_append_right hi,Array.getElem?_replicate,Array.getElem?_eq_none hi]
  split<;>rfl
theorem C1 {fn:Func}{R:Value->af->S->Prop}{a:Act}(b:fn.results=#[])(hd:a.defers=[])(h:R (.tuple #[]) F ph):jX P fn R .normal a F ph/\jX P fn R .ret a F ph:=
 have x:a.defers=[]/\∃v,(∀w,(results fn a.tmps).run P w= .ok v w/\(results fn a.tmps).events P w #[]=#[])/\R v F ph:=⟨hd,.tuple #[],fun w=>⟨results_none b _ P w,events_results_none b _ _⟩,h⟩
 ⟨x,x⟩
theorem l6 {fn:Func}{R:Value->af->S->Prop}{a:Act}(b:fn.results=#[])(hd:a.defers=[])(h:R (.tuple #[]) F ph):jX P fn R .normal a F ph:=(C1 b hd h).1
theorem o3 {fn:Func}{R:Value->af->S->Prop}{a:Act}(b:fn.results=#[])(hd:a.defers=[])(h:R (.tuple #[]) F ph):jX P fn R .ret a F ph:=(C1 b hd h).2
theorem l7 {fn:Func}{R:Value->af->S->Prop}{a:Act}{t:Tmp}{v:Value}(b:fn.results=#[.tmp t])(hd:a.defers=[])(c:slot a t=v)(h:R v F ph):jX P fn R .normal a F ph/\jX P fn R .ret a F ph:=
 have x:a.defers=[]/\∃v,(∀w,(results fn a.tmps).run P w= .ok v w/\(results fn a.tmps).events P w #[]=#[])/\R v F ph:=⟨hd,v,fun w=>⟨by rw[<-c];exact results_tmp b _ P w,events_results_tmp b _ _⟩,h⟩
 ⟨x,x⟩
end
end Go.Sep
namespace Go.Sep
open Go Go.Conc
attribute [go_sem] CX yu yw List.getElem_toArray List.getElem_cons_zero List.getElem_cons_succ
section
variable {P : Program} {main : Bool} {S : Type} {JF : S → Goroutine → af → Prop} {F : af} {ph : S} {fi : FuncId} {ops : Array Oper} {i n : Nat} {a : Act} {Q : Act → af → S → Prop}
theorem C2 {f:FuncId}(h:aJ P f=true)(args:Array Value)(w:World)(es:Array Event):(callFunc f args).run P w= .ok (.enter f args) w/\(callFunc f args).events P w es=es:=by
 unfold aJ at h
 split at h
 ·rename_i fn a
  simp only[Bool.not_eq_true',Bool.or_eq_false_iff] at h
  obtain ⟨h1,h2⟩:=h
  have b:fn.name≠ "runtime.NumGoroutine":=ne_of_beq_false h2
  cases hb:fn.body with
  |none=>rw[hb] at h1;cases h1
  |some c=>exact ⟨by simp[callFunc,a,b,hb],by simp[callFunc,a,b,hb]⟩
 ·cases h
theorem ai.gj (c:dO P main (JF ph)){o:Oper}{f:FuncId}{cr:Array Operand}{c7:Array TypeId}{args:Array Value}{R:Value->af->S->Prop}(d:ops[i]?=some o)(hg:cu ops o a=some true)(e:o.op= .call {callee:=.value (.func f),args:=cr,argTypes:=c7})(b:aJ P f=true)
  (g:cr.map (ev a)=args) (j:cz P JF f args F ph R) (h:∀v F' aI,R v F' aI->ai JF fi ops (i+1) n Q (aX a o.dst v) F' aI):ai JF fi ops i (n+1) Q a F ph:=by
 have e1:execOp a.eval o=callFunc f args:=by rw[execOp_call_func (a:=a) e,<-g];rfl
 exact ai.call c d hg (fun w=>by rw[e1];exact (C2 b args w #[]).1) (fun w=>by rw[e1];exact (C2 b args w #[]).2) j h
end
structure Entry (P:Program)(f:FuncId)(e:Array Value->Sem Value):Prop where
 ex:∃fn,P.funcs[f]?=some fn/\(fn.name== "runtime.NumGoroutine")=false/\fn.body.isNone=true/\Extern.findNext fn=none/\Extern.find fn=some e
theorem Entry.C3 {P:Program}{f:FuncId}{e:Array Value->Sem Value}(h:Entry P f e):(P.funcs[f]?).any (·.body.isSome)=false:=by
 obtain ⟨fn,a,_,hb,_⟩:=h.ex
 rw[a]
 simpa using hb
end Go.Sep
end
section
namespace Go.Proofs.YtjepffnffjdloaaGreatDoor
open Go Go.Sep Go.Proofs Go.Conc
open Go.ConcN (upd)
open Go.ConcM (muA msA)
open Go.ConcR (stA smA)
set_option maxRecDepth 100000
set_option maxHeartbeats 4000000
theorem qT:Entry Tryz.prog 134 (fun _=>do mark .disable;pure Extern.Race.none_):=⟨_,Tryz.func134,by kernel_rfl,by kernel_rfl,by kernel_rfl,by kernel_rfl⟩
theorem l8:Entry Tryz.prog 135 (fun _=>do mark .enable;pure Extern.Race.none_):=⟨_,Tryz.func135,by kernel_rfl,by kernel_rfl,by kernel_rfl,by kernel_rfl⟩
theorem uk:Entry Tryz.prog 149 (Extern.Race.marked .acquire):=⟨_,Tryz.func149,by kernel_rfl,by kernel_rfl,by kernel_rfl,by kernel_rfl⟩
theorem C4:Entry Tryz.prog 133 (Extern.Race.marked .releaseMerge):=⟨_,Tryz.func133,by kernel_rfl,by kernel_rfl,by kernel_rfl,by kernel_rfl⟩
theorem um:Entry Tryz.prog 171 (Extern.Atomic.casT (.int .i32)):=⟨_,Tryz.func171,by kernel_rfl,by kernel_rfl,by kernel_rfl,by kernel_rfl⟩
theorem yy:Entry Tryz.prog 173 (Extern.Atomic.update (Op.intArith .add) .i32 true):=⟨_,Tryz.func173,by kernel_rfl,by kernel_rfl,by kernel_rfl,by kernel_rfl⟩
theorem JO:Entry Tryz.prog 185 Extern.Sync.semacquire:=⟨_,Tryz.func185,by kernel_rfl,by kernel_rfl,by kernel_rfl,by kernel_rfl⟩
theorem C5:Entry Tryz.prog 187 Extern.Sync.semrelease:=⟨_,Tryz.func187,by kernel_rfl,by kernel_rfl,by kernel_rfl,by kernel_rfl⟩
theorem C6:Entry Tryz.prog 184 Extern.OsHooks.nano:=⟨_,Tryz.func184,by kernel_rfl,by kernel_rfl,by kernel_rfl,by kernel_rfl⟩
theorem JP:Entry Tryz.prog 181 Extern.Sync.canSpin:=⟨_,Tryz.func181,by kernel_rfl,by kernel_rfl,by kernel_rfl,by kernel_rfl⟩
theorem JQ:Entry Tryz.prog 182 (fun _=>pure (.tuple #[])):=⟨_,Tryz.func182,by kernel_rfl,by kernel_rfl,by kernel_rfl,by kernel_rfl⟩
theorem yz:Entry Tryz.prog 168 (Extern.Atomic.loadT (.int .u64)):=⟨_,Tryz.func168,by kernel_rfl,by kernel_rfl,by kernel_rfl,by kernel_rfl⟩
theorem C7:Entry Tryz.prog 167 (Extern.Atomic.update (Op.intArith .add) .u64 true):=⟨_,Tryz.func167,by kernel_rfl,by kernel_rfl,by kernel_rfl,by kernel_rfl⟩
theorem JR:Entry Tryz.prog 175 (Extern.Atomic.casT (.int .u64)):=⟨_,Tryz.func175,by kernel_rfl,by kernel_rfl,by kernel_rfl,by kernel_rfl⟩
theorem JS:Entry Tryz.prog 169 Extern.Atomic.storeT:=⟨_,Tryz.func169,by kernel_rfl,by kernel_rfl,by kernel_rfl,by kernel_rfl⟩
theorem C8:Entry Tryz.prog 136 (fun _=>pure (.bool false)):=⟨_,Tryz.func136,by kernel_rfl,by kernel_rfl,by kernel_rfl,by kernel_rfl⟩
theorem JU:Entry Tryz.prog 141 (Extern.Race.marked .read):=⟨_,Tryz.func141,by kernel_rfl,by kernel_rfl,by kernel_rfl,by kernel_rfl⟩
theorem JV:Entry Tryz.prog 152 (Extern.Race.marked .write):=⟨_,Tryz.func152,by kernel_rfl,by kernel_rfl,by kernel_rfl,by kernel_rfl⟩
theorem JW:Entry Tryz.prog 153 Extern.Sync.semacquire:=⟨_,Tryz.func153,by kernel_rfl,by kernel_rfl,by kernel_rfl,by kernel_rfl⟩
theorem JX:Entry Tryz.prog 145 Extern.Sync.semrelease:=⟨_,Tryz.func145,by kernel_rfl,by kernel_rfl,by kernel_rfl,by kernel_rfl⟩
theorem yA:Tryz.prog.underlying 222=some (.pointer 164):=by kernel_rfl
theorem yB:Tryz.prog.underlying 188=some (.pointer 173):=by kernel_rfl
theorem C9:Tryz.prog.underlying 195=some (.pointer 162):=by kernel_rfl
theorem l9:Tryz.prog.underlying 190=some .unsafePointer:=by kernel_rfl
theorem o5:Tryz.prog.underlying 21=some (.int .i32):=by kernel_rfl
theorem JY:Tryz.prog.underlying 4=some .bool:=by kernel_rfl
theorem yC:(Tryz.prog.info? 164).map (fun i=>decide (i.size=0))=some false:=by kernel_rfl
theorem yD:(Tryz.prog.info? 173).map (fun i=>decide (i.size=0))=some false:=by kernel_rfl
theorem Da:(Tryz.prog.info? 162).map (fun i=>decide (i.size=0))=some false:=by kernel_rfl
theorem uo:(Tryz.prog.funcs[172]?).any (·.norace)=true:=by kernel_rfl
theorem JZ:(Tryz.prog.funcs[148]?).any (·.norace)=true:=by kernel_rfl
theorem J0:(Tryz.prog.funcs[174]?).any (·.norace)=true:=by kernel_rfl
theorem Db:(Tryz.prog.funcs[184]?).any (·.norace)=true:=by kernel_rfl
noncomputable abbrev CY (Mu Wg Is n:Nat)(bs:Nat->Bool)(base T0:Nat):Cy:=⟨Tryz.prog,Mu,Wg,Is,166,173,4,n,bs,base,T0⟩
end Go.Proofs.YtjepffnffjdloaaGreatDoor
end
section
namespace Go.Sep
open Go Go.Conc
open Go.ConcN (sumTo upd upd_ne upd_same)
open Go.ConcM (MuAt muA msA muBlock OsLater)
open Go.ConcR (WgAt wgBlock stA smA)
def At (ops:Array Oper)(j:Nat)(a:Act)(f:FuncId)(vals:List Value)(d:Option Tmp):Prop:=
 ∃o cr c7,ops[j]?=some o/\cu ops o a=some true/\o.op= .call {callee:=.value (.func f),args:=cr,argTypes:=c7}/\cr.toList.map (ev a)=vals/\o.dst=d
def nt (ops:Array Oper)(j:Nat)(a:Act)(op:Op)(d:Option Tmp):Prop:=∃o,ops[j]?=some o/\cu ops o a=some true/\o.op=op/\o.dst=d
theorem jY {a:Act}{cr:Array Operand}{p:Value}(h:cr.toList.map (ev a)=[p]):∃x,cr=#[x]/\ev a x=p:=by
 obtain ⟨l⟩:=cr
 match l,h with
 |[x],h=>exact ⟨x,rfl,by simpa using h⟩
theorem qU {a:Act}{cr:Array Operand}{p q:Value}(h:cr.toList.map (ev a)=[p,q]):∃x y,cr=#[x,y]/\ev a x=p/\ev a y=q:=by
 obtain ⟨l⟩:=cr
 match l,h with
 |[x,y],h=>exact ⟨x,y,rfl,by simpa using h⟩
theorem qV {a:Act}{cr:Array Operand}{p q r:Value}(h:cr.toList.map (ev a)=[p,q,r]):∃x y z,cr=#[x,y,z]/\ev a x=p/\ev a y=q/\ev a z=r:=by
 obtain ⟨l⟩:=cr
 match l,h with
 |[x,y,z],h=>exact ⟨x,y,z,rfl,by simpa using h⟩
abbrev WJ (c:Cy)(i:Nat):Ph->Goroutine->af->Prop:=fun ph g F=>Wk c i ph g F
section
variable {c : Cy} {i : Nat} {ph : Ph} {φ : Nat → Ph} {p0 : P0} {k : Nat} {s : Sh} {w : World}
theorem yE {α:Type}(f:Nat->α)(i:Nat):upd f i (f i)=f:=by
 funext j
 by_cases h:j=i
 ·subst h;exact upd_same _ _ _
 ·exact upd_ne _ _ h
theorem nu {aI:Ph}(hd:aI.deaf=ph.deaf)(hg:aI.gp= .cnt↔ph.gp= .cnt):EvA c i ph aI #[]:=.book (by simp) (by rw[hd];rfl) (by simp) hg
theorem WJ.ek (c:Cy)(i:Nat)(ph:Ph):dO c.P false (WJ c i ph):=⟨fun {fr fr' cs cs' F} hs h=>by
 by_cases hg:ph.gp= .gone
 ·obtain ⟨F0,r,hle,hW⟩:=h
  obtain ⟨q,_,hq⟩:=hW.left hg
  exact Wk.gone (q:=q+1) hg (.inr ⟨rfl,G fr' cs',#[],by simp,hs,by rw[deafBehind_nil];exact hq⟩)
 ·refine Wk.act rfl rfl hg fun w s k φ p0 h1 h2 h3 a b=>.inr ⟨G fr' cs',w,#[],s,ph,hs w,h2,.refl _ _,?_,nu rfl Iff.rfl,.inr ⟨Int.le_refl _,Int.le_refl _⟩,h⟩
  rw[<-a,yE];exact b⟩
variable {ops : Array Oper} {j n : Nat} {Q : Act → af → Ph → Prop} {a : Act} {F : af} {o : Oper} {f fi : FuncId} {cr : Array Operand} {c7 : Array TypeId}
theorem fD (g:ops[j]?=some o)(l:ph.gp≠ .gone)
  (h:∀(w:World) (s:Sh) (k:Nat) (φ:Nat->Ph) (p0:P0),Has F w->cq c w s->i<c.n->φ i=ph->Inv c.n c.bs k φ p0 s->
   (ph.mp.iH=true/\s.ms=0/\∀(b:Frame) (d:List Item) (cs:List Frame),stepG c.P false (G (b.at a (.inRegion ops (j::List.range' (j+1) n)::d)) cs) w= .go {G (b.at a (.inRegion ops (j::List.range' (j+1) n)::d)) cs with status:=.blocked} w #[])\/
   (∃(v:Value) (w':World) (es:Array Event) (s':Sh) (aI:Ph),(∀(b:Frame) (d:List Item) (cs:List Frame),BF fi b->
    stepG c.P false (G (b.at a (.inRegion ops (j::List.range' (j+1) n)::d)) cs) w= .go (G (b.at (a.put o.dst v) (.inRegion ops (List.range' (j+1) n)::d)) cs) w' es)/\cq c w' s'/\ir c w w'/\Inv c.n c.bs k (upd φ i aI) p0 s'/\EvA c i ph aI es/\
    ((∃call,o.op= .call call/\∀x,call.callee= .value x->∃f,a.eval x= .func (.func f) #[] #[]/\(c.P.funcs[f]?).any (·.body.isSome)=false)\/(s'.ms<=s.ms/\s'.ws<=s.ws))/\ai (WJ c i) fi ops (j+1) n Q (a.put o.dst v) F aI)):ai (WJ c i) fi ops j (n+1) Q a F ph:=fun b d cs hb m=>by
 rw[List.range'_succ,eG hb.round]
 refine Wk.act rfl rfl l fun w s k φ p0 e1 e2 p q r=>?_
 rcases h w s k φ p0 e1 e2 p q r with ⟨x,y,z⟩|⟨v,w',es,s',aI,z,t,u,A,B,e,C⟩
 ·exact .inl ⟨x,y,z b d cs⟩
 ·refine .inr ⟨_,w',es,s',aI,z b d cs hb,t,u,A,B,?_,?_⟩
  ·rcases e with ⟨call,D,E⟩|e
   ·refine .inl ?_
    simp only[mayWake,G,Frame.at,g,Option.map_some,D]
    obtain ⟨callee,args,argTypes⟩:=call
    cases callee with
    |value x=>
     obtain ⟨f,H,hb⟩:=E x rfl
     have:Frame.eval (b.at a (.inRegion ops (j::List.range' (j+1) n)::d)) x= .func (.func f) #[] #[]:=by rw[Frame.eval_at];exact H
     simp only[Frame.at] at this
     simp only[this,hb,Bool.not_false]
    |_=>rfl
   ·exact .inr e
  ·rw[<-eG hb.round];exact C b d cs hb m
theorem heap_set (w:World){a:Addr}{v:Value}{cs:Array Value}{t:TypeId}{fr:Nat×Nat}(h:w.heap[a.block]?=some (.cells cs t fr))(hs:a.spot=none):(w.setCell a v).heap[a.block]?=some (.cells (cs.setIfInBounds a.off v) t fr):=by
 simp[World.setCell,Array.getElem?_modify,h,hs]
theorem ju (w:World){a:Addr}{v:Value}{b:Nat}(h:b≠a.block):(w.setCell a v).heap[b]?=w.heap[b]?:=by
 simp only[World.setCell]
 rw[Array.getElem?_modify,if_neg (fun e=>h e.symm)]
theorem cq.mu (h:cq c w s):w.cell? (muA c.Mu)=some (.int .i32 s.mu)/\w.frozen? (muA c.Mu)=false:=by
 have:=h.1;unfold MuAt muBlock at this;simp[World.cell?,World.frozen?,muA,this]
theorem cq.ms (h:cq c w s):w.cell? (msA c.Mu)=some (.int .u32 s.ms)/\w.frozen? (msA c.Mu)=false:=by
 have:=h.1;unfold MuAt muBlock at this;simp[World.cell?,World.frozen?,msA,this]
theorem cq.wg (h:cq c w s):w.cell? (stA c.Wg)=some (.int .u64 s.wg)/\w.frozen? (stA c.Wg)=false:=by
 have:=h.2.1;unfold WgAt wgBlock at this;simp[World.cell?,World.frozen?,stA,this]
theorem cq.ws (h:cq c w s):w.cell? (smA c.Wg)=some (.int .u32 s.ws)/\w.frozen? (smA c.Wg)=false:=by
 have:=h.2.1;unfold WgAt wgBlock at this;simp[World.cell?,World.frozen?,smA,this]
theorem ir.set {a:Addr}(v:Value)(h:c.shared a.block):ir c w (w.setCell a v):=
 ⟨rfl,rfl,by simp[World.setCell],.refl _,fun b hb=>ju w fun e=>hb (e▸h)⟩
theorem cq.Dc (b:c.Mu≠c.Wg/\c.Mu≠c.Is/\c.Wg≠c.Is)(h:cq c w s)(v:Int):cq c (w.setCell (muA c.Mu) (.int .i32 v)) {s with mu:=v}:=by
 obtain ⟨h1,h2,h3⟩:=h
 refine ⟨?_,?_,?_⟩
 ·unfold MuAt muBlock at*;exact (heap_set w (a:=muA c.Mu) h1 rfl).trans rfl
 ·unfold WgAt at*;rw[ju w (Ne.symm b.1)];exact h2
 ·rw[ju w (Ne.symm b.2.1)];exact h3
theorem cq.Dd (b:c.Mu≠c.Wg/\c.Mu≠c.Is/\c.Wg≠c.Is)(h:cq c w s)(v:Int):cq c (w.setCell (msA c.Mu) (.int .u32 v)) {s with ms:=v}:=by
 obtain ⟨h1,h2,h3⟩:=h
 refine ⟨?_,?_,?_⟩
 ·unfold MuAt muBlock at*;exact (heap_set w (a:=msA c.Mu) h1 rfl).trans rfl
 ·unfold WgAt at*;rw[ju w (Ne.symm b.1)];exact h2
 ·rw[ju w (Ne.symm b.2.1)];exact h3
theorem cq.uq (b:c.Mu≠c.Wg/\c.Mu≠c.Is/\c.Wg≠c.Is)(h:cq c w s)(v:Int):cq c (w.setCell (stA c.Wg) (.int .u64 v)) {s with wg:=v}:=by
 obtain ⟨h1,h2,h3⟩:=h
 refine ⟨?_,?_,?_⟩
 ·unfold MuAt at*;rw[ju w b.1];exact h1
 ·unfold WgAt wgBlock at*;exact (heap_set w (a:=stA c.Wg) h2 rfl).trans rfl
 ·rw[ju w (Ne.symm b.2.2)];exact h3
theorem cq.De (b:c.Mu≠c.Wg/\c.Mu≠c.Is/\c.Wg≠c.Is)(h:cq c w s)(v:Int):cq c (w.setCell (smA c.Wg) (.int .u32 v)) {s with ws:=v}:=by
 obtain ⟨h1,h2,h3⟩:=h
 refine ⟨?_,?_,?_⟩
 ·unfold MuAt at*;rw[ju w b.1];exact h1
 ·unfold WgAt wgBlock at*;exact (heap_set w (a:=smA c.Wg) h2 rfl).trans rfl
 ·rw[ju w (Ne.symm b.2.2)];exact h3
theorem cq.J1 (b:c.Mu≠c.Wg/\c.Mu≠c.Is/\c.Wg≠c.Is)(h:cq c w s)(m:Nat)(v:Bool):cq c (w.setCell ⟨c.Is,m,none⟩ (.bool v)) {s with is:=s.is.set m v}:=by
 obtain ⟨h1,h2,h3⟩:=h
 refine ⟨?_,?_,?_⟩
 ·unfold MuAt at*;rw[ju w b.2.1];exact h1
 ·unfold WgAt at*;rw[ju w b.2.2];exact h2
 ·rw[heap_set w (a:=⟨c.Is,m,none⟩) h3 rfl]
  simp[List.map_set]
theorem J2:EvA c i ph {ph with deaf:=ph.deaf+1} #[cC .disable]:=
 .book (fun e he=>by simp at he;exact .inl he) rfl (fun j e he=>.inl (by have:=Array.mem_of_getElem? he;simp at this;subst this;rfl)) Iff.rfl
theorem J3 {d:Nat}(hd:ph.deaf=d+1):EvA c i ph {ph with deaf:=d} #[cC .enable]:=
 .book (fun e he=>by simp at he;exact .inr (.inl he)) (by rw[hd];rfl) (fun j e he=>.inl (by have:=Array.mem_of_getElem? he;simp at this;subst this;rfl)) Iff.rfl
theorem yF {aI:Ph}{a:Addr}(x:Bool)(hd:aI.deaf=ph.deaf)(hg:aI.gp= .cnt↔ph.gp= .cnt)(h0:0<ph.deaf)(b:a.block=c.Wg\/(a.block=c.Mu/\ph.gp= .cnt)):EvA c i ph aI #[⟨.cell a,x,true⟩]:=by
 refine .book (fun e he=>?_) (by rw[hd];simp[deafBehind]) (fun j e he=>?_) hg
 ·simp at he;exact .inr (.inr ⟨a,x,he,b⟩)
 ·match j,he with
  |0,_=>exact .inr (by simpa [deafBehind] using h0)
  |j+1,he=>simp at he
theorem yG {aI:Ph}{a:Addr}(hd:aI.deaf=ph.deaf)(hg:aI.gp= .cnt↔ph.gp= .cnt)(h0:0<ph.deaf)(b:a.block=c.Wg\/(a.block=c.Mu/\ph.gp= .cnt)):EvA c i ph aI #[⟨.cell a,false,true⟩,⟨.cell a,true,true⟩]:=by
 refine .book (fun e he=>?_) (by rw[hd];simp[deafBehind]) (fun j e he=>?_) hg
 ·simp at he;rcases he with he|he<;>exact .inr (.inr ⟨a,_,he,b⟩)
 ·match j,he with
  |0,_=>exact .inr (by simpa [deafBehind] using h0)
  |1,_=>exact .inr (by simpa [deafBehind] using h0)
  |j+2,he=>simp at he
theorem yH {aI:Ph}{a:Addr}(hd:aI.deaf=ph.deaf)(hg:aI.gp= .cnt↔ph.gp= .cnt)(b:a.block=c.Wg\/(a.block=c.Mu/\ph.gp= .cnt)):EvA c i ph aI (semEvents a):=by
 refine .book (fun e he=>?_) (by rw[hd];simp[deafBehind,semEvents]) (fun j e he=>?_) hg
 ·simp[semEvents] at he
  rcases he with rfl|rfl|rfl|rfl
  ·exact .inl rfl
  ·exact .inr (.inr ⟨a,_,rfl,b⟩)
  ·exact .inr (.inr ⟨a,_,rfl,b⟩)
  ·exact .inr (.inl rfl)
 ·match j,he with
  |0,he=>simp[semEvents] at he;subst he;exact .inl rfl
  |1,_=>exact .inr (by simp[deafBehind,semEvents])
  |2,_=>exact .inr (by simp[deafBehind,semEvents])
  |3,he=>simp[semEvents] at he;subst he;exact .inl rfl
  |j+4,he=>simp[semEvents] at he
theorem Inv.jV (h:Inv c.n c.bs k φ p0 s)(hi:i<c.n)(he:φ i=ph){aI:Ph}{s':Sh}(hg:ph.gp≠ .new)(d:aI.gp≠ .new)(hm:∃C S W L m,ck c.n (upd φ i aI) s'.mu s'.ms C S W L m)(hw:dr c.n (upd φ i aI) p0 s'.wg s'.ws)
  (b:s'.is=s.is.set i aI.stored) (hd:aI.gp≠ .cnt->aI.stored=c.bs i/\aI.mp= .fin):Inv c.n c.bs k (upd φ i aI) p0 s':=by
 refine ⟨hm,hw,by rw[b,List.length_set];exact h.i.len,h.i.kn,fun j a=>?_,fun j a=>?_,fun j a hn=>?_,fun j a h1 h2=>?_⟩<;>by_cases e:j=i
 ·subst e;rw[upd_same,b,List.getElem?_set_self (by rw[h.i.len];exact a)]
 ·rw[upd_ne _ _ e,b,List.getElem?_set_ne (Ne.symm e)];exact h.i.all j a
 ·subst e;rw[upd_same,h.i.born j a,he];exact ⟨fun _=>d,fun _=>hg⟩
 ·rw[upd_ne _ _ e];exact h.i.born j a
 ·subst e;rw[upd_same] at hn;exact absurd hn d
 ·rw[upd_ne _ _ e] at hn ⊢;exact h.i.new j a hn
 ·subst e;rw[upd_same] at h1 h2 ⊢;exact hd h1
 ·rw[upd_ne _ _ e] at h1 h2 ⊢;exact h.i.done j a h1 h2
theorem yI {l:List Bool}{i:Nat}{x:Bool}(h:l[i]?=some x):l.set i x=l:=by
 refine List.ext_getElem? fun j=>?_
 by_cases e:i=j
 ·subst e
  have a:i<l.length:=by
   rcases Nat.lt_or_ge i l.length with y|y
   ·exact y
   ·rw[List.getElem?_eq_none y] at h;cases h
  rw[List.getElem?_set_self a,h]
 ·rw[List.getElem?_set_ne e]
theorem Inv.mutex (h:Inv c.n c.bs k φ p0 s)(hi:i<c.n)(he:φ i=ph)(hg:ph.gp= .cnt){mp:Mp}{mu ms:Int}(hm:∃C S W L m,ck c.n (upd φ i {ph with mp:=mp}) mu ms C S W L m):Inv c.n c.bs k (upd φ i {ph with mp:=mp}) p0 {s with mu:=mu,ms:=ms}:=
 h.jV hi he (by rw[hg];simp) (by rw[hg];simp) hm (tZ h.w hi _ (.inl (by rw[he]))) (by
  have:=h.i.all i hi
  rw[he] at this
  exact (yI this).symm) (fun hn=>absurd hg hn)
theorem Inv.Df (h:Inv c.n c.bs k φ p0 s)(hi:i<c.n)(he:φ i=ph)(hg:ph.gp≠ .new)(d:Nat):Inv c.n c.bs k (upd φ i {ph with deaf:=d}) p0 s:=by
 subst he;exact h.deaf hi hg d
end
end Go.Sep
end

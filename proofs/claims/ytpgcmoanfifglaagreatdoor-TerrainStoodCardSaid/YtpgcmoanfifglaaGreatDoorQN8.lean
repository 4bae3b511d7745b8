/- A part of the proof of a row and its tied card: QN8. -/
import Derived.Test.YtpgcmoanfifglaaGreatDoorQN7
import Derived.Conc.Own2
import Derived.Conc.Own4
import Derived.Conc.MarkLaws
import Derived.Conc.ClockLaws
import Derived.Conc.SmallLaws
import Derived.Conc.DeferLaws
set_option linter.all false
section
namespace Go.Sep
open Go Go.Conc
structure dR (P:Program)(main:Bool)(J:Goroutine->aa->Prop):Prop where
 move:∀{fr fr':Frame} {cs cs':List Frame} {F:aa},(∀w,stepG P main (G fr cs) w= .go (G fr' cs') w #[])->J (G fr' cs') F->J (G fr cs) F
theorem Closed.eo {P:Program}{main:Bool}{J:Goroutine->aa->Prop}(h:Closed P main J):dR P main J:=⟨fun hs a=>h.move hs a⟩
theorem eB {b:Frame}(h:b.roundOf=none)(a:Act)(todo:List Item):on b a todo=b.at a todo:=by
 cases b;simp only at h;subst h;rfl
structure BF (fi:FuncId)(b:Frame):Prop where
 kind:b.kind≠ .early
 round:b.roundOf=none
 fn:b.fn=fi
section
variable {P : Program} {main : Bool} {S : Type} {JF : S → Goroutine → aa → Prop} {fi : FuncId}
def cK (JF:S->Goroutine->aa->Prop)(fi:FuncId)(c:Code)(Q:Ex->Act->aa->S->Prop)(a:Act)(F:aa)(ph:S):Prop:=
 ∀(b:Frame) (k:List Item) (cs:List Frame),BF fi b->(∀e d F' aL,Q e d F' aL->zl (JF aL) b k cs e d F')->JF ph (G (on b a (.code c::k)) cs) F
def ai (JF:S->Goroutine->aa->Prop)(fi:FuncId)(ops:Array Oper)(i n:Nat)(Q:Act->aa->S->Prop)(a:Act)(F:aa)(ph:S):Prop:=
 ∀(b:Frame) (k:List Item) (cs:List Frame),BF fi b->(∀c F' aL,Q c F' aL->JF aL (G (on b c k) cs) F')->JF ph (G (on b a (.inRegion ops (List.range' i n)::k)) cs) F
def cC (P:Program)(JF:S->Goroutine->aa->Prop)(f:FuncId)(args:Array Value)(F:aa)(ph:S)(R:Value->aa->S->Prop):Prop:=
 ∀(c:Frame) (cs:List Frame),(∀v F' aL,R v F' aL->JF aL (G (c.finish v) cs) F')->JF ph (G (Frame.enter P f args .normal) (c::cs)) F
variable {Q : Ex → Act → aa → S → Prop} {a : Act} {F : aa} {ph : S}
theorem cK.mono {c:Code}{d:Ex->Act->aa->S->Prop}(h:cK JF fi c Q a F ph)(f:∀e a F ph,Q e a F ph->d e a F ph):cK JF fi c d a F ph:=
 fun b k cs hb g=>h b k cs hb fun e i F' aL x=>g e i F' aL (f _ _ _ _ x)
theorem cK.of (hJ:Closed P main (JF ph)){c:Code}(h:Wp (JF ph) c (fun e a F=>Q e a F ph) a F):cK JF fi c Q a F ph:=
 fun b k cs hb d=>h b k cs ⟨hb.kind,.inl hb.round⟩ fun e f F' g=>d e f F' ph g
theorem cD (c:dR P main (JF ph))(h:Q .normal a F ph):cK JF fi .skip Q a F ph:=fun b k cs _ d=>c.move (fun _=>y3) (d _ _ _ _ h)
theorem oG {id:Nat}(h:Q (.exit id) a F ph):cK JF fi (.exit id) Q a F ph:=fun b k cs _ c=>c _ _ _ _ h k rfl
theorem fo (h:Q .ret a F ph):cK JF fi .ret Q a F ph:=fun b k cs _ c=>c _ _ _ _ h k
def CX (JF:S->Goroutine->aa->Prop)(fi:FuncId)(y:Code)(Q:Ex->Act->aa->S->Prop):Ex->Act->aa->S->Prop
 | .normal,a,F,ph=>cK JF fi y Q a F ph
 |e,a,F,ph=>Q e a F ph
theorem ax (f:dR P main (JF ph)){x y:Code}(h:cK JF fi x (CX JF fi y Q) a F ph):cK JF fi (.seq x y) Q a F ph:=fun b k cs hb c=>by
 refine f.move (fun _=>y5) (h b (.code y::k) cs hb fun e j F' aL d=>?_)
 cases e with
 |normal=>exact d b k cs hb c
 |exit id=>exact fun g i=>c _ _ _ _ d g (by rw[i];rfl)
 |ret=>exact c _ _ _ _ d
theorem CZ (d:dR P main (JF ph)){c:Operand}{x y:Code}(t:Bool)(e:a.eval c= .bool t)(h:cK JF fi (if t then x else y) Q a F ph):cK JF fi (.cond c x y) Q a F ph:=fun b k cs hb f=>
 d.move (fun _=>y6 e) (h b k cs hb f)
theorem cV (b:dR P main (JF ph)){c:Operand}{x y:Code}(d:ev a c= .bool true)(h:cK JF fi x Q a F ph):cK JF fi (.cond c x y) Q a F ph:=CZ b true d h
theorem cB (b:dR P main (JF ph)){c:Operand}{x y:Code}(d:ev a c= .bool false)(h:cK JF fi y Q a F ph):cK JF fi (.cond c x y) Q a F ph:=CZ b false d h
def x7 (id:Nat)(Q:Ex->Act->aa->S->Prop):Ex->Act->aa->S->Prop
 | .normal,a,F,ph=>Q .normal a F ph
 | .exit i,a,F,ph=>if i=id then Q .normal a F ph else Q (.exit i) a F ph
 | .ret,a,F,ph=>Q .ret a F ph
theorem jI (g:∀ph,dR P main (JF ph)){id:Nat}{c:Code}(h:cK JF fi c (x7 id Q) a F ph):cK JF fi (.block id c) Q a F ph:=fun b k cs hb f=>by
 refine (g ph).move (fun _=>y7) (h b (.inBlock id::k) cs hb fun e m F' aL d=>?_)
 cases e with
 |normal=>exact (g aL).move (fun _=>y4) (f _ _ _ _ d)
 |exit i=>
  intro j l
  simp only[x7] at d
  by_cases hi:i=id
  ·rw[if_pos hi] at d
   subst hi
   have:exitTo i j=some k:=by rw[l];simp[exitTo]
   exact (g aL).move (fun _=>za this) (f _ _ _ _ d)
  ·rw[if_neg hi] at d
   refine f _ _ _ _ d j ?_
   rw[l]
   simp[exitTo,Ne.symm hi]
 |ret=>exact f _ _ _ _ d
def x8 (I:Nat->Act->aa->S->Prop)(n:Nat)(Q:Ex->Act->aa->S->Prop):Ex->Act->aa->S->Prop
 | .normal,a,F,ph=>∃m,m<n/\I m a F ph
 |e,a,F,ph=>Q e a F ph
theorem qR (f:∀ph,dR P main (JF ph)){c:Code}(I:Nat->Act->aa->S->Prop)(n:Nat)(h:I n a F ph)(hs:∀n a F ph,I n a F ph->cK JF fi c (x8 I n Q) a F ph):cK JF fi (.loop c) Q a F ph:=by
 intro b k cs hb g;have key:∀n a F ph,I n a F ph->JF ph (G (on b a (.code c:: .inLoop c::k)) cs) F:=by
  intro n
  induction n using Nat.strongRecOn with
  |_ n ih=>
   intro a F ph j;refine hs n a F ph j b (.inLoop c::k) cs hb fun e l F' aL d=>?_;cases e with
   |normal=>
    obtain ⟨m,hm,o⟩:=d;exact (f aL).move (fun _=>y9) (ih m hm l F' aL o)
   |exit i=>exact fun p q=>g _ _ _ _ d p (by rw[q];rfl)
   |ret=>exact g _ _ _ _ d
 exact (f ph).move (fun _=>y8) (key n a F ph h)
theorem cW (c:∀ph,dR P main (JF ph)){id:Nat}{ops:Array Oper}(h:ai JF fi ops 0 ops.size (Q .normal) a F ph):cK JF fi (.region id ops false) Q a F ph:=fun b k cs hb d=>by
 refine (c ph).move (fun _=>zb) ?_
 rw[List.range_eq_range']
 exact h b k cs hb fun e F' aL f=>d .normal e F' aL f
variable {ops : Array Oper} {i n : Nat} {Q : Act → aa → S → Prop}
theorem ai.nil (c:∀ph,dR P main (JF ph))(h:Q a F ph):ai JF fi ops i 0 Q a F ph:=fun b k cs hb d=>
 (c ph).move (fun _=>ze) (d _ _ _ h)
theorem C0 (hJ:Closed P main (JF ph)):∀(m i n:Nat) (a:Act) (F:aa),fJ P (JF ph) ops (fun c F'=>ai JF fi ops (i+m) n Q c F' ph) (List.range' i m) a F->ai JF fi ops i (m+n) Q a F ph
 |0,i,n,a,F,h=>by rw[Nat.zero_add];exact h
 |m+1,i,n,a,F,h=>fun b k cs hb d=>by
  have e:m+1+n=(m+n)+1:=by omega
  rw[e,List.range'_succ]
  rw[List.range'_succ] at h
  refine zh hJ ⟨hb.kind,.inl hb.round⟩ h fun c F' h'=>?_
  have e2:i+(m+1)=(i+1)+m:=by omega
  rw[e2] at h'
  exact C0 hJ m (i+1) n c F' h' b k cs hb d
theorem x9 {J:Goroutine->aa->Prop}{K:Act->aa->Prop}:∀(l:List Oper) (k:Nat) (go:Bool) (a:Act) (F:aa),(∀j o,l[j]?=some o->ops[k+j]?=some o)->e9 P J ops K l go a F->fJ P J ops K (List.range' k l.length) a F
 |[],k,_,a,F,_,h=>by rw[zK] at h;exact h
 |o::rest,k,go,a,F,b,h=>by
  have d:ops[k]?=some o:=b 0 o rfl
  have c:∀j x,rest[j]?=some x->ops[k+1+j]?=some x:=fun j x e=>by rw[Nat.add_assoc,Nat.add_comm 1 j];exact b (j+1) x e
  simp only[List.length_cons,List.range'_succ]
  show dH P J ops k (fJ P J ops K (List.range' (k+1) rest.length)) a F
  unfold dH
  simp only[d]
  have h:e9 P J ops K (o::rest) true a F:=by unfold e9 at h ⊢;exact h
  rw[zL] at h
  split at h
  ·rename_i hg
   rw[if_pos (cg hg)]
   exact gL (oT (fun v F' f=>x9 rest (k+1) _ _ F' c f) (fun _ _ x=>x)) _ _ (kH h)
  ·rename_i hg
   rw[if_neg (by rw[cg hg];simp)]
   exact x9 rest (k+1) _ _ F c h
  ·exact h.elim
theorem ai.bw (hJ:Closed P main (JF ph))(m:Nat){n:Nat}(l:List Oper)(c:(ops.toList.drop i).take m=l)(hm:l.length=m)(h:e9 P (JF ph) ops (fun d F'=>ai JF fi ops (i+m) n Q d F' ph) l true a F):ai JF fi ops i (m+n) Q a F ph:=by
 subst hm;refine C0 hJ l.length i n a F (x9 l i true a F (fun j o b=>?_) h);rw[<-c] at b;have e:j<l.length:=by
  rcases Nat.lt_or_ge j l.length with x|x
  ·exact x
  ·rw[c,List.getElem?_eq_none x] at b;cases b
 rw[List.getElem?_take,if_pos e,List.getElem?_drop] at b;simpa using b
theorem ai.skip (d:dR P main (JF ph)){o:Oper}(c:ops[i]?=some o)(hg:cz ops o a=some false)(h:ai JF fi ops (i+1) n Q (bg a o.dst undef) F ph):ai JF fi ops i (n+1) Q a F ph:=fun b k cs hb e=>by
 rw[List.range'_succ]
 refine d.move (fun _=>uB (by simp[c,cg hg])) ?_
 simp only[c,Option.bind_some]
 exact h b k cs hb e
theorem ai.plain (c:dR P main (JF ph)){o:Oper}(v:Value)(d:ops[i]?=some o)(hg:cz ops o a=some true)(e:∀w,(execOp a.eval o).run P w= .ok (.value v) w)(he:∀w,(execOp a.eval o).events P w #[]=#[])
  (h:ai JF fi ops (i+1) n Q (bg a o.dst v) F ph):ai JF fi ops i (n+1) Q a F ph:=fun b k cs hb f=>by
 rw[List.range'_succ,eB hb.round]
 refine c.move (fr':=b.at (a.put o.dst v) (.inRegion ops (List.range' (i+1) n)::k)) (fun w=>?_) (by rw[<-eB hb.round];exact h b k cs hb f)
 rw[stepG_value d (cg hg) hb.kind (e w)]
 unfold listed
 rw[he w,seen_none]
theorem ai.call (d:dR P main (JF ph)){o:Oper}{f:FuncId}{args:Array Value}{R:Value->aa->S->Prop}(c:ops[i]?=some o)(hg:cz ops o a=some true)(e:∀w,(execOp a.eval o).run P w= .ok (.enter f args) w)(he:∀w,(execOp a.eval o).events P w #[]=#[])
  (g:cC P JF f args F ph R) (h:∀v F' aL,R v F' aL->ai JF fi ops (i+1) n Q (bg a o.dst v) F' aL):ai JF fi ops i (n+1) Q a F ph:=fun b k cs hb j=>by
 rw[List.range'_succ,eB hb.round]
 refine d.move (fr':=Frame.enter P f args .normal) (cs':=b.at a (.inRegion ops (i::List.range' (i+1) n)::k)::cs) (fun w=>?_) (g _ cs fun v F' aL l=>?_)
 ·rw[stepG_enter c (cg hg) hb.kind (e w)]
  unfold listed
  rw[he w,seen_none]
 ·rw[Frame.finish_at,c]
  rw[show (Option.some o).bind (·.dst)=o.dst from rfl,<-eB hb.round]
  exact h v F' aL l b k cs hb j
def jJ (P:Program)(fn:Func)(R:Value->aa->S->Prop):Ex->Act->aa->S->Prop
 | .exit _,_,_,_=>False
 |_,a,F,ph=>a.defers=[]/\∃v,(∀w,(results fn a.tmps).run P w= .ok v w/\(results fn a.tmps).events P w #[]=#[])/\R v F ph
theorem cC.of (k:∀ph,dR P main (JF ph)){f:FuncId}{fn:Func}{c:Code}{args:Array Value}{R:Value->aa->S->Prop}(l:P.funcs[f]?=some fn)(hb:fn.body=some c)
  (h:cK JF f c (jJ P fn R) {tmps:=args++Array.replicate (fn.ntmps - args.size) undef,defers:=[]} F ph):cC P JF f args F ph R:=by
 intro j cs n
 let b:Frame:={(default:Frame) with fn:=f,kind:=.normal}
 have o:b.roundOf=none:=rfl
 have p:Frame.enter P f args .normal=on b {tmps:=args++Array.replicate (fn.ntmps - args.size) undef,defers:=[]} [.code c]:=by
  simp[Frame.enter,on,l,hb,b]
  rfl
 rw[p]
 have leave:∀(d:Act) (todo:List Item) F' aL,d.defers=[]->(∃v,(∀w,(results fn d.tmps).run P w= .ok v w/\(results fn d.tmps).events P w #[]=#[])/\R v F' aL)->JF aL (G {on b d todo with mode:=.returning} (j::cs)) F':=by
  intro d todo F' aL hd ⟨v,m,q⟩
  refine (k aL).move (fr':=j.finish v) (cs':=cs) (fun w=>?_) (n v F' aL q)
  have:=stepG_leave (P:=P) (main:=main) (b:=b) (a:=d) (todo:=todo) (cs:=cs) (w:=w) (c:=j) (v:=v) rfl hd l (m w).1 (m w).2
  rw[eB o];exact this
 refine h b [] (j::cs) ⟨by simp[b],rfl,rfl⟩ fun e d F' aL g=>?_
 cases e with
 |normal=>exact (k aL).move (fun _=>lI rfl) (leave d _ F' aL g.1 g.2)
 |exit i=>exact g.elim
 |ret=>exact fun r=>(k aL).move (fun _=>stepG_ret' rfl) (leave d _ F' aL g.1 g.2)
end
end Go.Sep
namespace Go.Sep
open Go Go.Conc
section
variable {P : Program} {main : Bool} {S : Type} {JF : S → Goroutine → aa → Prop} {F : aa} {ph : S}
theorem cC.go (b:∀ph,dR P main (JF ph)){f:FuncId}{fn:Func}{c:Code}{n:Nat}{args:Array Value}{R:Value->aa->S->Prop}(d:P.funcs[f]?=some fn)(hb:fn.body=some c)(a:fn.ntmps=n)(e:args.size<=n)
  (h:∀A:Act,sz A=n->A.defers=[]->(∀i,slot A i=args.getD i undef)->cK JF f c (jJ P fn R) A F ph):cC P JF f args F ph R:=by
 refine cC.of b d hb (h _ (by simp[sz,a];omega) rfl fun i=>?_)
 simp only[slot,a,Array.getD_eq_getD_getElem?]
 rcases Nat.lt_or_ge i args.size with hi|hi
 ·rw[Array.getElem?_append_left hi]
 ·rw[Array.getElem?_append_right hi,Array.getElem?_replicate,Array.getElem?_eq_none hi]
  split<;>rfl
theorem C1 {fn:Func}{R:Value->aa->S->Prop}{a:Act}(b:fn.results=#[])(hd:a.defers=[])(h:R (.tuple #[]) F ph):jJ P fn R .normal a F ph/\jJ P fn R .ret a F ph:=
 have x:a.defers=[]/\∃v,(∀w,(results fn a.tmps).run P w= .ok v w/\(results fn a.tmps).events P w #[]=#[])/\R v F ph:=⟨hd,.tuple #[],fun w=>⟨results_none b _ P w,events_results_none b _ _⟩,h⟩
 ⟨x,x⟩
theorem lA {fn:Func}{R:Value->aa->S->Prop}{a:Act}(b:fn.results=#[])(hd:a.defers=[])(h:R (.tuple #[]) F ph):jJ P fn R .normal a F ph:=(C1 b hd h).1
theorem oH {fn:Func}{R:Value->aa->S->Prop}{a:Act}(b:fn.results=#[])(hd:a.defers=[])(h:R (.tuple #[]) F ph):jJ P fn R .ret a F ph:=(C1 b hd h).2
theorem lB {fn:Func}{R:Value->aa->S->Prop}{a:Act}{t:Tmp}{v:Value}(b:fn.results=#[.tmp t])(hd:a.defers=[])(c:slot a t=v)(h:R v F ph):jJ P fn R .normal a F ph/\jJ P fn R .ret a F ph:=
 have x:a.defers=[]/\∃v,(∀w,(results fn a.tmps).run P w= .ok v w/\(results fn a.tmps).events P w #[]=#[])/\R v F ph:=⟨hd,v,fun w=>⟨by rw[<-c];exact results_tmp b _ P w,events_results_tmp b _ _⟩,h⟩
 ⟨x,x⟩
end
end Go.Sep
namespace Go.Sep
open Go Go.Conc
attribute [go_sem] CX x7 x8 List.getElem_toArray List.getElem_cons_zero List.getElem_cons_succ
section
variable {P : Program} {main : Bool} {S : Type} {JF : S → Goroutine → aa → Prop} {F : aa} {ph : S} {fi : FuncId} {ops : Array Oper} {i n : Nat} {a : Act} {Q : Act → aa → S → Prop}
theorem C2 {f:FuncId}(h:aJ P f=true)(args:Array Value)(w:World)(es:Array Event):(callFunc f args).run P w= .ok (.enter f args) w/\(callFunc f args).events P w es=es:=by
 unfold aJ at h;split at h
 ·rename_i fn a;simp only[Bool.not_eq_true',Bool.or_eq_false_iff] at h;obtain ⟨b,e⟩:=h;have d:fn.name≠ "runtime.NumGoroutine":=ne_of_beq_false e;cases hb:fn.body with
  |none=>rw[hb] at b;cases b
  |some c=>exact ⟨by simp[callFunc,a,d,hb],by simp[callFunc,a,d,hb]⟩
 ·cases h
theorem ai.fX (c:dR P main (JF ph)){o:Oper}{f:FuncId}{cw:Array Operand}{de:Array TypeId}{args:Array Value}{R:Value->aa->S->Prop}(d:ops[i]?=some o)(hg:cz ops o a=some true)(e:o.op= .call {callee:=.value (.func f),args:=cw,argTypes:=de})(b:aJ P f=true)
  (g:cw.map (ev a)=args) (j:cC P JF f args F ph R) (h:∀v F' aL,R v F' aL->ai JF fi ops (i+1) n Q (bg a o.dst v) F' aL):ai JF fi ops i (n+1) Q a F ph:=by
 have e1:execOp a.eval o=callFunc f args:=by rw[execOp_call_func (a:=a) e,<-g];rfl
 exact ai.call c d hg (fun w=>by rw[e1];exact (C2 b args w #[]).1) (fun w=>by rw[e1];exact (C2 b args w #[]).2) j h
end
structure Entry (P:Program)(f:FuncId)(e:Array Value->Sem Value):Prop where
 ex:∃fn,P.funcs[f]?=some fn/\(fn.name== "runtime.NumGoroutine")=false/\fn.body.isNone=true/\Extern.findNext fn=none/\Extern.find fn=some e
theorem Entry.C3 {P:Program}{f:FuncId}{e:Array Value->Sem Value}(h:Entry P f e):(P.funcs[f]?).any (·.body.isSome)=false:=by
 obtain ⟨fn,a,_,hb,_⟩:=h.ex;rw[a];simpa using hb
end Go.Sep
end
section
namespace Go.Proofs.YtpgcmoanfifglaaGreatDoor
open Go Go.Sep Go.Proofs Go.Conc
open Go.ConcN (upd)
open Go.ConcM (muA msA)
open Go.ConcR (stA smA)
set_option maxRecDepth 100000
set_option maxHeartbeats 4000000
theorem qS:Entry Tryz.prog 152 (fun _=>do mark .disable;pure Extern.Race.none_):=⟨_,Tryz.func152,by kernel_rfl,by kernel_rfl,by kernel_rfl,by kernel_rfl⟩
theorem lC:Entry Tryz.prog 153 (fun _=>do mark .enable;pure Extern.Race.none_):=⟨_,Tryz.func153,by kernel_rfl,by kernel_rfl,by kernel_rfl,by kernel_rfl⟩
theorem tQ:Entry Tryz.prog 167 (Extern.Race.marked .acquire):=⟨_,Tryz.func167,by kernel_rfl,by kernel_rfl,by kernel_rfl,by kernel_rfl⟩
theorem C4:Entry Tryz.prog 151 (Extern.Race.marked .releaseMerge):=⟨_,Tryz.func151,by kernel_rfl,by kernel_rfl,by kernel_rfl,by kernel_rfl⟩
theorem tR:Entry Tryz.prog 193 (Extern.Atomic.casT (.int .i32)):=⟨_,Tryz.func193,by kernel_rfl,by kernel_rfl,by kernel_rfl,by kernel_rfl⟩
theorem ya:Entry Tryz.prog 195 (Extern.Atomic.update (Op.intArith .add) .i32 true):=⟨_,Tryz.func195,by kernel_rfl,by kernel_rfl,by kernel_rfl,by kernel_rfl⟩
theorem JD:Entry Tryz.prog 209 Extern.Sync.semacquire:=⟨_,Tryz.func209,by kernel_rfl,by kernel_rfl,by kernel_rfl,by kernel_rfl⟩
theorem C5:Entry Tryz.prog 211 Extern.Sync.semrelease:=⟨_,Tryz.func211,by kernel_rfl,by kernel_rfl,by kernel_rfl,by kernel_rfl⟩
theorem C6:Entry Tryz.prog 208 Extern.OsHooks.nano:=⟨_,Tryz.func208,by kernel_rfl,by kernel_rfl,by kernel_rfl,by kernel_rfl⟩
theorem JE:Entry Tryz.prog 205 Extern.Sync.canSpin:=⟨_,Tryz.func205,by kernel_rfl,by kernel_rfl,by kernel_rfl,by kernel_rfl⟩
theorem JG:Entry Tryz.prog 206 (fun _=>pure (.tuple #[])):=⟨_,Tryz.func206,by kernel_rfl,by kernel_rfl,by kernel_rfl,by kernel_rfl⟩
theorem yb:Entry Tryz.prog 190 (Extern.Atomic.loadT (.int .u64)):=⟨_,Tryz.func190,by kernel_rfl,by kernel_rfl,by kernel_rfl,by kernel_rfl⟩
theorem C7:Entry Tryz.prog 189 (Extern.Atomic.update (Op.intArith .add) .u64 true):=⟨_,Tryz.func189,by kernel_rfl,by kernel_rfl,by kernel_rfl,by kernel_rfl⟩
theorem JH:Entry Tryz.prog 197 (Extern.Atomic.casT (.int .u64)):=⟨_,Tryz.func197,by kernel_rfl,by kernel_rfl,by kernel_rfl,by kernel_rfl⟩
theorem JI:Entry Tryz.prog 191 Extern.Atomic.storeT:=⟨_,Tryz.func191,by kernel_rfl,by kernel_rfl,by kernel_rfl,by kernel_rfl⟩
theorem C8:Entry Tryz.prog 154 (fun _=>pure (.bool false)):=⟨_,Tryz.func154,by kernel_rfl,by kernel_rfl,by kernel_rfl,by kernel_rfl⟩
theorem JJ:Entry Tryz.prog 159 (Extern.Race.marked .read):=⟨_,Tryz.func159,by kernel_rfl,by kernel_rfl,by kernel_rfl,by kernel_rfl⟩
theorem JK:Entry Tryz.prog 170 (Extern.Race.marked .write):=⟨_,Tryz.func170,by kernel_rfl,by kernel_rfl,by kernel_rfl,by kernel_rfl⟩
theorem JL:Entry Tryz.prog 171 Extern.Sync.semacquire:=⟨_,Tryz.func171,by kernel_rfl,by kernel_rfl,by kernel_rfl,by kernel_rfl⟩
theorem JM:Entry Tryz.prog 163 Extern.Sync.semrelease:=⟨_,Tryz.func163,by kernel_rfl,by kernel_rfl,by kernel_rfl,by kernel_rfl⟩
theorem yc:Tryz.prog.underlying 246=some (.pointer 182):=by kernel_rfl
theorem yd:Tryz.prog.underlying 207=some (.pointer 191):=by kernel_rfl
theorem C9:Tryz.prog.underlying 214=some (.pointer 180):=by kernel_rfl
theorem lD:Tryz.prog.underlying 209=some .unsafePointer:=by kernel_rfl
theorem oI:Tryz.prog.underlying 21=some (.int .i32):=by kernel_rfl
theorem JN:Tryz.prog.underlying 4=some .bool:=by kernel_rfl
theorem ye:(Tryz.prog.info? 182).map (fun i=>decide (i.size=0))=some false:=by kernel_rfl
theorem yf:(Tryz.prog.info? 191).map (fun i=>decide (i.size=0))=some false:=by kernel_rfl
theorem Da:(Tryz.prog.info? 180).map (fun i=>decide (i.size=0))=some false:=by kernel_rfl
theorem tS:(Tryz.prog.funcs[194]?).any (·.norace)=true:=by kernel_rfl
theorem JO:(Tryz.prog.funcs[166]?).any (·.norace)=true:=by kernel_rfl
theorem JP:(Tryz.prog.funcs[196]?).any (·.norace)=true:=by kernel_rfl
theorem Db:(Tryz.prog.funcs[208]?).any (·.norace)=true:=by kernel_rfl
noncomputable abbrev CY (Mu Wg Is n:Nat)(bs:Nat->Bool)(base T0:Nat):Cy:=⟨Tryz.prog,Mu,Wg,Is,184,191,4,n,bs,base,T0⟩
end Go.Proofs.YtpgcmoanfifglaaGreatDoor
end
section
namespace Go.Sep
open Go Go.Conc
open Go.ConcN (sumTo upd upd_ne upd_same)
open Go.ConcM (MuAt muA msA muBlock OsLater)
open Go.ConcR (WgAt wgBlock stA smA)
def At (ops:Array Oper)(j:Nat)(a:Act)(f:FuncId)(vals:List Value)(d:Option Tmp):Prop:=
 ∃o cw de,ops[j]?=some o/\cz ops o a=some true/\o.op= .call {callee:=.value (.func f),args:=cw,argTypes:=de}/\cw.toList.map (ev a)=vals/\o.dst=d
def mO (ops:Array Oper)(j:Nat)(a:Act)(op:Op)(d:Option Tmp):Prop:=∃o,ops[j]?=some o/\cz ops o a=some true/\o.op=op/\o.dst=d
theorem jK {a:Act}{cw:Array Operand}{p:Value}(h:cw.toList.map (ev a)=[p]):∃x,cw=#[x]/\ev a x=p:=by
 obtain ⟨l⟩:=cw
 match l,h with
 |[x],h=>exact ⟨x,rfl,by simpa using h⟩
theorem qT {a:Act}{cw:Array Operand}{p q:Value}(h:cw.toList.map (ev a)=[p,q]):∃x y,cw=#[x,y]/\ev a x=p/\ev a y=q:=by
 obtain ⟨l⟩:=cw
 match l,h with
 |[x,y],h=>exact ⟨x,y,rfl,by simpa using h⟩
theorem qU {a:Act}{cw:Array Operand}{p q r:Value}(h:cw.toList.map (ev a)=[p,q,r]):∃x y z,cw=#[x,y,z]/\ev a x=p/\ev a y=q/\ev a z=r:=by
 obtain ⟨l⟩:=cw
 match l,h with
 |[x,y,z],h=>exact ⟨x,y,z,rfl,by simpa using h⟩
abbrev WJ (c:Cy)(i:Nat):Ph->Goroutine->aa->Prop:=fun ph g F=>Wk c i ph g F
section
variable {c : Cy} {i : Nat} {ph : Ph} {φ : Nat → Ph} {p0 : P0} {k : Nat} {s : Sh} {w : World}
theorem yg {α:Type}(f:Nat->α)(i:Nat):upd f i (f i)=f:=by
 funext j;by_cases h:j=i
 ·subst h;exact upd_same _ _ _
 ·exact upd_ne _ _ h
theorem mP {aL:Ph}(hd:aL.deaf=ph.deaf)(hg:aL.gp= .cnt↔ph.gp= .cnt):EvA c i ph aL #[]:=.book (by simp) (by rw[hd];rfl) (by simp) hg
theorem WJ.eo (c:Cy)(i:Nat)(ph:Ph):dR c.P false (WJ c i ph):=⟨fun {fr fr' cs cs' F} hs h=>by
 by_cases hg:ph.gp= .gone
 ·obtain ⟨F0,r,hle,hW⟩:=h
  obtain ⟨q,_,a⟩:=hW.left hg
  exact Wk.gone (q:=q+1) hg (.inr ⟨rfl,G fr' cs',#[],by simp,hs,by rw[deafBehind_nil];exact a⟩)
 ·refine Wk.act rfl rfl hg fun w s k φ p0 f b g d e=>.inr ⟨G fr' cs',w,#[],s,ph,hs w,b,.refl _ _,?_,mP rfl Iff.rfl,.inr ⟨Int.le_refl _,Int.le_refl _⟩,h⟩
  rw[<-d,yg];exact e⟩
variable {ops : Array Oper} {j n : Nat} {Q : Act → aa → Ph → Prop} {a : Act} {F : aa} {o : Oper} {f fi : FuncId} {cw : Array Operand} {de : Array TypeId}
theorem fq (g:ops[j]?=some o)(l:ph.gp≠ .gone)
  (h:∀(w:World) (s:Sh) (k:Nat) (φ:Nat->Ph) (p0:P0),Has F w->cv c w s->i<c.n->φ i=ph->Inv c.n c.bs k φ p0 s->
   (ph.mp.iz=true/\s.ms=0/\∀(b:Frame) (d:List Item) (cs:List Frame),stepG c.P false (G (b.at a (.inRegion ops (j::List.range' (j+1) n)::d)) cs) w= .go {G (b.at a (.inRegion ops (j::List.range' (j+1) n)::d)) cs with status:=.blocked} w #[])\/
   (∃(v:Value) (w':World) (es:Array Event) (s':Sh) (aL:Ph),(∀(b:Frame) (d:List Item) (cs:List Frame),BF fi b->
    stepG c.P false (G (b.at a (.inRegion ops (j::List.range' (j+1) n)::d)) cs) w= .go (G (b.at (a.put o.dst v) (.inRegion ops (List.range' (j+1) n)::d)) cs) w' es)/\cv c w' s'/\g6 c w w'/\Inv c.n c.bs k (upd φ i aL) p0 s'/\EvA c i ph aL es/\
    ((∃call,o.op= .call call/\∀x,call.callee= .value x->∃f,a.eval x= .func (.func f) #[] #[]/\(c.P.funcs[f]?).any (·.body.isSome)=false)\/(s'.ms<=s.ms/\s'.ws<=s.ws))/\ai (WJ c i) fi ops (j+1) n Q (a.put o.dst v) F aL)):ai (WJ c i) fi ops j (n+1) Q a F ph:=fun b d cs hb m=>by
 rw[List.range'_succ,eB hb.round]
 refine Wk.act rfl rfl l fun w s k φ p0 e1 e2 p q r=>?_
 rcases h w s k φ p0 e1 e2 p q r with ⟨x,y,z⟩|⟨v,w',es,s',aL,z,t,u,A,B,e,C⟩
 ·exact .inl ⟨x,y,z b d cs⟩
 ·refine .inr ⟨_,w',es,s',aL,z b d cs hb,t,u,A,B,?_,?_⟩
  ·rcases e with ⟨call,D,E⟩|e
   ·refine .inl ?_
    simp only[mayWake,G,Frame.at,g,Option.map_some,D]
    obtain ⟨callee,args,argTypes⟩:=call
    cases callee with
    |value x=>
     obtain ⟨f,H,hb⟩:=E x rfl
     have:Frame.eval (b.at a (.inRegion ops (j::List.range' (j+1) n)::d)) x= .func (.func f) #[] #[]:=by rw[Frame.eval_at];exact H
     simp only[Frame.at] at this
     simp only[this,hb,Bool.not_false]
    |_=>rfl
   ·exact .inr e
  ·rw[<-eB hb.round];exact C b d cs hb m
theorem heap_set (w:World){a:Addr}{v:Value}{cs:Array Value}{t:TypeId}{fr:Nat×Nat}(h:w.heap[a.block]?=some (.cells cs t fr))(hs:a.spot=none):(w.setCell a v).heap[a.block]?=some (.cells (cs.setIfInBounds a.off v) t fr):=by
 simp[World.setCell,Array.getElem?_modify,h,hs]
theorem jg (w:World){a:Addr}{v:Value}{b:Nat}(h:b≠a.block):(w.setCell a v).heap[b]?=w.heap[b]?:=by
 simp only[World.setCell];rw[Array.getElem?_modify,if_neg (fun e=>h e.symm)]
theorem cv.mu (h:cv c w s):w.cell? (muA c.Mu)=some (.int .i32 s.mu)/\w.frozen? (muA c.Mu)=false:=by
 have:=h.1;unfold MuAt muBlock at this;simp[World.cell?,World.frozen?,muA,this]
theorem cv.ms (h:cv c w s):w.cell? (msA c.Mu)=some (.int .u32 s.ms)/\w.frozen? (msA c.Mu)=false:=by
 have:=h.1;unfold MuAt muBlock at this;simp[World.cell?,World.frozen?,msA,this]
theorem cv.wg (h:cv c w s):w.cell? (stA c.Wg)=some (.int .u64 s.wg)/\w.frozen? (stA c.Wg)=false:=by
 have:=h.2.1;unfold WgAt wgBlock at this;simp[World.cell?,World.frozen?,stA,this]
theorem cv.ws (h:cv c w s):w.cell? (smA c.Wg)=some (.int .u32 s.ws)/\w.frozen? (smA c.Wg)=false:=by
 have:=h.2.1;unfold WgAt wgBlock at this;simp[World.cell?,World.frozen?,smA,this]
theorem g6.set {a:Addr}(v:Value)(h:c.shared a.block):g6 c w (w.setCell a v):=
 ⟨rfl,rfl,by simp[World.setCell],.refl _,fun b hb=>jg w fun e=>hb (e▸h)⟩
theorem cv.Dc (aF:c.Mu≠c.Wg/\c.Mu≠c.Is/\c.Wg≠c.Is)(h:cv c w s)(v:Int):cv c (w.setCell (muA c.Mu) (.int .i32 v)) {s with mu:=v}:=by
 obtain ⟨b,d,e⟩:=h;refine ⟨?_,?_,?_⟩
 ·unfold MuAt muBlock at*;exact (heap_set w (a:=muA c.Mu) b rfl).trans rfl
 ·unfold WgAt at*;rw[jg w (Ne.symm aF.1)];exact d
 ·rw[jg w (Ne.symm aF.2.1)];exact e
theorem cv.Dd (aF:c.Mu≠c.Wg/\c.Mu≠c.Is/\c.Wg≠c.Is)(h:cv c w s)(v:Int):cv c (w.setCell (msA c.Mu) (.int .u32 v)) {s with ms:=v}:=by
 obtain ⟨b,d,e⟩:=h;refine ⟨?_,?_,?_⟩
 ·unfold MuAt muBlock at*;exact (heap_set w (a:=msA c.Mu) b rfl).trans rfl
 ·unfold WgAt at*;rw[jg w (Ne.symm aF.1)];exact d
 ·rw[jg w (Ne.symm aF.2.1)];exact e
theorem cv.tT (aF:c.Mu≠c.Wg/\c.Mu≠c.Is/\c.Wg≠c.Is)(h:cv c w s)(v:Int):cv c (w.setCell (stA c.Wg) (.int .u64 v)) {s with wg:=v}:=by
 obtain ⟨b,d,e⟩:=h;refine ⟨?_,?_,?_⟩
 ·unfold MuAt at*;rw[jg w aF.1];exact b
 ·unfold WgAt wgBlock at*;exact (heap_set w (a:=stA c.Wg) d rfl).trans rfl
 ·rw[jg w (Ne.symm aF.2.2)];exact e
theorem cv.De (aF:c.Mu≠c.Wg/\c.Mu≠c.Is/\c.Wg≠c.Is)(h:cv c w s)(v:Int):cv c (w.setCell (smA c.Wg) (.int .u32 v)) {s with ws:=v}:=by
 obtain ⟨b,d,e⟩:=h;refine ⟨?_,?_,?_⟩
 ·unfold MuAt at*;rw[jg w aF.1];exact b
 ·unfold WgAt wgBlock at*;exact (heap_set w (a:=smA c.Wg) d rfl).trans rfl
 ·rw[jg w (Ne.symm aF.2.2)];exact e
theorem cv.JQ (aF:c.Mu≠c.Wg/\c.Mu≠c.Is/\c.Wg≠c.Is)(h:cv c w s)(m:Nat)(v:Bool):cv c (w.setCell ⟨c.Is,m,none⟩ (.bool v)) {s with is:=s.is.set m v}:=by
 obtain ⟨b,d,e⟩:=h;refine ⟨?_,?_,?_⟩
 ·unfold MuAt at*;rw[jg w aF.2.1];exact b
 ·unfold WgAt at*;rw[jg w aF.2.2];exact d
 ·rw[heap_set w (a:=⟨c.Is,m,none⟩) e rfl];simp[List.map_set]
theorem JR:EvA c i ph {ph with deaf:=ph.deaf+1} #[cF .disable]:=
 .book (fun e he=>by simp at he;exact .inl he) rfl (fun j e he=>.inl (by have:=Array.mem_of_getElem? he;simp at this;subst this;rfl)) Iff.rfl
theorem JS {d:Nat}(hd:ph.deaf=d+1):EvA c i ph {ph with deaf:=d} #[cF .enable]:=
 .book (fun e he=>by simp at he;exact .inr (.inl he)) (by rw[hd];rfl) (fun j e he=>.inl (by have:=Array.mem_of_getElem? he;simp at this;subst this;rfl)) Iff.rfl
theorem yh {aL:Ph}{a:Addr}(x:Bool)(hd:aL.deaf=ph.deaf)(hg:aL.gp= .cnt↔ph.gp= .cnt)(b:0<ph.deaf)(d:a.block=c.Wg\/(a.block=c.Mu/\ph.gp= .cnt)):EvA c i ph aL #[⟨.cell a,x,true⟩]:=by
 refine .book (fun e he=>?_) (by rw[hd];simp[deafBehind]) (fun j e he=>?_) hg
 ·simp at he;exact .inr (.inr ⟨a,x,he,d⟩)
 ·match j,he with
  |0,_=>exact .inr (by simpa [deafBehind] using b)
  |j+1,he=>simp at he
theorem yj {aL:Ph}{a:Addr}(hd:aL.deaf=ph.deaf)(hg:aL.gp= .cnt↔ph.gp= .cnt)(b:0<ph.deaf)(d:a.block=c.Wg\/(a.block=c.Mu/\ph.gp= .cnt)):EvA c i ph aL #[⟨.cell a,false,true⟩,⟨.cell a,true,true⟩]:=by
 refine .book (fun e he=>?_) (by rw[hd];simp[deafBehind]) (fun j e he=>?_) hg
 ·simp at he;rcases he with he|he<;>exact .inr (.inr ⟨a,_,he,d⟩)
 ·match j,he with
  |0,_=>exact .inr (by simpa [deafBehind] using b)
  |1,_=>exact .inr (by simpa [deafBehind] using b)
  |j+2,he=>simp at he
theorem yl {aL:Ph}{a:Addr}(hd:aL.deaf=ph.deaf)(hg:aL.gp= .cnt↔ph.gp= .cnt)(b:a.block=c.Wg\/(a.block=c.Mu/\ph.gp= .cnt)):EvA c i ph aL (semEvents a):=by
 refine .book (fun e he=>?_) (by rw[hd];simp[deafBehind,semEvents]) (fun j e he=>?_) hg
 ·simp[semEvents] at he;rcases he with rfl|rfl|rfl|rfl
  ·exact .inl rfl
  ·exact .inr (.inr ⟨a,_,rfl,b⟩)
  ·exact .inr (.inr ⟨a,_,rfl,b⟩)
  ·exact .inr (.inl rfl)
 ·match j,he with
  |0,he=>simp[semEvents] at he;subst he;exact .inl rfl
  |1,_=>exact .inr (by simp[deafBehind,semEvents])
  |2,_=>exact .inr (by simp[deafBehind,semEvents])
  |3,he=>simp[semEvents] at he;subst he;exact .inl rfl
  |j+4,he=>simp[semEvents] at he
theorem Inv.jH (h:Inv c.n c.bs k φ p0 s)(hi:i<c.n)(he:φ i=ph){aL:Ph}{s':Sh}(hg:ph.gp≠ .new)(l:aL.gp≠ .new)(hm:∃C S W L m,cp c.n (upd φ i aL) s'.mu s'.ms C S W L m)(hw:dA c.n (upd φ i aL) p0 s'.wg s'.ws)
  (f:s'.is=s.is.set i aL.stored) (hd:aL.gp≠ .cnt->aL.stored=c.bs i/\aL.mp= .fin):Inv c.n c.bs k (upd φ i aL) p0 s':=by
 refine ⟨hm,hw,by rw[f,List.length_set];exact h.i.len,h.i.kn,fun j a=>?_,fun j a=>?_,fun j a b=>?_,fun j a d g=>?_⟩<;>by_cases e:j=i
 ·subst e;rw[upd_same,f,List.getElem?_set_self (by rw[h.i.len];exact a)]
 ·rw[upd_ne _ _ e,f,List.getElem?_set_ne (Ne.symm e)];exact h.i.all j a
 ·subst e;rw[upd_same,h.i.born j a,he];exact ⟨fun _=>l,fun _=>hg⟩
 ·rw[upd_ne _ _ e];exact h.i.born j a
 ·subst e;rw[upd_same] at b;exact absurd b l
 ·rw[upd_ne _ _ e] at b ⊢;exact h.i.new j a b
 ·subst e;rw[upd_same] at d g ⊢;exact hd d
 ·rw[upd_ne _ _ e] at d g ⊢;exact h.i.done j a d g
theorem ym {l:List Bool}{i:Nat}{x:Bool}(h:l[i]?=some x):l.set i x=l:=by
 refine List.ext_getElem? fun j=>?_;by_cases e:i=j
 ·subst e;have a:i<l.length:=by
   rcases Nat.lt_or_ge i l.length with y|y
   ·exact y
   ·rw[List.getElem?_eq_none y] at h;cases h
  rw[List.getElem?_set_self a,h]
 ·rw[List.getElem?_set_ne e]
theorem Inv.mutex (h:Inv c.n c.bs k φ p0 s)(hi:i<c.n)(he:φ i=ph)(hg:ph.gp= .cnt){mp:Mp}{mu ms:Int}(hm:∃C S W L m,cp c.n (upd φ i {ph with mp:=mp}) mu ms C S W L m):Inv c.n c.bs k (upd φ i {ph with mp:=mp}) p0 {s with mu:=mu,ms:=ms}:=
 h.jH hi he (by rw[hg];simp) (by rw[hg];simp) hm (tJ h.w hi _ (.inl (by rw[he]))) (by
  have:=h.i.all i hi
  rw[he] at this
  exact (ym this).symm) (fun a=>absurd hg a)
theorem Inv.Df (h:Inv c.n c.bs k φ p0 s)(hi:i<c.n)(he:φ i=ph)(hg:ph.gp≠ .new)(d:Nat):Inv c.n c.bs k (upd φ i {ph with deaf:=d}) p0 s:=by
 subst he;exact h.deaf hi hg d
end
end Go.Sep
end

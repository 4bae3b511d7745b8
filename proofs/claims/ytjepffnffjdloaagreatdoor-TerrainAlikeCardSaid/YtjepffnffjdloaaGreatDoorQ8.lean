/- A part of the proof of a row and its tied card: Q8. -/
import Derived.Test.YtjepffnffjdloaaGreatDoorQ7
import Derived.Conc.Own2
import Derived.Conc.Own4
import Derived.Conc.MarkLaws
import Derived.Conc.ClockLaws
import Derived.Conc.SmallLaws
import Derived.Conc.DeferLaws
set_option linter.all false
section
namespace Go.Sep
open Go Go.Conc
structure dN (P:Program)(main:Bool)(J:Goroutine->af->Prop):Prop where
 move:∀{fr fr':Frame} {cs cs':List Frame} {F:af},(∀w,stepG P main (G fr cs) w= .go (G fr' cs') w #[])->J (G fr' cs') F->J (G fr cs) F
theorem Closed.eg {P:Program}{main:Bool}{J:Goroutine->af->Prop}(h:Closed P main J):dN P main J:=⟨fun hs a=>h.move hs a⟩
theorem eA {b:Frame}(h:b.roundOf=none)(a:Act)(todo:List Item):on b a todo=b.at a todo:=by
 cases b
 simp only at h
 subst h
 rfl
structure BF (fi:FuncId)(b:Frame):Prop where
 kind:b.kind≠ .early
 round:b.roundOf=none
 fn:b.fn=fi
section
variable {P : Program} {main : Bool} {S : Type} {JF : S → Goroutine → af → Prop} {fi : FuncId}
def cH (JF:S->Goroutine->af->Prop)(fi:FuncId)(c:Code)(Q:Ex->Act->af->S->Prop)(a:Act)(F:af)(ph:S):Prop:=
 ∀(b:Frame) (k:List Item) (cs:List Frame),BF fi b->(∀e a' F' aH,Q e a' F' aH->yK (JF aH) b k cs e a' F')->JF ph (G (on b a (.code c::k)) cs) F
def ai (JF:S->Goroutine->af->Prop)(fi:FuncId)(ops:Array Oper)(i n:Nat)(Q:Act->af->S->Prop)(a:Act)(F:af)(ph:S):Prop:=
 ∀(b:Frame) (k:List Item) (cs:List Frame),BF fi b->(∀a' F' aH,Q a' F' aH->JF aH (G (on b a' k) cs) F')->JF ph (G (on b a (.inRegion ops (List.range' i n)::k)) cs) F
def cD (P:Program)(JF:S->Goroutine->af->Prop)(f:FuncId)(args:Array Value)(F:af)(ph:S)(R:Value->af->S->Prop):Prop:=
 ∀(c:Frame) (cs:List Frame),(∀v F' aH,R v F' aH->JF aH (G (c.finish v) cs) F')->JF ph (G (Frame.enter P f args .normal) (c::cs)) F
variable {Q : Ex → Act → af → S → Prop} {a : Act} {F : af} {ph : S}
theorem cH.mono {c:Code}{d:Ex->Act->af->S->Prop}(h:cH JF fi c Q a F ph)(f:∀e a F ph,Q e a F ph->d e a F ph):cH JF fi c d a F ph:=
 fun b k cs hb hk=>h b k cs hb fun e a' F' aH x=>hk e a' F' aH (f _ _ _ _ x)
theorem cH.of (hJ:Closed P main (JF ph)){c:Code}(h:Wp (JF ph) c (fun e a F=>Q e a F ph) a F):cH JF fi c Q a F ph:=
 fun b k cs hb hk=>h b k cs ⟨hb.kind,.inl hb.round⟩ fun e a' F' d=>hk e a' F' ph d
theorem cE (c:dN P main (JF ph))(h:Q .normal a F ph):cH JF fi .skip Q a F ph:=fun b k cs _ hk=>c.move (fun _=>yq) (hk _ _ _ _ h)
theorem om {id:Nat}(h:Q (.exit id) a F ph):cH JF fi (.exit id) Q a F ph:=fun b k cs _ hk=>hk _ _ _ _ h k rfl
theorem ff (h:Q .ret a F ph):cH JF fi .ret Q a F ph:=fun b k cs _ hk=>hk _ _ _ _ h k
def BY (JF:S->Goroutine->af->Prop)(fi:FuncId)(y:Code)(Q:Ex->Act->af->S->Prop):Ex->Act->af->S->Prop
 | .normal,a,F,ph=>cH JF fi y Q a F ph
 |e,a,F,ph=>Q e a F ph
theorem az (d:dN P main (JF ph)){x y:Code}(h:cH JF fi x (BY JF fi y Q) a F ph):cH JF fi (.seq x y) Q a F ph:=fun b k cs hb hk=>by
 refine d.move (fun _=>yu) (h b (.code y::k) cs hb fun e a' F' aH c=>?_)
 cases e with
 |normal=>exact c b k cs hb hk
 |exit id=>exact fun f g=>hk _ _ _ _ c f (by rw[g];rfl)
 |ret=>exact hk _ _ _ _ c
theorem BZ (d:dN P main (JF ph)){c:Operand}{x y:Code}(t:Bool)(e:a.eval c= .bool t)(h:cH JF fi (if t then x else y) Q a F ph):cH JF fi (.cond c x y) Q a F ph:=fun b k cs hb hk=>
 d.move (fun _=>yw e) (h b k cs hb hk)
theorem cP (b:dN P main (JF ph)){c:Operand}{x y:Code}(d:ev a c= .bool true)(h:cH JF fi x Q a F ph):cH JF fi (.cond c x y) Q a F ph:=BZ b true d h
theorem cB (b:dN P main (JF ph)){c:Operand}{x y:Code}(d:ev a c= .bool false)(h:cH JF fi y Q a F ph):cH JF fi (.cond c x y) Q a F ph:=BZ b false d h
def xx (id:Nat)(Q:Ex->Act->af->S->Prop):Ex->Act->af->S->Prop
 | .normal,a,F,ph=>Q .normal a F ph
 | .exit i,a,F,ph=>if i=id then Q .normal a F ph else Q (.exit i) a F ph
 | .ret,a,F,ph=>Q .ret a F ph
theorem jF (f:∀ph,dN P main (JF ph)){id:Nat}{c:Code}(h:cH JF fi c (xx id Q) a F ph):cH JF fi (.block id c) Q a F ph:=fun b k cs hb hk=>by
 refine (f ph).move (fun _=>yx) (h b (.inBlock id::k) cs hb fun e a' F' aH d=>?_)
 cases e with
 |normal=>exact (f aH).move (fun _=>yt) (hk _ _ _ _ d)
 |exit i=>
  intro g j
  simp only[xx] at d
  by_cases hi:i=id
  ·rw[if_pos hi] at d
   subst hi
   have:exitTo i g=some k:=by rw[j];simp[exitTo]
   exact (f aH).move (fun _=>yA this) (hk _ _ _ _ d)
  ·rw[if_neg hi] at d
   refine hk _ _ _ _ d g ?_
   rw[j]
   simp[exitTo,Ne.symm hi]
 |ret=>exact hk _ _ _ _ d
def xy (I:Nat->Act->af->S->Prop)(n:Nat)(Q:Ex->Act->af->S->Prop):Ex->Act->af->S->Prop
 | .normal,a,F,ph=>∃m,m<n/\I m a F ph
 |e,a,F,ph=>Q e a F ph
theorem qp (f:∀ph,dN P main (JF ph)){c:Code}(I:Nat->Act->af->S->Prop)(n:Nat)(h0:I n a F ph)(hs:∀n a F ph,I n a F ph->cH JF fi c (xy I n Q) a F ph):cH JF fi (.loop c) Q a F ph:=by
 intro b k cs hb hk
 have key:∀n a F ph,I n a F ph->JF ph (G (on b a (.code c:: .inLoop c::k)) cs) F:=by
  intro n
  induction n using Nat.strongRecOn with
  |_ n ih=>
   intro a F ph g
   refine hs n a F ph g b (.inLoop c::k) cs hb fun e a' F' aH d=>?_
   cases e with
   |normal=>
    obtain ⟨m,hm,h⟩:=d
    exact (f aH).move (fun _=>yz) (ih m hm a' F' aH h)
   |exit i=>exact fun j l=>hk _ _ _ _ d j (by rw[l];rfl)
   |ret=>exact hk _ _ _ _ d
 exact (f ph).move (fun _=>yy) (key n a F ph h0)
theorem cQ (c:∀ph,dN P main (JF ph)){id:Nat}{ops:Array Oper}(h:ai JF fi ops 0 ops.size (Q .normal) a F ph):cH JF fi (.region id ops false) Q a F ph:=fun b k cs hb hk=>by
 refine (c ph).move (fun _=>yB) ?_
 rw[List.range_eq_range']
 exact h b k cs hb fun a' F' aH d=>hk .normal a' F' aH d
variable {ops : Array Oper} {i n : Nat} {Q : Act → af → S → Prop}
theorem ai.nil (c:∀ph,dN P main (JF ph))(h:Q a F ph):ai JF fi ops i 0 Q a F ph:=fun b k cs hb hk=>
 (c ph).move (fun _=>yD) (hk _ _ _ h)
theorem B1 (hJ:Closed P main (JF ph)):∀(m i n:Nat) (a:Act) (F:af),fF P (JF ph) ops (fun a' F'=>ai JF fi ops (i+m) n Q a' F' ph) (List.range' i m) a F->ai JF fi ops i (m+n) Q a F ph
 |0,i,n,a,F,h=>by rw[Nat.zero_add];exact h
 |m+1,i,n,a,F,h=>fun b k cs hb hk=>by
  have e:m+1+n=(m+n)+1:=by omega
  rw[e,List.range'_succ]
  rw[List.range'_succ] at h
  refine yG hJ ⟨hb.kind,.inl hb.round⟩ h fun a' F' c=>?_
  have e2:i+(m+1)=(i+1)+m:=by omega
  rw[e2] at c
  exact B1 hJ m (i+1) n a' F' c b k cs hb hk
theorem xz {J:Goroutine->af->Prop}{K:Act->af->Prop}:∀(l:List Oper) (k:Nat) (go:Bool) (a:Act) (F:af),(∀j o,l[j]?=some o->ops[k+j]?=some o)->fy P J ops K l go a F->fF P J ops K (List.range' k l.length) a F
 |[],k,_,a,F,_,h=>by rw[za] at h;exact h
 |o::rest,k,go,a,F,b,h=>by
  have d:ops[k]?=some o:=b 0 o rfl
  have c:∀j x,rest[j]?=some x->ops[k+1+j]?=some x:=fun j x e=>by rw[Nat.add_assoc,Nat.add_comm 1 j];exact b (j+1) x e
  simp only[List.length_cons,List.range'_succ]
  show dG P J ops k (fF P J ops K (List.range' (k+1) rest.length)) a F
  unfold dG
  simp only[d]
  have h:fy P J ops K (o::rest) true a F:=by unfold fy at h ⊢;exact h
  rw[zb] at h
  split at h
  ·rename_i hg
   rw[if_pos (cj hg)]
   exact gH (oE (fun v F' f=>xz rest (k+1) _ _ F' c f) (fun _ _ x=>x)) _ _ (kJ h)
  ·rename_i hg
   rw[if_neg (by rw[cj hg];simp)]
   exact xz rest (k+1) _ _ F c h
  ·exact h.elim
theorem ai.bw (hJ:Closed P main (JF ph))(m:Nat){n:Nat}(l:List Oper)(c:(ops.toList.drop i).take m=l)(hm:l.length=m)(h:fy P (JF ph) ops (fun a' F'=>ai JF fi ops (i+m) n Q a' F' ph) l true a F):ai JF fi ops i (m+n) Q a F ph:=by
 subst hm
 refine B1 hJ l.length i n a F (xz l i true a F (fun j o b=>?_) h)
 rw[<-c] at b
 have d:j<l.length:=by
  rcases Nat.lt_or_ge j l.length with x|x
  ·exact x
  ·rw[c,List.getElem?_eq_none x] at b;cases b
 rw[List.getElem?_take,if_pos d,List.getElem?_drop] at b
 simpa using b
theorem ai.skip (d:dN P main (JF ph)){o:Oper}(c:ops[i]?=some o)(hg:cz ops o a=some false)(h:ai JF fi ops (i+1) n Q (aZ a o.dst undef) F ph):ai JF fi ops i (n+1) Q a F ph:=fun b k cs hb hk=>by
 rw[List.range'_succ]
 refine d.move (fun _=>tQ (by simp[c,cj hg])) ?_
 simp only[c,Option.bind_some]
 exact h b k cs hb hk
theorem ai.plain (c:dN P main (JF ph)){o:Oper}(v:Value)(d:ops[i]?=some o)(hg:cz ops o a=some true)(e:∀w,(execOp a.eval o).run P w= .ok (.value v) w)(he:∀w,(execOp a.eval o).events P w #[]=#[])
  (h:ai JF fi ops (i+1) n Q (aZ a o.dst v) F ph):ai JF fi ops i (n+1) Q a F ph:=fun b k cs hb hk=>by
 rw[List.range'_succ,eA hb.round]
 refine c.move (fr':=b.at (a.put o.dst v) (.inRegion ops (List.range' (i+1) n)::k)) (fun w=>?_) (by rw[<-eA hb.round];exact h b k cs hb hk)
 rw[stepG_value d (cj hg) hb.kind (e w)]
 unfold listed
 rw[he w,seen_none]
theorem ai.call (d:dN P main (JF ph)){o:Oper}{f:FuncId}{args:Array Value}{R:Value->af->S->Prop}(c:ops[i]?=some o)(hg:cz ops o a=some true)(e:∀w,(execOp a.eval o).run P w= .ok (.enter f args) w)(he:∀w,(execOp a.eval o).events P w #[]=#[])
  (g:cD P JF f args F ph R) (h:∀v F' aH,R v F' aH->ai JF fi ops (i+1) n Q (aZ a o.dst v) F' aH):ai JF fi ops i (n+1) Q a F ph:=fun b k cs hb hk=>by
 rw[List.range'_succ,eA hb.round]
 refine d.move (fr':=Frame.enter P f args .normal) (cs':=b.at a (.inRegion ops (i::List.range' (i+1) n)::k)::cs) (fun w=>?_) (g _ cs fun v F' aH j=>?_)
 ·rw[stepG_enter c (cj hg) hb.kind (e w)]
  unfold listed
  rw[he w,seen_none]
 ·rw[Frame.finish_at,c]
  rw[show (Option.some o).bind (·.dst)=o.dst from rfl,<-eA hb.round]
  exact h v F' aH j b k cs hb hk
def jG (P:Program)(fn:Func)(R:Value->af->S->Prop):Ex->Act->af->S->Prop
 | .exit _,_,_,_=>False
 |_,a,F,ph=>a.defers=[]/\∃v,(∀w,(results fn a.tmps).run P w= .ok v w/\(results fn a.tmps).events P w #[]=#[])/\R v F ph
theorem cD.of (j:∀ph,dN P main (JF ph)){f:FuncId}{fn:Func}{c:Code}{args:Array Value}{R:Value->af->S->Prop}(k:P.funcs[f]?=some fn)(hb:fn.body=some c)
  (h:cH JF f c (jG P fn R) {tmps:=args++Array.replicate (fn.ntmps - args.size) undef,defers:=[]} F ph):cD P JF f args F ph R:=by
 intro g cs m
 let b:Frame:={(default:Frame) with fn:=f,kind:=.normal}
 have n:b.roundOf=none:=rfl
 have o:Frame.enter P f args .normal=on b {tmps:=args++Array.replicate (fn.ntmps - args.size) undef,defers:=[]} [.code c]:=by
  simp[Frame.enter,on,k,hb,b]
  rfl
 rw[o]
 have leave:∀(a':Act) (todo:List Item) F' aH,a'.defers=[]->(∃v,(∀w,(results fn a'.tmps).run P w= .ok v w/\(results fn a'.tmps).events P w #[]=#[])/\R v F' aH)->JF aH (G {on b a' todo with mode:=.returning} (g::cs)) F':=by
  intro a' todo F' aH hd ⟨v,l,p⟩
  refine (j aH).move (fr':=g.finish v) (cs':=cs) (fun w=>?_) (m v F' aH p)
  have:=stepG_leave (P:=P) (main:=main) (b:=b) (a:=a') (todo:=todo) (cs:=cs) (w:=w) (c:=g) (v:=v) rfl hd k (l w).1 (l w).2
  rw[eA n];exact this
 refine h b [] (g::cs) ⟨by simp[b],rfl,rfl⟩ fun e a' F' aH d=>?_
 cases e with
 |normal=>exact (j aH).move (fun _=>lG rfl) (leave a' _ F' aH d.1 d.2)
 |exit i=>exact d.elim
 |ret=>exact fun q=>(j aH).move (fun _=>stepG_ret' rfl) (leave a' _ F' aH d.1 d.2)
end
end Go.Sep
namespace Go.Sep
open Go Go.Conc
section
variable {P : Program} {main : Bool} {S : Type} {JF : S → Goroutine → af → Prop} {F : af} {ph : S}
theorem cD.go (a:∀ph,dN P main (JF ph)){f:FuncId}{fn:Func}{c:Code}{n:Nat}{args:Array Value}{R:Value->af->S->Prop}(b:P.funcs[f]?=some fn)(hb:fn.body=some c)(hn:fn.ntmps=n)(d:args.size<=n)
  (h:∀A:Act,sz A=n->A.defers=[]->(∀i,slot A i=args.getD i undef)->cH JF f c (jG P fn R) A F ph):cD P JF f args F ph R:=by
 refine cD.of a b hb (h _ (by simp[sz,hn];omega) rfl fun i=>?_)
 simp only[slot,hn,Array.getD_eq_getD_getElem?]
 rcases Nat.lt_or_ge i args.size with hi|hi
 ·rw[Array.getElem?_append_left hi]
 ·rw[Array.getElem?_append_right hi,Array.getElem?_replicate,Array.getElem?_eq_none hi]
  split<;>rfl
theorem B2 {fn:Func}{R:Value->af->S->Prop}{a:Act}(b:fn.results=#[])(hd:a.defers=[])(h:R (.tuple #[]) F ph):jG P fn R .normal a F ph/\jG P fn R .ret a F ph:=
 have x:a.defers=[]/\∃v,(∀w,(results fn a.tmps).run P w= .ok v w/\(results fn a.tmps).events P w #[]=#[])/\R v F ph:=⟨hd,.tuple #[],fun w=>⟨results_none b _ P w,events_results_none b _ _⟩,h⟩
 ⟨x,x⟩
theorem lu {fn:Func}{R:Value->af->S->Prop}{a:Act}(b:fn.results=#[])(hd:a.defers=[])(h:R (.tuple #[]) F ph):jG P fn R .normal a F ph:=(B2 b hd h).1
theorem oo {fn:Func}{R:Value->af->S->Prop}{a:Act}(b:fn.results=#[])(hd:a.defers=[])(h:R (.tuple #[]) F ph):jG P fn R .ret a F ph:=(B2 b hd h).2
theorem lz {fn:Func}{R:Value->af->S->Prop}{a:Act}{t:Tmp}{v:Value}(b:fn.results=#[.tmp t])(hd:a.defers=[])(c:slot a t=v)(h:R v F ph):jG P fn R .normal a F ph/\jG P fn R .ret a F ph:=
 have x:a.defers=[]/\∃v,(∀w,(results fn a.tmps).run P w= .ok v w/\(results fn a.tmps).events P w #[]=#[])/\R v F ph:=⟨hd,v,fun w=>⟨by rw[<-c];exact results_tmp b _ P w,events_results_tmp b _ _⟩,h⟩
 ⟨x,x⟩
end
end Go.Sep
namespace Go.Sep
open Go Go.Conc
attribute [go_sem] BY xx xy List.getElem_toArray List.getElem_cons_zero List.getElem_cons_succ
section
variable {P : Program} {main : Bool} {S : Type} {JF : S → Goroutine → af → Prop} {F : af} {ph : S} {fi : FuncId} {ops : Array Oper} {i n : Nat} {a : Act} {Q : Act → af → S → Prop}
theorem B3 {f:FuncId}(h:aI P f=true)(args:Array Value)(w:World)(es:Array Event):(callFunc f args).run P w= .ok (.enter f args) w/\(callFunc f args).events P w es=es:=by
 unfold aI at h
 split at h
 ·rename_i fn a
  simp only[Bool.not_eq_true',Bool.or_eq_false_iff] at h
  obtain ⟨h1,h2⟩:=h
  have b:fn.name≠ "runtime.NumGoroutine":=ne_of_beq_false h2
  cases hb:fn.body with
  |none=>rw[hb] at h1;cases h1
  |some c=>exact ⟨by simp[callFunc,a,b,hb],by simp[callFunc,a,b,hb]⟩
 ·cases h
theorem ai.fP (c:dN P main (JF ph)){o:Oper}{f:FuncId}{cx:Array Operand}{c9:Array TypeId}{args:Array Value}{R:Value->af->S->Prop}(d:ops[i]?=some o)(hg:cz ops o a=some true)(e:o.op= .call {callee:=.value (.func f),args:=cx,argTypes:=c9})(b:aI P f=true)
  (g:cx.map (ev a)=args) (j:cD P JF f args F ph R) (h:∀v F' aH,R v F' aH->ai JF fi ops (i+1) n Q (aZ a o.dst v) F' aH):ai JF fi ops i (n+1) Q a F ph:=by
 have e1:execOp a.eval o=callFunc f args:=by rw[execOp_call_func (a:=a) e,<-g];rfl
 exact ai.call c d hg (fun w=>by rw[e1];exact (B3 b args w #[]).1) (fun w=>by rw[e1];exact (B3 b args w #[]).2) j h
end
structure Entry (P:Program)(f:FuncId)(e:Array Value->Sem Value):Prop where
 ex:∃fn,P.funcs[f]?=some fn/\(fn.name== "runtime.NumGoroutine")=false/\fn.body.isNone=true/\Extern.findNext fn=none/\Extern.find fn=some e
theorem Entry.B4 {P:Program}{f:FuncId}{e:Array Value->Sem Value}(h:Entry P f e):(P.funcs[f]?).any (·.body.isSome)=false:=by
 obtain ⟨fn,a,_,hb,_⟩:=h.ex
 rw[a]
 simpa using hb
end Go.Sep
end
section
namespace Go.Proofs.YtjepffnffjdloaaGreatDoor
open Go Go.Sep Go.Proofs Go.Conc
open Go.ConcN (upd)
open Go.ConcM (muA msA)
open Go.ConcR (stA smA)
set_option maxRecDepth 100000
set_option maxHeartbeats 4000000
theorem qq:Entry Tryz.prog 134 (fun _=>do mark .disable;pure Extern.Race.none_):=⟨_,Tryz.func134,by kernel_rfl,by kernel_rfl,by kernel_rfl,by kernel_rfl⟩
theorem lA:Entry Tryz.prog 135 (fun _=>do mark .enable;pure Extern.Race.none_):=⟨_,Tryz.func135,by kernel_rfl,by kernel_rfl,by kernel_rfl,by kernel_rfl⟩
theorem tf:Entry Tryz.prog 149 (Extern.Race.marked .acquire):=⟨_,Tryz.func149,by kernel_rfl,by kernel_rfl,by kernel_rfl,by kernel_rfl⟩
theorem B5:Entry Tryz.prog 133 (Extern.Race.marked .releaseMerge):=⟨_,Tryz.func133,by kernel_rfl,by kernel_rfl,by kernel_rfl,by kernel_rfl⟩
theorem tg:Entry Tryz.prog 171 (Extern.Atomic.casT (.int .i32)):=⟨_,Tryz.func171,by kernel_rfl,by kernel_rfl,by kernel_rfl,by kernel_rfl⟩
theorem xA:Entry Tryz.prog 173 (Extern.Atomic.update (Op.intArith .add) .i32 true):=⟨_,Tryz.func173,by kernel_rfl,by kernel_rfl,by kernel_rfl,by kernel_rfl⟩
theorem Ig:Entry Tryz.prog 185 Extern.Sync.semacquire:=⟨_,Tryz.func185,by kernel_rfl,by kernel_rfl,by kernel_rfl,by kernel_rfl⟩
theorem B6:Entry Tryz.prog 187 Extern.Sync.semrelease:=⟨_,Tryz.func187,by kernel_rfl,by kernel_rfl,by kernel_rfl,by kernel_rfl⟩
theorem B7:Entry Tryz.prog 184 Extern.OsHooks.nano:=⟨_,Tryz.func184,by kernel_rfl,by kernel_rfl,by kernel_rfl,by kernel_rfl⟩
theorem Ih:Entry Tryz.prog 181 Extern.Sync.canSpin:=⟨_,Tryz.func181,by kernel_rfl,by kernel_rfl,by kernel_rfl,by kernel_rfl⟩
theorem Ii:Entry Tryz.prog 182 (fun _=>pure (.tuple #[])):=⟨_,Tryz.func182,by kernel_rfl,by kernel_rfl,by kernel_rfl,by kernel_rfl⟩
theorem xB:Entry Tryz.prog 168 (Extern.Atomic.loadT (.int .u64)):=⟨_,Tryz.func168,by kernel_rfl,by kernel_rfl,by kernel_rfl,by kernel_rfl⟩
theorem B8:Entry Tryz.prog 167 (Extern.Atomic.update (Op.intArith .add) .u64 true):=⟨_,Tryz.func167,by kernel_rfl,by kernel_rfl,by kernel_rfl,by kernel_rfl⟩
theorem Ij:Entry Tryz.prog 175 (Extern.Atomic.casT (.int .u64)):=⟨_,Tryz.func175,by kernel_rfl,by kernel_rfl,by kernel_rfl,by kernel_rfl⟩
theorem Ik:Entry Tryz.prog 169 Extern.Atomic.storeT:=⟨_,Tryz.func169,by kernel_rfl,by kernel_rfl,by kernel_rfl,by kernel_rfl⟩
theorem B9:Entry Tryz.prog 136 (fun _=>pure (.bool false)):=⟨_,Tryz.func136,by kernel_rfl,by kernel_rfl,by kernel_rfl,by kernel_rfl⟩
theorem Il:Entry Tryz.prog 141 (Extern.Race.marked .read):=⟨_,Tryz.func141,by kernel_rfl,by kernel_rfl,by kernel_rfl,by kernel_rfl⟩
theorem Im:Entry Tryz.prog 152 (Extern.Race.marked .write):=⟨_,Tryz.func152,by kernel_rfl,by kernel_rfl,by kernel_rfl,by kernel_rfl⟩
theorem Io:Entry Tryz.prog 153 Extern.Sync.semacquire:=⟨_,Tryz.func153,by kernel_rfl,by kernel_rfl,by kernel_rfl,by kernel_rfl⟩
theorem Ip:Entry Tryz.prog 145 Extern.Sync.semrelease:=⟨_,Tryz.func145,by kernel_rfl,by kernel_rfl,by kernel_rfl,by kernel_rfl⟩
theorem xC:Tryz.prog.underlying 222=some (.pointer 164):=by kernel_rfl
theorem xD:Tryz.prog.underlying 188=some (.pointer 173):=by kernel_rfl
theorem Ca:Tryz.prog.underlying 195=some (.pointer 162):=by kernel_rfl
theorem lB:Tryz.prog.underlying 190=some .unsafePointer:=by kernel_rfl
theorem oq:Tryz.prog.underlying 21=some (.int .i32):=by kernel_rfl
theorem Iq:Tryz.prog.underlying 4=some .bool:=by kernel_rfl
theorem xE:(Tryz.prog.info? 164).map (fun i=>decide (i.size=0))=some false:=by kernel_rfl
theorem xF:(Tryz.prog.info? 173).map (fun i=>decide (i.size=0))=some false:=by kernel_rfl
theorem Cb:(Tryz.prog.info? 162).map (fun i=>decide (i.size=0))=some false:=by kernel_rfl
theorem th:(Tryz.prog.funcs[172]?).any (·.norace)=true:=by kernel_rfl
theorem Ir:(Tryz.prog.funcs[148]?).any (·.norace)=true:=by kernel_rfl
theorem It:(Tryz.prog.funcs[174]?).any (·.norace)=true:=by kernel_rfl
theorem Cc:(Tryz.prog.funcs[184]?).any (·.norace)=true:=by kernel_rfl
noncomputable abbrev CY (Mu Wg Is n:Nat)(bs:Nat->Bool)(base T0:Nat):Cy:=⟨Tryz.prog,Mu,Wg,Is,166,173,4,n,bs,base,T0⟩
end Go.Proofs.YtjepffnffjdloaaGreatDoor
end
section
namespace Go.Sep
open Go Go.Conc
open Go.ConcN (sumTo upd upd_ne upd_same)
open Go.ConcM (MuAt muA msA muBlock OsLater)
open Go.ConcR (WgAt wgBlock stA smA)
def At (ops:Array Oper)(j:Nat)(a:Act)(f:FuncId)(vals:List Value)(d:Option Tmp):Prop:=
 ∃o cx c9,ops[j]?=some o/\cz ops o a=some true/\o.op= .call {callee:=.value (.func f),args:=cx,argTypes:=c9}/\cx.toList.map (ev a)=vals/\o.dst=d
def mK (ops:Array Oper)(j:Nat)(a:Act)(op:Op)(d:Option Tmp):Prop:=∃o,ops[j]?=some o/\cz ops o a=some true/\o.op=op/\o.dst=d
theorem jH {a:Act}{cx:Array Operand}{p:Value}(h:cx.toList.map (ev a)=[p]):∃x,cx=#[x]/\ev a x=p:=by
 obtain ⟨l⟩:=cx
 match l,h with
 |[x],h=>exact ⟨x,rfl,by simpa using h⟩
theorem qs {a:Act}{cx:Array Operand}{p q:Value}(h:cx.toList.map (ev a)=[p,q]):∃x y,cx=#[x,y]/\ev a x=p/\ev a y=q:=by
 obtain ⟨l⟩:=cx
 match l,h with
 |[x,y],h=>exact ⟨x,y,rfl,by simpa using h⟩
theorem qt {a:Act}{cx:Array Operand}{p q r:Value}(h:cx.toList.map (ev a)=[p,q,r]):∃x y z,cx=#[x,y,z]/\ev a x=p/\ev a y=q/\ev a z=r:=by
 obtain ⟨l⟩:=cx
 match l,h with
 |[x,y,z],h=>exact ⟨x,y,z,rfl,by simpa using h⟩
abbrev WJ (c:Cy)(i:Nat):Ph->Goroutine->af->Prop:=fun ph g F=>Wk c i ph g F
section
variable {c : Cy} {i : Nat} {ph : Ph} {φ : Nat → Ph} {p0 : P0} {k : Nat} {s : Sh} {w : World}
theorem xG {α:Type}(f:Nat->α)(i:Nat):upd f i (f i)=f:=by
 funext j
 by_cases h:j=i
 ·subst h;exact upd_same _ _ _
 ·exact upd_ne _ _ h
theorem mL {aH:Ph}(hd:aH.deaf=ph.deaf)(hg:aH.gp= .cnt↔ph.gp= .cnt):EvA c i ph aH #[]:=.book (by simp) (by rw[hd];rfl) (by simp) hg
theorem WJ.eg (c:Cy)(i:Nat)(ph:Ph):dN c.P false (WJ c i ph):=⟨fun {fr fr' cs cs' F} hs h=>by
 by_cases hg:ph.gp= .gone
 ·obtain ⟨F0,r,hle,hW⟩:=h
  obtain ⟨q,_,a⟩:=hW.left hg
  exact Wk.gone (q:=q+1) hg (.inr ⟨rfl,G fr' cs',#[],by simp,hs,by rw[deafBehind_nil];exact a⟩)
 ·refine Wk.act rfl rfl hg fun w s k φ p0 h1 h2 h3 b d=>.inr ⟨G fr' cs',w,#[],s,ph,hs w,h2,.refl _ _,?_,mL rfl Iff.rfl,.inr ⟨Int.le_refl _,Int.le_refl _⟩,h⟩
  rw[<-b,xG];exact d⟩
variable {ops : Array Oper} {j n : Nat} {Q : Act → af → Ph → Prop} {a : Act} {F : af} {o : Oper} {f fi : FuncId} {cx : Array Operand} {c9 : Array TypeId}
theorem fh (g:ops[j]?=some o)(l:ph.gp≠ .gone)
  (h:∀(w:World) (s:Sh) (k:Nat) (φ:Nat->Ph) (p0:P0),Has F w->cw c w s->i<c.n->φ i=ph->Inv c.n c.bs k φ p0 s->
   (ph.mp.ie=true/\s.ms=0/\∀(b:Frame) (d:List Item) (cs:List Frame),stepG c.P false (G (b.at a (.inRegion ops (j::List.range' (j+1) n)::d)) cs) w= .go {G (b.at a (.inRegion ops (j::List.range' (j+1) n)::d)) cs with status:=.blocked} w #[])\/
   (∃(v:Value) (w':World) (es:Array Event) (s':Sh) (aH:Ph),(∀(b:Frame) (d:List Item) (cs:List Frame),BF fi b->
    stepG c.P false (G (b.at a (.inRegion ops (j::List.range' (j+1) n)::d)) cs) w= .go (G (b.at (a.put o.dst v) (.inRegion ops (List.range' (j+1) n)::d)) cs) w' es)/\cw c w' s'/\gS c w w'/\Inv c.n c.bs k (upd φ i aH) p0 s'/\EvA c i ph aH es/\
    ((∃call,o.op= .call call/\∀x,call.callee= .value x->∃f,a.eval x= .func (.func f) #[] #[]/\(c.P.funcs[f]?).any (·.body.isSome)=false)\/(s'.ms<=s.ms/\s'.ws<=s.ws))/\ai (WJ c i) fi ops (j+1) n Q (a.put o.dst v) F aH)):ai (WJ c i) fi ops j (n+1) Q a F ph:=fun b d cs hb hk=>by
 rw[List.range'_succ,eA hb.round]
 refine Wk.act rfl rfl l fun w s k φ p0 e1 e2 m p q=>?_
 rcases h w s k φ p0 e1 e2 m p q with ⟨x,y,z⟩|⟨v,w',es,s',aH,z,r,t,u,A,e,B⟩
 ·exact .inl ⟨x,y,z b d cs⟩
 ·refine .inr ⟨_,w',es,s',aH,z b d cs hb,r,t,u,A,?_,?_⟩
  ·rcases e with ⟨call,C,D⟩|e
   ·refine .inl ?_
    simp only[mayWake,G,Frame.at,g,Option.map_some,C]
    obtain ⟨callee,args,argTypes⟩:=call
    cases callee with
    |value x=>
     obtain ⟨f,E,hb⟩:=D x rfl
     have:Frame.eval (b.at a (.inRegion ops (j::List.range' (j+1) n)::d)) x= .func (.func f) #[] #[]:=by rw[Frame.eval_at];exact E
     simp only[Frame.at] at this
     simp only[this,hb,Bool.not_false]
    |_=>rfl
   ·exact .inr e
  ·rw[<-eA hb.round];exact B b d cs hb hk
theorem heap_set (w:World){a:Addr}{v:Value}{cs:Array Value}{t:TypeId}{fr:Nat×Nat}(h:w.heap[a.block]?=some (.cells cs t fr))(hs:a.spot=none):(w.setCell a v).heap[a.block]?=some (.cells (cs.setIfInBounds a.off v) t fr):=by
 simp[World.setCell,Array.getElem?_modify,h,hs]
theorem iY (w:World){a:Addr}{v:Value}{b:Nat}(h:b≠a.block):(w.setCell a v).heap[b]?=w.heap[b]?:=by
 simp only[World.setCell]
 rw[Array.getElem?_modify,if_neg (fun e=>h e.symm)]
theorem cw.mu (h:cw c w s):w.cell? (muA c.Mu)=some (.int .i32 s.mu)/\w.frozen? (muA c.Mu)=false:=by
 have:=h.1;unfold MuAt muBlock at this;simp[World.cell?,World.frozen?,muA,this]
theorem cw.ms (h:cw c w s):w.cell? (msA c.Mu)=some (.int .u32 s.ms)/\w.frozen? (msA c.Mu)=false:=by
 have:=h.1;unfold MuAt muBlock at this;simp[World.cell?,World.frozen?,msA,this]
theorem cw.wg (h:cw c w s):w.cell? (stA c.Wg)=some (.int .u64 s.wg)/\w.frozen? (stA c.Wg)=false:=by
 have:=h.2.1;unfold WgAt wgBlock at this;simp[World.cell?,World.frozen?,stA,this]
theorem cw.ws (h:cw c w s):w.cell? (smA c.Wg)=some (.int .u32 s.ws)/\w.frozen? (smA c.Wg)=false:=by
 have:=h.2.1;unfold WgAt wgBlock at this;simp[World.cell?,World.frozen?,smA,this]
theorem gS.set {a:Addr}(v:Value)(h:c.shared a.block):gS c w (w.setCell a v):=
 ⟨rfl,rfl,by simp[World.setCell],.refl _,fun b hb=>iY w fun e=>hb (e▸h)⟩
theorem cw.Cd (b:c.Mu≠c.Wg/\c.Mu≠c.Is/\c.Wg≠c.Is)(h:cw c w s)(v:Int):cw c (w.setCell (muA c.Mu) (.int .i32 v)) {s with mu:=v}:=by
 obtain ⟨h1,h2,h3⟩:=h
 refine ⟨?_,?_,?_⟩
 ·unfold MuAt muBlock at*;exact (heap_set w (a:=muA c.Mu) h1 rfl).trans rfl
 ·unfold WgAt at*;rw[iY w (Ne.symm b.1)];exact h2
 ·rw[iY w (Ne.symm b.2.1)];exact h3
theorem cw.Ce (b:c.Mu≠c.Wg/\c.Mu≠c.Is/\c.Wg≠c.Is)(h:cw c w s)(v:Int):cw c (w.setCell (msA c.Mu) (.int .u32 v)) {s with ms:=v}:=by
 obtain ⟨h1,h2,h3⟩:=h
 refine ⟨?_,?_,?_⟩
 ·unfold MuAt muBlock at*;exact (heap_set w (a:=msA c.Mu) h1 rfl).trans rfl
 ·unfold WgAt at*;rw[iY w (Ne.symm b.1)];exact h2
 ·rw[iY w (Ne.symm b.2.1)];exact h3
theorem cw.tj (b:c.Mu≠c.Wg/\c.Mu≠c.Is/\c.Wg≠c.Is)(h:cw c w s)(v:Int):cw c (w.setCell (stA c.Wg) (.int .u64 v)) {s with wg:=v}:=by
 obtain ⟨h1,h2,h3⟩:=h
 refine ⟨?_,?_,?_⟩
 ·unfold MuAt at*;rw[iY w b.1];exact h1
 ·unfold WgAt wgBlock at*;exact (heap_set w (a:=stA c.Wg) h2 rfl).trans rfl
 ·rw[iY w (Ne.symm b.2.2)];exact h3
theorem cw.Cf (b:c.Mu≠c.Wg/\c.Mu≠c.Is/\c.Wg≠c.Is)(h:cw c w s)(v:Int):cw c (w.setCell (smA c.Wg) (.int .u32 v)) {s with ws:=v}:=by
 obtain ⟨h1,h2,h3⟩:=h
 refine ⟨?_,?_,?_⟩
 ·unfold MuAt at*;rw[iY w b.1];exact h1
 ·unfold WgAt wgBlock at*;exact (heap_set w (a:=smA c.Wg) h2 rfl).trans rfl
 ·rw[iY w (Ne.symm b.2.2)];exact h3
theorem cw.Iu (b:c.Mu≠c.Wg/\c.Mu≠c.Is/\c.Wg≠c.Is)(h:cw c w s)(m:Nat)(v:Bool):cw c (w.setCell ⟨c.Is,m,none⟩ (.bool v)) {s with is:=s.is.set m v}:=by
 obtain ⟨h1,h2,h3⟩:=h
 refine ⟨?_,?_,?_⟩
 ·unfold MuAt at*;rw[iY w b.2.1];exact h1
 ·unfold WgAt at*;rw[iY w b.2.2];exact h2
 ·rw[heap_set w (a:=⟨c.Is,m,none⟩) h3 rfl]
  simp[List.map_set]
theorem Iv:EvA c i ph {ph with deaf:=ph.deaf+1} #[cF .disable]:=
 .book (fun e he=>by simp at he;exact .inl he) rfl (fun j e he=>.inl (by have:=Array.mem_of_getElem? he;simp at this;subst this;rfl)) Iff.rfl
theorem Iw {d:Nat}(hd:ph.deaf=d+1):EvA c i ph {ph with deaf:=d} #[cF .enable]:=
 .book (fun e he=>by simp at he;exact .inr (.inl he)) (by rw[hd];rfl) (fun j e he=>.inl (by have:=Array.mem_of_getElem? he;simp at this;subst this;rfl)) Iff.rfl
theorem xH {aH:Ph}{a:Addr}(x:Bool)(hd:aH.deaf=ph.deaf)(hg:aH.gp= .cnt↔ph.gp= .cnt)(h0:0<ph.deaf)(b:a.block=c.Wg\/(a.block=c.Mu/\ph.gp= .cnt)):EvA c i ph aH #[⟨.cell a,x,true⟩]:=by
 refine .book (fun e he=>?_) (by rw[hd];simp[deafBehind]) (fun j e he=>?_) hg
 ·simp at he;exact .inr (.inr ⟨a,x,he,b⟩)
 ·match j,he with
  |0,_=>exact .inr (by simpa [deafBehind] using h0)
  |j+1,he=>simp at he
theorem xI {aH:Ph}{a:Addr}(hd:aH.deaf=ph.deaf)(hg:aH.gp= .cnt↔ph.gp= .cnt)(h0:0<ph.deaf)(b:a.block=c.Wg\/(a.block=c.Mu/\ph.gp= .cnt)):EvA c i ph aH #[⟨.cell a,false,true⟩,⟨.cell a,true,true⟩]:=by
 refine .book (fun e he=>?_) (by rw[hd];simp[deafBehind]) (fun j e he=>?_) hg
 ·simp at he;rcases he with he|he<;>exact .inr (.inr ⟨a,_,he,b⟩)
 ·match j,he with
  |0,_=>exact .inr (by simpa [deafBehind] using h0)
  |1,_=>exact .inr (by simpa [deafBehind] using h0)
  |j+2,he=>simp at he
theorem xJ {aH:Ph}{a:Addr}(hd:aH.deaf=ph.deaf)(hg:aH.gp= .cnt↔ph.gp= .cnt)(b:a.block=c.Wg\/(a.block=c.Mu/\ph.gp= .cnt)):EvA c i ph aH (semEvents a):=by
 refine .book (fun e he=>?_) (by rw[hd];simp[deafBehind,semEvents]) (fun j e he=>?_) hg
 ·simp[semEvents] at he
  rcases he with rfl|rfl|rfl|rfl
  ·exact .inl rfl
  ·exact .inr (.inr ⟨a,_,rfl,b⟩)
  ·exact .inr (.inr ⟨a,_,rfl,b⟩)
  ·exact .inr (.inl rfl)
 ·match j,he with
  |0,he=>simp[semEvents] at he;subst he;exact .inl rfl
  |1,_=>exact .inr (by simp[deafBehind,semEvents])
  |2,_=>exact .inr (by simp[deafBehind,semEvents])
  |3,he=>simp[semEvents] at he;subst he;exact .inl rfl
  |j+4,he=>simp[semEvents] at he
theorem Inv.jE (h:Inv c.n c.bs k φ p0 s)(hi:i<c.n)(he:φ i=ph){aH:Ph}{s':Sh}(hg:ph.gp≠ .new)(d:aH.gp≠ .new)(hm:∃C S W L m,cp c.n (upd φ i aH) s'.mu s'.ms C S W L m)(hw:dy c.n (upd φ i aH) p0 s'.wg s'.ws)
  (b:s'.is=s.is.set i aH.stored) (hd:aH.gp≠ .cnt->aH.stored=c.bs i/\aH.mp= .fin):Inv c.n c.bs k (upd φ i aH) p0 s':=by
 refine ⟨hm,hw,by rw[b,List.length_set];exact h.i.len,h.i.kn,fun j a=>?_,fun j a=>?_,fun j a hn=>?_,fun j a h1 h2=>?_⟩<;>by_cases e:j=i
 ·subst e;rw[upd_same,b,List.getElem?_set_self (by rw[h.i.len];exact a)]
 ·rw[upd_ne _ _ e,b,List.getElem?_set_ne (Ne.symm e)];exact h.i.all j a
 ·subst e;rw[upd_same,h.i.born j a,he];exact ⟨fun _=>d,fun _=>hg⟩
 ·rw[upd_ne _ _ e];exact h.i.born j a
 ·subst e;rw[upd_same] at hn;exact absurd hn d
 ·rw[upd_ne _ _ e] at hn ⊢;exact h.i.new j a hn
 ·subst e;rw[upd_same] at h1 h2 ⊢;exact hd h1
 ·rw[upd_ne _ _ e] at h1 h2 ⊢;exact h.i.done j a h1 h2
theorem xK {l:List Bool}{i:Nat}{x:Bool}(h:l[i]?=some x):l.set i x=l:=by
 refine List.ext_getElem? fun j=>?_
 by_cases e:i=j
 ·subst e
  have a:i<l.length:=by
   rcases Nat.lt_or_ge i l.length with y|y
   ·exact y
   ·rw[List.getElem?_eq_none y] at h;cases h
  rw[List.getElem?_set_self a,h]
 ·rw[List.getElem?_set_ne e]
theorem Inv.mutex (h:Inv c.n c.bs k φ p0 s)(hi:i<c.n)(he:φ i=ph)(hg:ph.gp= .cnt){mp:Mp}{mu ms:Int}(hm:∃C S W L m,cp c.n (upd φ i {ph with mp:=mp}) mu ms C S W L m):Inv c.n c.bs k (upd φ i {ph with mp:=mp}) p0 {s with mu:=mu,ms:=ms}:=
 h.jE hi he (by rw[hg];simp) (by rw[hg];simp) hm (s7 h.w hi _ (.inl (by rw[he]))) (by
  have:=h.i.all i hi
  rw[he] at this
  exact (xK this).symm) (fun hn=>absurd hg hn)
theorem Inv.Cg (h:Inv c.n c.bs k φ p0 s)(hi:i<c.n)(he:φ i=ph)(hg:ph.gp≠ .new)(d:Nat):Inv c.n c.bs k (upd φ i {ph with deaf:=d}) p0 s:=by
 subst he;exact h.deaf hi hg d
end
end Go.Sep
end

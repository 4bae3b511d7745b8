/- A part of the proof: QQ9. -/
import Derived.Test.YtnaejeiofbpbkaaGreatDoorQQ8
import Derived.Conc.Own2
import Derived.Conc.Own4
import Derived.Conc.MarkLaws
import Derived.Conc.ClockLaws
import Derived.Conc.SmallLaws
import Derived.Conc.DeferLaws
set_option linter.all false
section
namespace Go.Sep
open Go Go.Conc
structure eo (P:Program)(main:Bool)(J:Goroutine->aa->Prop):Prop where
 move:∀{fr fr':Frame} {cs cs':List Frame} {F:aa},(∀w,stepG P main (G fr cs) w= .go (G fr' cs') w #[])->J (G fr' cs') F->J (G fr cs) F
theorem Closed.eH {P:Program}{main:Bool}{J:Goroutine->aa->Prop}(h:Closed P main J):eo P main J:=⟨fun hs a=>h.move hs a⟩
theorem eO {b:Frame}(h:b.roundOf=none)(a:Act)(todo:List Item):on b a todo=b.at a todo:=by
 cases b;simp only at h;subst h;rfl
structure BF (fi:FuncId)(b:Frame):Prop where
 kind:b.kind≠ .early
 round:b.roundOf=none
 fn:b.fn=fi
section
variable {P:Program}{main:Bool}{S:Type}{JF:S->Goroutine->aa->Prop}{fi:FuncId}
def cO (JF:S->Goroutine->aa->Prop)(fi:FuncId)(c:Code)(Q:Ex->Act->aa->S->Prop)(a:Act)(F:aa)(ph:S):Prop:=
 ∀(b:Frame) (k:List Item) (cs:List Frame),BF fi b->(∀e d F' aK,Q e d F' aK->AO (JF aK) b k cs e d F')->JF ph (G (on b a (.code c::k)) cs) F
def ai (JF:S->Goroutine->aa->Prop)(fi:FuncId)(ops:Array Oper)(i n:Nat)(Q:Act->aa->S->Prop)(a:Act)(F:aa)(ph:S):Prop:=
 ∀(b:Frame) (k:List Item) (cs:List Frame),BF fi b->(∀c F' aK,Q c F' aK->JF aK (G (on b c k) cs) F')->JF ph (G (on b a (.inRegion ops (List.range' i n)::k)) cs) F
def cI (P:Program)(JF:S->Goroutine->aa->Prop)(f:FuncId)(args:Array Value)(F:aa)(ph:S)(R:Value->aa->S->Prop):Prop:=
 ∀(c:Frame) (cs:List Frame),(∀v F' aK,R v F' aK->JF aK (G (c.finish v) cs) F')->JF ph (G (Frame.enter P f args .normal) (c::cs)) F
variable {Q:Ex->Act->aa->S->Prop}{a:Act}{F:aa}{ph:S}
theorem cO.mono {c:Code}{d:Ex->Act->aa->S->Prop}(h:cO JF fi c Q a F ph)(f:∀e a F ph,Q e a F ph->d e a F ph):cO JF fi c d a F ph:=
 fun b k cs hb g=>h b k cs hb fun e i F' aK x=>g e i F' aK (f _ _ _ _ x)
theorem cO.of (hJ:Closed P main (JF ph)){c:Code}(h:Wp (JF ph) c (fun e a F=>Q e a F ph) a F):cO JF fi c Q a F ph:=
 fun b k cs hb d=>h b k cs ⟨hb.kind,.inl hb.round⟩ fun e f F' g=>d e f F' ph g
theorem cJ (c:eo P main (JF ph))(h:Q .normal a F ph):cO JF fi .skip Q a F ph:=fun b k cs _ d=>c.move (fun _=>Aw) (d _ _ _ _ h)
theorem p6 {id:Nat}(h:Q (.exit id) a F ph):cO JF fi (.exit id) Q a F ph:=fun b k cs _ c=>c _ _ _ _ h k rfl
theorem fK (h:Q .ret a F ph):cO JF fi .ret Q a F ph:=fun b k cs _ c=>c _ _ _ _ h k
def Em (JF:S->Goroutine->aa->Prop)(fi:FuncId)(y:Code)(Q:Ex->Act->aa->S->Prop):Ex->Act->aa->S->Prop
 | .normal,a,F,ph=>cO JF fi y Q a F ph
 |e,a,F,ph=>Q e a F ph
theorem aB (f:eo P main (JF ph)){x y:Code}(h:cO JF fi x (Em JF fi y Q) a F ph):cO JF fi (.seq x y) Q a F ph:=fun b k cs hb c=>by
 refine f.move (fun _=>Ay) (h b (.code y::k) cs hb fun e j F' aK d=>?_)
 cases e with
 |normal=>exact d b k cs hb c
 |exit id=>exact fun g i=>c _ _ _ _ d g (by rw[i];rfl)
 |ret=>exact c _ _ _ _ d
theorem En (d:eo P main (JF ph)){c:Operand}{x y:Code}(t:Bool)(e:a.eval c= .bool t)(h:cO JF fi (if t then x else y) Q a F ph):cO JF fi (.cond c x y) Q a F ph:=fun b k cs hb f=>
 d.move (fun _=>Az e) (h b k cs hb f)
theorem c9 (b:eo P main (JF ph)){c:Operand}{x y:Code}(d:ev a c= .bool true)(h:cO JF fi x Q a F ph):cO JF fi (.cond c x y) Q a F ph:=En b true d h
theorem cF (b:eo P main (JF ph)){c:Operand}{x y:Code}(d:ev a c= .bool false)(h:cO JF fi y Q a F ph):cO JF fi (.cond c x y) Q a F ph:=En b false d h
def zz (id:Nat)(Q:Ex->Act->aa->S->Prop):Ex->Act->aa->S->Prop
 | .normal,a,F,ph=>Q .normal a F ph
 | .exit i,a,F,ph=>if i=id then Q .normal a F ph else Q (.exit i) a F ph
 | .ret,a,F,ph=>Q .ret a F ph
theorem kL (g:∀ph,eo P main (JF ph)){id:Nat}{c:Code}(h:cO JF fi c (zz id Q) a F ph):cO JF fi (.block id c) Q a F ph:=fun b k cs hb f=>by
 refine (g ph).move (fun _=>AA) (h b (.inBlock id::k) cs hb fun e m F' aK d=>?_)
 cases e with
 |normal=>exact (g aK).move (fun _=>Ax) (f _ _ _ _ d)
 |exit i=>
  intro j l
  simp only[zz] at d
  by_cases hi:i=id
  .rw[if_pos hi] at d
   subst hi
   have:exitTo i j=some k:=by rw[l];simp[exitTo]
   exact (g aK).move (fun _=>AE this) (f _ _ _ _ d)
  .rw[if_neg hi] at d
   refine f _ _ _ _ d j ?_
   rw[l]
   simp[exitTo,Ne.symm hi]
 |ret=>exact f _ _ _ _ d
def zA (I:Nat->Act->aa->S->Prop)(n:Nat)(Q:Ex->Act->aa->S->Prop):Ex->Act->aa->S->Prop
 | .normal,a,F,ph=>∃m,m<n/\I m a F ph
 |e,a,F,ph=>Q e a F ph
theorem sw (f:∀ph,eo P main (JF ph)){c:Code}(I:Nat->Act->aa->S->Prop)(n:Nat)(h0:I n a F ph)(hs:∀n a F ph,I n a F ph->cO JF fi c (zA I n Q) a F ph):cO JF fi (.loop c) Q a F ph:=by
 intro b k cs hb g;have key:∀n a F ph,I n a F ph->JF ph (G (on b a (.code c:: .inLoop c::k)) cs) F:=by
  intro n
  induction n using Nat.strongRecOn with
  |_ n ih=>
   intro a F ph h;refine hs n a F ph h b (.inLoop c::k) cs hb fun e j F' aK d=>?_;cases e with
   |normal=>
    obtain ⟨m,hm,l⟩:=d;exact (f aK).move (fun _=>AD) (ih m hm j F' aK l)
   |exit i=>exact fun o p=>g _ _ _ _ d o (by rw[p];rfl)
   |ret=>exact g _ _ _ _ d
 exact (f ph).move (fun _=>AB) (key n a F ph h0)
theorem dc (c:∀ph,eo P main (JF ph)){id:Nat}{ops:Array Oper}(h:ai JF fi ops 0 ops.size (Q .normal) a F ph):cO JF fi (.region id ops false) Q a F ph:=fun b k cs hb d=>by
 refine (c ph).move (fun _=>AF) ?_
 rw[List.range_eq_range']
 exact h b k cs hb fun e F' aK f=>d .normal e F' aK f
variable {ops:Array Oper}{i n:Nat}{Q:Act->aa->S->Prop}
theorem ai.nil (c:∀ph,eo P main (JF ph))(h:Q a F ph):ai JF fi ops i 0 Q a F ph:=fun b k cs hb d=>
 (c ph).move (fun _=>AH) (d _ _ _ h)
theorem Eo (hJ:Closed P main (JF ph)):∀(m i n:Nat) (a:Act) (F:aa),gd P (JF ph) ops (fun c F'=>ai JF fi ops (i+m) n Q c F' ph) (List.range' i m) a F->ai JF fi ops i (m+n) Q a F ph
 |0,i,n,a,F,h=>by rw[Nat.zero_add];exact h
 |m+1,i,n,a,F,h=>fun b k cs hb f=>by
  have e:m+1+n=(m+n)+1:=by omega
  rw[e,List.range'_succ]
  rw[List.range'_succ] at h
  refine AK hJ ⟨hb.kind,.inl hb.round⟩ h fun c F' d=>?_
  have e2:i+(m+1)=(i+1)+m:=by omega
  rw[e2] at d
  exact Eo hJ m (i+1) n c F' d b k cs hb f
theorem zB {J:Goroutine->aa->Prop}{K:Act->aa->Prop}:∀(l:List Oper) (k:Nat) (go:Bool) (a:Act) (F:aa),(∀j o,l[j]?=some o->ops[k+j]?=some o)->fD P J ops K l go a F->gd P J ops K (List.range' k l.length) a F
 |[],k,_,a,F,_,h=>by rw[Ba] at h;exact h
 |o::rest,k,go,a,F,b,h=>by
  have d:ops[k]?=some o:=b 0 o rfl
  have c:∀j x,rest[j]?=some x->ops[k+1+j]?=some x:=fun j x e=>by rw[Nat.add_assoc,Nat.add_comm 1 j];exact b (j+1) x e
  simp only[List.length_cons,List.range'_succ]
  show dQ P J ops k (gd P J ops K (List.range' (k+1) rest.length)) a F
  unfold dQ
  simp only[d]
  have h:fD P J ops K (o::rest) true a F:=by unfold fD at h ⊢;exact h
  rw[Bb] at h
  split at h
  .rename_i hg
   rw[if_pos (cg hg)]
   exact ij (qo (fun v F' f=>zB rest (k+1) _ _ F' c f) (fun _ _ x=>x)) _ _ (lR h)
  .rename_i hg
   rw[if_neg (by rw[cg hg];simp)]
   exact zB rest (k+1) _ _ F c h
  .exact h.elim
theorem ai.bG (hJ:Closed P main (JF ph))(m:Nat){n:Nat}(l:List Oper)(c:(ops.toList.drop i).take m=l)(hm:l.length=m)(h:fD P (JF ph) ops (fun d F'=>ai JF fi ops (i+m) n Q d F' ph) l true a F):ai JF fi ops i (m+n) Q a F ph:=by
 subst hm;refine Eo hJ l.length i n a F (zB l i true a F (fun j o b=>?_) h);rw[<-c] at b;have e:j<l.length:=by
  rcases Nat.lt_or_ge j l.length with x|x
  .exact x
  .rw[c,List.getElem?_eq_none x] at b;cases b
 rw[List.getElem?_take,if_pos e,List.getElem?_drop] at b;simpa using b
theorem ai.skip (d:eo P main (JF ph)){o:Oper}(c:ops[i]?=some o)(hg:cD ops o a=some false)(h:ai JF fi ops (i+1) n Q (bf a o.dst undef) F ph):ai JF fi ops i (n+1) Q a F ph:=fun b k cs hb e=>by
 rw[List.range'_succ]
 refine d.move (fun _=>wh (by simp[c,cg hg])) ?_
 simp only[c,Option.bind_some]
 exact h b k cs hb e
theorem ai.plain (c:eo P main (JF ph)){o:Oper}(v:Value)(d:ops[i]?=some o)(hg:cD ops o a=some true)(e:∀w,(execOp a.eval o).run P w= .ok (.value v) w)(he:∀w,(execOp a.eval o).events P w #[]=#[])
  (h:ai JF fi ops (i+1) n Q (bf a o.dst v) F ph):ai JF fi ops i (n+1) Q a F ph:=fun b k cs hb f=>by
 rw[List.range'_succ,eO hb.round]
 refine c.move (fr':=b.at (a.put o.dst v) (.inRegion ops (List.range' (i+1) n)::k)) (fun w=>?_) (by rw[<-eO hb.round];exact h b k cs hb f)
 rw[stepG_value d (cg hg) hb.kind (e w)]
 unfold listed
 rw[he w,seen_none]
theorem ai.call (d:eo P main (JF ph)){o:Oper}{f:FuncId}{args:Array Value}{R:Value->aa->S->Prop}(c:ops[i]?=some o)(hg:cD ops o a=some true)(e:∀w,(execOp a.eval o).run P w= .ok (.enter f args) w)(he:∀w,(execOp a.eval o).events P w #[]=#[])
  (g:cI P JF f args F ph R) (h:∀v F' aK,R v F' aK->ai JF fi ops (i+1) n Q (bf a o.dst v) F' aK):ai JF fi ops i (n+1) Q a F ph:=fun b k cs hb j=>by
 rw[List.range'_succ,eO hb.round]
 refine d.move (fr':=Frame.enter P f args .normal) (cs':=b.at a (.inRegion ops (i::List.range' (i+1) n)::k)::cs) (fun w=>?_) (g _ cs fun v F' aK l=>?_)
 .rw[stepG_enter c (cg hg) hb.kind (e w)]
  unfold listed
  rw[he w,seen_none]
 .rw[Frame.finish_at,c]
  rw[show (Option.some o).bind (·.dst)=o.dst from rfl,<-eO hb.round]
  exact h v F' aK l b k cs hb j
def kM (P:Program)(fn:Func)(R:Value->aa->S->Prop):Ex->Act->aa->S->Prop
 | .exit _,_,_,_=>False
 |_,a,F,ph=>a.defers=[]/\∃v,(∀w,(results fn a.tmps).run P w= .ok v w/\(results fn a.tmps).events P w #[]=#[])/\R v F ph
theorem cI.of (k:∀ph,eo P main (JF ph)){f:FuncId}{fn:Func}{c:Code}{args:Array Value}{R:Value->aa->S->Prop}(l:P.funcs[f]?=some fn)(hb:fn.body=some c)
  (h:cO JF f c (kM P fn R) {tmps:=args++Array.replicate (fn.ntmps - args.size) undef,defers:=[]} F ph):cI P JF f args F ph R:=by
 intro j cs n
 let b:Frame:={(default:Frame) with fn:=f,kind:=.normal}
 have o:b.roundOf=none:=rfl
 have p:Frame.enter P f args .normal=on b {tmps:=args++Array.replicate (fn.ntmps - args.size) undef,defers:=[]} [.code c]:=by
  simp[Frame.enter,on,l,hb,b]
  rfl
 rw[p]
 have leave:∀(d:Act) (todo:List Item) F' aK,d.defers=[]->(∃v,(∀w,(results fn d.tmps).run P w= .ok v w/\(results fn d.tmps).events P w #[]=#[])/\R v F' aK)->JF aK (G {on b d todo with mode:=.returning} (j::cs)) F':=by
  intro d todo F' aK hd ⟨v,m,q⟩
  refine (k aK).move (fr':=j.finish v) (cs':=cs) (fun w=>?_) (n v F' aK q)
  have:=stepG_leave (P:=P) (main:=main) (b:=b) (a:=d) (todo:=todo) (cs:=cs) (w:=w) (c:=j) (v:=v) rfl hd l (m w).1 (m w).2
  rw[eO o];exact this
 refine h b [] (j::cs) ⟨by simp[b],rfl,rfl⟩ fun e d F' aK g=>?_
 cases e with
 |normal=>exact (k aK).move (fun _=>mL rfl) (leave d _ F' aK g.1 g.2)
 |exit i=>exact g.elim
 |ret=>exact fun r=>(k aK).move (fun _=>stepG_ret' rfl) (leave d _ F' aK g.1 g.2)
end
end Go.Sep
namespace Go.Sep
open Go Go.Conc
section
variable {P:Program}{main:Bool}{S:Type}{JF:S->Goroutine->aa->Prop}{F:aa}{ph:S}
theorem cI.go (b:∀ph,eo P main (JF ph)){f:FuncId}{fn:Func}{c:Code}{n:Nat}{args:Array Value}{R:Value->aa->S->Prop}(d:P.funcs[f]?=some fn)(hb:fn.body=some c)(a:fn.ntmps=n)(e:args.size<=n)
  (h:∀A:Act,sz A=n->A.defers=[]->(∀i,slot A i=args.getD i undef)->cO JF f c (kM P fn R) A F ph):cI P JF f args F ph R:=by
 refine cI.of b d hb (h _ (by simp[sz,a];omega) rfl fun i=>?_)
 simp only[slot,a,Array.getD_eq_getD_getElem?]
 rcases Nat.lt_or_ge i args.size with hi|hi
 .rw[Array.getElem?_append_left hi]
 .rw[Array.getElem?_append_right hi,Array.getElem?_replicate,Array.getElem?_eq_none hi]
  split<;>rfl
theorem Ep {fn:Func}{R:Value->aa->S->Prop}{a:Act}(b:fn.results=#[])(hd:a.defers=[])(h:R (.tuple #[]) F ph):kM P fn R .normal a F ph/\kM P fn R .ret a F ph:=
 have x:a.defers=[]/\∃v,(∀w,(results fn a.tmps).run P w= .ok v w/\(results fn a.tmps).events P w #[]=#[])/\R v F ph:=⟨hd,.tuple #[],fun w=>⟨results_none b _ P w,events_results_none b _ _⟩,h⟩
 ⟨x,x⟩
theorem mF {fn:Func}{R:Value->aa->S->Prop}{a:Act}(b:fn.results=#[])(hd:a.defers=[])(h:R (.tuple #[]) F ph):kM P fn R .normal a F ph:=(Ep b hd h).1
theorem p7 {fn:Func}{R:Value->aa->S->Prop}{a:Act}(b:fn.results=#[])(hd:a.defers=[])(h:R (.tuple #[]) F ph):kM P fn R .ret a F ph:=(Ep b hd h).2
theorem mG {fn:Func}{R:Value->aa->S->Prop}{a:Act}{t:Tmp}{v:Value}(b:fn.results=#[.tmp t])(hd:a.defers=[])(c:slot a t=v)(h:R v F ph):kM P fn R .normal a F ph/\kM P fn R .ret a F ph:=
 have x:a.defers=[]/\∃v,(∀w,(results fn a.tmps).run P w= .ok v w/\(results fn a.tmps).events P w #[]=#[])/\R v F ph:=⟨hd,v,fun w=>⟨by rw[<-c];exact results_tmp b _ P w,events_results_tmp b _ _⟩,h⟩
 ⟨x,x⟩
end
end Go.Sep
namespace Go.Sep
open Go Go.Conc
attribute [go_sem] Em zz zA List.getElem_toArray List.getElem_cons_zero List.getElem_cons_succ
section
variable {P:Program}{main:Bool}{S:Type}{JF:S->Goroutine->aa->Prop}{F:aa}{ph:S}{fi:FuncId}{ops:Array Oper}{i n:Nat}{a:Act}{Q:Act->aa->S->Prop}
theorem Er {f:FuncId}(h:aH P f=true)(args:Array Value)(w:World)(es:Array Event):(callFunc f args).run P w= .ok (.enter f args) w/\(callFunc f args).events P w es=es:=by
 unfold aH at h;split at h
 .rename_i fn a;simp only[Bool.not_eq_true',Bool.or_eq_false_iff] at h;obtain ⟨h1,h2⟩:=h;have b:fn.name≠ "runtime.NumGoroutine":=ne_of_beq_false h2;cases hb:fn.body with
  |none=>rw[hb] at h1;cases h1
  |some c=>exact ⟨by simp[callFunc,a,b,hb],by simp[callFunc,a,b,hb]⟩
 .cases h
theorem ai.gD (c:eo P main (JF ph)){o:Oper}{f:FuncId}{cB:Array Operand}{dy:Array TypeId}{args:Array Value}{R:Value->aa->S->Prop}(d:ops[i]?=some o)(hg:cD ops o a=some true)(e:o.op= .call {callee:=.value (.func f),args:=cB,argTypes:=dy})(b:aH P f=true)
  (g:cB.map (ev a)=args) (j:cI P JF f args F ph R) (h:∀v F' aK,R v F' aK->ai JF fi ops (i+1) n Q (bf a o.dst v) F' aK):ai JF fi ops i (n+1) Q a F ph:=by
 have e1:execOp a.eval o=callFunc f args:=by rw[execOp_call_func (a:=a) e,<-g];rfl
 exact ai.call c d hg (fun w=>by rw[e1];exact (Er b args w #[]).1) (fun w=>by rw[e1];exact (Er b args w #[]).2) j h
end
structure Entry (P:Program)(f:FuncId)(e:Array Value->Sem Value):Prop where
 ex:∃fn,P.funcs[f]?=some fn/\(fn.name== "runtime.NumGoroutine")=false/\fn.body.isNone=true/\Extern.findNext fn=none/\Extern.find fn=some e
theorem Entry.Es {P:Program}{f:FuncId}{e:Array Value->Sem Value}(h:Entry P f e):(P.funcs[f]?).any (·.body.isSome)=false:=by
 obtain ⟨fn,a,_,hb,_⟩:=h.ex;rw[a];simpa using hb
end Go.Sep
end
section
namespace Go.Proofs.YtnaejeiofbpbkaaGreatDoor
open Go Go.Sep Go.Proofs Go.Conc
open Go.ConcN (upd)
open Go.ConcM (muA msA)
open Go.ConcR (stA smA)
set_option maxRecDepth 100000
set_option maxHeartbeats 4000000
theorem sx:Entry Tryz.prog 154 (fun _=>do mark .disable;pure Extern.Race.none_):=⟨_,Tryz.func154,by kernel_rfl,by kernel_rfl,by kernel_rfl,by kernel_rfl⟩
theorem mH:Entry Tryz.prog 155 (fun _=>do mark .enable;pure Extern.Race.none_):=⟨_,Tryz.func155,by kernel_rfl,by kernel_rfl,by kernel_rfl,by kernel_rfl⟩
theorem vw:Entry Tryz.prog 169 (Extern.Race.marked .acquire):=⟨_,Tryz.func169,by kernel_rfl,by kernel_rfl,by kernel_rfl,by kernel_rfl⟩
theorem Et:Entry Tryz.prog 153 (Extern.Race.marked .releaseMerge):=⟨_,Tryz.func153,by kernel_rfl,by kernel_rfl,by kernel_rfl,by kernel_rfl⟩
theorem vz:Entry Tryz.prog 187 (Extern.Atomic.casT (.int .i32)):=⟨_,Tryz.func187,by kernel_rfl,by kernel_rfl,by kernel_rfl,by kernel_rfl⟩
theorem zC:Entry Tryz.prog 189 (Extern.Atomic.update (Op.intArith .add) .i32 true):=⟨_,Tryz.func189,by kernel_rfl,by kernel_rfl,by kernel_rfl,by kernel_rfl⟩
theorem Lo:Entry Tryz.prog 208 Extern.Sync.semacquire:=⟨_,Tryz.func208,by kernel_rfl,by kernel_rfl,by kernel_rfl,by kernel_rfl⟩
theorem Eu:Entry Tryz.prog 210 Extern.Sync.semrelease:=⟨_,Tryz.func210,by kernel_rfl,by kernel_rfl,by kernel_rfl,by kernel_rfl⟩
theorem Ev:Entry Tryz.prog 207 Extern.OsHooks.nano:=⟨_,Tryz.func207,by kernel_rfl,by kernel_rfl,by kernel_rfl,by kernel_rfl⟩
theorem Lp:Entry Tryz.prog 204 Extern.Sync.canSpin:=⟨_,Tryz.func204,by kernel_rfl,by kernel_rfl,by kernel_rfl,by kernel_rfl⟩
theorem Lq:Entry Tryz.prog 205 (fun _=>pure (.tuple #[])):=⟨_,Tryz.func205,by kernel_rfl,by kernel_rfl,by kernel_rfl,by kernel_rfl⟩
theorem zD:Entry Tryz.prog 184 (Extern.Atomic.loadT (.int .u64)):=⟨_,Tryz.func184,by kernel_rfl,by kernel_rfl,by kernel_rfl,by kernel_rfl⟩
theorem Ew:Entry Tryz.prog 183 (Extern.Atomic.update (Op.intArith .add) .u64 true):=⟨_,Tryz.func183,by kernel_rfl,by kernel_rfl,by kernel_rfl,by kernel_rfl⟩
theorem Lr:Entry Tryz.prog 191 (Extern.Atomic.casT (.int .u64)):=⟨_,Tryz.func191,by kernel_rfl,by kernel_rfl,by kernel_rfl,by kernel_rfl⟩
theorem Ls:Entry Tryz.prog 185 Extern.Atomic.storeT:=⟨_,Tryz.func185,by kernel_rfl,by kernel_rfl,by kernel_rfl,by kernel_rfl⟩
theorem Ey:Entry Tryz.prog 156 (fun _=>pure (.bool false)):=⟨_,Tryz.func156,by kernel_rfl,by kernel_rfl,by kernel_rfl,by kernel_rfl⟩
theorem Lt:Entry Tryz.prog 161 (Extern.Race.marked .read):=⟨_,Tryz.func161,by kernel_rfl,by kernel_rfl,by kernel_rfl,by kernel_rfl⟩
theorem Lu:Entry Tryz.prog 172 (Extern.Race.marked .write):=⟨_,Tryz.func172,by kernel_rfl,by kernel_rfl,by kernel_rfl,by kernel_rfl⟩
theorem Lv:Entry Tryz.prog 173 Extern.Sync.semacquire:=⟨_,Tryz.func173,by kernel_rfl,by kernel_rfl,by kernel_rfl,by kernel_rfl⟩
theorem Lx:Entry Tryz.prog 165 Extern.Sync.semrelease:=⟨_,Tryz.func165,by kernel_rfl,by kernel_rfl,by kernel_rfl,by kernel_rfl⟩
theorem zE:Tryz.prog.underlying 233=some (.pointer 179):=by kernel_rfl
theorem zF:Tryz.prog.underlying 204=some (.pointer 188):=by kernel_rfl
theorem Ez:Tryz.prog.underlying 212=some (.pointer 177):=by kernel_rfl
theorem mI:Tryz.prog.underlying 206=some .unsafePointer:=by kernel_rfl
theorem p8:Tryz.prog.underlying 21=some (.int .i32):=by kernel_rfl
theorem Ly:Tryz.prog.underlying 4=some .bool:=by kernel_rfl
theorem zG:(Tryz.prog.info? 179).map (fun i=>decide (i.size=0))=some false:=by kernel_rfl
theorem zH:(Tryz.prog.info? 188).map (fun i=>decide (i.size=0))=some false:=by kernel_rfl
theorem EA:(Tryz.prog.info? 177).map (fun i=>decide (i.size=0))=some false:=by kernel_rfl
theorem vA:(Tryz.prog.funcs[188]?).any (·.norace)=true:=by kernel_rfl
theorem Lz:(Tryz.prog.funcs[168]?).any (·.norace)=true:=by kernel_rfl
theorem LA:(Tryz.prog.funcs[190]?).any (·.norace)=true:=by kernel_rfl
theorem EB:(Tryz.prog.funcs[207]?).any (·.norace)=true:=by kernel_rfl
noncomputable abbrev CY (Mu Wg Is n:Nat)(bs:Nat->Bool)(base T0:Nat):Cy:=⟨Tryz.prog,Mu,Wg,Is,181,188,4,n,bs,base,T0⟩
end Go.Proofs.YtnaejeiofbpbkaaGreatDoor
end
section
namespace Go.Sep
open Go Go.Conc
open Go.ConcN (sumTo upd upd_ne upd_same)
open Go.ConcM (MuAt muA msA muBlock OsLater)
open Go.ConcR (WgAt wgBlock stA smA)
def At (ops:Array Oper)(j:Nat)(a:Act)(f:FuncId)(vals:List Value)(d:Option Tmp):Prop:=
 ∃o cB dy,ops[j]?=some o/\cD ops o a=some true/\o.op= .call {callee:=.value (.func f),args:=cB,argTypes:=dy}/\cB.toList.map (ev a)=vals/\o.dst=d
def ob (ops:Array Oper)(j:Nat)(a:Act)(op:Op)(d:Option Tmp):Prop:=∃o,ops[j]?=some o/\cD ops o a=some true/\o.op=op/\o.dst=d
theorem kN {a:Act}{cB:Array Operand}{p:Value}(h:cB.toList.map (ev a)=[p]):∃x,cB=#[x]/\ev a x=p:=by
 obtain ⟨l⟩:=cB
 match l,h with
 |[x],h=>exact ⟨x,rfl,by simpa using h⟩
theorem sA {a:Act}{cB:Array Operand}{p q:Value}(h:cB.toList.map (ev a)=[p,q]):∃x y,cB=#[x,y]/\ev a x=p/\ev a y=q:=by
 obtain ⟨l⟩:=cB
 match l,h with
 |[x,y],h=>exact ⟨x,y,rfl,by simpa using h⟩
theorem sB {a:Act}{cB:Array Operand}{p q r:Value}(h:cB.toList.map (ev a)=[p,q,r]):∃x y z,cB=#[x,y,z]/\ev a x=p/\ev a y=q/\ev a z=r:=by
 obtain ⟨l⟩:=cB
 match l,h with
 |[x,y,z],h=>exact ⟨x,y,z,rfl,by simpa using h⟩
abbrev WJ (c:Cy)(i:Nat):Ph->Goroutine->aa->Prop:=fun ph g F=>Wk c i ph g F
section
variable {c:Cy}{i:Nat}{ph:Ph}{φ:Nat->Ph}{p0:P0}{k:Nat}{s:Sh}{w:World}
theorem zI {α:Type}(f:Nat->α)(i:Nat):upd f i (f i)=f:=by
 funext j;by_cases h:j=i
 .subst h;exact upd_same _ _ _
 .exact upd_ne _ _ h
theorem od {aK:Ph}(hd:aK.deaf=ph.deaf)(hg:aK.gp= .cnt↔ph.gp= .cnt):EvA c i ph aK #[]:=.book (by simp) (by rw[hd];rfl) (by simp) hg
theorem WJ.eH (c:Cy)(i:Nat)(ph:Ph):eo c.P false (WJ c i ph):=⟨fun {fr fr' cs cs' F} hs h=>by
 by_cases hg:ph.gp= .gone
 .obtain ⟨F0,r,hle,hW⟩:=h
  obtain ⟨q,_,a⟩:=hW.left hg
  exact Wk.gone (q:=q+1) hg (.inr ⟨rfl,G fr' cs',#[],by simp,hs,by rw[deafBehind_nil];exact a⟩)
 .refine Wk.act rfl rfl hg fun w s k φ p0 h1 h2 h3 b d=>.inr ⟨G fr' cs',w,#[],s,ph,hs w,h2,.refl _ _,?_,od rfl Iff.rfl,.inr ⟨Int.le_refl _,Int.le_refl _⟩,h⟩
  rw[<-b,zI];exact d⟩
variable {ops:Array Oper}{j n:Nat}{Q:Act->aa->Ph->Prop}{a:Act}{F:aa}{o:Oper}{f fi:FuncId}{cB:Array Operand}{dy:Array TypeId}
theorem fL (g:ops[j]?=some o)(l:ph.gp≠ .gone)
  (h:∀(w:World) (s:Sh) (k:Nat) (φ:Nat->Ph) (p0:P0),Has F w->cA c w s->i<c.n->φ i=ph->Inv c.n c.bs k φ p0 s->
   (ph.mp.jg=true/\s.ms=0/\∀(b:Frame) (d:List Item) (cs:List Frame),stepG c.P false (G (b.at a (.inRegion ops (j::List.range' (j+1) n)::d)) cs) w= .go {G (b.at a (.inRegion ops (j::List.range' (j+1) n)::d)) cs with status:=.blocked} w #[])\/
   (∃(v:Value) (w':World) (es:Array Event) (s':Sh) (aK:Ph),(∀(b:Frame) (d:List Item) (cs:List Frame),BF fi b->
    stepG c.P false (G (b.at a (.inRegion ops (j::List.range' (j+1) n)::d)) cs) w= .go (G (b.at (a.put o.dst v) (.inRegion ops (List.range' (j+1) n)::d)) cs) w' es)/\cA c w' s'/\iN c w w'/\Inv c.n c.bs k (upd φ i aK) p0 s'/\EvA c i ph aK es/\
    ((∃call,o.op= .call call/\∀x,call.callee= .value x->∃f,a.eval x= .func (.func f) #[] #[]/\(c.P.funcs[f]?).any (·.body.isSome)=false)\/(s'.ms<=s.ms/\s'.ws<=s.ws))/\ai (WJ c i) fi ops (j+1) n Q (a.put o.dst v) F aK)):ai (WJ c i) fi ops j (n+1) Q a F ph:=fun b d cs hb m=>by
 rw[List.range'_succ,eO hb.round]
 refine Wk.act rfl rfl l fun w s k φ p0 e1 e2 p q r=>?_
 rcases h w s k φ p0 e1 e2 p q r with ⟨x,y,z⟩|⟨v,w',es,s',aK,z,t,u,A,B,e,C⟩
 .exact .inl ⟨x,y,z b d cs⟩
 .refine .inr ⟨_,w',es,s',aK,z b d cs hb,t,u,A,B,?_,?_⟩
  .rcases e with ⟨call,D,E⟩|e
   .refine .inl ?_
    simp only[mayWake,G,Frame.at,g,Option.map_some,D]
    obtain ⟨callee,args,argTypes⟩:=call
    cases callee with
    |value x=>
     obtain ⟨f,H,hb⟩:=E x rfl
     have:Frame.eval (b.at a (.inRegion ops (j::List.range' (j+1) n)::d)) x= .func (.func f) #[] #[]:=by rw[Frame.eval_at];exact H
     simp only[Frame.at] at this
     simp only[this,hb,Bool.not_false]
    |_=>rfl
   .exact .inr e
  .rw[<-eO hb.round];exact C b d cs hb m
theorem heap_set (w:World){a:Addr}{v:Value}{cs:Array Value}{t:TypeId}{fr:Nat×Nat}(h:w.heap[a.block]?=some (.cells cs t fr))(hs:a.spot=none):(w.setCell a v).heap[a.block]?=some (.cells (cs.setIfInBounds a.off v) t fr):=by
 simp[World.setCell,Array.getElem?_modify,h,hs]
theorem jW (w:World){a:Addr}{v:Value}{b:Nat}(h:b≠a.block):(w.setCell a v).heap[b]?=w.heap[b]?:=by
 simp only[World.setCell];rw[Array.getElem?_modify,if_neg (fun e=>h e.symm)]
theorem cA.mu (h:cA c w s):w.cell? (muA c.Mu)=some (.int .i32 s.mu)/\w.frozen? (muA c.Mu)=false:=by
 have:=h.1;unfold MuAt muBlock at this;simp[World.cell?,World.frozen?,muA,this]
theorem cA.ms (h:cA c w s):w.cell? (msA c.Mu)=some (.int .u32 s.ms)/\w.frozen? (msA c.Mu)=false:=by
 have:=h.1;unfold MuAt muBlock at this;simp[World.cell?,World.frozen?,msA,this]
theorem cA.wg (h:cA c w s):w.cell? (stA c.Wg)=some (.int .u64 s.wg)/\w.frozen? (stA c.Wg)=false:=by
 have:=h.2.1;unfold WgAt wgBlock at this;simp[World.cell?,World.frozen?,stA,this]
theorem cA.ws (h:cA c w s):w.cell? (smA c.Wg)=some (.int .u32 s.ws)/\w.frozen? (smA c.Wg)=false:=by
 have:=h.2.1;unfold WgAt wgBlock at this;simp[World.cell?,World.frozen?,smA,this]
theorem iN.set {a:Addr}(v:Value)(h:c.shared a.block):iN c w (w.setCell a v):=
 ⟨rfl,rfl,by simp[World.setCell],.refl _,fun b hb=>jW w fun e=>hb (e▸h)⟩
theorem cA.EC (aG:c.Mu≠c.Wg/\c.Mu≠c.Is/\c.Wg≠c.Is)(h:cA c w s)(v:Int):cA c (w.setCell (muA c.Mu) (.int .i32 v)) {s with mu:=v}:=by
 obtain ⟨h1,h2,h3⟩:=h;refine ⟨?_,?_,?_⟩
 .unfold MuAt muBlock at*;exact (heap_set w (a:=muA c.Mu) h1 rfl).trans rfl
 .unfold WgAt at*;rw[jW w (Ne.symm aG.1)];exact h2
 .rw[jW w (Ne.symm aG.2.1)];exact h3
theorem cA.ED (aG:c.Mu≠c.Wg/\c.Mu≠c.Is/\c.Wg≠c.Is)(h:cA c w s)(v:Int):cA c (w.setCell (msA c.Mu) (.int .u32 v)) {s with ms:=v}:=by
 obtain ⟨h1,h2,h3⟩:=h;refine ⟨?_,?_,?_⟩
 .unfold MuAt muBlock at*;exact (heap_set w (a:=msA c.Mu) h1 rfl).trans rfl
 .unfold WgAt at*;rw[jW w (Ne.symm aG.1)];exact h2
 .rw[jW w (Ne.symm aG.2.1)];exact h3
theorem cA.vB (aG:c.Mu≠c.Wg/\c.Mu≠c.Is/\c.Wg≠c.Is)(h:cA c w s)(v:Int):cA c (w.setCell (stA c.Wg) (.int .u64 v)) {s with wg:=v}:=by
 obtain ⟨h1,h2,h3⟩:=h;refine ⟨?_,?_,?_⟩
 .unfold MuAt at*;rw[jW w aG.1];exact h1
 .unfold WgAt wgBlock at*;exact (heap_set w (a:=stA c.Wg) h2 rfl).trans rfl
 .rw[jW w (Ne.symm aG.2.2)];exact h3
theorem cA.EE (aG:c.Mu≠c.Wg/\c.Mu≠c.Is/\c.Wg≠c.Is)(h:cA c w s)(v:Int):cA c (w.setCell (smA c.Wg) (.int .u32 v)) {s with ws:=v}:=by
 obtain ⟨h1,h2,h3⟩:=h;refine ⟨?_,?_,?_⟩
 .unfold MuAt at*;rw[jW w aG.1];exact h1
 .unfold WgAt wgBlock at*;exact (heap_set w (a:=smA c.Wg) h2 rfl).trans rfl
 .rw[jW w (Ne.symm aG.2.2)];exact h3
theorem cA.LB (aG:c.Mu≠c.Wg/\c.Mu≠c.Is/\c.Wg≠c.Is)(h:cA c w s)(m:Nat)(v:Bool):cA c (w.setCell ⟨c.Is,m,none⟩ (.bool v)) {s with is:=s.is.set m v}:=by
 obtain ⟨h1,h2,h3⟩:=h;refine ⟨?_,?_,?_⟩
 .unfold MuAt at*;rw[jW w aG.2.1];exact h1
 .unfold WgAt at*;rw[jW w aG.2.2];exact h2
 .rw[heap_set w (a:=⟨c.Is,m,none⟩) h3 rfl];simp[List.map_set]
theorem LC:EvA c i ph {ph with deaf:=ph.deaf+1} #[cK .disable]:=
 .book (fun e he=>by simp at he;exact .inl he) rfl (fun j e he=>.inl (by have:=Array.mem_of_getElem? he;simp at this;subst this;rfl)) Iff.rfl
theorem LD {d:Nat}(hd:ph.deaf=d+1):EvA c i ph {ph with deaf:=d} #[cK .enable]:=
 .book (fun e he=>by simp at he;exact .inr (.inl he)) (by rw[hd];rfl) (fun j e he=>.inl (by have:=Array.mem_of_getElem? he;simp at this;subst this;rfl)) Iff.rfl
theorem zJ {aK:Ph}{a:Addr}(x:Bool)(hd:aK.deaf=ph.deaf)(hg:aK.gp= .cnt↔ph.gp= .cnt)(h0:0<ph.deaf)(b:a.block=c.Wg\/(a.block=c.Mu/\ph.gp= .cnt)):EvA c i ph aK #[⟨.cell a,x,true⟩]:=by
 refine .book (fun e he=>?_) (by rw[hd];simp[deafBehind]) (fun j e he=>?_) hg
 .simp at he;exact .inr (.inr ⟨a,x,he,b⟩)
 .match j,he with
  |0,_=>exact .inr (by simpa [deafBehind] using h0)
  |j+1,he=>simp at he
theorem zK {aK:Ph}{a:Addr}(hd:aK.deaf=ph.deaf)(hg:aK.gp= .cnt↔ph.gp= .cnt)(h0:0<ph.deaf)(b:a.block=c.Wg\/(a.block=c.Mu/\ph.gp= .cnt)):EvA c i ph aK #[⟨.cell a,false,true⟩,⟨.cell a,true,true⟩]:=by
 refine .book (fun e he=>?_) (by rw[hd];simp[deafBehind]) (fun j e he=>?_) hg
 .simp at he;rcases he with he|he<;>exact .inr (.inr ⟨a,_,he,b⟩)
 .match j,he with
  |0,_=>exact .inr (by simpa [deafBehind] using h0)
  |1,_=>exact .inr (by simpa [deafBehind] using h0)
  |j+2,he=>simp at he
theorem zL {aK:Ph}{a:Addr}(hd:aK.deaf=ph.deaf)(hg:aK.gp= .cnt↔ph.gp= .cnt)(b:a.block=c.Wg\/(a.block=c.Mu/\ph.gp= .cnt)):EvA c i ph aK (semEvents a):=by
 refine .book (fun e he=>?_) (by rw[hd];simp[deafBehind,semEvents]) (fun j e he=>?_) hg
 .simp[semEvents] at he;rcases he with rfl|rfl|rfl|rfl
  .exact .inl rfl
  .exact .inr (.inr ⟨a,_,rfl,b⟩)
  .exact .inr (.inr ⟨a,_,rfl,b⟩)
  .exact .inr (.inl rfl)
 .match j,he with
  |0,he=>simp[semEvents] at he;subst he;exact .inl rfl
  |1,_=>exact .inr (by simp[deafBehind,semEvents])
  |2,_=>exact .inr (by simp[deafBehind,semEvents])
  |3,he=>simp[semEvents] at he;subst he;exact .inl rfl
  |j+4,he=>simp[semEvents] at he
theorem Inv.kK (h:Inv c.n c.bs k φ p0 s)(hi:i<c.n)(he:φ i=ph){aK:Ph}{s':Sh}(hg:ph.gp≠ .new)(f:aK.gp≠ .new)(hm:∃C S W L m,cu c.n (upd φ i aK) s'.mu s'.ms C S W L m)(hw:dM c.n (upd φ i aK) p0 s'.wg s'.ws)
  (d:s'.is=s.is.set i aK.stored) (hd:aK.gp≠ .cnt->aK.stored=c.bs i/\aK.mp= .fin):Inv c.n c.bs k (upd φ i aK) p0 s':=by
 refine ⟨hm,hw,by rw[d,List.length_set];exact h.i.len,h.i.kn,fun j a=>?_,fun j a=>?_,fun j a b=>?_,fun j a h1 h2=>?_⟩<;>by_cases e:j=i
 .subst e;rw[upd_same,d,List.getElem?_set_self (by rw[h.i.len];exact a)]
 .rw[upd_ne _ _ e,d,List.getElem?_set_ne (Ne.symm e)];exact h.i.all j a
 .subst e;rw[upd_same,h.i.born j a,he];exact ⟨fun _=>f,fun _=>hg⟩
 .rw[upd_ne _ _ e];exact h.i.born j a
 .subst e;rw[upd_same] at b;exact absurd b f
 .rw[upd_ne _ _ e] at b ⊢;exact h.i.new j a b
 .subst e;rw[upd_same] at h1 h2 ⊢;exact hd h1
 .rw[upd_ne _ _ e] at h1 h2 ⊢;exact h.i.done j a h1 h2
theorem zM {l:List Bool}{i:Nat}{x:Bool}(h:l[i]?=some x):l.set i x=l:=by
 refine List.ext_getElem? fun j=>?_;by_cases e:i=j
 .subst e;have a:i<l.length:=by
   rcases Nat.lt_or_ge i l.length with y|y
   .exact y
   .rw[List.getElem?_eq_none y] at h;cases h
  rw[List.getElem?_set_self a,h]
 .rw[List.getElem?_set_ne e]
theorem Inv.mutex (h:Inv c.n c.bs k φ p0 s)(hi:i<c.n)(he:φ i=ph)(hg:ph.gp= .cnt){mp:Mp}{mu ms:Int}(hm:∃C S W L m,cu c.n (upd φ i {ph with mp:=mp}) mu ms C S W L m):Inv c.n c.bs k (upd φ i {ph with mp:=mp}) p0 {s with mu:=mu,ms:=ms}:=
 h.kK hi he (by rw[hg];simp) (by rw[hg];simp) hm (vp h.w hi _ (.inl (by rw[he]))) (by
  have:=h.i.all i hi
  rw[he] at this
  exact (zM this).symm) (fun a=>absurd hg a)
theorem Inv.EF (h:Inv c.n c.bs k φ p0 s)(hi:i<c.n)(he:φ i=ph)(hg:ph.gp≠ .new)(d:Nat):Inv c.n c.bs k (upd φ i {ph with deaf:=d}) p0 s:=by
 subst he;exact h.deaf hi hg d
end
end Go.Sep
end

/- A part of the proof: QX12. -/
import Derived.Test.YtdgblangfefjmaaGreatDoorQX11
import Derived.Carry
import Derived.Deep.Slices
import Derived.Deep.Fields
import Derived.LaidHandle
import Derived.LaidMore
import Derived.Lay
import Derived.OpenShut
import Derived.LaidLaws
import Derived.Conc.HoldsTime
set_option linter.all false
section
namespace Go.Sep
open Go Go.ChangeShapes Go.WideShapes Go.Deep Go.RowKit Go.Conc Go.ConcM
section
variable {H:Type}{enc:TypeId×Value->H}{P:Program}{w:World}{base:Nat}{spare:Nat->Bool}{held:Bool}
theorem JK (w:World):Has ⟨fun a=>w.cell? a,[]⟩ w:=⟨fun _ _ h=>h,fun _ _ h=>(by cases h),List.nodup_nil,fun _ _ _ h=>(by cases h)⟩
theorem s5 {T:Type}{r:cc T}{t e:TypeId}{fuel:Nat}{cs:List Value}{x:DataW H×List MemPlace}(ht:P.underlying t=some (.slice e))(hC:P.cellsOf e=r.n)
  (o:∀n cs' y,DataW.trod enc P w base spare held n e cs'=some y->∃z:T,r.rel (fun a=>w.cell? a) z cs') (h:DataW.trod enc P w base spare held fuel t cs=some x)
  (hb:∀es sp,x.1= .slice es sp->es.length<=1000000000000000):∃s l,cs=[s]/\aB r (fun a=>w.cell? a) s l:=by
 rcases open_slice ht h with ⟨p,_⟩|⟨a,len,cap,m,n,D,K,q,_,u,_,A,B,C⟩
 .exact ⟨_,[],p,aB.nil _ _⟩
 have L:len<=m:=by rw[A];split<;>omega
 have hex:∀i,∃z:Option T,i<len->∃c cs',z=some c/\w.cells? base (a.add (i*P.cellsOf e)) (P.cellsOf e)=some cs'/\r.rel (fun a=>w.cell? a) c cs':=by
  intro i
  by_cases h:i<len
  .obtain ⟨cs',E,F⟩:=C i aa
   obtain ⟨z,b⟩:=o _ _ _ F
   exact ⟨some z,fun _=>⟨z,cs',rfl,E,b⟩⟩
  .exact ⟨none,fun x=>absurd x h⟩
 obtain ⟨g,hg⟩:=Classical.axiomOfChoice hex
 have hlen:((List.range len).filterMap g).length=len/\∀i,i<len->((List.range len).filterMap g)[i]?=g i:=by
  have:∀k,k<=len->((List.range k).filterMap g).length=k/\∀i,i<k->((List.range k).filterMap g)[i]?=g i:=by
   intro k
   induction k with
   |zero=>exact fun _=>⟨rfl,fun i h=>aa⟩
   |succ k ih=>
    intro M
    obtain ⟨i1,i2⟩:=ih aa
    obtain ⟨z,_,b,_⟩:=hg k aa
    rw[List.range_succ,List.filterMap_append]
    simp only[List.filterMap_cons,b,List.filterMap_nil]
    refine ⟨by simp[i1],fun i h=>?_⟩
    by_cases G:i<k
    .rw[List.getElem?_append_left aa];exact i2 i G
    .obtain rfl:i=k:=aa
     rw[List.getElem?_append_right aa,i1,b];simp
  exact this len (Nat.le_refl _)
 refine ⟨_,(List.range len).filterMap g,q,some a,cap,by rw[hlen.1],by rw[hlen.1];exact u,?_,fun i z b=>?_⟩
 .rw[hlen.1]
  have:=hb _ _ (by rw[B])
  simpa using this
 .have d:i<len:=by
   have:=(List.getElem?_eq_some_iff.1 b).1
   rw[hlen.1] at this;exact this
  rw[hlen.2 i d] at b
  obtain ⟨c,cs',e1,e2,I⟩:=hg i d
  rw[b] at e1
  obtain rfl:=Option.some.inj e1
  rw[hC] at e2
  obtain ⟨_,N,J⟩:=World.cells?_some e2
  exact ⟨a,cs',rfl,I,fun j v f=>by
   have:j<r.n:=by
    have:=(List.getElem?_eq_some_iff.1 f).1
    omega
   exact (J j this).trans f⟩
theorem lF {t:TypeId}{b:Array Field}{fuel:Nat}{cs:List Value}{x:DataW H×List MemPlace}(ht:P.underlying t=some (.struct b))(h:DataW.trod enc P w base spare held fuel t cs=some x):
  cs.length=P.cellsOf t/\∃(ys:List (DataW H×List MemPlace)) (n:Nat),x.1= .agg (ys.map (·.1))/\∀(i:Nat) (f:Field) (a o k:Nat),b[i]?=some f->f.type=a->f.offset=o->P.cellsOf a=k->∃y,ys[i]?=some y/\DataW.trod enc P w base spare held n a ((cs.drop o).take k)=some y:=by
 obtain ⟨ys,n,_,e,g,q,j⟩:=DataW.trod_struct ht h
 refine ⟨g,ys,n,by rw[e],fun i f a o k c l m p=>?_⟩
 subst l m p
 have:i<b.size:=(Array.getElem?_eq_some_iff.1 c).1
 have d:ys[i]?=some (ys[i]'aa):=List.getElem?_eq_getElem aa
 exact ⟨_,d,(j i f c).trans d⟩
theorem B2 {t:TypeId}{ps rs:Array TypeId}{b:Bool}{fuel:Nat}{cs:List Value}{x:DataW H×List MemPlace}(ht:P.underlying t=some (.func ps rs b))(h:DataW.trod enc P w base spare held fuel t cs=some x):
  x.1= .nil\/∃f a c,cs=[.func f a c]/\x.1= .held (enc (t,.func f a c)):=by
 cases fuel with
 |zero=>simp[DataW.trod] at h
 |succ m=>
  unfold DataW.trod at h
  rw[ht] at h
  split at h
  all_goals first
   |(rename_i e;cases e;done)
   |(rename_i e _;cases e;done)
   |(rename_i e _ _;cases e;done)
   |(obtain rfl:=Option.some.inj h;exact .inl rfl)
   |(split at h
     .obtain rfl:=Option.some.inj h;exact .inr ⟨_,_,_,rfl,rfl⟩
     .cases h)
   |(cases h;done)
end
theorem s6 {H:Type}{P:Program}{a:List TypeId}{b:List (DataW H)}(h:(DataW.weightsEach P a b).all (· <=reachBytes)=true){j i:Nat}{t u e:TypeId}{c:Array Field}{f:Field}{parts:List (DataW H)}
  (d:a[j]?=some t) (g:b[j]?=some (.agg parts)) (k:P.underlying t=some (.struct c)) (l:c[i]?=some f) (m:f.type=u) (n:P.underlying u=some (.slice e)) (o:1<=P.bytesOf e)
  {es sp:List (DataW H)} (p:parts[i]?=some (.slice es sp)):es.length<=1000000000000000:=by
 have q:(es.length+sp.length)*P.bytesOf e∈(DataW.slice es sp).weights P u:=by simp[DataW.weights,n]
 have r:(es.length+sp.length)*P.bytesOf e∈(DataW.agg parts).weights P t:=by
  simp only[DataW.weights,k]
  exact DataW.weights_mem_each (j:=i) (t:=u) (by rw[List.getElem?_map,Array.getElem?_toList,l];simp[m]) p _ q
 have s:=DataW.weights_mem_each d g _ r
 have:=List.all_eq_true.1 h _ s
 simp only[decide_eq_true_eq] at this
 have v:=reachBytes_lt
 have:es.length<=(es.length+sp.length)*P.bytesOf e:=Nat.le_trans (Nat.le_add_right _ _) (Nat.le_mul_of_pos_right _ o)
 omega
theorem JL {a:Assume}{C:Checked}{os:Os}{f:FuncId}{fn:Func}{s:ChangeSpec}{F:Stop.Interp}{conds:List PathCond}{apart fresh handsOn:Bool}{H:Type}{enc:TypeId×Value->H}{X:World->Prop}
  (h:∀w w':World,w'.heap=w.heap->X w->X w')
  (own:ownKnob C.prog.godebug=none) (started:os.Started) (k:C.prog.funcs[f]?=some fn)
  (witness:∃(w:World) (tape:Tape) (i:Input),w.os=os/\(w.forCall tape i).Shaped C.prog/\i.vars=[]/\Input.okWide C.prog (w.forCall tape i) .any w.heap.size f i/\
   ((s.pre enc C.prog fn conds apart (w.forCall tape i).memory i.args/\X (w.forCall tape i).memory)/\sizedMet enc C.prog fn (OpenSpec.ofChange s) apart (w.forCall tape i).memory i.args)/\a.holds C.prog (lone (Frame.enter C.prog f i.args .normal) [] (w.forCall tape i)))
  (runs:∀(W:World) (base:Nat) (args:Array Value) (b gs:List (DataW H)) (before:List MemPlace),
   (∀(j:Nat) t v,fn.params[j]?=some t->args[j]?=some v->Value.okWide C.prog W .any base t v)->
   DataW.Whole enc C.prog fn.params.toList s.vars apart W args.toList b gs before->
   conds.all (PathCond.test C.prog ⟨fn.params.toList,b,s.plain.varTypes C.prog,gs⟩)=true->
   (DataW.weightsEach C.prog (fn.params.toList++s.plain.varTypes C.prog) (b++gs)).all (· <=reachBytes)=true->X W->
   ∃M last o w' c,runNT C.prog (M+1) (solo (G (Frame.enter C.prog f args .normal) []) W) #[]=(.ended o w',c)/\runN C.prog M (solo (G (Frame.enter C.prog f args .normal) []) W)= .next last/\
    step C.prog last= .ended o w'/\Conc.Good C.prog (fun v d=>s.post enc C.prog fn apart fresh handsOn false W args v {d with os:=W.os}/\OsLater W.os d.os) last o w' c):
  ReturnsInLeavingWide a C os f .any (fun w args=>(s.pre enc C.prog fn conds apart w args/\X w)/\sizedMet enc C.prog fn (OpenSpec.ofChange s) apart w args) ((OpenSpec.ofChange s).postWith enc C.prog fn F (outsideKept [.timePasses]) apart fresh handsOn):=by
 refine returnsInLeavingWide_of_good own started witness ?_
 intro w tape i _ _ _ l m I
 obtain ⟨_,_,_,n,p,_,_,_,_,q⟩:=l
 have e:n=fn:=Option.some.inj (p.symm.trans k)
 subst e
 obtain ⟨⟨⟨b,gs,before,hw,r⟩,u⟩,x⟩:=m
 have y:=DataW.Whole.of_heap (w':=w.forCall tape i) (by rfl) hw
 obtain ⟨M,last,o,w',c,z,A,B,D⟩:=runs (w.forCall tape i) w.heap.size i.args b gs before q y r (x.weights hw) (h _ _ (by rfl) u)
 obtain ⟨v,e,g,r1,r2,r3,E⟩:=D
 exact ⟨M,last,o,w',c,z,A,B,v,e,postWith_blind (postWith_of_post g.1 g.2),r1,r2,r3,E⟩
end Go.Sep
end

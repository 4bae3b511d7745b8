/- A part of the proof: QT15. -/
import Derived.Test.YtlchekhkopimhaaGreatDoorQT14
import Derived.Test.YtlchekhkopimhaaGreatDoorTie
import Derived.Test.YtlchekhkopimhaaGreatDoorCards
import Derived.SevenTiedAt
set_option linter.all false
section
namespace Go.Proofs.YtlchekhkopimhaaGreatDoor
open Go Go.Sep Go.Proofs Go.ChangeShapes Go.WideShapes Go.ChangeAt Go.RowKit Go.Conc Go.ConcM Go.Deep
set_option maxRecDepth 100000
set_option maxHeartbeats 4000000
def Lt {H:Type}(P:Program)(t:TypeId)(d:DataW H):Prop:=∀k∈d.weights P t,k<=1000000000000000
theorem Mc {H:Type}{P:Program}{a:List TypeId}{b:List (DataW H)}(h:(DataW.weightsEach P a b).all (· <=reachBytes)=true){j:Nat}{t:TypeId}{d:DataW H}(c:a[j]?=some t)(e:b[j]?=some d):Lt P t d:=by
 intro k f;have g:=DataW.weights_mem_each c e _ f;have i:k<=reachBytes:=by simpa using List.all_eq_true.1 h _ g
 have l:reachBytes<=1000000000000000:=aL;omega
theorem DI {H:Type}{P:Program}{t u:TypeId}{parts:List (DataW H)}{a:Array Field}{f:Field}{i:Nat}{d:DataW H}(h:Lt P t (.agg parts))(b:P.underlying t=some (.struct a))(c:a[i]?=some f)(e:f.type=u)(g:parts[i]?=some d):Lt P u d:=by
 intro k l;refine h k ?_;simp only[DataW.weights,b];exact DataW.weights_mem_each (j:=i) (t:=u) (by rw[List.getElem?_map,Array.getElem?_toList,c];simp[e]) g _ l
theorem DJ {H:Type}{P:Program}{e:TypeId}:∀{l:List (DataW H)} {d:DataW H},d∈l->∀n∈d.weights P e,n∈DataW.weightsAll P e l
 |d'::r,d,hd,n,hn=>by
  simp only[DataW.weightsAll,List.mem_append]
  rcases List.mem_cons.1 hd with rfl|h
  .exact .inl hn
  .exact .inr (DJ h n hn)
theorem Md {H:Type}{P:Program}{t e:TypeId}{es sp:List (DataW H)}{d:DataW H}(h:Lt P t (.slice es sp))(a:P.underlying t=some (.slice e))(hd:d∈es):Lt P e d:=by
 intro k b;refine h k ?_;simp only[DataW.weights,a,List.mem_cons,List.mem_append];exact .inr (.inl (DJ hd _ b))
theorem Me {H:Type}{P:Program}{t e:TypeId}{es sp:List (DataW H)}(h:Lt P t (.slice es sp))(a:P.underlying t=some (.slice e))(b:1<=P.bytesOf e):es.length<=1000000000000000:=by
 have:=h ((es.length+sp.length)*P.bytesOf e) (by simp[DataW.weights,a]);have c:(es.length+sp.length)*1<=(es.length+sp.length)*P.bytesOf e:=Nat.mul_le_mul_left _ b;omega
section
variable {H:Type}{enc:TypeId×Value->H}{P:Program}{w:World}{base:Nat}{spare:Nat->Bool}{held:Bool}
theorem DK {T:Type}{r:cm T}{t e:TypeId}{fuel:Nat}{cs:List Value}{x:DataW H×List MemPlace}(ht:P.underlying t=some (.slice e))(hC:P.cellsOf e=r.n)(f:1<=P.bytesOf e)(hw:Lt P t x.1)
  (o:∀n cs' y,DataW.trod enc P w base spare held n e cs'=some y->Lt P e y.1->∃z:T,r.rel (fun a=>w.cell? a) z cs') (h:DataW.trod enc P w base spare held fuel t cs=some x):
  ∃s l,cs=[s]/\aH r (fun a=>w.cell? a) s l:=by
 rcases open_slice ht h with ⟨p,_⟩|⟨a,len,cap,m,n,D,I,q,_,u,_,A,B,hi⟩
 .exact ⟨_,[],p,aH.nil _ _⟩
 have J:len<=m:=by rw[A];split<;>omega
 rw[B] at hw
 have hex:∀i,∃z:Option T,i<len->∃c cs',z=some c/\w.cells? base (a.add (i*P.cellsOf e)) (P.cellsOf e)=some cs'/\r.rel (fun a=>w.cell? a) c cs':=by
  intro i
  by_cases h:i<len
  .obtain ⟨cs',C,E⟩:=hi i aa
   obtain ⟨z,b⟩:=o _ _ _ E (Md hw ht (List.mem_map.2 ⟨i,List.mem_range.2 h,rfl⟩))
   exact ⟨some z,fun _=>⟨z,cs',rfl,C,b⟩⟩
  .exact ⟨none,fun x=>absurd x h⟩
 obtain ⟨g,hg⟩:=Classical.axiomOfChoice hex
 have hlen:((List.range len).filterMap g).length=len/\∀i,i<len->((List.range len).filterMap g)[i]?=g i:=by
  have:∀k,k<=len->((List.range k).filterMap g).length=k/\∀i,i<k->((List.range k).filterMap g)[i]?=g i:=by
   intro k
   induction k with
   |zero=>exact fun _=>⟨rfl,fun i h=>aa⟩
   |succ k ih=>
    intro K
    obtain ⟨i1,i2⟩:=ih aa
    obtain ⟨z,_,b,_⟩:=hg k aa
    rw[List.range_succ,List.filterMap_append]
    simp only[List.filterMap_cons,b,List.filterMap_nil]
    refine ⟨by simp[i1],fun i h=>?_⟩
    by_cases F:i<k
    .rw[List.getElem?_append_left aa];exact i2 i F
    .obtain rfl:i=k:=aa
     rw[List.getElem?_append_right aa,i1,b];simp
  exact this len (Nat.le_refl _)
 refine ⟨_,(List.range len).filterMap g,q,some a,cap,by rw[hlen.1],by rw[hlen.1];exact u,?_,fun i z b=>?_⟩
 .rw[hlen.1]
  have:=Me hw ht f
  simpa using this
 .have d:i<len:=by
   have:=(List.getElem?_eq_some_iff.1 b).1
   rw[hlen.1] at this;exact this
  rw[hlen.2 i d] at b
  obtain ⟨c,cs',e1,e2,e3⟩:=hg i d
  rw[b] at e1
  obtain rfl:=Option.some.inj e1
  rw[hC] at e2
  obtain ⟨_,L,G⟩:=World.cells?_some e2
  exact ⟨a,cs',rfl,e3,fun j v hv=>by
   have:j<r.n:=by
    have:=(List.getElem?_eq_some_iff.1 hv).1
    omega
   exact (G j this).trans hv⟩
end
section
variable {H:Type}{enc:TypeId×Value->H}{w:World}{base:Nat}{spare:Nat->Bool}{held:Bool}
theorem ni:Tryz.prog.cellsOf 3=1:=aj
theorem nj {n:Nat}{cs:List Value}{y:DataW H×List MemPlace}(h:DataW.trod enc Tryz.prog w base spare held n 3 cs=some y):∃z:Int,cs=[.int .i64 z]:=by
 obtain ⟨z,h,_⟩:=DataW.trod_int Tryz.underlying3 h;exact ⟨z,h⟩
theorem DL {n:Nat}{cs:List Value}{y:DataW H×List MemPlace}(h:DataW.trod enc Tryz.prog w base spare held n 28 cs=some y):∃z:bX,cs=z.cells:=by
 obtain ⟨a,ys,m,_,b⟩:=uw Tryz.underlying28 h;replace a:cs.length=2:=a.trans aj
 match cs,a with
 |[g,c1],_=>
 obtain ⟨_,_,c⟩:=b 0 _ 3 0 _ rfl rfl rfl ni;obtain ⟨_,_,d⟩:=b 1 _ 3 1 _ rfl rfl rfl ni;obtain ⟨e,e0⟩:=nj c;obtain ⟨f,e1⟩:=nj d;simp only[List.drop,List.take,List.cons.injEq,and_true,Nat.reduceAdd] at e0 e1;exact ⟨⟨e,f⟩,by rw[e0,e1];rfl⟩
theorem DN:Tryz.prog.cellsOf 9=1:=aj
theorem DO {n:Nat}{cs:List Value}{y:DataW H×List MemPlace}(h:DataW.trod enc Tryz.prog w base spare held n 9 cs=some y):∃z:List UInt8,cs=[.string ⟨⟨z⟩⟩]:=by
 obtain ⟨⟨⟨l⟩⟩,h,_⟩:=DataW.trod_string Tryz.underlying9 h;exact ⟨l,h⟩
theorem Mf {n:Nat}{cs:List Value}{y:DataW H×List MemPlace}(h:DataW.trod enc Tryz.prog w base spare held n 71 cs=some y):∃z:bE,cs=z.cells:=by
 obtain ⟨a,ys,m,_,b⟩:=uw Tryz.underlying71 h;replace a:cs.length=3:=a.trans aj
 match cs,a with
 |[j,c1,c2],_=>
 obtain ⟨_,_,c⟩:=b 0 _ 9 0 _ rfl rfl rfl DN;obtain ⟨_,_,d⟩:=b 1 _ 3 1 _ rfl rfl rfl ni;obtain ⟨_,_,e⟩:=b 2 _ 3 2 _ rfl rfl rfl ni;obtain ⟨f,e0⟩:=DO c;obtain ⟨g,e1⟩:=nj d;obtain ⟨i,e2⟩:=nj e;simp only[List.drop,List.take,List.cons.injEq,and_true,Nat.reduceAdd] at e0 e1 e2;exact ⟨⟨f,g,i⟩,by rw[e0,e1,e2];rfl⟩
theorem Mg {n:Nat}{cs:List Value}{y:DataW H×List MemPlace}(h:DataW.trod enc Tryz.prog w base spare held n 31 cs=some y)(hw:Lt Tryz.prog 31 y.1):∃z:aS,aS.rel (fun a=>w.cell? a) z cs:=by
 obtain ⟨c,ys,m,e,b⟩:=uw Tryz.underlying31 h;rw[e] at hw;have c2:Tryz.prog.cellsOf 28=2:=aj;have c4:Tryz.prog.cellsOf 29=1:=aj;replace c:cs.length=7:=c.trans aj
 match cs,c with
 |[d0,d1,d2,d3,d4,d5,d6],_=>
 obtain ⟨_,_,f⟩:=b 0 _ 9 0 _ rfl rfl rfl DN;obtain ⟨_,_,g⟩:=b 1 _ 28 1 _ rfl rfl rfl c2;obtain ⟨_,_,j⟩:=b 2 _ 3 3 _ rfl rfl rfl ni;obtain ⟨_,_,k⟩:=b 3 _ 28 4 _ rfl rfl rfl c2;obtain ⟨A,l,o⟩:=b 4 _ 29 6 _ rfl rfl rfl c4;obtain ⟨p,e0⟩:=DO f;obtain ⟨q,e1⟩:=DL g;obtain ⟨s,e2⟩:=nj j;obtain ⟨t,e3⟩:=DL k;obtain ⟨u,v,d,x⟩:=DK (r:=eo) Tryz.underlying29 aj (of_decide_eq_true aj) (DI hw Tryz.underlying31 (i:=4) rfl rfl (by rw[List.getElem?_map,l];rfl)) (fun _ _ _ h _=>Mf h) o;simp only[List.drop,List.take,List.cons.injEq,and_true,bX.cells] at e0 e1 e2 e3 d;exact ⟨⟨p,q,s,t,v⟩,u,by rw[e0,e1.1,e1.2,e2,e3.1,e3.2,d],x⟩
theorem yS {r:Reach}{g:Nat}{e:List TypeId}{f:List (DataW H)}(k:(DataW.weightsEach Tryz.prog e f).all (· <=reachBytes)=true){j:Nat}(n:e[j]?=some 24){d:DataW H}(o:f[j]?=some d){v:Value}{p:List MemPlace}
  (hv:Value.okWide Tryz.prog w r g 24 v) (h:DataW.Trod enc Tryz.prog w base spare held 24 v d p):
  ∃(u:ax) (s:Value),v= .agg #[.int .i64 u.steps,.int .i64 u.aR,s]/\aH bK (fun a=>w.cell? a) s u.ak:=by
 obtain ⟨cs,rfl,b⟩:=okWide_struct Tryz.underlying24 hv
 replace b:cs.size=3:=b.trans aj
 obtain ⟨l⟩:=cs
 match l,b with
 |[d0,d1,d2],_=>
 obtain ⟨fuel,q⟩:=h
 have t:Tryz.prog.cellsOf 22=1:=aj
 obtain ⟨_,ys,m,hd,c⟩:=uw Tryz.underlying24 q
 replace hd:d= .agg (ys.map (·.1)):=hd
 subst hd
 obtain ⟨_,_,x⟩:=c 0 _ 3 0 _ rfl rfl rfl ni
 obtain ⟨_,_,y⟩:=c 1 _ 3 1 _ rfl rfl rfl ni
 obtain ⟨F,z,A⟩:=c 2 _ 22 2 _ rfl rfl rfl t
 obtain ⟨B,e0⟩:=nj x
 obtain ⟨C,e1⟩:=nj y
 obtain ⟨s2,D,e2,E⟩:=DK (r:=bK) Tryz.underlying22 aj (of_decide_eq_true aj) (DI (Mc k n o) Tryz.underlying24 (i:=2) rfl rfl (by rw[List.getElem?_map,z];rfl)) (fun _ _ _ h hw=>Mg h hw) A
 simp only[Value.cells,List.drop,List.take,List.cons.injEq,and_true] at e0 e1 e2
 exact ⟨⟨B,C,D⟩,s2,by rw[e0,e1,e2],E⟩
end
theorem pO {n:Int}(h:(Lit.int .u8 n).wf=true):0<=n/\n<=255:=by
 unfold Lit.wf at h;rw[Bool.and_eq_true,decide_eq_true_eq,decide_eq_true_eq] at h;exact h
theorem yT {a:Assume}{C:Checked}{os:Os}{f:FuncId}{fn:Func}{s:ChangeSpec}{conds:List PathCond}{apart fresh handsOn again:Bool}{H:Type}{enc:TypeId×Value->H}{X:World->Prop}
  (d:∀w w':World,w'.heap=w.heap->X w->X w')
  (own:ownKnob C.prog.godebug=none) (started:os.Started) (g:C.prog.funcs[f]?=some fn)
  (witness:∃(w:World) (tape:Tape) (i:Input),w.os=os/\(w.forCall tape i).Shaped C.prog/\i.vars=[]/\Input.okWide C.prog (w.forCall tape i) .any w.heap.size f i/\
   ((s.pre enc C.prog fn conds apart (w.forCall tape i).memory i.args/\X (w.forCall tape i).memory)/\sizedMet enc C.prog fn (OpenSpec.ofChange s) apart (w.forCall tape i).memory i.args)/\a.holds C.prog (lone (Frame.enter C.prog f i.args .normal) [] (w.forCall tape i)))
  (runs:∀(W:World) (base:Nat) (args:Array Value) (b gs:List (DataW H)) (before:List MemPlace),
   (∀(j:Nat) t v,fn.params[j]?=some t->args[j]?=some v->Value.okWide C.prog W .any base t v)->
   DataW.Whole enc C.prog fn.params.toList s.vars apart W args.toList b gs before->
   conds.all (PathCond.test C.prog ⟨fn.params.toList,b,s.plain.varTypes C.prog,gs⟩)=true->
   (DataW.weightsEach C.prog (fn.params.toList++s.plain.varTypes C.prog) (b++gs)).all (· <=reachBytes)=true->X W->
   ∃M last o w' c,runNT C.prog (M+1) (solo (G (Frame.enter C.prog f args .normal) []) W) #[]=(.ended o w',c)/\runN C.prog M (solo (G (Frame.enter C.prog f args .normal) []) W)= .next last/\
    step C.prog last= .ended o w'/\Conc.Good C.prog (fun v h=>s.post enc C.prog fn apart fresh handsOn again W args v h) last o w' c):
  ReturnsInLeavingWide a C os f .any (fun w args=>(s.pre enc C.prog fn conds apart w args/\X w)/\sizedMet enc C.prog fn (OpenSpec.ofChange s) apart w args) (s.post enc C.prog fn apart fresh handsOn again):=by
 refine returnsInLeavingWide_of_good own started witness ?_
 intro w tape i _ _ _ k l F
 obtain ⟨_,_,_,m,n,_,_,_,_,p⟩:=k
 have e:m=fn:=Option.some.inj (n.symm.trans g)
 subst e
 obtain ⟨⟨⟨b,gs,before,hw,q⟩,r⟩,u⟩:=l
 have x:=DataW.Whole.of_heap (w':=w.forCall tape i) (by rfl) hw
 obtain ⟨M,last,o,w',c,y,z,A,B⟩:=runs (w.forCall tape i) w.heap.size i.args b gs before p x q (u.weights hw) (d _ _ (by rfl) r)
 obtain ⟨v,e,D,r1,r2,r3,E⟩:=B
 exact ⟨M,last,o,w',c,y,z,A,v,e,ChangeSpec.post_blind D,r1,r2,r3,E⟩
theorem own:ownKnob Tryz.prog.godebug=none:=aj
theorem yU {p:Pinned}{s:OpenSpec}{c:OpenClaim}(kinds:List LaidKind)(b:Bool)(a:Bool×String)(lk:Bool)
  (d:c.holds p s) (hw:c.wfByText s=true) (e:c.laidByTextAt .later p kinds b)
  (g:c.start= .entering) (i:c.noBlocks=false/\c.again=false) (hm:p.checked.prog.mainIs=some (a.1,a.2.toList)) (hn:(!a.1&&a.2.isEmpty&&!lk)=false)
  (k:∀f fn,p.checked.prog.funcNamed c.func=some f->p.checked.prog.funcs[f]?=some fn->lk=p.checked.prog.looks []/\∀(j:Nat) t,fn.params[j]?=some t->p.checked.prog.wantsStandIn t=false)
  (hg:true=c.goesBy p.checked.prog):
  Claim7.holds p (.plain s) {stood:={row:=c,standIns:=[],harness:=a,looks:=lk},kinds:=[],alts:=[],goes:=true,laidByText:=true,laidKinds:=kinds,laidTests:=b,laidLooks:=.later}:=by
 have l:∀r:OpenClaim,Claim7.isSixth {stood:={row:=r,standIns:=[],harness:=a,looks:=lk},kinds:=[]}=false:=fun r=>by simpa [Claim7.isSixth] using hn
 exact ⟨Claim7.tied_new_at .later kinds b (Claim7.new_of_sixth d a lk g i hm (l c) k) hw,fun D m=>(by cases m),e,(fun h=>by cases h),hg⟩
theorem yV {w:World}(h:laidMetH Tryz.prog [("velarium/strip.checks",Rows.laid_velarium_strip_checks)] w):dw (fun a=>w.cell? a):=by
 obtain ⟨g,t,cs,fuel,p,e,s,u,v⟩:=laidMetH.funcs h (n:= "velarium/strip.checks") (List.mem_singleton.2 rfl);obtain rfl:=Option.some.inj ((show Tryz.prog.globalNamed "velarium/strip.checks"=some 0 by kernel_rfl).symm.trans e);obtain rfl:=Option.some.inj ((show (Tryz.prog.globals[0]?).map (·.type)=some 165 by kernel_rfl).symm.trans s);obtain ⟨xs,m,_,ex,_,C,x⟩:=DataW.trod_array Tryz.underlying165 v;have c1:Tryz.prog.cellsOf 164=1:=aj;have d:=DataW.agg.inj (Prod.mk.inj ex).1;have key:∀(i f:Nat) (b:UInt8) (r:List UInt8),i<3->(xs.map (·.1))[i]?=some (.held (b::r))->(∃fn,Tryz.prog.funcs[f]?=some fn/\fn.name.toUTF8.data.toList=b::r/\Tryz.prog.funcNamed fn.name=some f)->w.cell? ⟨0,i,none⟩=some (.func (.func f) #[] #[]):=by
  intro i f b r hi c ⟨j,D,y,z⟩;have k:=x i hi;rw[c1,Nat.mul_one,List.getElem?_eq_getElem aa] at k;rw[List.getElem?_map,List.getElem?_eq_getElem aa] at c;simp only[Option.map_some,Option.some.injEq] at c;rw[World.var?_cell e u i];rcases Mb Tryz.underlying164 k with hn|⟨f1,a1,c1,l,hn⟩
  .rw[hn] at c;cases c
  rw[hn] at c;obtain ⟨f2,o,e1,e2,e3,q⟩:=funcToken_tells (DataW.held.inj c);have A:o.name=j.name:=by
   rw[<-y] at q;have B:o.name.toUTF8=j.name.toUTF8:=ByteArray.ext (Array.toList_inj.1 q);exact String.toByteArray_inj.1 B
  rw[A,z] at e3;obtain rfl:=Option.some.inj e3;rw[e1] at l;have:((cs.toList.drop i).take 1)[0]?=some (.func (.func f) #[] #[]):=by rw[l];rfl
  simpa using this
 refine ⟨key 0 _ _ _ aL (by rw[<-d];rfl) ⟨_,Tryz.func243,aj,aj⟩,key 1 _ _ _ aL (by rw[<-d];rfl) ⟨_,Tryz.func244,aj,aj⟩,key 2 _ _ _ aL (by rw[<-d];rfl) ⟨_,Tryz.func245,aj,aj⟩⟩
theorem pP:laidOutB Tryz.checked.prog=true:=aj
theorem yW:Tryz.checked.prog.stopsHeard=true:=aj
theorem yX:Tryz.checked.prog.mayEnter=true:=aj
end Go.Proofs.YtlchekhkopimhaaGreatDoor
end

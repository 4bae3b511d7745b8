/- For every input that can be read, on every calm tape: the call of velariumlaw04.TerrainLearnt returns true; its arguments read as they did; the listed variable terrain.checks is tied to the text of the program. -/
import Derived.Test.YtghbphimkgamkaaGreatDoorQM18
import Derived.Test.YtghbphimkgamkaaGreatDoorTie
import Derived.Test.YtghbphimkgamkaaGreatDoorCards
import Derived.SevenTiedAt
set_option linter.all false
section
namespace Go.Proofs.YtghbphimkgamkaaGreatDoor
open Go Go.Sep Go.Proofs Go.ChangeShapes Go.WideShapes Go.ChangeAt Go.RowKit Go.Conc Go.ConcM
set_option maxRecDepth 100000
set_option maxHeartbeats 4000000
section
variable {H : Type} {enc : TypeId × Value → H} {w : World} {base : Nat} {spare : Nat → Bool} {held : Bool}
theorem iV:Tryz.prog.cellsOf 3=1:=by kernel_rfl
theorem MB:Tryz.prog.cellsOf 4=1:=by kernel_rfl
theorem iW {n:Nat}{cs:List Value}{y:DataW H×List MemPlace}(h:DataW.trod enc Tryz.prog w base spare held n 3 cs=some y):∃z:Int,cs=[.int .i64 z]:=by
 obtain ⟨z,h,_⟩:=DataW.trod_int Tryz.underlying3 h;exact ⟨z,h⟩
theorem MC {n:Nat}{cs:List Value}{y:DataW H×List MemPlace}(h:DataW.trod enc Tryz.prog w base spare held n 4 cs=some y):∃z:Bool,cs=[.bool z]:=by
 obtain ⟨z,h,_⟩:=DataW.trod_bool Tryz.underlying4 h;exact ⟨z,h⟩
theorem MD {n:Nat}{cs:List Value}{y:DataW H×List MemPlace}(h:DataW.trod enc Tryz.prog w base spare held n 23 cs=some y):∃z:an,cs=z.cells:=by
 obtain ⟨a,ys,m,_,b⟩:=nF Tryz.underlying23 h;replace a:cs.length=2:=a.trans (by kernel_rfl)
 match cs,a with
 |[g,c1],_=>
 obtain ⟨_,_,c⟩:=b 0 _ 3 0 _ rfl rfl rfl iV;obtain ⟨_,_,d⟩:=b 1 _ 3 1 _ rfl rfl rfl iV;obtain ⟨e,e0⟩:=iW c;obtain ⟨f,e1⟩:=iW d;simp only[List.drop,List.take,List.cons.injEq,and_true,Nat.reduceAdd] at e0 e1;exact ⟨⟨e,f⟩,by rw[e0,e1];rfl⟩
theorem ME {n:Nat}{cs:List Value}{y:DataW H×List MemPlace}(h:DataW.trod enc Tryz.prog w base spare held n 44 cs=some y):∃z:bT,cs=z.cells:=by
 obtain ⟨a,ys,m,_,b⟩:=nF Tryz.underlying44 h;replace a:cs.length=2:=a.trans (by kernel_rfl)
 match cs,a with
 |[g,c1],_=>
 obtain ⟨_,_,c⟩:=b 0 _ 3 0 _ rfl rfl rfl iV;obtain ⟨_,_,d⟩:=b 1 _ 3 1 _ rfl rfl rfl iV;obtain ⟨e,e0⟩:=iW c;obtain ⟨f,e1⟩:=iW d;simp only[List.drop,List.take,List.cons.injEq,and_true,Nat.reduceAdd] at e0 e1;exact ⟨⟨e,f⟩,by rw[e0,e1];rfl⟩
theorem MF {n:Nat}{cs:List Value}{y:DataW H×List MemPlace}(h:DataW.trod enc Tryz.prog w base spare held n 70 cs=some y):∃z:bX,cs=z.cells:=by
 obtain ⟨a,ys,m,_,b⟩:=nF Tryz.underlying70 h;replace a:cs.length=2:=a.trans (by kernel_rfl)
 match cs,a with
 |[g,c1],_=>
 obtain ⟨_,_,c⟩:=b 0 _ 3 0 _ rfl rfl rfl iV;obtain ⟨_,_,d⟩:=b 1 _ 3 1 _ rfl rfl rfl iV;obtain ⟨e,e0⟩:=iW c;obtain ⟨f,e1⟩:=iW d;simp only[List.drop,List.take,List.cons.injEq,and_true,Nat.reduceAdd] at e0 e1;exact ⟨⟨e,f⟩,by rw[e0,e1];rfl⟩
theorem EB {n:Nat}{cs:List Value}{y:DataW H×List MemPlace}(h:DataW.trod enc Tryz.prog w base spare held n 54 cs=some y):∃z:bG,cs=z.cells:=by
 obtain ⟨a,ys,m,_,b⟩:=nF Tryz.underlying54 h;replace a:cs.length=2:=a.trans (by kernel_rfl)
 match cs,a with
 |[g,c1],_=>
 obtain ⟨_,_,c⟩:=b 0 _ 3 0 _ rfl rfl rfl iV;obtain ⟨_,_,d⟩:=b 1 _ 4 1 _ rfl rfl rfl MB;obtain ⟨e,e0⟩:=iW c;obtain ⟨f,e1⟩:=MC d;simp only[List.drop,List.take,List.cons.injEq,and_true,Nat.reduceAdd] at e0 e1;exact ⟨⟨e,f⟩,by rw[e0,e1];rfl⟩
theorem EC {n:Nat}{cs:List Value}{y:DataW H×List MemPlace}(h:DataW.trod enc Tryz.prog w base spare held n 56 cs=some y):∃z:cj,cs=z.cells:=by
 obtain ⟨a,ys,m,_,b⟩:=nF Tryz.underlying56 h;replace a:cs.length=2:=a.trans (by kernel_rfl)
 match cs,a with
 |[g,c1],_=>
 obtain ⟨_,_,c⟩:=b 0 _ 3 0 _ rfl rfl rfl iV;obtain ⟨_,_,d⟩:=b 1 _ 3 1 _ rfl rfl rfl iV;obtain ⟨e,e0⟩:=iW c;obtain ⟨f,e1⟩:=iW d;simp only[List.drop,List.take,List.cons.injEq,and_true,Nat.reduceAdd] at e0 e1;exact ⟨⟨e,f⟩,by rw[e0,e1];rfl⟩
theorem MG {n:Nat}{cs:List Value}{y:DataW H×List MemPlace}(h:DataW.trod enc Tryz.prog w base spare held n 67 cs=some y):∃z:bL,cs=z.cells:=by
 obtain ⟨a,ys,m,_,b⟩:=nF Tryz.underlying67 h;have c:Tryz.prog.cellsOf 56=2:=by kernel_rfl
 replace a:cs.length=3:=a.trans (by kernel_rfl)
 match cs,a with
 |[i,c1,c2],_=>
 obtain ⟨_,_,d⟩:=b 0 _ 3 0 _ rfl rfl rfl iV;obtain ⟨_,_,e⟩:=b 1 _ 56 1 _ rfl rfl rfl c;obtain ⟨f,e0⟩:=iW d;obtain ⟨g,e1⟩:=EC e;simp only[List.drop,List.take,List.cons.injEq,and_true,cj.cells] at e0 e1;exact ⟨⟨f,g⟩,by rw[e0,e1.1,e1.2];rfl⟩
theorem MH {r:Reach}{z:Nat}{o:List TypeId}{q:List (DataW H)}(c:(DataW.weightsEach Tryz.prog o q).all (· <=reachBytes)=true){j:Nat}(e:o[j]?=some 29){d:DataW H}(f:q[j]?=some d){v:Value}{p:List MemPlace}
  (A:Value.okWide Tryz.prog w r z 29 v) (h:DataW.Trod enc Tryz.prog w base spare held 29 v d p):
  ∃(u:aj) (s1 s2 g k:Value),v= .agg #[.int .i64 u.bH,.int .i64 u.bM,.int .i64 u.aV.num,.int .i64 u.aV.den,s1,s2,g,k]/\aA e8 (fun a=>w.cell? a) s1 u.az/\aA eF (fun a=>w.cell? a) s2 u.props/\aA eG (fun a=>w.cell? a) g u.av/\aA di (fun a=>w.cell? a) k u.told:=by
 obtain ⟨cs,rfl,n⟩:=okWide_struct Tryz.underlying29 A
 replace n:cs.size=8:=n.trans (by kernel_rfl)
 obtain ⟨l⟩:=cs
 match l,n with
 |[a0,c1,c2,c3,c4,a2,a3,a4],_=>
 obtain ⟨fuel,B⟩:=h
 have C:Tryz.prog.cellsOf 23=2:=by kernel_rfl
 have D:Tryz.prog.cellsOf 24=1:=by kernel_rfl
 have E:Tryz.prog.cellsOf 25=1:=by kernel_rfl
 have F:Tryz.prog.cellsOf 26=1:=by kernel_rfl
 have G:Tryz.prog.cellsOf 27=1:=by kernel_rfl
 obtain ⟨_,ys,m,hd,b⟩:=nF Tryz.underlying29 B
 replace hd:d= .agg (ys.map (·.1)):=hd
 subst hd
 obtain ⟨_,_,I⟩:=b 0 _ 3 0 _ rfl rfl rfl iV
 obtain ⟨_,_,J⟩:=b 1 _ 3 1 _ rfl rfl rfl iV
 obtain ⟨_,_,K⟩:=b 2 _ 23 2 _ rfl rfl rfl C
 obtain ⟨a5,L,M⟩:=b 3 _ 24 4 _ rfl rfl rfl D
 obtain ⟨a6,N,O⟩:=b 4 _ 25 5 _ rfl rfl rfl E
 obtain ⟨a7,P,Q⟩:=b 5 _ 26 6 _ rfl rfl rfl F
 obtain ⟨a8,R,S⟩:=b 6 _ 27 7 _ rfl rfl rfl G
 obtain ⟨T,e0⟩:=iW I
 obtain ⟨U,e1⟩:=iW J
 obtain ⟨V,e2⟩:=MD K
 obtain ⟨g,W,s,X⟩:=uZ (r:=e8) Tryz.underlying24 (by kernel_rfl) (fun _ _ _ h=>ME h) M fun es sp he=>u5 c e f Tryz.underlying29 (i:=3) rfl rfl Tryz.underlying24 (of_decide_eq_true (by kernel_rfl)) (sp:=sp) (by rw[List.getElem?_map,L];exact congrArg some he)
 obtain ⟨k,Y,t,Z⟩:=uZ (r:=eF) Tryz.underlying25 (by kernel_rfl) (fun _ _ _ h=>MF h) O fun es sp he=>u5 c e f Tryz.underlying29 (i:=4) rfl rfl Tryz.underlying25 (of_decide_eq_true (by kernel_rfl)) (sp:=sp) (by rw[List.getElem?_map,N];exact congrArg some he)
 obtain ⟨ab,ad,x,ae⟩:=uZ (r:=eG) Tryz.underlying26 (by kernel_rfl) (fun _ _ _ h=>MG h) Q fun es sp he=>u5 c e f Tryz.underlying29 (i:=5) rfl rfl Tryz.underlying26 (of_decide_eq_true (by kernel_rfl)) (sp:=sp) (by rw[List.getElem?_map,P];exact congrArg some he)
 obtain ⟨al,ao,y,ar⟩:=uZ (r:=di) Tryz.underlying27 (by kernel_rfl) (fun _ _ _ h=>EB h) S fun es sp he=>u5 c e f Tryz.underlying29 (i:=6) rfl rfl Tryz.underlying27 (of_decide_eq_true (by kernel_rfl)) (sp:=sp) (by rw[List.getElem?_map,R];exact congrArg some he)
 simp only[Value.cells,List.drop,List.take,List.cons.injEq,and_true,an.cells] at e0 e1 e2 s t x y
 refine ⟨⟨T,U,V,W,Y,ad,ao⟩,g,k,ab,al,?_,X,Z,ae,ar⟩
 rw[e0,e1,e2.1,e2.2,s,t,x,y]
theorem MI {r:Reach}{a:Nat}{v:Value}{d:DataW H}{p:List MemPlace}(b:Value.okWide Tryz.prog w r a 54 v)(h:DataW.Trod enc Tryz.prog w base spare held 54 v d p):
  ∃u:bG,v= .agg #[.int .i64 u.aR,.bool u.bq]:=by
 obtain ⟨cs,rfl,e⟩:=okWide_struct Tryz.underlying54 b
 obtain ⟨fuel,c⟩:=h
 obtain ⟨u,hu⟩:=EB c
 refine ⟨u,?_⟩
 obtain ⟨l⟩:=cs
 replace hu:l=u.cells:=hu
 rw[hu];rfl
theorem MJ {r:Reach}{a:Nat}{v:Value}{d:DataW H}{p:List MemPlace}(b:Value.okWide Tryz.prog w r a 56 v)(h:DataW.Trod enc Tryz.prog w base spare held 56 v d p):
  ∃u:cj,v= .agg #[.int .i64 u.low,.int .i64 u.high]:=by
 obtain ⟨cs,rfl,e⟩:=okWide_struct Tryz.underlying56 b
 obtain ⟨fuel,c⟩:=h
 obtain ⟨u,hu⟩:=EC c
 refine ⟨u,?_⟩
 obtain ⟨l⟩:=cs
 replace hu:l=u.cells:=hu
 rw[hu];rfl
end
section
variable {H : Type} {enc : TypeId × Value → H} {w : World} {base : Nat} {spare : Nat → Bool} {held : Bool}
theorem MK {t0 t1 t2 t3 t4:TypeId}{args:Array Value}{c:List (DataW H)}{ps:List MemPlace}(h:DataW.TrodAll enc Tryz.prog w base spare held [t0,t1,t2,t3,t4] args.toList c ps):
  ∃v0 v1 v2 a v4 d0 d1 d2 d3 d4 p0 b p2 p3 p4,args=#[v0,v1,v2,a,v4]/\c=[d0,d1,d2,d3,d4]/\ps=p0++b++p2++p3++p4/\DataW.Trod enc Tryz.prog w base spare held t0 v0 d0 p0/\DataW.Trod enc Tryz.prog w base spare held t1 v1 d1 b/\DataW.Trod enc Tryz.prog w base spare held t2 v2 d2 p2/\DataW.Trod enc Tryz.prog w base spare held t3 a d3 p3/\DataW.Trod enc Tryz.prog w base spare held t4 v4 d4 p4:=by
 obtain ⟨v0,k,d0,l,p0,m,n,rfl,rfl,d,r0⟩:=trodAll_cons h
 obtain ⟨v1,o,d1,p,b,q,rfl,rfl,rfl,e,r1⟩:=trodAll_cons r0
 obtain ⟨v2,r,d2,s,p2,t,rfl,rfl,rfl,f,r2⟩:=trodAll_cons r1
 obtain ⟨a,u,d3,v,p3,x,rfl,rfl,rfl,g,r3⟩:=trodAll_cons r2
 obtain ⟨v4,y,d4,z,p4,A,rfl,rfl,rfl,i,j⟩:=trodAll_cons r3
 obtain ⟨rfl,rfl,rfl⟩:=trodAll_nil j
 exact ⟨v0,v1,v2,a,v4,d0,d1,d2,d3,d4,p0,b,p2,p3,p4,by cases args;simp_all,rfl,by simp,d,e,f,g,i⟩
theorem ML {t0 t1 t2 t3 t4:TypeId}{v0 v1 v2 b v4:Value}{d0 d1 d2 d3 d4:DataW H}{p0 a p2 p3 p4:List MemPlace}(c:DataW.Trod enc Tryz.prog w base spare held t0 v0 d0 p0)(d:DataW.Trod enc Tryz.prog w base spare held t1 v1 d1 a)(e:DataW.Trod enc Tryz.prog w base spare held t2 v2 d2 p2)(f:DataW.Trod enc Tryz.prog w base spare held t3 b d3 p3)(g:DataW.Trod enc Tryz.prog w base spare held t4 v4 d4 p4):
  DataW.TrodAll enc Tryz.prog w base spare held [t0,t1,t2,t3,t4] [v0,v1,v2,b,v4] [d0,d1,d2,d3,d4] (p0++(a++(p2++(p3++p4)))):=⟨p0,a++(p2++(p3++p4)),c,trodAll_mk4 d e f g,rfl⟩
end
theorem ED {n:Int}(h:(Lit.int .u8 n).wf=true):0<=n/\n<=255:=by
 unfold Lit.wf at h;rw[Bool.and_eq_true,decide_eq_true_eq,decide_eq_true_eq] at h;exact h
theorem MM {w:World}(h:laidMetH Tryz.prog [("velarium/terrain.checks",Rows.laid_velarium_terrain_checks)] w):de (fun a=>w.cell? a):=by
 obtain ⟨g,t,cs,fuel,p,j,v,x,y⟩:=laidMetH.funcs h (n:= "velarium/terrain.checks") (List.mem_singleton.2 rfl);obtain rfl:=Option.some.inj ((show Tryz.prog.globalNamed "velarium/terrain.checks"=some 0 by kernel_rfl).symm.trans j);obtain rfl:=Option.some.inj ((show (Tryz.prog.globals[0]?).map (·.type)=some 200 by kernel_rfl).symm.trans v);obtain ⟨xs,m,_,ex,_,E,z⟩:=DataW.trod_array Tryz.underlying200 y;have c1:Tryz.prog.cellsOf 133=1:=by kernel_rfl
 have d:=DataW.agg.inj (Prod.mk.inj ex).1;have key:∀(i f:Nat) (b:UInt8) (r:List UInt8),i<5->(xs.map (·.1))[i]?=some (.held (b::r))->(∃fn,Tryz.prog.funcs[f]?=some fn/\fn.name.toUTF8.data.toList=b::r/\Tryz.prog.funcNamed fn.name=some f)->w.cell? ⟨0,i,none⟩=some (.func (.func f) #[] #[]):=by
  intro i f b r hi c ⟨k,F,A,B⟩;have l:=z i hi;rw[c1,Nat.mul_one,List.getElem?_eq_getElem (by omega)] at l;rw[List.getElem?_map,List.getElem?_eq_getElem (by omega)] at c;simp only[Option.map_some,Option.some.injEq] at c;rw[World.var?_cell j x i];rcases Mz Tryz.underlying133 l with e|⟨f1,a1,c1,o,e⟩
  .rw[e] at c;cases c
  rw[e] at c;obtain ⟨f2,q,e1,e2,s,u⟩:=funcToken_tells (DataW.held.inj c);have C:q.name=k.name:=by
   rw[<-A] at u;have D:q.name.toUTF8=k.name.toUTF8:=ByteArray.ext (Array.toList_inj.1 u);exact String.toByteArray_inj.1 D
  rw[C,B] at s;obtain rfl:=Option.some.inj s;rw[e1] at o;have:((cs.toList.drop i).take 1)[0]?=some (.func (.func f) #[] #[]):=by rw[o];rfl
  simpa using this
 refine ⟨key 0 _ _ _ (by decide) (by rw[<-d];rfl) ⟨_,Tryz.func244,by kernel_rfl,by kernel_rfl⟩,key 1 _ _ _ (by decide) (by rw[<-d];rfl) ⟨_,Tryz.func245,by kernel_rfl,by kernel_rfl⟩,key 2 _ _ _ (by decide) (by rw[<-d];rfl) ⟨_,Tryz.func246,by kernel_rfl,by kernel_rfl⟩,key 3 _ _ _ (by decide) (by rw[<-d];rfl) ⟨_,Tryz.func247,by kernel_rfl,by kernel_rfl⟩,key 4 _ _ _ (by decide) (by rw[<-d];rfl) ⟨_,Tryz.func248,by kernel_rfl,by kernel_rfl⟩⟩
theorem own:ownKnob Tryz.prog.godebug=none:=by kernel_rfl
theorem MN {p:Pinned}{s:OpenSpec}{c:OpenClaim}(kinds:List LaidKind)(b:Bool)(a:Bool×String)(lk:Bool)
  (d:c.holds p s) (hw:c.wfByText s=true) (e:c.laidByTextAt .later p kinds b)
  (g:c.start= .entering) (i:c.noBlocks=false/\c.again=false) (hm:p.checked.prog.mainIs=some (a.1,a.2.toList)) (k:(!a.1&&a.2.isEmpty&&!lk)=false)
  (l:∀f fn,p.checked.prog.funcNamed c.func=some f->p.checked.prog.funcs[f]?=some fn->lk=p.checked.prog.looks []/\∀(j:Nat) t,fn.params[j]?=some t->p.checked.prog.wantsStandIn t=false)
  (hg:true=c.goesBy p.checked.prog):
  Claim7.holds p (.plain s) {stood:={row:=c,standIns:=[],harness:=a,looks:=lk},kinds:=[],alts:=[],goes:=true,laidByText:=true,laidKinds:=kinds,laidTests:=b,laidLooks:=.later}:=by
 have m:∀r:OpenClaim,Claim7.isSixth {stood:={row:=r,standIns:=[],harness:=a,looks:=lk},kinds:=[]}=false:=fun r=>by simpa [Claim7.isSixth] using k
 exact ⟨Claim7.tied_new_at .later kinds b (Claim7.new_of_sixth d a lk g i hm (m c) l) hw,fun D n=>(by cases n),e,(fun h=>by cases h),hg⟩
theorem MO (os:Os)(H:Type)(enc:TypeId×Value->H):∃(w:World) (tape:Tape) (i:Input),w.os=os/\(w.forCall tape i).Shaped Tryz.checked.prog/\i.vars=[]/\Input.okWide Tryz.checked.prog (w.forCall tape i) .any w.heap.size 5 i/\
   ((Rows.terrainLearntSpec.pre enc Tryz.checked.prog Tryz.f5 [] false (w.forCall tape i).memory i.args/\laidMetH Tryz.prog [("velarium/terrain.checks",Rows.laid_velarium_terrain_checks)] (w.forCall tape i).memory)/\sizedMet enc Tryz.checked.prog Tryz.f5 (OpenSpec.ofChange Rows.terrainLearntSpec) false (w.forCall tape i).memory i.args)/\Rows.terrainLearntRow.assume.holds Tryz.checked.prog (lone (Frame.enter Tryz.checked.prog 5 i.args .normal) [] (w.forCall tape i)):=by
 refine ⟨(((((World.holding Tryz.prog os ⟨#[],#[],[]⟩).setCell ⟨0,0,none⟩ (.func (.func 244) #[] #[])).setCell ⟨0,1,none⟩ (.func (.func 245) #[] #[])).setCell ⟨0,2,none⟩ (.func (.func 246) #[] #[])).setCell ⟨0,3,none⟩ (.func (.func 247) #[] #[])).setCell ⟨0,4,none⟩ (.func (.func 248) #[] #[]),
  fun _ _=>0,⟨#[],#[.agg #[.int .i64 0,.int .i64 0,.int .i64 0,.int .i64 0,.slice none 0 0,.slice none 0 0,.slice none 0 0,.slice none 0 0],.agg #[.int .i64 0,.bool false],.int .u8 0,.int .u8 0,.agg #[.int .i64 0,.int .i64 0]],[]⟩,rfl,World.shaped_of_ZipB (by kernel_rfl) (by kernel_rfl),rfl,(Input.okWide_of_okWideB (by kernel_rfl)).2,
  ⟨⟨ChangeSpec.pre_of_preB (fuel:=8) (by kernel_rfl),laidMetH_of_parts3 (fuel:=8) ?_ rfl (by kernel_rfl)⟩,sizedMet_of_sizedB (fuel:=8) (by kernel_rfl)⟩,?_⟩
 .exact ⟨[],rfl,List.nodup_nil,fun _ _ h=>by cases h⟩
 .simp only[Assume.holds]
  exact ⟨by simp[Rows.terrainLearntRow,OpenClaim.assume],fun _ _ _ _=>rfl,by simp[Rows.terrainLearntRow,OpenClaim.assume],by simp[Rows.terrainLearntRow,OpenClaim.assume],by simp[Rows.terrainLearntRow,OpenClaim.assume]⟩
theorem MP (os:Os)(started:os.Started)(H:Type)(enc:TypeId×Value->H)(F:Stop.Interp):
  ReturnsInLeavingWide Rows.terrainLearntRow.assume Tryz.checked os 5 .any (fun w args=>(Rows.terrainLearntSpec.pre enc Tryz.checked.prog Tryz.f5 [] false w args/\laidMetH Tryz.prog [("velarium/terrain.checks",Rows.laid_velarium_terrain_checks)] w)/\sizedMet enc Tryz.checked.prog Tryz.f5 (OpenSpec.ofChange Rows.terrainLearntSpec) false w args)
   ((OpenSpec.ofChange Rows.terrainLearntSpec).postWith enc Tryz.checked.prog Tryz.f5 F (outsideKept [.timePasses]) false true false):=by
 refine MA (C:=Tryz.checked) (X:=laidMetH Tryz.prog [("velarium/terrain.checks",Rows.laid_velarium_terrain_checks)]) (fun w w' B h=>h.of_heap B.symm) own started Tryz.func5 (MO os H enc) ?_
 intro W base args D gs before E hW _ G I
 have c:∀(j:Nat) t v,Tryz.f5.params[j]?=some t->args[j]?=some v->Value.okWide Tryz.prog W .any base t v:=E
 have i:=hW
 obtain ⟨p,q,J,K,rfl,_,_⟩:=hW
 have g:DataW.TrodAll enc Tryz.prog W 0 (fun _=>true) true Tryz.f5.params.toList args.toList D p:=J
 have e:=DataW.TrodAll.lt g
 rw[Tryz.params5] at g c
 obtain ⟨v0,v1,v2,l,v4,d0,d1,d2,d3,d4,p0,Z,p2,p3,p4,rfl,rfl,rfl,m,n,o,r,s⟩:=MK g
 obtain ⟨rfl,rfl⟩:=trodVars_none K
 obtain ⟨u0,s1,s2,ab,ad,L,M,N,O,P⟩:=MH (j:=0) G rfl rfl (c 0 29 v0 rfl rfl) m
 obtain ⟨u,Q⟩:=MI (c 1 54 v1 rfl rfl) n
 obtain ⟨y,R,_,_,w2⟩:=open_int Tryz.underlying5 (c 2 5 v2 rfl rfl) o
 obtain ⟨z,S,_,_,w3⟩:=open_int Tryz.underlying5 (c 3 5 l rfl rfl) r
 obtain ⟨A,T⟩:=MJ (c 4 56 v4 rfl rfl) s
 have U:mF Tryz.prog 5 #[v0,v1,v2,l,v4] ⟨fun a=>W.cell? a,[]⟩ (fun v _=>v= .bool true):=by
  rw[L,Q,R,S,T]
  exact LU (MM I) u0 ⟨M,N,O,P⟩ u y z A rfl (Mx u0 u y (ED w2) z (ED w3) A)
 refine U.ends (My W) fun v F' w' V hu=>?_
 subst V
 simp only[List.append_nil] at i
 have d:Below W.heap.size W {w' with os:=W.os}:=⟨rfl,hu.tape,hu.output,hu.size,fun k Y=>hu.frame k Y (by simp[keys])⟩
 have f:laidOutB Tryz.prog=true:=by kernel_rfl
 refine ⟨⟨_,_,_,[],_,[],i,trodAll_mk1 (shut_bool Tryz.underlying4 _),ML (Below.trod f (by kernel_rfl) (of_decide_eq_true (by kernel_rfl)) m d ?_) (Below.trod f (by kernel_rfl) (of_decide_eq_true (by kernel_rfl)) n d ?_) (Below.trod f (by kernel_rfl) (of_decide_eq_true (by kernel_rfl)) o d ?_) (Below.trod f (by kernel_rfl) (of_decide_eq_true (by kernel_rfl)) r d ?_) (Below.trod f (by kernel_rfl) (of_decide_eq_true (by kernel_rfl)) s d ?_),rfl,d.frame _,fun h=>by cases h⟩,hu.os⟩
 .exact fun x b=>e x (by simp[b])
 .exact fun x b=>e x (by simp[b])
 .exact fun x b=>e x (by simp[b])
 .exact fun x b=>e x (by simp[b])
 .exact fun x b=>e x (by simp[b])
theorem MQ:Rows.TerrainLearntSaid:=
 OpenClaim.holds_of_wide_leaving_time 5 Tryz.f5 rfl rfl rfl rfl rfl rfl rfl ⟨rfl,rfl,rfl,rfl,rfl⟩ rfl rfl rfl rfl rfl (by kernel_rfl) Tryz.func5 (by kernel_rfl)
  (of_decide_eq_true (by kernel_rfl)) (by unfold Func.isWrapper;first|(rw[if_pos (by decide+kernel)];kernel_rfl)|(rw[if_neg (by decide+kernel)];exact ⟨rfl,rfl⟩))
  (fun os started H enc _ F=>MP os started H enc F)
theorem TerrainLearnt_holds:Rows.TerrainLearntCardSaid:=
 MN [.funcs] true (true, "3933f6fd06ce3d38d5015abeb8b461b17ec6588f105a591bbab5c671ae83653c") false MQ (by kernel_rfl) terrainLearnt_row_tie rfl ⟨rfl,rfl⟩ (by kernel_rfl) rfl
  (fun f fn a b=>by
   obtain rfl:f=5:=Option.some.inj ((show Tryz.prog.funcNamed "velarium/velariumlaw04.TerrainLearnt"=some 5 by kernel_rfl).symm.trans a)|>.symm
   obtain rfl:fn=Tryz.f5:=(Option.some.inj (Tryz.func5.symm.trans b)).symm
   exact ⟨by kernel_rfl,fun j t ht=>by
    rw[Tryz.params5] at ht
    have hm:t∈[29,54,5,5,56]:=by simpa using Array.mem_of_getElem? ht
    have c:([29,54,5,5,56].all fun u=>!Tryz.prog.wantsStandIn u)=true:=by kernel_rfl
    exact (show Tryz.prog.wantsStandIn t=false by simpa using List.all_eq_true.1 c t hm)⟩)
  (by kernel_rfl)
end Go.Proofs.YtghbphimkgamkaaGreatDoor
end

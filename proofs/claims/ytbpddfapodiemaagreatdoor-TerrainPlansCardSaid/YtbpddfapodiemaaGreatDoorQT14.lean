/- For every input that can be read, on every calm tape: the call of velariumlaw04.TerrainPlans returns true; its arguments read as they did; the listed variable terrain.checks is tied to the text of the program. -/
import Derived.Test.YtbpddfapodiemaaGreatDoorQT13
import Derived.Test.YtbpddfapodiemaaGreatDoorTie
import Derived.Test.YtbpddfapodiemaaGreatDoorCards
import Derived.SevenTiedAt
set_option linter.all false
section
namespace Go.Proofs.YtbpddfapodiemaaGreatDoor
open Go Go.Sep Go.Proofs Go.ChangeShapes Go.WideShapes Go.ChangeAt Go.RowKit Go.Conc Go.ConcM
set_option maxRecDepth 100000
set_option maxHeartbeats 4000000
section
variable {H:Type}{enc:TypeId×Value->H}{w:World}{base:Nat}{spare:Nat->Bool}{held:Bool}
theorem jx:Tryz.prog.cellsOf 3=1:=aj
theorem Nj:Tryz.prog.cellsOf 4=1:=aj
theorem jy {n:Nat}{cs:List Value}{y:DataW H×List MemPlace}(h:DataW.trod enc Tryz.prog w base spare held n 3 cs=some y):∃z:Int,cs=[.int .i64 z]:=by
 obtain ⟨z,h,_⟩:=DataW.trod_int Tryz.underlying3 h;exact ⟨z,h⟩
theorem Nk {n:Nat}{cs:List Value}{y:DataW H×List MemPlace}(h:DataW.trod enc Tryz.prog w base spare held n 4 cs=some y):∃z:Bool,cs=[.bool z]:=by
 obtain ⟨z,h,_⟩:=DataW.trod_bool Tryz.underlying4 h;exact ⟨z,h⟩
theorem Nl {n:Nat}{cs:List Value}{y:DataW H×List MemPlace}(h:DataW.trod enc Tryz.prog w base spare held n 23 cs=some y):∃z:au,cs=z.cells:=by
 obtain ⟨hl,ys,m,_,a⟩:=oA Tryz.underlying23 h;replace hl:cs.length=2:=hl.trans aj
 match cs,hl with
 |[f,c1],_=>
 obtain ⟨_,_,b⟩:=a 0 _ 3 0 _ rfl rfl rfl jx;obtain ⟨_,_,c⟩:=a 1 _ 3 1 _ rfl rfl rfl jx;obtain ⟨d,e0⟩:=jy b;obtain ⟨e,e1⟩:=jy c;simp only[List.drop,List.take,List.cons.injEq,and_true,Nat.reduceAdd] at e0 e1;exact ⟨⟨d,e⟩,by rw[e0,e1];rfl⟩
theorem Nm {n:Nat}{cs:List Value}{y:DataW H×List MemPlace}(h:DataW.trod enc Tryz.prog w base spare held n 125 cs=some y):∃z:cj,cs=z.cells:=by
 obtain ⟨hl,ys,m,_,a⟩:=oA Tryz.underlying125 h;replace hl:cs.length=2:=hl.trans aj
 match cs,hl with
 |[f,c1],_=>
 obtain ⟨_,_,b⟩:=a 0 _ 3 0 _ rfl rfl rfl jx;obtain ⟨_,_,c⟩:=a 1 _ 3 1 _ rfl rfl rfl jx;obtain ⟨d,e0⟩:=jy b;obtain ⟨e,e1⟩:=jy c;simp only[List.drop,List.take,List.cons.injEq,and_true,Nat.reduceAdd] at e0 e1;exact ⟨⟨d,e⟩,by rw[e0,e1];rfl⟩
theorem Nn {n:Nat}{cs:List Value}{y:DataW H×List MemPlace}(h:DataW.trod enc Tryz.prog w base spare held n 159 cs=some y):∃z:cm,cs=z.cells:=by
 obtain ⟨hl,ys,m,_,a⟩:=oA Tryz.underlying159 h;replace hl:cs.length=2:=hl.trans aj
 match cs,hl with
 |[f,c1],_=>
 obtain ⟨_,_,b⟩:=a 0 _ 3 0 _ rfl rfl rfl jx;obtain ⟨_,_,c⟩:=a 1 _ 3 1 _ rfl rfl rfl jx;obtain ⟨d,e0⟩:=jy b;obtain ⟨e,e1⟩:=jy c;simp only[List.drop,List.take,List.cons.injEq,and_true,Nat.reduceAdd] at e0 e1;exact ⟨⟨d,e⟩,by rw[e0,e1];rfl⟩
theorem No {n:Nat}{cs:List Value}{y:DataW H×List MemPlace}(h:DataW.trod enc Tryz.prog w base spare held n 86 cs=some y):∃z:cn,cs=z.cells:=by
 obtain ⟨hl,ys,m,_,a⟩:=oA Tryz.underlying86 h;replace hl:cs.length=2:=hl.trans aj
 match cs,hl with
 |[f,c1],_=>
 obtain ⟨_,_,b⟩:=a 0 _ 3 0 _ rfl rfl rfl jx;obtain ⟨_,_,c⟩:=a 1 _ 4 1 _ rfl rfl rfl Nj;obtain ⟨d,e0⟩:=jy b;obtain ⟨e,e1⟩:=Nk c;simp only[List.drop,List.take,List.cons.injEq,and_true,Nat.reduceAdd] at e0 e1;exact ⟨⟨d,e⟩,by rw[e0,e1];rfl⟩
theorem Np {n:Nat}{cs:List Value}{y:DataW H×List MemPlace}(h:DataW.trod enc Tryz.prog w base spare held n 64 cs=some y):∃z:dI,cs=z.cells:=by
 obtain ⟨hl,ys,m,_,a⟩:=oA Tryz.underlying64 h;replace hl:cs.length=2:=hl.trans aj
 match cs,hl with
 |[f,c1],_=>
 obtain ⟨_,_,b⟩:=a 0 _ 3 0 _ rfl rfl rfl jx;obtain ⟨_,_,c⟩:=a 1 _ 3 1 _ rfl rfl rfl jx;obtain ⟨d,e0⟩:=jy b;obtain ⟨e,e1⟩:=jy c;simp only[List.drop,List.take,List.cons.injEq,and_true,Nat.reduceAdd] at e0 e1;exact ⟨⟨d,e⟩,by rw[e0,e1];rfl⟩
theorem Nq {n:Nat}{cs:List Value}{y:DataW H×List MemPlace}(h:DataW.trod enc Tryz.prog w base spare held n 66 cs=some y):∃z:cA,cs=z.cells:=by
 obtain ⟨hl,ys,m,_,a⟩:=oA Tryz.underlying66 h;have b:Tryz.prog.cellsOf 64=2:=aj;replace hl:cs.length=3:=hl.trans aj
 match cs,hl with
 |[g,c1,c2],_=>
 obtain ⟨_,_,c⟩:=a 0 _ 3 0 _ rfl rfl rfl jx;obtain ⟨_,_,d⟩:=a 1 _ 64 1 _ rfl rfl rfl b;obtain ⟨e,e0⟩:=jy c;obtain ⟨f,e1⟩:=Np d;simp only[List.drop,List.take,List.cons.injEq,and_true,dI.cells] at e0 e1;exact ⟨⟨e,f⟩,by rw[e0,e1.1,e1.2];rfl⟩
theorem Nr {r:Reach}{z:Nat}{o:List TypeId}{q:List (DataW H)}(c:(DataW.weightsEach Tryz.prog o q).all (· <=reachBytes)=true){j:Nat}(e:o[j]?=some 29){d:DataW H}(f:q[j]?=some d){v:Value}{p:List MemPlace}
  (A:Value.okWide Tryz.prog w r z 29 v) (h:DataW.Trod enc Tryz.prog w base spare held 29 v d p):
  ∃(u:an) (s1 s2 g k:Value),v= .agg #[.int .i64 u.bZ,.int .i64 u.cg,.int .i64 u.bp.num,.int .i64 u.bp.den,s1,s2,g,k]/\aH fT (fun a=>w.cell? a) s1 u.az/\aH fe (fun a=>w.cell? a) s2 u.props/\aH fN (fun a=>w.cell? a) g u.aK/\aH dL (fun a=>w.cell? a) k u.told:=by
 obtain ⟨cs,rfl,n⟩:=okWide_struct Tryz.underlying29 A
 replace n:cs.size=8:=n.trans aj
 obtain ⟨l⟩:=cs
 match l,n with
 |[a0,c1,c2,c3,c4,a2,a3,a4],_=>
 obtain ⟨fuel,B⟩:=h
 have C:Tryz.prog.cellsOf 23=2:=aj
 have D:Tryz.prog.cellsOf 24=1:=aj
 have E:Tryz.prog.cellsOf 25=1:=aj
 have F:Tryz.prog.cellsOf 26=1:=aj
 have G:Tryz.prog.cellsOf 27=1:=aj
 obtain ⟨_,ys,m,hd,b⟩:=oA Tryz.underlying29 B
 replace hd:d= .agg (ys.map (·.1)):=hd
 subst hd
 obtain ⟨_,_,I⟩:=b 0 _ 3 0 _ rfl rfl rfl jx
 obtain ⟨_,_,J⟩:=b 1 _ 3 1 _ rfl rfl rfl jx
 obtain ⟨_,_,K⟩:=b 2 _ 23 2 _ rfl rfl rfl C
 obtain ⟨a5,L,M⟩:=b 3 _ 24 4 _ rfl rfl rfl D
 obtain ⟨a6,N,O⟩:=b 4 _ 25 5 _ rfl rfl rfl E
 obtain ⟨a7,P,Q⟩:=b 5 _ 26 6 _ rfl rfl rfl F
 obtain ⟨a8,R,S⟩:=b 6 _ 27 7 _ rfl rfl rfl G
 obtain ⟨T,e0⟩:=jy I
 obtain ⟨U,e1⟩:=jy J
 obtain ⟨V,e2⟩:=Nl K
 obtain ⟨g,W,s,X⟩:=vK (r:=fT) Tryz.underlying24 aj (fun _ _ _ h=>Nm h) M fun es sp he=>vL c e f Tryz.underlying29 (i:=3) rfl rfl Tryz.underlying24 (of_decide_eq_true aj) (sp:=sp) (by rw[List.getElem?_map,L];exact congrArg some he)
 obtain ⟨k,Y,t,Z⟩:=vK (r:=fe) Tryz.underlying25 aj (fun _ _ _ h=>Nn h) O fun es sp he=>vL c e f Tryz.underlying29 (i:=4) rfl rfl Tryz.underlying25 (of_decide_eq_true aj) (sp:=sp) (by rw[List.getElem?_map,N];exact congrArg some he)
 obtain ⟨ab,ad,x,ae⟩:=vK (r:=fN) Tryz.underlying26 aj (fun _ _ _ h=>Nq h) Q fun es sp he=>vL c e f Tryz.underlying29 (i:=5) rfl rfl Tryz.underlying26 (of_decide_eq_true aj) (sp:=sp) (by rw[List.getElem?_map,P];exact congrArg some he)
 obtain ⟨al,ao,y,ar⟩:=vK (r:=dL) Tryz.underlying27 aj (fun _ _ _ h=>No h) S fun es sp he=>vL c e f Tryz.underlying29 (i:=6) rfl rfl Tryz.underlying27 (of_decide_eq_true aj) (sp:=sp) (by rw[List.getElem?_map,R];exact congrArg some he)
 simp only[Value.cells,List.drop,List.take,List.cons.injEq,and_true,au.cells] at e0 e1 e2 s t x y
 refine ⟨⟨T,U,V,W,Y,ad,ao⟩,g,k,ab,al,?_,X,Z,ae,ar⟩
 rw[e0,e1,e2.1,e2.2,s,t,x,y]
end
theorem Ns {w:World}(h:laidMetH Tryz.prog [("velarium/terrain.checks",Rows.laid_velarium_terrain_checks)] w):dM (fun a=>w.cell? a):=by
 obtain ⟨g,t,cs,fuel,p,j,v,x,y⟩:=laidMetH.funcs h (n:= "velarium/terrain.checks") (List.mem_singleton.2 rfl);obtain rfl:=Option.some.inj ((show Tryz.prog.globalNamed "velarium/terrain.checks"=some 0 by kernel_rfl).symm.trans j);obtain rfl:=Option.some.inj ((show (Tryz.prog.globals[0]?).map (·.type)=some 196 by kernel_rfl).symm.trans v);obtain ⟨xs,m,_,ex,_,hl,z⟩:=DataW.trod_array Tryz.underlying196 y;have c1:Tryz.prog.cellsOf 116=1:=aj;have d:=DataW.agg.inj (Prod.mk.inj ex).1;have key:∀(i f:Nat) (b:UInt8) (r:List UInt8),i<5->(xs.map (·.1))[i]?=some (.held (b::r))->(∃fn,Tryz.prog.funcs[f]?=some fn/\fn.name.toUTF8.data.toList=b::r/\Tryz.prog.funcNamed fn.name=some f)->w.cell? ⟨0,i,none⟩=some (.func (.func f) #[] #[]):=by
  intro i f b r hi c ⟨k,E,A,B⟩;have l:=z i hi;rw[c1,Nat.mul_one,List.getElem?_eq_getElem aa] at l;rw[List.getElem?_map,List.getElem?_eq_getElem aa] at c;simp only[Option.map_some,Option.some.injEq] at c;rw[World.var?_cell j x i];rcases Nh Tryz.underlying116 l with e|⟨f1,a1,c1,o,e⟩
  .rw[e] at c;cases c
  rw[e] at c;obtain ⟨f2,q,e1,e2,s,u⟩:=funcToken_tells (DataW.held.inj c);have C:q.name=k.name:=by
   rw[<-A] at u;have D:q.name.toUTF8=k.name.toUTF8:=ByteArray.ext (Array.toList_inj.1 u);exact String.toByteArray_inj.1 D
  rw[C,B] at s;obtain rfl:=Option.some.inj s;rw[e1] at o;have:((cs.toList.drop i).take 1)[0]?=some (.func (.func f) #[] #[]):=by rw[o];rfl
  simpa using this
 refine ⟨key 0 _ _ _ aD (by rw[<-d];rfl) ⟨_,Tryz.func231,aj,aj⟩,key 1 _ _ _ aD (by rw[<-d];rfl) ⟨_,Tryz.func232,aj,aj⟩,key 2 _ _ _ aD (by rw[<-d];rfl) ⟨_,Tryz.func233,aj,aj⟩,key 3 _ _ _ aD (by rw[<-d];rfl) ⟨_,Tryz.func234,aj,aj⟩,key 4 _ _ _ aD (by rw[<-d];rfl) ⟨_,Tryz.func235,aj,aj⟩⟩
theorem own:ownKnob Tryz.prog.godebug=none:=aj
theorem Nt {p:Pinned}{s:OpenSpec}{c:OpenClaim}(kinds:List LaidKind)(b:Bool)(a:Bool×String)(lk:Bool)
  (d:c.holds p s) (hw:c.wfByText s=true) (e:c.laidByTextAt .later p kinds b)
  (g:c.start= .entering) (i:c.noBlocks=false/\c.again=false) (hm:p.checked.prog.mainIs=some (a.1,a.2.toList)) (k:(!a.1&&a.2.isEmpty&&!lk)=false)
  (hl:∀f fn,p.checked.prog.funcNamed c.func=some f->p.checked.prog.funcs[f]?=some fn->lk=p.checked.prog.looks []/\∀(j:Nat) t,fn.params[j]?=some t->p.checked.prog.wantsStandIn t=false)
  (hg:true=c.goesBy p.checked.prog):
  Claim7.holds p (.plain s) {stood:={row:=c,standIns:=[],harness:=a,looks:=lk},kinds:=[],alts:=[],goes:=true,laidByText:=true,laidKinds:=kinds,laidTests:=b,laidLooks:=.later}:=by
 have l:∀r:OpenClaim,Claim7.isSixth {stood:={row:=r,standIns:=[],harness:=a,looks:=lk},kinds:=[]}=false:=fun r=>by simpa [Claim7.isSixth] using k
 exact ⟨Claim7.tied_new_at .later kinds b (Claim7.new_of_sixth d a lk g i hm (l c) hl) hw,fun D m=>(by cases m),e,(fun h=>by cases h),hg⟩
theorem Nu (os:Os)(H:Type)(enc:TypeId×Value->H):∃(w:World) (tape:Tape) (i:Input),w.os=os/\(w.forCall tape i).Shaped Tryz.checked.prog/\i.vars=[]/\Input.okWide Tryz.checked.prog (w.forCall tape i) .any w.heap.size 3 i/\
   ((Rows.terrainPlansSpec.pre enc Tryz.checked.prog Tryz.f3 [] false (w.forCall tape i).memory i.args/\laidMetH Tryz.prog [("velarium/terrain.checks",Rows.laid_velarium_terrain_checks)] (w.forCall tape i).memory)/\sizedMet enc Tryz.checked.prog Tryz.f3 (OpenSpec.ofChange Rows.terrainPlansSpec) false (w.forCall tape i).memory i.args)/\Rows.terrainPlansRow.assume.holds Tryz.checked.prog (lone (Frame.enter Tryz.checked.prog 3 i.args .normal) [] (w.forCall tape i)):=by
 refine ⟨(((((World.holding Tryz.prog os ⟨#[],#[],[]⟩).setCell ⟨0,0,none⟩ (.func (.func 231) #[] #[])).setCell ⟨0,1,none⟩ (.func (.func 232) #[] #[])).setCell ⟨0,2,none⟩ (.func (.func 233) #[] #[])).setCell ⟨0,3,none⟩ (.func (.func 234) #[] #[])).setCell ⟨0,4,none⟩ (.func (.func 235) #[] #[]),
  fun _ _=>0,⟨#[],#[.agg #[.int .i64 0,.int .i64 0,.int .i64 0,.int .i64 0,.slice none 0 0,.slice none 0 0,.slice none 0 0,.slice none 0 0],.int .i64 0],[]⟩,rfl,World.shaped_of_ZipB aj aj,rfl,(Input.okWide_of_okWideB aj).2,
  ⟨⟨ChangeSpec.pre_of_preB (fuel:=8) aj,laidMetH_of_parts3 (fuel:=8) ?_ rfl aj⟩,sizedMet_of_sizedB (fuel:=8) aj⟩,?_⟩
 .exact ⟨[],rfl,List.nodup_nil,fun _ _ h=>by cases h⟩
 .simp only[Assume.holds]
  exact ⟨by simp[Rows.terrainPlansRow,OpenClaim.assume],fun _ _ _ _=>rfl,by simp[Rows.terrainPlansRow,OpenClaim.assume],by simp[Rows.terrainPlansRow,OpenClaim.assume],by simp[Rows.terrainPlansRow,OpenClaim.assume]⟩
theorem Nv (os:Os)(started:os.Started)(H:Type)(enc:TypeId×Value->H)(F:Stop.Interp):
  ReturnsInLeavingWide Rows.terrainPlansRow.assume Tryz.checked os 3 .any (fun w args=>(Rows.terrainPlansSpec.pre enc Tryz.checked.prog Tryz.f3 [] false w args/\laidMetH Tryz.prog [("velarium/terrain.checks",Rows.laid_velarium_terrain_checks)] w)/\sizedMet enc Tryz.checked.prog Tryz.f3 (OpenSpec.ofChange Rows.terrainPlansSpec) false w args)
   ((OpenSpec.ofChange Rows.terrainPlansSpec).postWith enc Tryz.checked.prog Tryz.f3 F (outsideKept [.timePasses]) false true false):=by
 refine Ni (C:=Tryz.checked) (X:=laidMetH Tryz.prog [("velarium/terrain.checks",Rows.laid_velarium_terrain_checks)]) (fun w w' n h=>h.of_heap n.symm) own started Tryz.func3 (Nu os H enc) ?_
 intro W base args o gs before r hW _ s hL
 have b:∀(j:Nat) t v,Tryz.f3.params[j]?=some t->args[j]?=some v->Value.okWide Tryz.prog W .any base t v:=r
 have f:=hW
 obtain ⟨p,q,u,y,rfl,_,_⟩:=hW
 have c:DataW.TrodAll enc Tryz.prog W 0 (fun _=>true) true Tryz.f3.params.toList args.toList o p:=u
 have g:=DataW.TrodAll.lt c
 rw[Tryz.params3] at c b
 obtain ⟨v0,v1,d0,d1,p0,K,rfl,rfl,rfl,i,l⟩:=trodAll_two c
 obtain ⟨rfl,rfl⟩:=trodVars_none y
 obtain ⟨u0,s1,s2,L,M,z,A,B,D,E⟩:=Nr (j:=0) s rfl rfl (b 0 29 v0 rfl rfl) i
 obtain ⟨m,G,_,_,w1⟩:=open_int Tryz.underlying3 (b 1 3 v1 rfl rfl) l
 have I:m7 Tryz.prog 3 #[v0,v1] ⟨fun a=>W.cell? a,[]⟩ (fun v _=>v= .bool true):=by
  rw[z,G]
  exact Mm (Ns hL) u0 ⟨A,B,D,E⟩ m rfl (Nf u0 m)
 refine I.ends (Ng W) fun v F' w' J hu=>?_
 subst J
 simp only[List.append_nil] at f
 have d:Below W.heap.size W {w' with os:=W.os}:=⟨rfl,hu.tape,hu.output,hu.size,fun k hk=>hu.frame k hk (by simp[keys])⟩
 have hl:laidOutB Tryz.prog=true:=aj
 refine ⟨⟨_,_,_,[],_,[],f,trodAll_mk1 (shut_bool Tryz.underlying4 _),trodAll_mk2 (Below.trod hl aj (of_decide_eq_true aj) i d ?_) (Below.trod hl aj (of_decide_eq_true aj) l d ?_),rfl,d.frame _,fun h=>by cases h⟩,hu.os⟩
 .exact fun x e=>g x (by simp[e])
 .exact fun x e=>g x (by simp[e])
theorem Nw:Rows.TerrainPlansSaid:=
 OpenClaim.holds_of_wide_leaving_time 3 Tryz.f3 rfl rfl rfl rfl rfl rfl rfl ⟨rfl,rfl,rfl,rfl,rfl⟩ rfl rfl rfl rfl rfl aj Tryz.func3 aj
  (of_decide_eq_true aj) (by unfold Func.isWrapper;first|(rw[if_pos (by decide+kernel)];kernel_rfl)|(rw[if_neg (by decide+kernel)];exact ⟨rfl,rfl⟩))
  (fun os started H enc _ F=>Nv os started H enc F)
theorem TerrainPlans_holds:Rows.TerrainPlansCardSaid:=
 Nt [.funcs] true (true, "b4ecb61a1673b43049b06061494abfd8480764b6860f6ae19a562d7400491a4b") false Nw aj terrainPlans_row_tie rfl ⟨rfl,rfl⟩ aj rfl
  (fun f fn a b=>by
   obtain rfl:f=3:=Option.some.inj ((show Tryz.prog.funcNamed "velarium/velariumlaw04.TerrainPlans"=some 3 by kernel_rfl).symm.trans a)|>.symm
   obtain rfl:fn=Tryz.f3:=(Option.some.inj (Tryz.func3.symm.trans b)).symm
   exact ⟨aj,fun j t ht=>by
    rw[Tryz.params3] at ht
    have hm:t∈[29,3]:=by simpa using Array.mem_of_getElem? ht
    have c:([29,3].all fun u=>!Tryz.prog.wantsStandIn u)=true:=aj
    exact (show Tryz.prog.wantsStandIn t=false by simpa using List.all_eq_true.1 c t hm)⟩)
  aj
end Go.Proofs.YtbpddfapodiemaaGreatDoor
end

/- For every input that can be read, on every calm tape: the call of velariumlaw04.TerrainLines returns true; its arguments read as they did; the listed variable terrain.checks is tied to the text of the program. -/
import Derived.Test.YtipgiooobncfbaaGreatDoorQ11
import Derived.Test.YtipgiooobncfbaaGreatDoorTie
import Derived.Test.YtipgiooobncfbaaGreatDoorCards
import Derived.SevenTiedAt
set_option linter.all false
section
namespace Go.Proofs.YtipgiooobncfbaaGreatDoor
open Go Go.Sep Go.Proofs Go.ChangeShapes Go.WideShapes Go.ChangeAt Go.RowKit Go.Conc Go.ConcM
set_option maxRecDepth 100000
set_option maxHeartbeats 4000000
section
variable {H : Type} {enc : TypeId × Value → H} {w : World} {base : Nat} {spare : Nat → Bool} {held : Bool}
theorem fS:Tryz.prog.cellsOf 3=1:=by kernel_rfl
theorem GZ:Tryz.prog.cellsOf 4=1:=by kernel_rfl
theorem fT {n:Nat}{cs:List Value}{y:DataW H×List MemPlace}(h:DataW.trod enc Tryz.prog w base spare held n 3 cs=some y):∃z:Int,cs=[.int .i64 z]:=by
 obtain ⟨z,h,_⟩:=DataW.trod_int Tryz.underlying3 h
 exact ⟨z,h⟩
theorem G0 {n:Nat}{cs:List Value}{y:DataW H×List MemPlace}(h:DataW.trod enc Tryz.prog w base spare held n 4 cs=some y):∃z:Bool,cs=[.bool z]:=by
 obtain ⟨z,h,_⟩:=DataW.trod_bool Tryz.underlying4 h
 exact ⟨z,h⟩
theorem G1 {n:Nat}{cs:List Value}{y:DataW H×List MemPlace}(h:DataW.trod enc Tryz.prog w base spare held n 23 cs=some y):∃z:ak,cs=z.cells:=by
 obtain ⟨a,ys,m,_,b⟩:=j9 Tryz.underlying23 h
 replace a:cs.length=2:=a.trans (by kernel_rfl)
 match cs,a with
 |[g,c1],_=>
 obtain ⟨_,_,c⟩:=b 0 _ 3 0 _ rfl rfl rfl fS
 obtain ⟨_,_,d⟩:=b 1 _ 3 1 _ rfl rfl rfl fS
 obtain ⟨e,e0⟩:=fT c
 obtain ⟨f,e1⟩:=fT d
 simp only[List.drop,List.take,List.cons.injEq,and_true,Nat.reduceAdd] at e0 e1
 exact ⟨⟨e,f⟩,by rw[e0,e1];rfl⟩
theorem G2 {n:Nat}{cs:List Value}{y:DataW H×List MemPlace}(h:DataW.trod enc Tryz.prog w base spare held n 132 cs=some y):∃z:bZ,cs=z.cells:=by
 obtain ⟨a,ys,m,_,b⟩:=j9 Tryz.underlying132 h
 replace a:cs.length=2:=a.trans (by kernel_rfl)
 match cs,a with
 |[g,c1],_=>
 obtain ⟨_,_,c⟩:=b 0 _ 3 0 _ rfl rfl rfl fS
 obtain ⟨_,_,d⟩:=b 1 _ 3 1 _ rfl rfl rfl fS
 obtain ⟨e,e0⟩:=fT c
 obtain ⟨f,e1⟩:=fT d
 simp only[List.drop,List.take,List.cons.injEq,and_true,Nat.reduceAdd] at e0 e1
 exact ⟨⟨e,f⟩,by rw[e0,e1];rfl⟩
theorem G3 {n:Nat}{cs:List Value}{y:DataW H×List MemPlace}(h:DataW.trod enc Tryz.prog w base spare held n 31 cs=some y):∃z:aP,cs=z.cells:=by
 obtain ⟨a,ys,m,_,b⟩:=j9 Tryz.underlying31 h
 replace a:cs.length=2:=a.trans (by kernel_rfl)
 match cs,a with
 |[g,c1],_=>
 obtain ⟨_,_,c⟩:=b 0 _ 3 0 _ rfl rfl rfl fS
 obtain ⟨_,_,d⟩:=b 1 _ 3 1 _ rfl rfl rfl fS
 obtain ⟨e,e0⟩:=fT c
 obtain ⟨f,e1⟩:=fT d
 simp only[List.drop,List.take,List.cons.injEq,and_true,Nat.reduceAdd] at e0 e1
 exact ⟨⟨e,f⟩,by rw[e0,e1];rfl⟩
theorem G4 {n:Nat}{cs:List Value}{y:DataW H×List MemPlace}(h:DataW.trod enc Tryz.prog w base spare held n 146 cs=some y):∃z:b7,cs=z.cells:=by
 obtain ⟨a,ys,m,_,b⟩:=j9 Tryz.underlying146 h
 replace a:cs.length=2:=a.trans (by kernel_rfl)
 match cs,a with
 |[g,c1],_=>
 obtain ⟨_,_,c⟩:=b 0 _ 3 0 _ rfl rfl rfl fS
 obtain ⟨_,_,d⟩:=b 1 _ 3 1 _ rfl rfl rfl fS
 obtain ⟨e,e0⟩:=fT c
 obtain ⟨f,e1⟩:=fT d
 simp only[List.drop,List.take,List.cons.injEq,and_true,Nat.reduceAdd] at e0 e1
 exact ⟨⟨e,f⟩,by rw[e0,e1];rfl⟩
theorem G5 {n:Nat}{cs:List Value}{y:DataW H×List MemPlace}(h:DataW.trod enc Tryz.prog w base spare held n 54 cs=some y):∃z:bP,cs=z.cells:=by
 obtain ⟨a,ys,m,_,b⟩:=j9 Tryz.underlying54 h
 replace a:cs.length=2:=a.trans (by kernel_rfl)
 match cs,a with
 |[g,c1],_=>
 obtain ⟨_,_,c⟩:=b 0 _ 3 0 _ rfl rfl rfl fS
 obtain ⟨_,_,d⟩:=b 1 _ 4 1 _ rfl rfl rfl GZ
 obtain ⟨e,e0⟩:=fT c
 obtain ⟨f,e1⟩:=G0 d
 simp only[List.drop,List.take,List.cons.injEq,and_true,Nat.reduceAdd] at e0 e1
 exact ⟨⟨e,f⟩,by rw[e0,e1];rfl⟩
theorem G6 {n:Nat}{cs:List Value}{y:DataW H×List MemPlace}(h:DataW.trod enc Tryz.prog w base spare held n 56 cs=some y):∃z:dw,cs=z.cells:=by
 obtain ⟨a,ys,m,_,b⟩:=j9 Tryz.underlying56 h
 replace a:cs.length=2:=a.trans (by kernel_rfl)
 match cs,a with
 |[g,c1],_=>
 obtain ⟨_,_,c⟩:=b 0 _ 3 0 _ rfl rfl rfl fS
 obtain ⟨_,_,d⟩:=b 1 _ 3 1 _ rfl rfl rfl fS
 obtain ⟨e,e0⟩:=fT c
 obtain ⟨f,e1⟩:=fT d
 simp only[List.drop,List.take,List.cons.injEq,and_true,Nat.reduceAdd] at e0 e1
 exact ⟨⟨e,f⟩,by rw[e0,e1];rfl⟩
theorem G7 {n:Nat}{cs:List Value}{y:DataW H×List MemPlace}(h:DataW.trod enc Tryz.prog w base spare held n 148 cs=some y):∃z:cA,cs=z.cells:=by
 obtain ⟨a,ys,m,_,b⟩:=j9 Tryz.underlying148 h
 have c:Tryz.prog.cellsOf 56=2:=by kernel_rfl
 replace a:cs.length=3:=a.trans (by kernel_rfl)
 match cs,a with
 |[i,c1,c2],_=>
 obtain ⟨_,_,d⟩:=b 0 _ 3 0 _ rfl rfl rfl fS
 obtain ⟨_,_,e⟩:=b 1 _ 56 1 _ rfl rfl rfl c
 obtain ⟨f,e0⟩:=fT d
 obtain ⟨g,e1⟩:=G6 e
 simp only[List.drop,List.take,List.cons.injEq,and_true,dw.cells] at e0 e1
 exact ⟨⟨f,g⟩,by rw[e0,e1.1,e1.2];rfl⟩
theorem G8 {r:Reach}{z:Nat}{o:List TypeId}{q:List (DataW H)}(c:(DataW.weightsEach Tryz.prog o q).all (· <=reachBytes)=true){j:Nat}(e:o[j]?=some 29){d:DataW H}(f:q[j]?=some d){v:Value}{p:List MemPlace}
  (A:Value.okWide Tryz.prog w r z 29 v) (h:DataW.Trod enc Tryz.prog w base spare held 29 v d p):
  ∃(u:an) (s1 s2 g k:Value),v= .agg #[.int .i64 u.bF,.int .i64 u.bJ,.int .i64 u.aT.num,.int .i64 u.aT.den,s1,s2,g,k]/\az eD (fun a=>w.cell? a) s1 u.aB/\az dX (fun a=>w.cell? a) s2 u.props/\az ew (fun a=>w.cell? a) g u.aR/\az cO (fun a=>w.cell? a) k u.told:=by
 obtain ⟨cs,rfl,n⟩:=okWide_struct Tryz.underlying29 A
 replace n:cs.size=8:=n.trans (by kernel_rfl)
 obtain ⟨l⟩:=cs
 match l,n with
 |[a0,c1,c2,c3,c4,a2,a3,a4],_=>
 obtain ⟨fuel,B⟩:=h
 have C:Tryz.prog.cellsOf 23=2:=by kernel_rfl
 have D:Tryz.prog.cellsOf 24=1:=by kernel_rfl
 have E:Tryz.prog.cellsOf 25=1:=by kernel_rfl
 have F:Tryz.prog.cellsOf 26=1:=by kernel_rfl
 have G:Tryz.prog.cellsOf 27=1:=by kernel_rfl
 obtain ⟨_,ys,m,hd,b⟩:=j9 Tryz.underlying29 B
 replace hd:d= .agg (ys.map (·.1)):=hd
 subst hd
 obtain ⟨_,_,I⟩:=b 0 _ 3 0 _ rfl rfl rfl fS
 obtain ⟨_,_,J⟩:=b 1 _ 3 1 _ rfl rfl rfl fS
 obtain ⟨_,_,K⟩:=b 2 _ 23 2 _ rfl rfl rfl C
 obtain ⟨a5,L,M⟩:=b 3 _ 24 4 _ rfl rfl rfl D
 obtain ⟨a6,N,O⟩:=b 4 _ 25 5 _ rfl rfl rfl E
 obtain ⟨a7,P,Q⟩:=b 5 _ 26 6 _ rfl rfl rfl F
 obtain ⟨a8,R,S⟩:=b 6 _ 27 7 _ rfl rfl rfl G
 obtain ⟨T,e0⟩:=fT I
 obtain ⟨U,e1⟩:=fT J
 obtain ⟨V,e2⟩:=G1 K
 obtain ⟨g,W,s,X⟩:=rD (r:=eD) Tryz.underlying24 (by kernel_rfl) (fun _ _ _ h=>G2 h) M fun es sp he=>rE c e f Tryz.underlying29 (i:=3) rfl rfl Tryz.underlying24 (of_decide_eq_true (by kernel_rfl)) (sp:=sp) (by rw[List.getElem?_map,L];exact congrArg some he)
 obtain ⟨k,Y,t,Z⟩:=rD (r:=dX) Tryz.underlying25 (by kernel_rfl) (fun _ _ _ h=>G4 h) O fun es sp he=>rE c e f Tryz.underlying29 (i:=4) rfl rfl Tryz.underlying25 (of_decide_eq_true (by kernel_rfl)) (sp:=sp) (by rw[List.getElem?_map,N];exact congrArg some he)
 obtain ⟨ab,ad,x,ae⟩:=rD (r:=ew) Tryz.underlying26 (by kernel_rfl) (fun _ _ _ h=>G7 h) Q fun es sp he=>rE c e f Tryz.underlying29 (i:=5) rfl rfl Tryz.underlying26 (of_decide_eq_true (by kernel_rfl)) (sp:=sp) (by rw[List.getElem?_map,P];exact congrArg some he)
 obtain ⟨al,ao,y,ar⟩:=rD (r:=cO) Tryz.underlying27 (by kernel_rfl) (fun _ _ _ h=>G5 h) S fun es sp he=>rE c e f Tryz.underlying29 (i:=6) rfl rfl Tryz.underlying27 (of_decide_eq_true (by kernel_rfl)) (sp:=sp) (by rw[List.getElem?_map,R];exact congrArg some he)
 simp only[Value.cells,List.drop,List.take,List.cons.injEq,and_true,ak.cells] at e0 e1 e2 s t x y
 refine ⟨⟨T,U,V,W,Y,ad,ao⟩,g,k,ab,al,?_,X,Z,ae,ar⟩
 rw[e0,e1,e2.1,e2.2,s,t,x,y]
theorem G9 {r:Reach}{a:Nat}{v:Value}{d:DataW H}{p:List MemPlace}(b:Value.okWide Tryz.prog w r a 31 v)(h:DataW.Trod enc Tryz.prog w base spare held 31 v d p):
  ∃u:aP,v= .agg #[.int .i64 u.back,.int .i64 u.high]:=by
 obtain ⟨cs,rfl,e⟩:=okWide_struct Tryz.underlying31 b
 obtain ⟨fuel,c⟩:=h
 obtain ⟨u,hu⟩:=G3 c
 refine ⟨u,?_⟩
 obtain ⟨l⟩:=cs
 replace hu:l=u.cells:=hu
 rw[hu];rfl
end
theorem He {w:World}(h:laidMetH Tryz.prog [("velarium/terrain.checks",Rows.laid_velarium_terrain_checks)] w):cP (fun a=>w.cell? a):=by
 obtain ⟨g,t,cs,fuel,p,h1,h2,h3,u⟩:=laidMetH.funcs h (n:= "velarium/terrain.checks") (List.mem_singleton.2 rfl)
 obtain rfl:=Option.some.inj ((show Tryz.prog.globalNamed "velarium/terrain.checks"=some 0 by kernel_rfl).symm.trans h1)
 obtain rfl:=Option.some.inj ((show (Tryz.prog.globals[0]?).map (·.type)=some 99 by kernel_rfl).symm.trans h2)
 obtain ⟨xs,m,_,ex,_,C,v⟩:=DataW.trod_array Tryz.underlying99 u
 have c1:Tryz.prog.cellsOf 86=1:=by kernel_rfl
 have d:=DataW.agg.inj (Prod.mk.inj ex).1
 have key:∀(i f:Nat) (b:UInt8) (r:List UInt8),i<5->(xs.map (·.1))[i]?=some (.held (b::r))->(∃fn,Tryz.prog.funcs[f]?=some fn/\fn.name.toUTF8.data.toList=b::r/\Tryz.prog.funcNamed fn.name=some f)->w.cell? ⟨0,i,none⟩=some (.func (.func f) #[] #[]):=by
  intro i f b r x c ⟨j,D,y,z⟩
  have k:=v i x
  rw[c1,Nat.mul_one,List.getElem?_eq_getElem (by omega)] at k
  rw[List.getElem?_map,List.getElem?_eq_getElem (by omega)] at c
  simp only[Option.map_some,Option.some.injEq] at c
  rw[World.var?_cell h1 h3 i]
  rcases GX Tryz.underlying86 k with e|⟨f1,a1,c1,l,e⟩
  ·rw[e] at c;cases c
  rw[e] at c
  obtain ⟨f2,o,e1,e2,q,s⟩:=funcToken_tells (DataW.held.inj c)
  have A:o.name=j.name:=by
   rw[<-y] at s
   have B:o.name.toUTF8=j.name.toUTF8:=ByteArray.ext (Array.toList_inj.1 s)
   exact String.toByteArray_inj.1 B
  rw[A,z] at q
  obtain rfl:=Option.some.inj q
  rw[e1] at l
  have:((cs.toList.drop i).take 1)[0]?=some (.func (.func f) #[] #[]):=by rw[l];rfl
  simpa using this
 refine ⟨key 0 _ _ _ (by decide) (by rw[<-d];rfl) ⟨_,Tryz.func228,by kernel_rfl,by kernel_rfl⟩,key 1 _ _ _ (by decide) (by rw[<-d];rfl) ⟨_,Tryz.func229,by kernel_rfl,by kernel_rfl⟩,key 2 _ _ _ (by decide) (by rw[<-d];rfl) ⟨_,Tryz.func230,by kernel_rfl,by kernel_rfl⟩,key 3 _ _ _ (by decide) (by rw[<-d];rfl) ⟨_,Tryz.func231,by kernel_rfl,by kernel_rfl⟩,key 4 _ _ _ (by decide) (by rw[<-d];rfl) ⟨_,Tryz.func232,by kernel_rfl,by kernel_rfl⟩⟩
theorem own:ownKnob Tryz.prog.godebug=none:=by kernel_rfl
theorem Hf {p:Pinned}{s:OpenSpec}{c:OpenClaim}(kinds:List LaidKind)(b:Bool)(a:Bool×String)(lk:Bool)
  (d:c.holds p s) (hw:c.wfByText s=true) (e:c.laidByTextAt .later p kinds b)
  (g:c.start= .entering) (i:c.noBlocks=false/\c.again=false) (hm:p.checked.prog.mainIs=some (a.1,a.2.toList)) (k:(!a.1&&a.2.isEmpty&&!lk)=false)
  (l:∀f fn,p.checked.prog.funcNamed c.func=some f->p.checked.prog.funcs[f]?=some fn->lk=p.checked.prog.looks []/\∀(j:Nat) t,fn.params[j]?=some t->p.checked.prog.wantsStandIn t=false)
  (hg:true=c.goesBy p.checked.prog):
  Claim7.holds p (.plain s) {stood:={row:=c,standIns:=[],harness:=a,looks:=lk},kinds:=[],alts:=[],goes:=true,laidByText:=true,laidKinds:=kinds,laidTests:=b,laidLooks:=.later}:=by
 have m:∀r:OpenClaim,Claim7.isSixth {stood:={row:=r,standIns:=[],harness:=a,looks:=lk},kinds:=[]}=false:=fun r=>by simpa [Claim7.isSixth] using k
 exact ⟨Claim7.tied_new_at .later kinds b (Claim7.new_of_sixth d a lk g i hm (m c) l) hw,fun D n=>(by cases n),e,(fun h=>by cases h),hg⟩
theorem Hg (os:Os)(H:Type)(enc:TypeId×Value->H):∃(w:World) (tape:Tape) (i:Input),w.os=os/\(w.forCall tape i).Shaped Tryz.checked.prog/\i.vars=[]/\Input.okWide Tryz.checked.prog (w.forCall tape i) .any w.heap.size 3 i/\
   ((Rows.terrainLinesSpec.pre enc Tryz.checked.prog Tryz.f3 [] false (w.forCall tape i).memory i.args/\laidMetH Tryz.prog [("velarium/terrain.checks",Rows.laid_velarium_terrain_checks)] (w.forCall tape i).memory)/\sizedMet enc Tryz.checked.prog Tryz.f3 (OpenSpec.ofChange Rows.terrainLinesSpec) false (w.forCall tape i).memory i.args)/\Rows.terrainLinesRow.assume.holds Tryz.checked.prog (lone (Frame.enter Tryz.checked.prog 3 i.args .normal) [] (w.forCall tape i)):=by
 refine ⟨(((((World.holding Tryz.prog os ⟨#[],#[],[]⟩).setCell ⟨0,0,none⟩ (.func (.func 228) #[] #[])).setCell ⟨0,1,none⟩ (.func (.func 229) #[] #[])).setCell ⟨0,2,none⟩ (.func (.func 230) #[] #[])).setCell ⟨0,3,none⟩ (.func (.func 231) #[] #[])).setCell ⟨0,4,none⟩ (.func (.func 232) #[] #[]),
  fun _ _=>0,⟨#[],#[.agg #[.int .i64 0,.int .i64 0,.int .i64 0,.int .i64 0,.slice none 0 0,.slice none 0 0,.slice none 0 0,.slice none 0 0],.int .i64 0,.agg #[.int .i64 0,.int .i64 0]],[]⟩,rfl,World.shaped_of_ZipB (by kernel_rfl) (by kernel_rfl),rfl,(Input.okWide_of_okWideB (by kernel_rfl)).2,
  ⟨⟨ChangeSpec.pre_of_preB (fuel:=8) (by kernel_rfl),laidMetH_of_parts3 (fuel:=8) ?_ rfl (by kernel_rfl)⟩,sizedMet_of_sizedB (fuel:=8) (by kernel_rfl)⟩,?_⟩
 ·exact ⟨[],rfl,List.nodup_nil,fun _ _ h=>by cases h⟩
 ·simp only[Assume.holds]
  exact ⟨by simp[Rows.terrainLinesRow,OpenClaim.assume],fun _ _ _ _=>rfl,by simp[Rows.terrainLinesRow,OpenClaim.assume],by simp[Rows.terrainLinesRow,OpenClaim.assume],by simp[Rows.terrainLinesRow,OpenClaim.assume]⟩
theorem Hh (os:Os)(started:os.Started)(H:Type)(enc:TypeId×Value->H)(F:Stop.Interp):
  ReturnsInLeavingWide Rows.terrainLinesRow.assume Tryz.checked os 3 .any (fun w args=>(Rows.terrainLinesSpec.pre enc Tryz.checked.prog Tryz.f3 [] false w args/\laidMetH Tryz.prog [("velarium/terrain.checks",Rows.laid_velarium_terrain_checks)] w)/\sizedMet enc Tryz.checked.prog Tryz.f3 (OpenSpec.ofChange Rows.terrainLinesSpec) false w args)
   ((OpenSpec.ofChange Rows.terrainLinesSpec).postWith enc Tryz.checked.prog Tryz.f3 F (outsideKept [.timePasses]) false true false):=by
 refine GY (C:=Tryz.checked) (X:=laidMetH Tryz.prog [("velarium/terrain.checks",Rows.laid_velarium_terrain_checks)]) (fun w w' n h=>h.of_heap n.symm) own started Tryz.func3 (Hg os H enc) ?_
 intro W base args o gs before r hW _ s u
 have c:∀(j:Nat) t v,Tryz.f3.params[j]?=some t->args[j]?=some v->Value.okWide Tryz.prog W .any base t v:=r
 have i:=hW
 obtain ⟨p,q,y,z,rfl,_,_⟩:=hW
 have e:DataW.TrodAll enc Tryz.prog W 0 (fun _=>true) true Tryz.f3.params.toList args.toList o p:=y
 have f:=DataW.TrodAll.lt e
 rw[Tryz.params3] at e c
 obtain ⟨v0,v1,v2,d0,d1,d2,p0,N,p2,rfl,rfl,rfl,h0,h1,h2⟩:=trodAll_three e
 obtain ⟨rfl,rfl⟩:=trodVars_none z
 obtain ⟨u0,s1,s2,O,P,A,B,D,E,G⟩:=G8 (j:=0) s rfl rfl (c 0 29 v0 rfl rfl) h0
 obtain ⟨l,I,_,_,w1⟩:=open_int Tryz.underlying3 (c 1 3 v1 rfl rfl) h1
 obtain ⟨m,J⟩:=G9 (c 2 31 v2 rfl rfl) h2
 have K:kL Tryz.prog 3 #[v0,v1,v2] ⟨fun a=>W.cell? a,[]⟩ (fun v _=>v= .bool true):=by
  rw[A,I,J]
  exact GV (He u) u0 ⟨B,D,E,G⟩ l m (GU u0 l m)
 refine K.ends (GW W) fun v F' w' L hu=>?_
 subst L
 simp only[List.append_nil] at i
 have d:Below W.heap.size W {w' with os:=W.os}:=⟨rfl,hu.tape,hu.output,hu.size,fun k M=>hu.frame k M (by simp[keys])⟩
 have g:laidOutB Tryz.prog=true:=by kernel_rfl
 refine ⟨⟨_,_,_,[],_,[],i,trodAll_mk1 (shut_bool Tryz.underlying4 _),trodAll_mk3 (Below.trod g (by kernel_rfl) (of_decide_eq_true (by kernel_rfl)) h0 d ?_) (Below.trod g (by kernel_rfl) (of_decide_eq_true (by kernel_rfl)) h1 d ?_) (Below.trod g (by kernel_rfl) (of_decide_eq_true (by kernel_rfl)) h2 d ?_),rfl,d.frame _,fun h=>by cases h⟩,hu.os⟩
 ·exact fun x b=>f x (by simp[b])
 ·exact fun x b=>f x (by simp[b])
 ·exact fun x b=>f x (by simp[b])
theorem Hi:Rows.TerrainLinesSaid:=
 OpenClaim.holds_of_wide_leaving_time 3 Tryz.f3 rfl rfl rfl rfl rfl rfl rfl ⟨rfl,rfl,rfl,rfl,rfl⟩ rfl rfl rfl rfl rfl (by kernel_rfl) Tryz.func3 (by kernel_rfl)
  (of_decide_eq_true (by kernel_rfl)) (by unfold Func.isWrapper;first|(rw[if_pos (by decide+kernel)];kernel_rfl)|(rw[if_neg (by decide+kernel)];exact ⟨rfl,rfl⟩))
  (fun os started H enc _ F=>Hh os started H enc F)
theorem TerrainLines_holds:Rows.TerrainLinesCardSaid:=
 Hf [.funcs] true (true, "74078c9016ff7435a620452141671c7ce056ef31365e2ede0d42399537ddef74") false Hi (by kernel_rfl) terrainLines_row_tie rfl ⟨rfl,rfl⟩ (by kernel_rfl) rfl
  (fun f fn a b=>by
   obtain rfl:f=3:=Option.some.inj ((show Tryz.prog.funcNamed "velarium/velariumlaw04.TerrainLines"=some 3 by kernel_rfl).symm.trans a)|>.symm
   obtain rfl:fn=Tryz.f3:=(Option.some.inj (Tryz.func3.symm.trans b)).symm
   exact ⟨by kernel_rfl,fun j t ht=>by
    rw[Tryz.params3] at ht
    have hm:t∈[29,3,31]:=by simpa using Array.mem_of_getElem? ht
    have c:([29,3,31].all fun u=>!Tryz.prog.wantsStandIn u)=true:=by kernel_rfl
    exact (show Tryz.prog.wantsStandIn t=false by simpa using List.all_eq_true.1 c t hm)⟩)
  (by kernel_rfl)
end Go.Proofs.YtipgiooobncfbaaGreatDoor
end

/- For every input that can be read, on every calm tape: the call of velariumlaw04.TerrainAnyOrder returns true; its arguments read as they did; the listed variable terrain.checks is tied to the text of the program. -/
import Derived.Test.YtnaejeiofbpbkaaGreatDoorQQ16
import Derived.Test.YtnaejeiofbpbkaaGreatDoorTie
import Derived.Test.YtnaejeiofbpbkaaGreatDoorCards
import Derived.SevenTiedAt
set_option linter.all false
section
namespace Go.Proofs.YtnaejeiofbpbkaaGreatDoor
open Go Go.Sep Go.Proofs Go.ChangeShapes Go.WideShapes Go.ChangeAt Go.RowKit Go.Conc Go.ConcM
set_option maxRecDepth 100000
set_option maxHeartbeats 4000000
section
variable {H:Type}{enc:TypeId×Value->H}{w:World}{base:Nat}{spare:Nat->Bool}{held:Bool}
theorem jr:Tryz.prog.cellsOf 3=1:=by kernel_rfl
theorem NU:Tryz.prog.cellsOf 4=1:=by kernel_rfl
theorem js {n:Nat}{cs:List Value}{y:DataW H×List MemPlace}(h:DataW.trod enc Tryz.prog w base spare held n 3 cs=some y):∃z:Int,cs=[.int .i64 z]:=by
 obtain ⟨z,h,_⟩:=DataW.trod_int Tryz.underlying3 h;exact ⟨z,h⟩
theorem NV {n:Nat}{cs:List Value}{y:DataW H×List MemPlace}(h:DataW.trod enc Tryz.prog w base spare held n 4 cs=some y):∃z:Bool,cs=[.bool z]:=by
 obtain ⟨z,h,_⟩:=DataW.trod_bool Tryz.underlying4 h;exact ⟨z,h⟩
theorem NW {n:Nat}{cs:List Value}{y:DataW H×List MemPlace}(h:DataW.trod enc Tryz.prog w base spare held n 23 cs=some y):∃z:au,cs=z.cells:=by
 obtain ⟨a,ys,m,_,b⟩:=ou Tryz.underlying23 h;replace a:cs.length=2:=a.trans (by kernel_rfl)
 match cs,a with
 |[g,c1],_=>
 obtain ⟨_,_,c⟩:=b 0 _ 3 0 _ rfl rfl rfl jr;obtain ⟨_,_,d⟩:=b 1 _ 3 1 _ rfl rfl rfl jr;obtain ⟨e,e0⟩:=js c;obtain ⟨f,e1⟩:=js d;simp only[List.drop,List.take,List.cons.injEq,and_true,Nat.reduceAdd] at e0 e1;exact ⟨⟨e,f⟩,by rw[e0,e1];rfl⟩
theorem NX {n:Nat}{cs:List Value}{y:DataW H×List MemPlace}(h:DataW.trod enc Tryz.prog w base spare held n 129 cs=some y):∃z:bY,cs=z.cells:=by
 obtain ⟨a,ys,m,_,b⟩:=ou Tryz.underlying129 h;replace a:cs.length=2:=a.trans (by kernel_rfl)
 match cs,a with
 |[g,c1],_=>
 obtain ⟨_,_,c⟩:=b 0 _ 3 0 _ rfl rfl rfl jr;obtain ⟨_,_,d⟩:=b 1 _ 3 1 _ rfl rfl rfl jr;obtain ⟨e,e0⟩:=js c;obtain ⟨f,e1⟩:=js d;simp only[List.drop,List.take,List.cons.injEq,and_true,Nat.reduceAdd] at e0 e1;exact ⟨⟨e,f⟩,by rw[e0,e1];rfl⟩
theorem NY {n:Nat}{cs:List Value}{y:DataW H×List MemPlace}(h:DataW.trod enc Tryz.prog w base spare held n 43 cs=some y):∃z:bL,cs=z.cells:=by
 obtain ⟨a,ys,m,_,b⟩:=ou Tryz.underlying43 h;replace a:cs.length=2:=a.trans (by kernel_rfl)
 match cs,a with
 |[g,c1],_=>
 obtain ⟨_,_,c⟩:=b 0 _ 3 0 _ rfl rfl rfl jr;obtain ⟨_,_,d⟩:=b 1 _ 3 1 _ rfl rfl rfl jr;obtain ⟨e,e0⟩:=js c;obtain ⟨f,e1⟩:=js d;simp only[List.drop,List.take,List.cons.injEq,and_true,Nat.reduceAdd] at e0 e1;exact ⟨⟨e,f⟩,by rw[e0,e1];rfl⟩
theorem NZ {n:Nat}{cs:List Value}{y:DataW H×List MemPlace}(h:DataW.trod enc Tryz.prog w base spare held n 49 cs=some y):∃z:bA,cs=z.cells:=by
 obtain ⟨a,ys,m,_,b⟩:=ou Tryz.underlying49 h;replace a:cs.length=2:=a.trans (by kernel_rfl)
 match cs,a with
 |[g,c1],_=>
 obtain ⟨_,_,c⟩:=b 0 _ 3 0 _ rfl rfl rfl jr;obtain ⟨_,_,d⟩:=b 1 _ 4 1 _ rfl rfl rfl NU;obtain ⟨e,e0⟩:=js c;obtain ⟨f,e1⟩:=NV d;simp only[List.drop,List.take,List.cons.injEq,and_true,Nat.reduceAdd] at e0 e1;exact ⟨⟨e,f⟩,by rw[e0,e1];rfl⟩
theorem N0 {n:Nat}{cs:List Value}{y:DataW H×List MemPlace}(h:DataW.trod enc Tryz.prog w base spare held n 45 cs=some y):∃z:dn,cs=z.cells:=by
 obtain ⟨a,ys,m,_,b⟩:=ou Tryz.underlying45 h;replace a:cs.length=2:=a.trans (by kernel_rfl)
 match cs,a with
 |[g,c1],_=>
 obtain ⟨_,_,c⟩:=b 0 _ 3 0 _ rfl rfl rfl jr;obtain ⟨_,_,d⟩:=b 1 _ 3 1 _ rfl rfl rfl jr;obtain ⟨e,e0⟩:=js c;obtain ⟨f,e1⟩:=js d;simp only[List.drop,List.take,List.cons.injEq,and_true,Nat.reduceAdd] at e0 e1;exact ⟨⟨e,f⟩,by rw[e0,e1];rfl⟩
theorem N1 {n:Nat}{cs:List Value}{y:DataW H×List MemPlace}(h:DataW.trod enc Tryz.prog w base spare held n 47 cs=some y):∃z:bO,cs=z.cells:=by
 obtain ⟨a,ys,m,_,b⟩:=ou Tryz.underlying47 h;have c:Tryz.prog.cellsOf 45=2:=by kernel_rfl
 replace a:cs.length=3:=a.trans (by kernel_rfl)
 match cs,a with
 |[i,c1,c2],_=>
 obtain ⟨_,_,d⟩:=b 0 _ 3 0 _ rfl rfl rfl jr;obtain ⟨_,_,e⟩:=b 1 _ 45 1 _ rfl rfl rfl c;obtain ⟨f,e0⟩:=js d;obtain ⟨g,e1⟩:=N0 e;simp only[List.drop,List.take,List.cons.injEq,and_true,dn.cells] at e0 e1;exact ⟨⟨f,g⟩,by rw[e0,e1.1,e1.2];rfl⟩
theorem N2 {r:Reach}{z:Nat}{o:List TypeId}{q:List (DataW H)}(c:(DataW.weightsEach Tryz.prog o q).all (· <=reachBytes)=true){j:Nat}(e:o[j]?=some 29){d:DataW H}(f:q[j]?=some d){v:Value}{p:List MemPlace}
  (A:Value.okWide Tryz.prog w r z 29 v) (h:DataW.Trod enc Tryz.prog w base spare held 29 v d p):
  ∃(u:aj) (s1 s2 g k:Value),v= .agg #[.int .i64 u.bB,.int .i64 u.bH,.int .i64 u.aO.num,.int .i64 u.aO.den,s1,s2,g,k]/\az eT (fun a=>w.cell? a) s1 u.ax/\az dI (fun a=>w.cell? a) s2 u.props/\az ej (fun a=>w.cell? a) g u.an/\az cU (fun a=>w.cell? a) k u.told:=by
 obtain ⟨cs,rfl,n⟩:=okWide_struct Tryz.underlying29 A
 replace n:cs.size=8:=n.trans (by kernel_rfl)
 obtain ⟨l⟩:=cs
 match l,n with
 |[a0,c1,c2,c3,c4,a2,a3,a4],_=>
 obtain ⟨fuel,B⟩:=h
 have C:Tryz.prog.cellsOf 23=2:=by kernel_rfl
 have D:Tryz.prog.cellsOf 24=1:=by kernel_rfl
 have E:Tryz.prog.cellsOf 25=1:=by kernel_rfl
 have F:Tryz.prog.cellsOf 26=1:=by kernel_rfl
 have G:Tryz.prog.cellsOf 27=1:=by kernel_rfl
 obtain ⟨_,ys,m,hd,b⟩:=ou Tryz.underlying29 B
 replace hd:d= .agg (ys.map (·.1)):=hd
 subst hd
 obtain ⟨_,_,I⟩:=b 0 _ 3 0 _ rfl rfl rfl jr
 obtain ⟨_,_,J⟩:=b 1 _ 3 1 _ rfl rfl rfl jr
 obtain ⟨_,_,K⟩:=b 2 _ 23 2 _ rfl rfl rfl C
 obtain ⟨a5,L,M⟩:=b 3 _ 24 4 _ rfl rfl rfl D
 obtain ⟨a6,N,O⟩:=b 4 _ 25 5 _ rfl rfl rfl E
 obtain ⟨a7,P,Q⟩:=b 5 _ 26 6 _ rfl rfl rfl F
 obtain ⟨a8,R,S⟩:=b 6 _ 27 7 _ rfl rfl rfl G
 obtain ⟨T,e0⟩:=js I
 obtain ⟨U,e1⟩:=js J
 obtain ⟨V,e2⟩:=NW K
 obtain ⟨g,W,s,X⟩:=v5 (r:=eT) Tryz.underlying24 (by kernel_rfl) (fun _ _ _ h=>NX h) M fun es sp he=>v7 c e f Tryz.underlying29 (i:=3) rfl rfl Tryz.underlying24 (of_decide_eq_true (by kernel_rfl)) (sp:=sp) (by rw[List.getElem?_map,L];exact congrArg some he)
 obtain ⟨k,Y,t,Z⟩:=v5 (r:=dI) Tryz.underlying25 (by kernel_rfl) (fun _ _ _ h=>NY h) O fun es sp he=>v7 c e f Tryz.underlying29 (i:=4) rfl rfl Tryz.underlying25 (of_decide_eq_true (by kernel_rfl)) (sp:=sp) (by rw[List.getElem?_map,N];exact congrArg some he)
 obtain ⟨ab,ad,x,ae⟩:=v5 (r:=ej) Tryz.underlying26 (by kernel_rfl) (fun _ _ _ h=>N1 h) Q fun es sp he=>v7 c e f Tryz.underlying29 (i:=5) rfl rfl Tryz.underlying26 (of_decide_eq_true (by kernel_rfl)) (sp:=sp) (by rw[List.getElem?_map,P];exact congrArg some he)
 obtain ⟨al,ao,y,ar⟩:=v5 (r:=cU) Tryz.underlying27 (by kernel_rfl) (fun _ _ _ h=>NZ h) S fun es sp he=>v7 c e f Tryz.underlying29 (i:=6) rfl rfl Tryz.underlying27 (of_decide_eq_true (by kernel_rfl)) (sp:=sp) (by rw[List.getElem?_map,R];exact congrArg some he)
 simp only[Value.cells,List.drop,List.take,List.cons.injEq,and_true,au.cells] at e0 e1 e2 s t x y
 refine ⟨⟨T,U,V,W,Y,ad,ao⟩,g,k,ab,al,?_,X,Z,ae,ar⟩
 rw[e0,e1,e2.1,e2.2,s,t,x,y]
end
section
variable {H:Type}{enc:TypeId×Value->H}{w:World}{base:Nat}{spare:Nat->Bool}{held:Bool}
theorem N3 {t0 t1 t2 t3 t4:TypeId}{args:Array Value}{c:List (DataW H)}{ps:List MemPlace}(h:DataW.TrodAll enc Tryz.prog w base spare held [t0,t1,t2,t3,t4] args.toList c ps):
  ∃v0 v1 v2 a v4 d0 d1 d2 d3 d4 p0 b p2 p3 p4,args=#[v0,v1,v2,a,v4]/\c=[d0,d1,d2,d3,d4]/\ps=p0++b++p2++p3++p4/\DataW.Trod enc Tryz.prog w base spare held t0 v0 d0 p0/\DataW.Trod enc Tryz.prog w base spare held t1 v1 d1 b/\DataW.Trod enc Tryz.prog w base spare held t2 v2 d2 p2/\DataW.Trod enc Tryz.prog w base spare held t3 a d3 p3/\DataW.Trod enc Tryz.prog w base spare held t4 v4 d4 p4:=by
 obtain ⟨v0,f,d0,g,p0,i,j,rfl,rfl,h0,r0⟩:=trodAll_cons h
 obtain ⟨v1,k,d1,l,b,m,rfl,rfl,rfl,h1,r1⟩:=trodAll_cons r0
 obtain ⟨v2,n,d2,o,p2,p,rfl,rfl,rfl,h2,r2⟩:=trodAll_cons r1
 obtain ⟨a,q,d3,r,p3,s,rfl,rfl,rfl,h3,r3⟩:=trodAll_cons r2
 obtain ⟨v4,t,d4,u,p4,v,rfl,rfl,rfl,d,e⟩:=trodAll_cons r3
 obtain ⟨rfl,rfl,rfl⟩:=trodAll_nil e
 exact ⟨v0,v1,v2,a,v4,d0,d1,d2,d3,d4,p0,b,p2,p3,p4,by cases args;simp_all,rfl,by simp,h0,h1,h2,h3,d⟩
theorem N4 {t0 t1 t2 t3 t4:TypeId}{v0 v1 v2 b v4:Value}{d0 d1 d2 d3 d4:DataW H}{p0 a p2 p3 p4:List MemPlace}(h0:DataW.Trod enc Tryz.prog w base spare held t0 v0 d0 p0)(h1:DataW.Trod enc Tryz.prog w base spare held t1 v1 d1 a)(h2:DataW.Trod enc Tryz.prog w base spare held t2 v2 d2 p2)(h3:DataW.Trod enc Tryz.prog w base spare held t3 b d3 p3)(c:DataW.Trod enc Tryz.prog w base spare held t4 v4 d4 p4):
  DataW.TrodAll enc Tryz.prog w base spare held [t0,t1,t2,t3,t4] [v0,v1,v2,b,v4] [d0,d1,d2,d3,d4] (p0++(a++(p2++(p3++p4)))):=⟨p0,a++(p2++(p3++p4)),h0,trodAll_mk4 h1 h2 h3 c,rfl⟩
end
theorem v8 {n:Int}(h:(Lit.int .u8 n).wf=true):0<=n/\n<=255:=by
 unfold Lit.wf at h;rw[Bool.and_eq_true,decide_eq_true_eq,decide_eq_true_eq] at h;exact h
theorem N5 {w:World}(h:laidMetH Tryz.prog [("velarium/terrain.checks",Rows.laid_velarium_terrain_checks)] w):di (fun a=>w.cell? a):=by
 obtain ⟨g,t,cs,fuel,p,h1,h2,h3,u⟩:=laidMetH.funcs h (n:= "velarium/terrain.checks") (List.mem_singleton.2 rfl);obtain rfl:=Option.some.inj ((show Tryz.prog.globalNamed "velarium/terrain.checks"=some 0 by kernel_rfl).symm.trans h1);obtain rfl:=Option.some.inj ((show (Tryz.prog.globals[0]?).map (·.type)=some 198 by kernel_rfl).symm.trans h2);obtain ⟨xs,m,_,ex,_,B,v⟩:=DataW.trod_array Tryz.underlying198 u;have c1:Tryz.prog.cellsOf 120=1:=by kernel_rfl
 have d:=DataW.agg.inj (Prod.mk.inj ex).1;have key:∀(i f:Nat) (b:UInt8) (r:List UInt8),i<5->(xs.map (·.1))[i]?=some (.held (b::r))->(∃fn,Tryz.prog.funcs[f]?=some fn/\fn.name.toUTF8.data.toList=b::r/\Tryz.prog.funcNamed fn.name=some f)->w.cell? ⟨0,i,none⟩=some (.func (.func f) #[] #[]):=by
  intro i f b r hi c ⟨j,C,x,y⟩;have k:=v i hi;rw[c1,Nat.mul_one,List.getElem?_eq_getElem (by omega)] at k;rw[List.getElem?_map,List.getElem?_eq_getElem (by omega)] at c;simp only[Option.map_some,Option.some.injEq] at c;rw[World.var?_cell h1 h3 i];rcases NS Tryz.underlying120 k with e|⟨f1,a1,c1,l,e⟩
  .rw[e] at c;cases c
  rw[e] at c;obtain ⟨f2,o,e1,e2,q,s⟩:=funcToken_tells (DataW.held.inj c);have z:o.name=j.name:=by
   rw[<-x] at s;have A:o.name.toUTF8=j.name.toUTF8:=ByteArray.ext (Array.toList_inj.1 s);exact String.toByteArray_inj.1 A
  rw[z,y] at q;obtain rfl:=Option.some.inj q;rw[e1] at l;have:((cs.toList.drop i).take 1)[0]?=some (.func (.func f) #[] #[]):=by rw[l];rfl
  simpa using this
 refine ⟨key 0 _ _ _ (by decide) (by rw[<-d];rfl) ⟨_,Tryz.func233,by kernel_rfl,by kernel_rfl⟩,key 1 _ _ _ (by decide) (by rw[<-d];rfl) ⟨_,Tryz.func234,by kernel_rfl,by kernel_rfl⟩,key 2 _ _ _ (by decide) (by rw[<-d];rfl) ⟨_,Tryz.func235,by kernel_rfl,by kernel_rfl⟩,key 3 _ _ _ (by decide) (by rw[<-d];rfl) ⟨_,Tryz.func236,by kernel_rfl,by kernel_rfl⟩,key 4 _ _ _ (by decide) (by rw[<-d];rfl) ⟨_,Tryz.func237,by kernel_rfl,by kernel_rfl⟩⟩
theorem own:ownKnob Tryz.prog.godebug=none:=by kernel_rfl
theorem N6 {p:Pinned}{s:OpenSpec}{c:OpenClaim}(kinds:List LaidKind)(b:Bool)(a:Bool×String)(lk:Bool)
  (d:c.holds p s) (hw:c.wfByText s=true) (e:c.laidByTextAt .later p kinds b)
  (g:c.start= .entering) (i:c.noBlocks=false/\c.again=false) (hm:p.checked.prog.mainIs=some (a.1,a.2.toList)) (k:(!a.1&&a.2.isEmpty&&!lk)=false)
  (l:∀f fn,p.checked.prog.funcNamed c.func=some f->p.checked.prog.funcs[f]?=some fn->lk=p.checked.prog.looks []/\∀(j:Nat) t,fn.params[j]?=some t->p.checked.prog.wantsStandIn t=false)
  (hg:true=c.goesBy p.checked.prog):
  Claim7.holds p (.plain s) {stood:={row:=c,standIns:=[],harness:=a,looks:=lk},kinds:=[],alts:=[],goes:=true,laidByText:=true,laidKinds:=kinds,laidTests:=b,laidLooks:=.later}:=by
 have m:∀r:OpenClaim,Claim7.isSixth {stood:={row:=r,standIns:=[],harness:=a,looks:=lk},kinds:=[]}=false:=fun r=>by simpa [Claim7.isSixth] using k
 exact ⟨Claim7.tied_new_at .later kinds b (Claim7.new_of_sixth d a lk g i hm (m c) l) hw,fun D n=>(by cases n),e,(fun h=>by cases h),hg⟩
theorem N7 (os:Os)(H:Type)(enc:TypeId×Value->H):∃(w:World) (tape:Tape) (i:Input),w.os=os/\(w.forCall tape i).Shaped Tryz.checked.prog/\i.vars=[]/\Input.okWide Tryz.checked.prog (w.forCall tape i) .any w.heap.size 4 i/\
   ((Rows.terrainAnyOrderSpec.pre enc Tryz.checked.prog Tryz.f4 [] false (w.forCall tape i).memory i.args/\laidMetH Tryz.prog [("velarium/terrain.checks",Rows.laid_velarium_terrain_checks)] (w.forCall tape i).memory)/\sizedMet enc Tryz.checked.prog Tryz.f4 (OpenSpec.ofChange Rows.terrainAnyOrderSpec) false (w.forCall tape i).memory i.args)/\Rows.terrainAnyOrderRow.assume.holds Tryz.checked.prog (lone (Frame.enter Tryz.checked.prog 4 i.args .normal) [] (w.forCall tape i)):=by
 refine ⟨(((((World.holding Tryz.prog os ⟨#[],#[],[]⟩).setCell ⟨0,0,none⟩ (.func (.func 233) #[] #[])).setCell ⟨0,1,none⟩ (.func (.func 234) #[] #[])).setCell ⟨0,2,none⟩ (.func (.func 235) #[] #[])).setCell ⟨0,3,none⟩ (.func (.func 236) #[] #[])).setCell ⟨0,4,none⟩ (.func (.func 237) #[] #[]),
  fun _ _=>0,⟨#[],#[.agg #[.int .i64 0,.int .i64 0,.int .i64 0,.int .i64 0,.slice none 0 0,.slice none 0 0,.slice none 0 0,.slice none 0 0],.int .u8 0,.int .u8 0,.int .u8 0,.int .u8 0],[]⟩,rfl,World.shaped_of_ZipB (by kernel_rfl) (by kernel_rfl),rfl,(Input.okWide_of_okWideB (by kernel_rfl)).2,
  ⟨⟨ChangeSpec.pre_of_preB (fuel:=8) (by kernel_rfl),laidMetH_of_parts3 (fuel:=8) ?_ rfl (by kernel_rfl)⟩,sizedMet_of_sizedB (fuel:=8) (by kernel_rfl)⟩,?_⟩
 .exact ⟨[],rfl,List.nodup_nil,fun _ _ h=>by cases h⟩
 .simp only[Assume.holds]
  exact ⟨by simp[Rows.terrainAnyOrderRow,OpenClaim.assume],fun _ _ _ _=>rfl,by simp[Rows.terrainAnyOrderRow,OpenClaim.assume],by simp[Rows.terrainAnyOrderRow,OpenClaim.assume],by simp[Rows.terrainAnyOrderRow,OpenClaim.assume]⟩
theorem N8 (os:Os)(started:os.Started)(H:Type)(enc:TypeId×Value->H)(F:Stop.Interp):
  ReturnsInLeavingWide Rows.terrainAnyOrderRow.assume Tryz.checked os 4 .any (fun w args=>(Rows.terrainAnyOrderSpec.pre enc Tryz.checked.prog Tryz.f4 [] false w args/\laidMetH Tryz.prog [("velarium/terrain.checks",Rows.laid_velarium_terrain_checks)] w)/\sizedMet enc Tryz.checked.prog Tryz.f4 (OpenSpec.ofChange Rows.terrainAnyOrderSpec) false w args)
   ((OpenSpec.ofChange Rows.terrainAnyOrderSpec).postWith enc Tryz.checked.prog Tryz.f4 F (outsideKept [.timePasses]) false true false):=by
 refine NT (C:=Tryz.checked) (X:=laidMetH Tryz.prog [("velarium/terrain.checks",Rows.laid_velarium_terrain_checks)]) (fun w w' u h=>h.of_heap u.symm) own started Tryz.func4 (N7 os H enc) ?_
 intro W base args y gs before z hW _ A B
 have c:∀(j:Nat) t v,Tryz.f4.params[j]?=some t->args[j]?=some v->Value.okWide Tryz.prog W .any base t v:=z
 have i:=hW
 obtain ⟨p,q,D,E,rfl,_,_⟩:=hW
 have g:DataW.TrodAll enc Tryz.prog W 0 (fun _=>true) true Tryz.f4.params.toList args.toList y p:=D
 have e:=DataW.TrodAll.lt g
 rw[Tryz.params4] at g c
 obtain ⟨v0,v1,v2,l,v4,d0,d1,d2,d3,d4,p0,T,p2,p3,p4,rfl,rfl,rfl,h0,h1,h2,h3,m⟩:=N3 g
 obtain ⟨rfl,rfl⟩:=trodVars_none E
 obtain ⟨u0,s1,s2,U,V,G,I,J,K,L⟩:=N2 (j:=0) A rfl rfl (c 0 29 v0 rfl rfl) h0
 obtain ⟨n,M,_,_,w1⟩:=open_int Tryz.underlying5 (c 1 5 v1 rfl rfl) h1
 obtain ⟨o,N,_,_,w2⟩:=open_int Tryz.underlying5 (c 2 5 v2 rfl rfl) h2
 obtain ⟨r,O,_,_,w3⟩:=open_int Tryz.underlying5 (c 3 5 l rfl rfl) h3
 obtain ⟨s,P,_,_,w4⟩:=open_int Tryz.underlying5 (c 4 5 v4 rfl rfl) m
 have Q:m3 Tryz.prog 4 #[v0,v1,v2,l,v4] ⟨fun a=>W.cell? a,[]⟩ (fun v _=>v= .bool true):=by
  rw[G,M,N,O,P]
  exact MY (N5 B) u0 ⟨I,J,K,L⟩ n o r s rfl (NQ u0 n (v8 w1) o (v8 w2) r (v8 w3) s (v8 w4))
 refine Q.ends (NR W) fun v F' w' R hu=>?_
 subst R
 simp only[List.append_nil] at i
 have d:Below W.heap.size W {w' with os:=W.os}:=⟨rfl,hu.tape,hu.output,hu.size,fun k S=>hu.frame k S (by simp[keys])⟩
 have f:laidOutB Tryz.prog=true:=by kernel_rfl
 refine ⟨⟨_,_,_,[],_,[],i,trodAll_mk1 (shut_bool Tryz.underlying4 _),N4 (Below.trod f (by kernel_rfl) (of_decide_eq_true (by kernel_rfl)) h0 d ?_) (Below.trod f (by kernel_rfl) (of_decide_eq_true (by kernel_rfl)) h1 d ?_) (Below.trod f (by kernel_rfl) (of_decide_eq_true (by kernel_rfl)) h2 d ?_) (Below.trod f (by kernel_rfl) (of_decide_eq_true (by kernel_rfl)) h3 d ?_) (Below.trod f (by kernel_rfl) (of_decide_eq_true (by kernel_rfl)) m d ?_),rfl,d.frame _,fun h=>by cases h⟩,hu.os⟩
 .exact fun x b=>e x (by simp[b])
 .exact fun x b=>e x (by simp[b])
 .exact fun x b=>e x (by simp[b])
 .exact fun x b=>e x (by simp[b])
 .exact fun x b=>e x (by simp[b])
theorem N9:Rows.TerrainAnyOrderSaid:=
 OpenClaim.holds_of_wide_leaving_time 4 Tryz.f4 rfl rfl rfl rfl rfl rfl rfl ⟨rfl,rfl,rfl,rfl,rfl⟩ rfl rfl rfl rfl rfl (by kernel_rfl) Tryz.func4 (by kernel_rfl)
  (of_decide_eq_true (by kernel_rfl)) (by unfold Func.isWrapper;first|(rw[if_pos (by decide+kernel)];kernel_rfl)|(rw[if_neg (by decide+kernel)];exact ⟨rfl,rfl⟩))
  (fun os started H enc _ F=>N8 os started H enc F)
theorem TerrainAnyOrder_holds:Rows.TerrainAnyOrderCardSaid:=
 N6 [.funcs] true (true, "5d2e564d8be8c1868403c669563ec38578e7fc5942600396a2438b3f240a7fb1") false N9 (by kernel_rfl) terrainAnyOrder_row_tie rfl ⟨rfl,rfl⟩ (by kernel_rfl) rfl
  (fun f fn a b=>by
   obtain rfl:f=4:=Option.some.inj ((show Tryz.prog.funcNamed "velarium/velariumlaw04.TerrainAnyOrder"=some 4 by kernel_rfl).symm.trans a)|>.symm
   obtain rfl:fn=Tryz.f4:=(Option.some.inj (Tryz.func4.symm.trans b)).symm
   exact ⟨by kernel_rfl,fun j t ht=>by
    rw[Tryz.params4] at ht
    have hm:t∈[29,5,5,5,5]:=by simpa using Array.mem_of_getElem? ht
    have c:([29,5,5,5,5].all fun u=>!Tryz.prog.wantsStandIn u)=true:=by kernel_rfl
    exact (show Tryz.prog.wantsStandIn t=false by simpa using List.all_eq_true.1 c t hm)⟩)
  (by kernel_rfl)
end Go.Proofs.YtnaejeiofbpbkaaGreatDoor
end

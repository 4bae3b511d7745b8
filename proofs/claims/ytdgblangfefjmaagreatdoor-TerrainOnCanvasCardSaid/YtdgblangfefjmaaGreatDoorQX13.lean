/- For every input that can be read, on every calm tape: the call of velariumlaw04.TerrainOnCanvas returns true; its arguments read as they did; the listed variable terrain.checks is tied to the text of the program. -/
import Derived.Test.YtdgblangfefjmaaGreatDoorQX12
import Derived.Test.YtdgblangfefjmaaGreatDoorTie
import Derived.Test.YtdgblangfefjmaaGreatDoorCards
import Derived.SevenTiedAt
set_option linter.all false
section
namespace Go.Proofs.YtdgblangfefjmaaGreatDoor
open Go Go.Sep Go.Proofs Go.ChangeShapes Go.WideShapes Go.ChangeAt Go.RowKit Go.Conc Go.ConcM
set_option maxRecDepth 100000
set_option maxHeartbeats 4000000
section
variable {H:Type}{enc:TypeId×Value->H}{w:World}{base:Nat}{spare:Nat->Bool}{held:Bool}
theorem iO:Tryz.prog.cellsOf 3=1:=ai
theorem JM:Tryz.prog.cellsOf 4=1:=ai
theorem iP {n:Nat}{cs:List Value}{y:DataW H×List MemPlace}(h:DataW.trod enc Tryz.prog w base spare held n 3 cs=some y):∃z:Int,cs=[.int .i64 z]:=by
 obtain ⟨z,h,_⟩:=DataW.trod_int Tryz.underlying3 h;exact ⟨z,h⟩
theorem JN {n:Nat}{cs:List Value}{y:DataW H×List MemPlace}(h:DataW.trod enc Tryz.prog w base spare held n 4 cs=some y):∃z:Bool,cs=[.bool z]:=by
 obtain ⟨z,h,_⟩:=DataW.trod_bool Tryz.underlying4 h;exact ⟨z,h⟩
theorem JO {n:Nat}{cs:List Value}{y:DataW H×List MemPlace}(h:DataW.trod enc Tryz.prog w base spare held n 23 cs=some y):∃z:ay,cs=z.cells:=by
 obtain ⟨a,ys,m,_,b⟩:=lF Tryz.underlying23 h;replace a:cs.length=2:=a.trans ai
 match cs,a with
 |[g,c1],_=>
 obtain ⟨_,_,c⟩:=b 0 _ 3 0 _ rfl rfl rfl iO;obtain ⟨_,_,d⟩:=b 1 _ 3 1 _ rfl rfl rfl iO;obtain ⟨e,e0⟩:=iP c;obtain ⟨f,e1⟩:=iP d;simp only[List.drop,List.take,List.cons.injEq,and_true,Nat.reduceAdd] at e0 e1;exact ⟨⟨e,f⟩,by rw[e0,e1];rfl⟩
theorem JP {n:Nat}{cs:List Value}{y:DataW H×List MemPlace}(h:DataW.trod enc Tryz.prog w base spare held n 42 cs=some y):∃z:b8,cs=z.cells:=by
 obtain ⟨a,ys,m,_,b⟩:=lF Tryz.underlying42 h;replace a:cs.length=2:=a.trans ai
 match cs,a with
 |[g,c1],_=>
 obtain ⟨_,_,c⟩:=b 0 _ 3 0 _ rfl rfl rfl iO;obtain ⟨_,_,d⟩:=b 1 _ 3 1 _ rfl rfl rfl iO;obtain ⟨e,e0⟩:=iP c;obtain ⟨f,e1⟩:=iP d;simp only[List.drop,List.take,List.cons.injEq,and_true,Nat.reduceAdd] at e0 e1;exact ⟨⟨e,f⟩,by rw[e0,e1];rfl⟩
theorem JQ {n:Nat}{cs:List Value}{y:DataW H×List MemPlace}(h:DataW.trod enc Tryz.prog w base spare held n 146 cs=some y):∃z:c7,cs=z.cells:=by
 obtain ⟨a,ys,m,_,b⟩:=lF Tryz.underlying146 h;replace a:cs.length=2:=a.trans ai
 match cs,a with
 |[g,c1],_=>
 obtain ⟨_,_,c⟩:=b 0 _ 3 0 _ rfl rfl rfl iO;obtain ⟨_,_,d⟩:=b 1 _ 3 1 _ rfl rfl rfl iO;obtain ⟨e,e0⟩:=iP c;obtain ⟨f,e1⟩:=iP d;simp only[List.drop,List.take,List.cons.injEq,and_true,Nat.reduceAdd] at e0 e1;exact ⟨⟨e,f⟩,by rw[e0,e1];rfl⟩
theorem JR {n:Nat}{cs:List Value}{y:DataW H×List MemPlace}(h:DataW.trod enc Tryz.prog w base spare held n 101 cs=some y):∃z:cn,cs=z.cells:=by
 obtain ⟨a,ys,m,_,b⟩:=lF Tryz.underlying101 h;replace a:cs.length=2:=a.trans ai
 match cs,a with
 |[g,c1],_=>
 obtain ⟨_,_,c⟩:=b 0 _ 3 0 _ rfl rfl rfl iO;obtain ⟨_,_,d⟩:=b 1 _ 4 1 _ rfl rfl rfl JM;obtain ⟨e,e0⟩:=iP c;obtain ⟨f,e1⟩:=JN d;simp only[List.drop,List.take,List.cons.injEq,and_true,Nat.reduceAdd] at e0 e1;exact ⟨⟨e,f⟩,by rw[e0,e1];rfl⟩
theorem JS {n:Nat}{cs:List Value}{y:DataW H×List MemPlace}(h:DataW.trod enc Tryz.prog w base spare held n 47 cs=some y):∃z:dK,cs=z.cells:=by
 obtain ⟨a,ys,m,_,b⟩:=lF Tryz.underlying47 h;replace a:cs.length=2:=a.trans ai
 match cs,a with
 |[g,c1],_=>
 obtain ⟨_,_,c⟩:=b 0 _ 3 0 _ rfl rfl rfl iO;obtain ⟨_,_,d⟩:=b 1 _ 3 1 _ rfl rfl rfl iO;obtain ⟨e,e0⟩:=iP c;obtain ⟨f,e1⟩:=iP d;simp only[List.drop,List.take,List.cons.injEq,and_true,Nat.reduceAdd] at e0 e1;exact ⟨⟨e,f⟩,by rw[e0,e1];rfl⟩
theorem JU {n:Nat}{cs:List Value}{y:DataW H×List MemPlace}(h:DataW.trod enc Tryz.prog w base spare held n 144 cs=some y):∃z:dc,cs=z.cells:=by
 obtain ⟨a,ys,m,_,b⟩:=lF Tryz.underlying144 h;have c:Tryz.prog.cellsOf 47=2:=ai;replace a:cs.length=3:=a.trans ai
 match cs,a with
 |[i,c1,c2],_=>
 obtain ⟨_,_,d⟩:=b 0 _ 3 0 _ rfl rfl rfl iO;obtain ⟨_,_,e⟩:=b 1 _ 47 1 _ rfl rfl rfl c;obtain ⟨f,e0⟩:=iP d;obtain ⟨g,e1⟩:=JS e;simp only[List.drop,List.take,List.cons.injEq,and_true,dK.cells] at e0 e1;exact ⟨⟨f,g⟩,by rw[e0,e1.1,e1.2];rfl⟩
theorem JV {r:Reach}{z:Nat}{o:List TypeId}{q:List (DataW H)}(c:(DataW.weightsEach Tryz.prog o q).all (· <=reachBytes)=true){j:Nat}(e:o[j]?=some 29){d:DataW H}(f:q[j]?=some d){v:Value}{p:List MemPlace}
  (A:Value.okWide Tryz.prog w r z 29 v) (h:DataW.Trod enc Tryz.prog w base spare held 29 v d p):
  ∃(u:aC) (s1 s2 g k:Value),v= .agg #[.int .i64 u.bE,.int .i64 u.cD,.int .i64 u.bx.num,.int .i64 u.bx.den,s1,s2,g,k]/\aB dV (fun a=>w.cell? a) s1 u.aR/\aB eV (fun a=>w.cell? a) s2 u.props/\aB fl (fun a=>w.cell? a) g u.aU/\aB dD (fun a=>w.cell? a) k u.told:=by
 obtain ⟨cs,rfl,n⟩:=okWide_struct Tryz.underlying29 A
 replace n:cs.size=8:=n.trans ai
 obtain ⟨l⟩:=cs
 match l,n with
 |[a0,c1,c2,c3,c4,a2,a3,a4],_=>
 obtain ⟨fuel,B⟩:=h
 have C:Tryz.prog.cellsOf 23=2:=ai
 have D:Tryz.prog.cellsOf 24=1:=ai
 have E:Tryz.prog.cellsOf 25=1:=ai
 have F:Tryz.prog.cellsOf 26=1:=ai
 have G:Tryz.prog.cellsOf 27=1:=ai
 obtain ⟨_,ys,m,hd,b⟩:=lF Tryz.underlying29 B
 replace hd:d= .agg (ys.map (·.1)):=hd
 subst hd
 obtain ⟨_,_,I⟩:=b 0 _ 3 0 _ rfl rfl rfl iO
 obtain ⟨_,_,J⟩:=b 1 _ 3 1 _ rfl rfl rfl iO
 obtain ⟨_,_,K⟩:=b 2 _ 23 2 _ rfl rfl rfl C
 obtain ⟨a5,L,M⟩:=b 3 _ 24 4 _ rfl rfl rfl D
 obtain ⟨a6,N,O⟩:=b 4 _ 25 5 _ rfl rfl rfl E
 obtain ⟨a7,P,Q⟩:=b 5 _ 26 6 _ rfl rfl rfl F
 obtain ⟨a8,R,S⟩:=b 6 _ 27 7 _ rfl rfl rfl G
 obtain ⟨T,e0⟩:=iP I
 obtain ⟨U,e1⟩:=iP J
 obtain ⟨V,e2⟩:=JO K
 obtain ⟨g,W,s,X⟩:=s5 (r:=dV) Tryz.underlying24 ai (fun _ _ _ h=>JP h) M fun es sp he=>s6 c e f Tryz.underlying29 (i:=3) rfl rfl Tryz.underlying24 (of_decide_eq_true ai) (sp:=sp) (by rw[List.getElem?_map,L];exact congrArg some he)
 obtain ⟨k,Y,t,Z⟩:=s5 (r:=eV) Tryz.underlying25 ai (fun _ _ _ h=>JQ h) O fun es sp he=>s6 c e f Tryz.underlying29 (i:=4) rfl rfl Tryz.underlying25 (of_decide_eq_true ai) (sp:=sp) (by rw[List.getElem?_map,N];exact congrArg some he)
 obtain ⟨ab,ad,x,ae⟩:=s5 (r:=fl) Tryz.underlying26 ai (fun _ _ _ h=>JU h) Q fun es sp he=>s6 c e f Tryz.underlying29 (i:=5) rfl rfl Tryz.underlying26 (of_decide_eq_true ai) (sp:=sp) (by rw[List.getElem?_map,P];exact congrArg some he)
 obtain ⟨al,ao,y,ar⟩:=s5 (r:=dD) Tryz.underlying27 ai (fun _ _ _ h=>JR h) S fun es sp he=>s6 c e f Tryz.underlying29 (i:=6) rfl rfl Tryz.underlying27 (of_decide_eq_true ai) (sp:=sp) (by rw[List.getElem?_map,R];exact congrArg some he)
 simp only[Value.cells,List.drop,List.take,List.cons.injEq,and_true,ay.cells] at e0 e1 e2 s t x y
 refine ⟨⟨T,U,V,W,Y,ad,ao⟩,g,k,ab,al,?_,X,Z,ae,ar⟩
 rw[e0,e1,e2.1,e2.2,s,t,x,y]
end
theorem B3 {n:Int}(h:(Lit.int .u8 n).wf=true):0<=n/\n<=255:=by
 unfold Lit.wf at h;rw[Bool.and_eq_true,decide_eq_true_eq,decide_eq_true_eq] at h;exact h
theorem own:ownKnob Tryz.prog.godebug=none:=ai
theorem JW {p:Pinned}{s:OpenSpec}{c:OpenClaim}(kinds:List LaidKind)(b:Bool)(a:Bool×String)(lk:Bool)
  (d:c.holds p s) (hw:c.wfByText s=true) (e:c.laidByTextAt .later p kinds b)
  (g:c.start= .entering) (i:c.noBlocks=false/\c.again=false) (hm:p.checked.prog.mainIs=some (a.1,a.2.toList)) (k:(!a.1&&a.2.isEmpty&&!lk)=false)
  (l:∀f fn,p.checked.prog.funcNamed c.func=some f->p.checked.prog.funcs[f]?=some fn->lk=p.checked.prog.looks []/\∀(j:Nat) t,fn.params[j]?=some t->p.checked.prog.wantsStandIn t=false)
  (hg:true=c.goesBy p.checked.prog):
  Claim7.holds p (.plain s) {stood:={row:=c,standIns:=[],harness:=a,looks:=lk},kinds:=[],alts:=[],goes:=true,laidByText:=true,laidKinds:=kinds,laidTests:=b,laidLooks:=.later}:=by
 have m:∀r:OpenClaim,Claim7.isSixth {stood:={row:=r,standIns:=[],harness:=a,looks:=lk},kinds:=[]}=false:=fun r=>by simpa [Claim7.isSixth] using k
 exact ⟨Claim7.tied_new_at .later kinds b (Claim7.new_of_sixth d a lk g i hm (m c) l) hw,fun D n=>(by cases n),e,(fun h=>by cases h),hg⟩
theorem JX {w:World}(h:laidMetH Tryz.prog [("velarium/canvas.checks",Rows.laid_velarium_canvas_checks),("velarium/terrain.checks",Rows.laid_velarium_terrain_checks)] w):w.cell? ⟨1,0,none⟩=some (.func (.func 252) #[] #[])/\w.cell? ⟨1,1,none⟩=some (.func (.func 253) #[] #[])/\w.cell? ⟨1,2,none⟩=some (.func (.func 254) #[] #[])/\w.cell? ⟨1,3,none⟩=some (.func (.func 255) #[] #[])/\w.cell? ⟨1,4,none⟩=some (.func (.func 256) #[] #[]):=by
 obtain ⟨g,t,cs,fuel,p,e,u,v,x⟩:=laidMetH.funcs h (n:= "velarium/terrain.checks") (by simp only[List.mem_cons];exact .inr (.inl rfl));obtain rfl:=Option.some.inj ((show Tryz.prog.globalNamed "velarium/terrain.checks"=some 1 by kernel_rfl).symm.trans e);obtain rfl:=Option.some.inj ((show (Tryz.prog.globals[1]?).map (·.type)=some 235 by kernel_rfl).symm.trans u);obtain ⟨xs,m,_,ex,_,E,y⟩:=DataW.trod_array Tryz.underlying235 x;have c1:Tryz.prog.cellsOf 111=1:=ai;have c:=DataW.agg.inj (Prod.mk.inj ex).1;have key:∀(i f:Nat) (b:UInt8) (r:List UInt8),i<5->(xs.map (·.1))[i]?=some (.held (b::r))->(∃fn,Tryz.prog.funcs[f]?=some fn/\fn.name.toUTF8.data.toList=b::r/\Tryz.prog.funcNamed fn.name=some f)->w.cell? ⟨1,i,none⟩=some (.func (.func f) #[] #[]):=by
  intro i f b r z a ⟨j,F,A,B⟩;have k:=y i z;rw[c1,Nat.mul_one,List.getElem?_eq_getElem aa] at k;rw[List.getElem?_map,List.getElem?_eq_getElem aa] at a;simp only[Option.map_some,Option.some.injEq] at a;rw[World.var?_cell e v i];rcases B2 Tryz.underlying111 k with d|⟨f1,a1,c1,l,d⟩
  .rw[d] at a;cases a
  rw[d] at a;obtain ⟨f2,o,e1,e2,q,s⟩:=funcToken_tells (DataW.held.inj a);have C:o.name=j.name:=by
   rw[<-A] at s;have D:o.name.toUTF8=j.name.toUTF8:=ByteArray.ext (Array.toList_inj.1 s);exact String.toByteArray_inj.1 D
  rw[C,B] at q;obtain rfl:=Option.some.inj q;rw[e1] at l;have:((cs.toList.drop i).take 1)[0]?=some (.func (.func f) #[] #[]):=by rw[l];rfl
  simpa using this
 refine ⟨key 0 _ _ _ aO (by rw[<-c];rfl) ⟨_,Tryz.func252,ai,ai⟩,key 1 _ _ _ aO (by rw[<-c];rfl) ⟨_,Tryz.func253,ai,ai⟩,key 2 _ _ _ aO (by rw[<-c];rfl) ⟨_,Tryz.func254,ai,ai⟩,key 3 _ _ _ aO (by rw[<-c];rfl) ⟨_,Tryz.func255,ai,ai⟩,key 4 _ _ _ aO (by rw[<-c];rfl) ⟨_,Tryz.func256,ai,ai⟩⟩
theorem JY {w:World}(h:laidMetH Tryz.prog [("velarium/canvas.checks",Rows.laid_velarium_canvas_checks),("velarium/terrain.checks",Rows.laid_velarium_terrain_checks)] w):w.cell? ⟨0,0,none⟩=some (.func (.func 247) #[] #[])/\w.cell? ⟨0,1,none⟩=some (.func (.func 248) #[] #[])/\w.cell? ⟨0,2,none⟩=some (.func (.func 250) #[] #[]):=by
 obtain ⟨g,t,cs,fuel,p,j,v,x,z⟩:=laidMetH.funcs h (n:= "velarium/canvas.checks") (by simp only[List.mem_cons];exact .inl rfl);obtain rfl:=Option.some.inj ((show Tryz.prog.globalNamed "velarium/canvas.checks"=some 0 by kernel_rfl).symm.trans j);obtain rfl:=Option.some.inj ((show (Tryz.prog.globals[0]?).map (·.type)=some 205 by kernel_rfl).symm.trans v);obtain ⟨xs,m,_,ex,_,I,A⟩:=DataW.trod_array Tryz.underlying205 z;have c1:Tryz.prog.cellsOf 204=1:=ai;have c2:Tryz.prog.cellsOf 202=1:=ai;have d:=DataW.agg.inj (Prod.mk.inj ex).1;have key:∀(i f:Nat) (b:UInt8) (r:List UInt8),i<3->(xs.map (·.1))[i]?=some (.agg [.held (b::r)])->(∃fn,Tryz.prog.funcs[f]?=some fn/\fn.name.toUTF8.data.toList=b::r/\Tryz.prog.funcNamed fn.name=some f)->w.cell? ⟨0,i,none⟩=some (.func (.func f) #[] #[]):=by
  intro i f b r B a ⟨k,J,C,D⟩;have c:=A i B;rw[c1,Nat.mul_one,List.getElem?_eq_getElem aa] at c;rw[List.getElem?_map,List.getElem?_eq_getElem aa] at a;simp only[Option.map_some,Option.some.injEq] at a;rw[World.var?_cell j x i];obtain ⟨_,ys,n,hd,E⟩:=lF Tryz.underlying204 c;obtain ⟨y,F,c⟩:=E 0 _ 202 0 _ rfl rfl rfl c2;rw[hd] at a;replace a:=DataW.agg.inj a;have a:y.1= .held (b::r):=by
   have l:(ys.map (·.1))[0]?=some (.held (b::r)):=by rw[a];rfl
   rw[List.getElem?_map,F] at l;exact Option.some.inj l
  rw[List.drop_zero,List.take_take,Nat.min_self] at c;rcases B2 Tryz.underlying202 c with e|⟨f1,a1,c1,o,e⟩
  .rw[e] at a;cases a
  rw[e] at a;obtain ⟨f2,q,e1,e2,s,u⟩:=funcToken_tells (DataW.held.inj a);have G:q.name=k.name:=by
   rw[<-C] at u;have H:q.name.toUTF8=k.name.toUTF8:=ByteArray.ext (Array.toList_inj.1 u);exact String.toByteArray_inj.1 H
  rw[G,D] at s;obtain rfl:=Option.some.inj s;rw[e1] at o;have:((cs.toList.drop i).take 1)[0]?=some (.func (.func f) #[] #[]):=by rw[o];rfl
  simpa using this
 exact ⟨key 0 _ _ _ aO (by rw[<-d];rfl) ⟨_,Tryz.func247,ai,ai⟩,key 1 _ _ _ aO (by rw[<-d];rfl) ⟨_,Tryz.func248,ai,ai⟩,key 2 _ _ _ aO (by rw[<-d];rfl) ⟨_,Tryz.func250,ai,ai⟩⟩
theorem JZ {w:World}(h:laidMetH Tryz.prog [("velarium/canvas.checks",Rows.laid_velarium_canvas_checks),("velarium/terrain.checks",Rows.laid_velarium_terrain_checks)] w):dy (fun a=>w.cell? a):=by
 obtain ⟨a0,a1,a2,a3,a4⟩:=JX h;obtain ⟨b,c,b2⟩:=JY h;exact ⟨a0,a1,a2,a3,a4,b,c,b2⟩
theorem J0 (os:Os)(H:Type)(enc:TypeId×Value->H):∃(w:World) (tape:Tape) (i:Input),w.os=os/\(w.forCall tape i).Shaped Tryz.checked.prog/\i.vars=[]/\Input.okWide Tryz.checked.prog (w.forCall tape i) .any w.heap.size 3 i/\
   ((Rows.terrainOnCanvasSpec.pre enc Tryz.checked.prog Tryz.f3 [] false (w.forCall tape i).memory i.args/\laidMetH Tryz.prog [("velarium/canvas.checks",Rows.laid_velarium_canvas_checks),("velarium/terrain.checks",Rows.laid_velarium_terrain_checks)] (w.forCall tape i).memory)/\sizedMet enc Tryz.checked.prog Tryz.f3 (OpenSpec.ofChange Rows.terrainOnCanvasSpec) false (w.forCall tape i).memory i.args)/\Rows.terrainOnCanvasRow.assume.holds Tryz.checked.prog (lone (Frame.enter Tryz.checked.prog 3 i.args .normal) [] (w.forCall tape i)):=by
 refine ⟨((((((((World.holding Tryz.prog os ⟨#[],#[],[]⟩).setCell ⟨0,0,none⟩ (.func (.func 247) #[] #[])).setCell ⟨0,1,none⟩ (.func (.func 248) #[] #[])).setCell ⟨0,2,none⟩ (.func (.func 250) #[] #[])).setCell ⟨1,0,none⟩ (.func (.func 252) #[] #[])).setCell ⟨1,1,none⟩ (.func (.func 253) #[] #[])).setCell ⟨1,2,none⟩ (.func (.func 254) #[] #[])).setCell ⟨1,3,none⟩ (.func (.func 255) #[] #[])).setCell ⟨1,4,none⟩ (.func (.func 256) #[] #[]),
  fun _ _=>0,⟨#[],#[.agg #[.int .i64 0,.int .i64 0,.int .i64 0,.int .i64 0,.slice none 0 0,.slice none 0 0,.slice none 0 0,.slice none 0 0],.int .u8 0,.int .u8 0],[]⟩,rfl,World.shaped_of_ZipB ai ai,rfl,(Input.okWide_of_okWideB ai).2,
  ⟨⟨ChangeSpec.pre_of_preB (fuel:=8) ai,laidMetH_of_parts3 (fuel:=8) ?_ rfl ai⟩,sizedMet_of_sizedB (fuel:=8) ai⟩,?_⟩
 .exact ⟨[],rfl,List.nodup_nil,fun _ _ h=>by cases h⟩
 .simp only[Assume.holds]
  exact ⟨by simp[Rows.terrainOnCanvasRow,OpenClaim.assume],fun _ _ _ _=>rfl,by simp[Rows.terrainOnCanvasRow,OpenClaim.assume],by simp[Rows.terrainOnCanvasRow,OpenClaim.assume],by simp[Rows.terrainOnCanvasRow,OpenClaim.assume]⟩
theorem J1 (os:Os)(started:os.Started)(H:Type)(enc:TypeId×Value->H)(F:Stop.Interp):
  ReturnsInLeavingWide Rows.terrainOnCanvasRow.assume Tryz.checked os 3 .any (fun w args=>(Rows.terrainOnCanvasSpec.pre enc Tryz.checked.prog Tryz.f3 [] false w args/\laidMetH Tryz.prog [("velarium/canvas.checks",Rows.laid_velarium_canvas_checks),("velarium/terrain.checks",Rows.laid_velarium_terrain_checks)] w)/\sizedMet enc Tryz.checked.prog Tryz.f3 (OpenSpec.ofChange Rows.terrainOnCanvasSpec) false w args)
   ((OpenSpec.ofChange Rows.terrainOnCanvasSpec).postWith enc Tryz.checked.prog Tryz.f3 F (outsideKept [.timePasses]) false true false):=by
 refine JL (C:=Tryz.checked) (X:=laidMetH Tryz.prog [("velarium/canvas.checks",Rows.laid_velarium_canvas_checks),("velarium/terrain.checks",Rows.laid_velarium_terrain_checks)]) (fun w w' s h=>h.of_heap s.symm) own started Tryz.func3 (J0 os H enc) ?_
 intro W base args u gs before y hW _ z A
 have c:∀(j:Nat) t v,Tryz.f3.params[j]?=some t->args[j]?=some v->Value.okWide Tryz.prog W .any base t v:=y
 have i:=hW
 obtain ⟨p,q,B,D,rfl,_,_⟩:=hW
 have e:DataW.TrodAll enc Tryz.prog W 0 (fun _=>true) true Tryz.f3.params.toList args.toList u p:=B
 have f:=DataW.TrodAll.lt e
 rw[Tryz.params3] at e c
 obtain ⟨v0,v1,v2,d0,d1,d2,p0,Q,p2,rfl,rfl,rfl,l,m,n⟩:=trodAll_three e
 obtain ⟨rfl,rfl⟩:=trodVars_none D
 obtain ⟨u0,s1,s2,R,S,E,G,I,J,K⟩:=JV (j:=0) z rfl rfl (c 0 29 v0 rfl rfl) l
 obtain ⟨o,L,_,_,w1⟩:=open_int Tryz.underlying5 (c 1 5 v1 rfl rfl) m
 obtain ⟨r,M,_,_,w2⟩:=open_int Tryz.underlying5 (c 2 5 v2 rfl rfl) n
 have N:l6 Tryz.prog 3 #[v0,v1,v2] ⟨fun a=>W.cell? a,[]⟩ (fun v _=>v= .bool true):=by
  rw[E,L,M]
  exact Js (JZ A) u0 ⟨G,I,J,K⟩ o r rfl (JJ u0 o (B3 w1) r (B3 w2))
 refine N.ends (JK W) fun v F' w' O hu=>?_
 subst O
 simp only[List.append_nil] at i
 have d:Below W.heap.size W {w' with os:=W.os}:=⟨rfl,hu.tape,hu.output,hu.size,fun k P=>hu.frame k P (by simp[keys])⟩
 have g:laidOutB Tryz.prog=true:=ai
 refine ⟨⟨_,_,_,[],_,[],i,trodAll_mk1 (shut_bool Tryz.underlying4 _),trodAll_mk3 (Below.trod g ai (of_decide_eq_true ai) l d ?_) (Below.trod g ai (of_decide_eq_true ai) m d ?_) (Below.trod g ai (of_decide_eq_true ai) n d ?_),rfl,d.frame _,fun h=>by cases h⟩,hu.os⟩
 .exact fun x b=>f x (by simp[b])
 .exact fun x b=>f x (by simp[b])
 .exact fun x b=>f x (by simp[b])
theorem J2:Rows.TerrainOnCanvasSaid:=
 OpenClaim.holds_of_wide_leaving_time 3 Tryz.f3 rfl rfl rfl rfl rfl rfl rfl ⟨rfl,rfl,rfl,rfl,rfl⟩ rfl rfl rfl rfl rfl ai Tryz.func3 ai
  (of_decide_eq_true ai) (by unfold Func.isWrapper;first|(rw[if_pos (by decide+kernel)];kernel_rfl)|(rw[if_neg (by decide+kernel)];exact ⟨rfl,rfl⟩))
  (fun os started H enc _ F=>J1 os started H enc F)
theorem TerrainOnCanvas_holds:Rows.TerrainOnCanvasCardSaid:=
 JW [.funcs,.funcs] true (true, "29a287ccacfb91b5b374a067dda4ea95c94d1723d715b69ede0abfc962137246") false J2 ai terrainOnCanvas_row_tie rfl ⟨rfl,rfl⟩ ai rfl
  (fun f fn a b=>by
   obtain rfl:f=3:=Option.some.inj ((show Tryz.prog.funcNamed "velarium/velariumlaw04.TerrainOnCanvas"=some 3 by kernel_rfl).symm.trans a)|>.symm
   obtain rfl:fn=Tryz.f3:=(Option.some.inj (Tryz.func3.symm.trans b)).symm
   exact ⟨ai,fun j t ht=>by
    rw[Tryz.params3] at ht
    have hm:t∈[29,5,5]:=by simpa using Array.mem_of_getElem? ht
    have c:([29,5,5].all fun u=>!Tryz.prog.wantsStandIn u)=true:=ai
    exact (show Tryz.prog.wantsStandIn t=false by simpa using List.all_eq_true.1 c t hm)⟩)
  ai
end Go.Proofs.YtdgblangfefjmaaGreatDoor
end

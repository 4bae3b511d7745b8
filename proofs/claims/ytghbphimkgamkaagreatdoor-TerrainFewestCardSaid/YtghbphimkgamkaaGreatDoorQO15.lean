/- For every input that can be read, on every calm tape: the call of velariumlaw04.TerrainFewest returns true; its arguments read as they did; the listed variable terrain.checks is tied to the text of the program. -/
import Derived.Test.YtghbphimkgamkaaGreatDoorQO14
import Derived.Test.YtghbphimkgamkaaGreatDoorTie
import Derived.Test.YtghbphimkgamkaaGreatDoorCards
import Derived.SevenTiedAt
set_option linter.all false
section
namespace Go.Proofs.YtghbphimkgamkaaGreatDoor
open Go Go.Sep Go.Proofs Go.ChangeShapes Go.WideShapes Go.ChangeAt Go.RowKit Go.Conc Go.ConcM
set_option maxRecDepth 100000
set_option maxHeartbeats 4000000
section
variable {H : Type} {enc : TypeId × Value → H} {w : World} {base : Nat} {spare : Nat → Bool} {held : Bool}
theorem iU:Tryz.prog.cellsOf 3=1:=by kernel_rfl
theorem MU:Tryz.prog.cellsOf 4=1:=by kernel_rfl
theorem iV {n:Nat}{cs:List Value}{y:DataW H×List MemPlace}(h:DataW.trod enc Tryz.prog w base spare held n 3 cs=some y):∃z:Int,cs=[.int .i64 z]:=by
 obtain ⟨z,h,_⟩:=DataW.trod_int Tryz.underlying3 h;exact ⟨z,h⟩
theorem MV {n:Nat}{cs:List Value}{y:DataW H×List MemPlace}(h:DataW.trod enc Tryz.prog w base spare held n 4 cs=some y):∃z:Bool,cs=[.bool z]:=by
 obtain ⟨z,h,_⟩:=DataW.trod_bool Tryz.underlying4 h;exact ⟨z,h⟩
theorem MW {n:Nat}{cs:List Value}{y:DataW H×List MemPlace}(h:DataW.trod enc Tryz.prog w base spare held n 23 cs=some y):∃z:au,cs=z.cells:=by
 obtain ⟨a,ys,m,_,b⟩:=nB Tryz.underlying23 h;replace a:cs.length=2:=a.trans (by kernel_rfl)
 match cs,a with
 |[g,c1],_=>
 obtain ⟨_,_,c⟩:=b 0 _ 3 0 _ rfl rfl rfl iU;obtain ⟨_,_,d⟩:=b 1 _ 3 1 _ rfl rfl rfl iU;obtain ⟨e,e0⟩:=iV c;obtain ⟨f,e1⟩:=iV d;simp only[List.drop,List.take,List.cons.injEq,and_true,Nat.reduceAdd] at e0 e1;exact ⟨⟨e,f⟩,by rw[e0,e1];rfl⟩
theorem MX {n:Nat}{cs:List Value}{y:DataW H×List MemPlace}(h:DataW.trod enc Tryz.prog w base spare held n 44 cs=some y):∃z:bN,cs=z.cells:=by
 obtain ⟨a,ys,m,_,b⟩:=nB Tryz.underlying44 h;replace a:cs.length=2:=a.trans (by kernel_rfl)
 match cs,a with
 |[g,c1],_=>
 obtain ⟨_,_,c⟩:=b 0 _ 3 0 _ rfl rfl rfl iU;obtain ⟨_,_,d⟩:=b 1 _ 3 1 _ rfl rfl rfl iU;obtain ⟨e,e0⟩:=iV c;obtain ⟨f,e1⟩:=iV d;simp only[List.drop,List.take,List.cons.injEq,and_true,Nat.reduceAdd] at e0 e1;exact ⟨⟨e,f⟩,by rw[e0,e1];rfl⟩
theorem MY {n:Nat}{cs:List Value}{y:DataW H×List MemPlace}(h:DataW.trod enc Tryz.prog w base spare held n 70 cs=some y):∃z:bO,cs=z.cells:=by
 obtain ⟨a,ys,m,_,b⟩:=nB Tryz.underlying70 h;replace a:cs.length=2:=a.trans (by kernel_rfl)
 match cs,a with
 |[g,c1],_=>
 obtain ⟨_,_,c⟩:=b 0 _ 3 0 _ rfl rfl rfl iU;obtain ⟨_,_,d⟩:=b 1 _ 3 1 _ rfl rfl rfl iU;obtain ⟨e,e0⟩:=iV c;obtain ⟨f,e1⟩:=iV d;simp only[List.drop,List.take,List.cons.injEq,and_true,Nat.reduceAdd] at e0 e1;exact ⟨⟨e,f⟩,by rw[e0,e1];rfl⟩
theorem MZ {n:Nat}{cs:List Value}{y:DataW H×List MemPlace}(h:DataW.trod enc Tryz.prog w base spare held n 54 cs=some y):∃z:bV,cs=z.cells:=by
 obtain ⟨a,ys,m,_,b⟩:=nB Tryz.underlying54 h;replace a:cs.length=2:=a.trans (by kernel_rfl)
 match cs,a with
 |[g,c1],_=>
 obtain ⟨_,_,c⟩:=b 0 _ 3 0 _ rfl rfl rfl iU;obtain ⟨_,_,d⟩:=b 1 _ 4 1 _ rfl rfl rfl MU;obtain ⟨e,e0⟩:=iV c;obtain ⟨f,e1⟩:=MV d;simp only[List.drop,List.take,List.cons.injEq,and_true,Nat.reduceAdd] at e0 e1;exact ⟨⟨e,f⟩,by rw[e0,e1];rfl⟩
theorem M0 {n:Nat}{cs:List Value}{y:DataW H×List MemPlace}(h:DataW.trod enc Tryz.prog w base spare held n 56 cs=some y):∃z:de,cs=z.cells:=by
 obtain ⟨a,ys,m,_,b⟩:=nB Tryz.underlying56 h;replace a:cs.length=2:=a.trans (by kernel_rfl)
 match cs,a with
 |[g,c1],_=>
 obtain ⟨_,_,c⟩:=b 0 _ 3 0 _ rfl rfl rfl iU;obtain ⟨_,_,d⟩:=b 1 _ 3 1 _ rfl rfl rfl iU;obtain ⟨e,e0⟩:=iV c;obtain ⟨f,e1⟩:=iV d;simp only[List.drop,List.take,List.cons.injEq,and_true,Nat.reduceAdd] at e0 e1;exact ⟨⟨e,f⟩,by rw[e0,e1];rfl⟩
theorem M1 {n:Nat}{cs:List Value}{y:DataW H×List MemPlace}(h:DataW.trod enc Tryz.prog w base spare held n 67 cs=some y):∃z:b9,cs=z.cells:=by
 obtain ⟨a,ys,m,_,b⟩:=nB Tryz.underlying67 h;have c:Tryz.prog.cellsOf 56=2:=by kernel_rfl
 replace a:cs.length=3:=a.trans (by kernel_rfl)
 match cs,a with
 |[i,c1,c2],_=>
 obtain ⟨_,_,d⟩:=b 0 _ 3 0 _ rfl rfl rfl iU;obtain ⟨_,_,e⟩:=b 1 _ 56 1 _ rfl rfl rfl c;obtain ⟨f,e0⟩:=iV d;obtain ⟨g,e1⟩:=M0 e;simp only[List.drop,List.take,List.cons.injEq,and_true,de.cells] at e0 e1;exact ⟨⟨f,g⟩,by rw[e0,e1.1,e1.2];rfl⟩
theorem M3 {r:Reach}{z:Nat}{o:List TypeId}{q:List (DataW H)}(c:(DataW.weightsEach Tryz.prog o q).all (· <=reachBytes)=true){j:Nat}(e:o[j]?=some 29){d:DataW H}(f:q[j]?=some d){v:Value}{p:List MemPlace}
  (A:Value.okWide Tryz.prog w r z 29 v) (h:DataW.Trod enc Tryz.prog w base spare held 29 v d p):
  ∃(u:ak) (s1 s2 g k:Value),v= .agg #[.int .i64 u.bH,.int .i64 u.bP,.int .i64 u.bf.num,.int .i64 u.bf.den,s1,s2,g,k]/\az fj (fun a=>w.cell? a) s1 u.an/\az eI (fun a=>w.cell? a) s2 u.props/\az e8 (fun a=>w.cell? a) g u.aG/\az di (fun a=>w.cell? a) k u.told:=by
 obtain ⟨cs,rfl,n⟩:=okWide_struct Tryz.underlying29 A
 replace n:cs.size=8:=n.trans (by kernel_rfl)
 obtain ⟨l⟩:=cs
 match l,n with
 |[a0,c1,c2,c3,c4,a2,a3,a4],_=>
 obtain ⟨fuel,B⟩:=h
 have C:Tryz.prog.cellsOf 23=2:=by kernel_rfl
 have D:Tryz.prog.cellsOf 24=1:=by kernel_rfl
 have E:Tryz.prog.cellsOf 25=1:=by kernel_rfl
 have F:Tryz.prog.cellsOf 26=1:=by kernel_rfl
 have G:Tryz.prog.cellsOf 27=1:=by kernel_rfl
 obtain ⟨_,ys,m,hd,b⟩:=nB Tryz.underlying29 B
 replace hd:d= .agg (ys.map (·.1)):=hd
 subst hd
 obtain ⟨_,_,I⟩:=b 0 _ 3 0 _ rfl rfl rfl iU
 obtain ⟨_,_,J⟩:=b 1 _ 3 1 _ rfl rfl rfl iU
 obtain ⟨_,_,K⟩:=b 2 _ 23 2 _ rfl rfl rfl C
 obtain ⟨a5,L,M⟩:=b 3 _ 24 4 _ rfl rfl rfl D
 obtain ⟨a6,N,O⟩:=b 4 _ 25 5 _ rfl rfl rfl E
 obtain ⟨a7,P,Q⟩:=b 5 _ 26 6 _ rfl rfl rfl F
 obtain ⟨a8,R,S⟩:=b 6 _ 27 7 _ rfl rfl rfl G
 obtain ⟨T,e0⟩:=iV I
 obtain ⟨U,e1⟩:=iV J
 obtain ⟨V,e2⟩:=MW K
 obtain ⟨g,W,s,X⟩:=rP (r:=fj) Tryz.underlying24 (by kernel_rfl) (fun _ _ _ h=>MX h) M fun es sp he=>u7 c e f Tryz.underlying29 (i:=3) rfl rfl Tryz.underlying24 (of_decide_eq_true (by kernel_rfl)) (sp:=sp) (by rw[List.getElem?_map,L];exact congrArg some he)
 obtain ⟨k,Y,t,Z⟩:=rP (r:=eI) Tryz.underlying25 (by kernel_rfl) (fun _ _ _ h=>MY h) O fun es sp he=>u7 c e f Tryz.underlying29 (i:=4) rfl rfl Tryz.underlying25 (of_decide_eq_true (by kernel_rfl)) (sp:=sp) (by rw[List.getElem?_map,N];exact congrArg some he)
 obtain ⟨ab,ad,x,ae⟩:=rP (r:=e8) Tryz.underlying26 (by kernel_rfl) (fun _ _ _ h=>M1 h) Q fun es sp he=>u7 c e f Tryz.underlying29 (i:=5) rfl rfl Tryz.underlying26 (of_decide_eq_true (by kernel_rfl)) (sp:=sp) (by rw[List.getElem?_map,P];exact congrArg some he)
 obtain ⟨al,ao,y,ar⟩:=rP (r:=di) Tryz.underlying27 (by kernel_rfl) (fun _ _ _ h=>MZ h) S fun es sp he=>u7 c e f Tryz.underlying29 (i:=6) rfl rfl Tryz.underlying27 (of_decide_eq_true (by kernel_rfl)) (sp:=sp) (by rw[List.getElem?_map,R];exact congrArg some he)
 simp only[Value.cells,List.drop,List.take,List.cons.injEq,and_true,au.cells] at e0 e1 e2 s t x y
 refine ⟨⟨T,U,V,W,Y,ad,ao⟩,g,k,ab,al,?_,X,Z,ae,ar⟩
 rw[e0,e1,e2.1,e2.2,s,t,x,y]
end
theorem zx {n:Int}(h:(Lit.int .u8 n).wf=true):0<=n/\n<=255:=by
 unfold Lit.wf at h;rw[Bool.and_eq_true,decide_eq_true_eq,decide_eq_true_eq] at h;exact h
theorem M4 {w:World}(h:laidMetH Tryz.prog [("velarium/terrain.checks",Rows.laid_velarium_terrain_checks)] w):c6 (fun a=>w.cell? a):=by
 obtain ⟨g,t,cs,fuel,p,j,v,x,y⟩:=laidMetH.funcs h (n:= "velarium/terrain.checks") (List.mem_singleton.2 rfl);obtain rfl:=Option.some.inj ((show Tryz.prog.globalNamed "velarium/terrain.checks"=some 0 by kernel_rfl).symm.trans j);obtain rfl:=Option.some.inj ((show (Tryz.prog.globals[0]?).map (·.type)=some 200 by kernel_rfl).symm.trans v);obtain ⟨xs,m,_,ex,_,E,z⟩:=DataW.trod_array Tryz.underlying200 y;have c1:Tryz.prog.cellsOf 133=1:=by kernel_rfl
 have d:=DataW.agg.inj (Prod.mk.inj ex).1;have key:∀(i f:Nat) (b:UInt8) (r:List UInt8),i<5->(xs.map (·.1))[i]?=some (.held (b::r))->(∃fn,Tryz.prog.funcs[f]?=some fn/\fn.name.toUTF8.data.toList=b::r/\Tryz.prog.funcNamed fn.name=some f)->w.cell? ⟨0,i,none⟩=some (.func (.func f) #[] #[]):=by
  intro i f b r hi c ⟨k,F,A,B⟩;have l:=z i hi;rw[c1,Nat.mul_one,List.getElem?_eq_getElem (by omega)] at l;rw[List.getElem?_map,List.getElem?_eq_getElem (by omega)] at c;simp only[Option.map_some,Option.some.injEq] at c;rw[World.var?_cell j x i];rcases MS Tryz.underlying133 l with e|⟨f1,a1,c1,o,e⟩
  .rw[e] at c;cases c
  rw[e] at c;obtain ⟨f2,q,e1,e2,s,u⟩:=funcToken_tells (DataW.held.inj c);have C:q.name=k.name:=by
   rw[<-A] at u;have D:q.name.toUTF8=k.name.toUTF8:=ByteArray.ext (Array.toList_inj.1 u);exact String.toByteArray_inj.1 D
  rw[C,B] at s;obtain rfl:=Option.some.inj s;rw[e1] at o;have:((cs.toList.drop i).take 1)[0]?=some (.func (.func f) #[] #[]):=by rw[o];rfl
  simpa using this
 refine ⟨key 0 _ _ _ (by decide) (by rw[<-d];rfl) ⟨_,Tryz.func244,by kernel_rfl,by kernel_rfl⟩,key 1 _ _ _ (by decide) (by rw[<-d];rfl) ⟨_,Tryz.func245,by kernel_rfl,by kernel_rfl⟩,key 2 _ _ _ (by decide) (by rw[<-d];rfl) ⟨_,Tryz.func246,by kernel_rfl,by kernel_rfl⟩,key 3 _ _ _ (by decide) (by rw[<-d];rfl) ⟨_,Tryz.func247,by kernel_rfl,by kernel_rfl⟩,key 4 _ _ _ (by decide) (by rw[<-d];rfl) ⟨_,Tryz.func248,by kernel_rfl,by kernel_rfl⟩⟩
theorem own:ownKnob Tryz.prog.godebug=none:=by kernel_rfl
theorem M5 {p:Pinned}{s:OpenSpec}{c:OpenClaim}(kinds:List LaidKind)(b:Bool)(a:Bool×String)(lk:Bool)
  (d:c.holds p s) (hw:c.wfByText s=true) (e:c.laidByTextAt .later p kinds b)
  (g:c.start= .entering) (i:c.noBlocks=false/\c.again=false) (hm:p.checked.prog.mainIs=some (a.1,a.2.toList)) (k:(!a.1&&a.2.isEmpty&&!lk)=false)
  (l:∀f fn,p.checked.prog.funcNamed c.func=some f->p.checked.prog.funcs[f]?=some fn->lk=p.checked.prog.looks []/\∀(j:Nat) t,fn.params[j]?=some t->p.checked.prog.wantsStandIn t=false)
  (hg:true=c.goesBy p.checked.prog):
  Claim7.holds p (.plain s) {stood:={row:=c,standIns:=[],harness:=a,looks:=lk},kinds:=[],alts:=[],goes:=true,laidByText:=true,laidKinds:=kinds,laidTests:=b,laidLooks:=.later}:=by
 have m:∀r:OpenClaim,Claim7.isSixth {stood:={row:=r,standIns:=[],harness:=a,looks:=lk},kinds:=[]}=false:=fun r=>by simpa [Claim7.isSixth] using k
 exact ⟨Claim7.tied_new_at .later kinds b (Claim7.new_of_sixth d a lk g i hm (m c) l) hw,fun D n=>(by cases n),e,(fun h=>by cases h),hg⟩
theorem M6 {H:Type}{P:Program}{a:List TypeId}{b:List (DataW H)}(h:(DataW.weightsEach P a b).all (· <=reachBytes)=true){j:Nat}{t e:TypeId}
  (c:a[j]?=some t) (d:P.underlying t=some (.slice e)) (f:1<=P.bytesOf e) {es sp:List (DataW H)} (g:b[j]?=some (.slice es sp)):es.length<=1000000000000000:=by
 have i:(es.length+sp.length)*P.bytesOf e∈(DataW.slice es sp).weights P t:=by simp[DataW.weights,d]
 have k:=DataW.weights_mem_each c g _ i
 have:=List.all_eq_true.1 h _ k
 have l:(es.length+sp.length)*P.bytesOf e<=reachBytes:=by simpa using this
 have m:(es.length+sp.length)*1<=(es.length+sp.length)*P.bytesOf e:=Nat.mul_le_mul_left _ f
 have n:reachBytes<=1000000000000000:=by decide
 omega
abbrev U8:Type:={n:Int//0<=n/\n<=255}
def M7:b7 U8:=gK 1 (fun n=>[.int .u8 n.1]) (fun _=>rfl) (fun _ v a=>by simp at a;subst a;rfl)
section
variable {H : Type} {enc : TypeId × Value → H} {w : World} {base : Nat} {spare : Nat → Bool} {held : Bool}
theorem M8 {n:Nat}{cs:List Value}{y:DataW H×List MemPlace}(h:DataW.trod enc Tryz.prog w base spare held n 5 cs=some y):∃z:U8,cs=[.int .u8 z.1]:=by
 obtain ⟨z,h,_,hw⟩:=DataW.trod_int Tryz.underlying5 h;exact ⟨⟨z,zx hw⟩,h⟩
theorem M9 {r:Reach}{f:Nat}{b:List TypeId}{e:List (DataW H)}(g:(DataW.weightsEach Tryz.prog b e).all (· <=reachBytes)=true){j:Nat}(k:b[j]?=some 42){d:DataW H}(m:e[j]?=some d){v:Value}{p:List MemPlace}
  (n:Value.okWide Tryz.prog w r f 42 v) (h:DataW.Trod enc Tryz.prog w base spare held 42 v d p):
  ∃u:List Int,az n9 (fun a=>w.cell? a) v u/\∀x∈u,0<=x/\x<=255:=by
 obtain ⟨a,len,cap,rfl⟩:=okWide_slice Tryz.underlying42 n
 obtain ⟨fuel,o⟩:=h
 obtain ⟨s,l,hs,L⟩:=rP (r:=M7) Tryz.underlying42 (by kernel_rfl) (fun _ _ _ h=>M8 h) o fun es sp he=>M6 g k Tryz.underlying42 (of_decide_eq_true (by kernel_rfl)) (sp:=sp) (m.trans (congrArg some he))
 obtain rfl:Value.slice a len cap=s:=by simpa [Value.cells] using hs
 refine ⟨l.map (·.1),?_,fun x q=>?_⟩
 .obtain ⟨ad,c,t,z,A,B⟩:=L
  refine ⟨ad,c,by rw[List.length_map];exact t,by rw[List.length_map];exact z,by rw[List.length_map];exact A,fun i x hi=>?_⟩
  rw[List.getElem?_map] at hi
  obtain ⟨y,C,rfl⟩:=Option.map_eq_some_iff.1 hi
  exact B i y C
 .obtain ⟨y,_,rfl⟩:=List.mem_map.1 q
  exact y.2
end
theorem Na (os:Os)(H:Type)(enc:TypeId×Value->H):∃(w:World) (tape:Tape) (i:Input),w.os=os/\(w.forCall tape i).Shaped Tryz.checked.prog/\i.vars=[]/\Input.okWide Tryz.checked.prog (w.forCall tape i) .any w.heap.size 4 i/\
   ((Rows.terrainFewestSpec.pre enc Tryz.checked.prog Tryz.f4 [] false (w.forCall tape i).memory i.args/\laidMetH Tryz.prog [("velarium/terrain.checks",Rows.laid_velarium_terrain_checks)] (w.forCall tape i).memory)/\sizedMet enc Tryz.checked.prog Tryz.f4 (OpenSpec.ofChange Rows.terrainFewestSpec) false (w.forCall tape i).memory i.args)/\Rows.terrainFewestRow.assume.holds Tryz.checked.prog (lone (Frame.enter Tryz.checked.prog 4 i.args .normal) [] (w.forCall tape i)):=by
 refine ⟨(((((World.holding Tryz.prog os ⟨#[],#[],[]⟩).setCell ⟨0,0,none⟩ (.func (.func 244) #[] #[])).setCell ⟨0,1,none⟩ (.func (.func 245) #[] #[])).setCell ⟨0,2,none⟩ (.func (.func 246) #[] #[])).setCell ⟨0,3,none⟩ (.func (.func 247) #[] #[])).setCell ⟨0,4,none⟩ (.func (.func 248) #[] #[]),
  fun _ _=>0,⟨#[],#[.agg #[.int .i64 0,.int .i64 0,.int .i64 0,.int .i64 0,.slice none 0 0,.slice none 0 0,.slice none 0 0,.slice none 0 0],.int .u8 0,.int .u8 0,.slice none 0 0],[]⟩,rfl,World.shaped_of_ZipB (by kernel_rfl) (by kernel_rfl),rfl,(Input.okWide_of_okWideB (by kernel_rfl)).2,
  ⟨⟨ChangeSpec.pre_of_preB (fuel:=8) (by kernel_rfl),laidMetH_of_parts3 (fuel:=8) ?_ rfl (by kernel_rfl)⟩,sizedMet_of_sizedB (fuel:=8) (by kernel_rfl)⟩,?_⟩
 .exact ⟨[],rfl,List.nodup_nil,fun _ _ h=>by cases h⟩
 .simp only[Assume.holds]
  exact ⟨by simp[Rows.terrainFewestRow,OpenClaim.assume],fun _ _ _ _=>rfl,by simp[Rows.terrainFewestRow,OpenClaim.assume],by simp[Rows.terrainFewestRow,OpenClaim.assume],by simp[Rows.terrainFewestRow,OpenClaim.assume]⟩
theorem Nb (os:Os)(started:os.Started)(H:Type)(enc:TypeId×Value->H)(F:Stop.Interp):
  ReturnsInLeavingWide Rows.terrainFewestRow.assume Tryz.checked os 4 .any (fun w args=>(Rows.terrainFewestSpec.pre enc Tryz.checked.prog Tryz.f4 [] false w args/\laidMetH Tryz.prog [("velarium/terrain.checks",Rows.laid_velarium_terrain_checks)] w)/\sizedMet enc Tryz.checked.prog Tryz.f4 (OpenSpec.ofChange Rows.terrainFewestSpec) false w args)
   ((OpenSpec.ofChange Rows.terrainFewestSpec).postWith enc Tryz.checked.prog Tryz.f4 F (outsideKept [.timePasses]) false true false):=by
 refine MT (C:=Tryz.checked) (X:=laidMetH Tryz.prog [("velarium/terrain.checks",Rows.laid_velarium_terrain_checks)]) (fun w w' hh h=>h.of_heap hh.symm) own started Tryz.func4 (Na os H enc) ?_
 intro W base args A gs before B hW _ i D
 have c:∀(j:Nat) t v,Tryz.f4.params[j]?=some t->args[j]?=some v->Value.okWide Tryz.prog W .any base t v:=B
 have l:=hW
 obtain ⟨p,q,E,G,rfl,_,_⟩:=hW
 have g:DataW.TrodAll enc Tryz.prog W 0 (fun _=>true) true Tryz.f4.params.toList args.toList A p:=E
 have e:=DataW.TrodAll.lt g
 rw[Tryz.params4] at g c
 obtain ⟨v0,v1,v2,m,d0,d1,d2,d3,p0,T,p2,p3,rfl,rfl,rfl,n,o,r,s⟩:=trodAll_four g
 obtain ⟨rfl,rfl⟩:=trodVars_none G
 obtain ⟨u0,s1,s2,U,V,I,J,K,L,M⟩:=M3 (j:=0) i rfl rfl (c 0 29 v0 rfl rfl) n
 obtain ⟨u,N,_,_,w1⟩:=open_int Tryz.underlying5 (c 1 5 v1 rfl rfl) o
 obtain ⟨y,O,_,_,w2⟩:=open_int Tryz.underlying5 (c 2 5 v2 rfl rfl) r
 obtain ⟨z,P,w3⟩:=M9 (j:=3) i rfl rfl (c 3 42 m rfl rfl) s
 have Q:mq Tryz.prog 4 #[v0,v1,v2,m] ⟨fun a=>W.cell? a,[]⟩ (fun v _=>v= .bool true):=by
  rw[I,N,O]
  exact LV (M4 D) u0 ⟨J,K,L,M⟩ u y z P rfl (MQ u0 u (zx w1) y (zx w2) z w3)
 refine Q.ends (MR W) fun v F' w' R hu=>?_
 subst R
 simp only[List.append_nil] at l
 have d:Below W.heap.size W {w' with os:=W.os}:=⟨rfl,hu.tape,hu.output,hu.size,fun k S=>hu.frame k S (by simp[keys])⟩
 have f:laidOutB Tryz.prog=true:=by kernel_rfl
 refine ⟨⟨_,_,_,[],_,[],l,trodAll_mk1 (shut_bool Tryz.underlying4 _),trodAll_mk4 (Below.trod f (by kernel_rfl) (of_decide_eq_true (by kernel_rfl)) n d ?_) (Below.trod f (by kernel_rfl) (of_decide_eq_true (by kernel_rfl)) o d ?_) (Below.trod f (by kernel_rfl) (of_decide_eq_true (by kernel_rfl)) r d ?_) (Below.trod f (by kernel_rfl) (of_decide_eq_true (by kernel_rfl)) s d ?_),rfl,d.frame _,fun h=>by cases h⟩,hu.os⟩
 .exact fun x b=>e x (by simp[b])
 .exact fun x b=>e x (by simp[b])
 .exact fun x b=>e x (by simp[b])
 .exact fun x b=>e x (by simp[b])
theorem Nc:Rows.TerrainFewestSaid:=
 OpenClaim.holds_of_wide_leaving_time 4 Tryz.f4 rfl rfl rfl rfl rfl rfl rfl ⟨rfl,rfl,rfl,rfl,rfl⟩ rfl rfl rfl rfl rfl (by kernel_rfl) Tryz.func4 (by kernel_rfl)
  (of_decide_eq_true (by kernel_rfl)) (by unfold Func.isWrapper;first|(rw[if_pos (by decide+kernel)];kernel_rfl)|(rw[if_neg (by decide+kernel)];exact ⟨rfl,rfl⟩))
  (fun os started H enc _ F=>Nb os started H enc F)
theorem TerrainFewest_holds:Rows.TerrainFewestCardSaid:=
 M5 [.funcs] true (true, "3933f6fd06ce3d38d5015abeb8b461b17ec6588f105a591bbab5c671ae83653c") false Nc (by kernel_rfl) terrainFewest_row_tie rfl ⟨rfl,rfl⟩ (by kernel_rfl) rfl
  (fun f fn a b=>by
   obtain rfl:f=4:=Option.some.inj ((show Tryz.prog.funcNamed "velarium/velariumlaw04.TerrainFewest"=some 4 by kernel_rfl).symm.trans a)|>.symm
   obtain rfl:fn=Tryz.f4:=(Option.some.inj (Tryz.func4.symm.trans b)).symm
   exact ⟨by kernel_rfl,fun j t ht=>by
    rw[Tryz.params4] at ht
    have hm:t∈[29,5,5,42]:=by simpa using Array.mem_of_getElem? ht
    have c:([29,5,5,42].all fun u=>!Tryz.prog.wantsStandIn u)=true:=by kernel_rfl
    exact (show Tryz.prog.wantsStandIn t=false by simpa using List.all_eq_true.1 c t hm)⟩)
  (by kernel_rfl)
end Go.Proofs.YtghbphimkgamkaaGreatDoor
end

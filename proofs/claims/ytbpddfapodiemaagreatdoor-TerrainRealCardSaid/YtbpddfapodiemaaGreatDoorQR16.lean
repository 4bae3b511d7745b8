/- For every input that can be read, on every calm tape: the call of velariumlaw04.TerrainReal returns true; its arguments read as they did; the listed variable terrain.checks is tied to the text of the program. -/
import Derived.Test.YtbpddfapodiemaaGreatDoorQR15
import Derived.Test.YtbpddfapodiemaaGreatDoorTie
import Derived.Test.YtbpddfapodiemaaGreatDoorCards
import Derived.SevenTiedAt
set_option linter.all false
section
namespace Go.Proofs.YtbpddfapodiemaaGreatDoor
open Go Go.Sep Go.Proofs Go.ChangeShapes Go.WideShapes Go.ChangeAt Go.RowKit Go.Conc Go.ConcM
set_option maxRecDepth 100000
set_option maxHeartbeats 4000000
section
variable {H:Type}{enc:TypeId×Value->H}{w:World}{base:Nat}{spare:Nat->Bool}{held:Bool}
theorem ju:Tryz.prog.cellsOf 3=1:=aj
theorem NH:Tryz.prog.cellsOf 4=1:=aj
theorem jv {n:Nat}{cs:List Value}{y:DataW H×List MemPlace}(h:DataW.trod enc Tryz.prog w base spare held n 3 cs=some y):∃z:Int,cs=[.int .i64 z]:=by
 obtain ⟨z,h,_⟩:=DataW.trod_int Tryz.underlying3 h;exact ⟨z,h⟩
theorem NI {n:Nat}{cs:List Value}{y:DataW H×List MemPlace}(h:DataW.trod enc Tryz.prog w base spare held n 4 cs=some y):∃z:Bool,cs=[.bool z]:=by
 obtain ⟨z,h,_⟩:=DataW.trod_bool Tryz.underlying4 h;exact ⟨z,h⟩
theorem NJ {n:Nat}{cs:List Value}{y:DataW H×List MemPlace}(h:DataW.trod enc Tryz.prog w base spare held n 23 cs=some y):∃z:ax,cs=z.cells:=by
 obtain ⟨a,ys,m,_,b⟩:=oB Tryz.underlying23 h;replace a:cs.length=2:=a.trans aj
 match cs,a with
 |[g,c1],_=>
 obtain ⟨_,_,c⟩:=b 0 _ 3 0 _ rfl rfl rfl ju;obtain ⟨_,_,d⟩:=b 1 _ 3 1 _ rfl rfl rfl ju;obtain ⟨e,e0⟩:=jv c;obtain ⟨f,e1⟩:=jv d;simp only[List.drop,List.take,List.cons.injEq,and_true,Nat.reduceAdd] at e0 e1;exact ⟨⟨e,f⟩,by rw[e0,e1];rfl⟩
theorem NK {n:Nat}{cs:List Value}{y:DataW H×List MemPlace}(h:DataW.trod enc Tryz.prog w base spare held n 125 cs=some y):∃z:cv,cs=z.cells:=by
 obtain ⟨a,ys,m,_,b⟩:=oB Tryz.underlying125 h;replace a:cs.length=2:=a.trans aj
 match cs,a with
 |[g,c1],_=>
 obtain ⟨_,_,c⟩:=b 0 _ 3 0 _ rfl rfl rfl ju;obtain ⟨_,_,d⟩:=b 1 _ 3 1 _ rfl rfl rfl ju;obtain ⟨e,e0⟩:=jv c;obtain ⟨f,e1⟩:=jv d;simp only[List.drop,List.take,List.cons.injEq,and_true,Nat.reduceAdd] at e0 e1;exact ⟨⟨e,f⟩,by rw[e0,e1];rfl⟩
theorem NL {n:Nat}{cs:List Value}{y:DataW H×List MemPlace}(h:DataW.trod enc Tryz.prog w base spare held n 159 cs=some y):∃z:cF,cs=z.cells:=by
 obtain ⟨a,ys,m,_,b⟩:=oB Tryz.underlying159 h;replace a:cs.length=2:=a.trans aj
 match cs,a with
 |[g,c1],_=>
 obtain ⟨_,_,c⟩:=b 0 _ 3 0 _ rfl rfl rfl ju;obtain ⟨_,_,d⟩:=b 1 _ 3 1 _ rfl rfl rfl ju;obtain ⟨e,e0⟩:=jv c;obtain ⟨f,e1⟩:=jv d;simp only[List.drop,List.take,List.cons.injEq,and_true,Nat.reduceAdd] at e0 e1;exact ⟨⟨e,f⟩,by rw[e0,e1];rfl⟩
theorem NM {n:Nat}{cs:List Value}{y:DataW H×List MemPlace}(h:DataW.trod enc Tryz.prog w base spare held n 86 cs=some y):∃z:bM,cs=z.cells:=by
 obtain ⟨a,ys,m,_,b⟩:=oB Tryz.underlying86 h;replace a:cs.length=2:=a.trans aj
 match cs,a with
 |[g,c1],_=>
 obtain ⟨_,_,c⟩:=b 0 _ 3 0 _ rfl rfl rfl ju;obtain ⟨_,_,d⟩:=b 1 _ 4 1 _ rfl rfl rfl NH;obtain ⟨e,e0⟩:=jv c;obtain ⟨f,e1⟩:=NI d;simp only[List.drop,List.take,List.cons.injEq,and_true,Nat.reduceAdd] at e0 e1;exact ⟨⟨e,f⟩,by rw[e0,e1];rfl⟩
theorem NN {n:Nat}{cs:List Value}{y:DataW H×List MemPlace}(h:DataW.trod enc Tryz.prog w base spare held n 64 cs=some y):∃z:dF,cs=z.cells:=by
 obtain ⟨a,ys,m,_,b⟩:=oB Tryz.underlying64 h;replace a:cs.length=2:=a.trans aj
 match cs,a with
 |[g,c1],_=>
 obtain ⟨_,_,c⟩:=b 0 _ 3 0 _ rfl rfl rfl ju;obtain ⟨_,_,d⟩:=b 1 _ 3 1 _ rfl rfl rfl ju;obtain ⟨e,e0⟩:=jv c;obtain ⟨f,e1⟩:=jv d;simp only[List.drop,List.take,List.cons.injEq,and_true,Nat.reduceAdd] at e0 e1;exact ⟨⟨e,f⟩,by rw[e0,e1];rfl⟩
theorem NO {n:Nat}{cs:List Value}{y:DataW H×List MemPlace}(h:DataW.trod enc Tryz.prog w base spare held n 66 cs=some y):∃z:cq,cs=z.cells:=by
 obtain ⟨a,ys,m,_,b⟩:=oB Tryz.underlying66 h;have c:Tryz.prog.cellsOf 64=2:=aj;replace a:cs.length=3:=a.trans aj
 match cs,a with
 |[i,c1,c2],_=>
 obtain ⟨_,_,d⟩:=b 0 _ 3 0 _ rfl rfl rfl ju;obtain ⟨_,_,e⟩:=b 1 _ 64 1 _ rfl rfl rfl c;obtain ⟨f,e0⟩:=jv d;obtain ⟨g,e1⟩:=NN e;simp only[List.drop,List.take,List.cons.injEq,and_true,dF.cells] at e0 e1;exact ⟨⟨f,g⟩,by rw[e0,e1.1,e1.2];rfl⟩
theorem NP {r:Reach}{z:Nat}{o:List TypeId}{q:List (DataW H)}(c:(DataW.weightsEach Tryz.prog o q).all (· <=reachBytes)=true){j:Nat}(e:o[j]?=some 29){d:DataW H}(f:q[j]?=some d){v:Value}{p:List MemPlace}
  (A:Value.okWide Tryz.prog w r z 29 v) (h:DataW.Trod enc Tryz.prog w base spare held 29 v d p):
  ∃(u:an) (s1 s2 g k:Value),v= .agg #[.int .i64 u.bV,.int .i64 u.bU,.int .i64 u.bq.num,.int .i64 u.bq.den,s1,s2,g,k]/\aH fH (fun a=>w.cell? a) s1 u.aE/\aH eU (fun a=>w.cell? a) s2 u.props/\aH fo (fun a=>w.cell? a) g u.aF/\aH dG (fun a=>w.cell? a) k u.told:=by
 obtain ⟨cs,rfl,n⟩:=okWide_struct Tryz.underlying29 A
 replace n:cs.size=8:=n.trans aj
 obtain ⟨l⟩:=cs
 match l,n with
 |[a0,c1,c2,c3,c4,a2,a3,a4],_=>
 obtain ⟨fuel,B⟩:=h
 have C:Tryz.prog.cellsOf 23=2:=aj
 have D:Tryz.prog.cellsOf 24=1:=aj
 have E:Tryz.prog.cellsOf 25=1:=aj
 have F:Tryz.prog.cellsOf 26=1:=aj
 have G:Tryz.prog.cellsOf 27=1:=aj
 obtain ⟨_,ys,m,hd,b⟩:=oB Tryz.underlying29 B
 replace hd:d= .agg (ys.map (·.1)):=hd
 subst hd
 obtain ⟨_,_,I⟩:=b 0 _ 3 0 _ rfl rfl rfl ju
 obtain ⟨_,_,J⟩:=b 1 _ 3 1 _ rfl rfl rfl ju
 obtain ⟨_,_,K⟩:=b 2 _ 23 2 _ rfl rfl rfl C
 obtain ⟨a5,L,M⟩:=b 3 _ 24 4 _ rfl rfl rfl D
 obtain ⟨a6,N,O⟩:=b 4 _ 25 5 _ rfl rfl rfl E
 obtain ⟨a7,P,Q⟩:=b 5 _ 26 6 _ rfl rfl rfl F
 obtain ⟨a8,R,S⟩:=b 6 _ 27 7 _ rfl rfl rfl G
 obtain ⟨T,e0⟩:=jv I
 obtain ⟨U,e1⟩:=jv J
 obtain ⟨V,e2⟩:=NJ K
 obtain ⟨g,W,s,X⟩:=sL (r:=fH) Tryz.underlying24 aj (fun _ _ _ h=>NK h) M fun es sp he=>vQ c e f Tryz.underlying29 (i:=3) rfl rfl Tryz.underlying24 (of_decide_eq_true aj) (sp:=sp) (by rw[List.getElem?_map,L];exact congrArg some he)
 obtain ⟨k,Y,t,Z⟩:=sL (r:=eU) Tryz.underlying25 aj (fun _ _ _ h=>NL h) O fun es sp he=>vQ c e f Tryz.underlying29 (i:=4) rfl rfl Tryz.underlying25 (of_decide_eq_true aj) (sp:=sp) (by rw[List.getElem?_map,N];exact congrArg some he)
 obtain ⟨ab,ad,x,ae⟩:=sL (r:=fo) Tryz.underlying26 aj (fun _ _ _ h=>NO h) Q fun es sp he=>vQ c e f Tryz.underlying29 (i:=5) rfl rfl Tryz.underlying26 (of_decide_eq_true aj) (sp:=sp) (by rw[List.getElem?_map,P];exact congrArg some he)
 obtain ⟨al,ao,y,ar⟩:=sL (r:=dG) Tryz.underlying27 aj (fun _ _ _ h=>NM h) S fun es sp he=>vQ c e f Tryz.underlying29 (i:=6) rfl rfl Tryz.underlying27 (of_decide_eq_true aj) (sp:=sp) (by rw[List.getElem?_map,R];exact congrArg some he)
 simp only[Value.cells,List.drop,List.take,List.cons.injEq,and_true,ax.cells] at e0 e1 e2 s t x y
 refine ⟨⟨T,U,V,W,Y,ad,ao⟩,g,k,ab,al,?_,X,Z,ae,ar⟩
 rw[e0,e1,e2.1,e2.2,s,t,x,y]
end
theorem NQ {n:Int}(h:(Lit.int .u8 n).wf=true):0<=n/\n<=255:=by
 unfold Lit.wf at h;rw[Bool.and_eq_true,decide_eq_true_eq,decide_eq_true_eq] at h;exact h
theorem NR {w:World}(h:laidMetH Tryz.prog [("velarium/terrain.checks",Rows.laid_velarium_terrain_checks)] w):dH (fun a=>w.cell? a):=by
 obtain ⟨g,t,cs,fuel,p,j,u,v,x⟩:=laidMetH.funcs h (n:= "velarium/terrain.checks") (List.mem_singleton.2 rfl);obtain rfl:=Option.some.inj ((show Tryz.prog.globalNamed "velarium/terrain.checks"=some 0 by kernel_rfl).symm.trans j);obtain rfl:=Option.some.inj ((show (Tryz.prog.globals[0]?).map (·.type)=some 196 by kernel_rfl).symm.trans u);obtain ⟨xs,m,_,ex,_,D,y⟩:=DataW.trod_array Tryz.underlying196 x;have c1:Tryz.prog.cellsOf 116=1:=aj;have d:=DataW.agg.inj (Prod.mk.inj ex).1;have key:∀(i f:Nat) (b:UInt8) (r:List UInt8),i<5->(xs.map (·.1))[i]?=some (.held (b::r))->(∃fn,Tryz.prog.funcs[f]?=some fn/\fn.name.toUTF8.data.toList=b::r/\Tryz.prog.funcNamed fn.name=some f)->w.cell? ⟨0,i,none⟩=some (.func (.func f) #[] #[]):=by
  intro i f b r hi c ⟨k,E,z,A⟩;have l:=y i hi;rw[c1,Nat.mul_one,List.getElem?_eq_getElem aa] at l;rw[List.getElem?_map,List.getElem?_eq_getElem aa] at c;simp only[Option.map_some,Option.some.injEq] at c;rw[World.var?_cell j v i];rcases NF Tryz.underlying116 l with e|⟨f1,a1,c1,hc,e⟩
  .rw[e] at c;cases c
  rw[e] at c;obtain ⟨f2,o,e1,e2,q,s⟩:=funcToken_tells (DataW.held.inj c);have B:o.name=k.name:=by
   rw[<-z] at s;have C:o.name.toUTF8=k.name.toUTF8:=ByteArray.ext (Array.toList_inj.1 s);exact String.toByteArray_inj.1 C
  rw[B,A] at q;obtain rfl:=Option.some.inj q;rw[e1] at hc;have:((cs.toList.drop i).take 1)[0]?=some (.func (.func f) #[] #[]):=by rw[hc];rfl
  simpa using this
 refine ⟨key 0 _ _ _ aB (by rw[<-d];rfl) ⟨_,Tryz.func231,aj,aj⟩,key 1 _ _ _ aB (by rw[<-d];rfl) ⟨_,Tryz.func232,aj,aj⟩,key 2 _ _ _ aB (by rw[<-d];rfl) ⟨_,Tryz.func233,aj,aj⟩,key 3 _ _ _ aB (by rw[<-d];rfl) ⟨_,Tryz.func234,aj,aj⟩,key 4 _ _ _ aB (by rw[<-d];rfl) ⟨_,Tryz.func235,aj,aj⟩⟩
theorem own:ownKnob Tryz.prog.godebug=none:=aj
theorem NS {p:Pinned}{s:OpenSpec}{c:OpenClaim}(kinds:List LaidKind)(b:Bool)(a:Bool×String)(lk:Bool)
  (hc:c.holds p s) (hw:c.wfByText s=true) (d:c.laidByTextAt .later p kinds b)
  (e:c.start= .entering) (g:c.noBlocks=false/\c.again=false) (hm:p.checked.prog.mainIs=some (a.1,a.2.toList)) (i:(!a.1&&a.2.isEmpty&&!lk)=false)
  (k:∀f fn,p.checked.prog.funcNamed c.func=some f->p.checked.prog.funcs[f]?=some fn->lk=p.checked.prog.looks []/\∀(j:Nat) t,fn.params[j]?=some t->p.checked.prog.wantsStandIn t=false)
  (hg:true=c.goesBy p.checked.prog):
  Claim7.holds p (.plain s) {stood:={row:=c,standIns:=[],harness:=a,looks:=lk},kinds:=[],alts:=[],goes:=true,laidByText:=true,laidKinds:=kinds,laidTests:=b,laidLooks:=.later}:=by
 have l:∀r:OpenClaim,Claim7.isSixth {stood:={row:=r,standIns:=[],harness:=a,looks:=lk},kinds:=[]}=false:=fun r=>by simpa [Claim7.isSixth] using i
 exact ⟨Claim7.tied_new_at .later kinds b (Claim7.new_of_sixth hc a lk e g hm (l c) k) hw,fun D m=>(by cases m),d,(fun h=>by cases h),hg⟩
theorem NT {H:Type}{P:Program}{a:List TypeId}{b:List (DataW H)}(h:(DataW.weightsEach P a b).all (· <=reachBytes)=true){j:Nat}{t e:TypeId}
  (c:a[j]?=some t) (d:P.underlying t=some (.slice e)) (f:1<=P.bytesOf e) {es sp:List (DataW H)} (g:b[j]?=some (.slice es sp)):es.length<=1000000000000000:=by
 have i:(es.length+sp.length)*P.bytesOf e∈(DataW.slice es sp).weights P t:=by simp[DataW.weights,d]
 have k:=DataW.weights_mem_each c g _ i
 have:=List.all_eq_true.1 h _ k
 have l:(es.length+sp.length)*P.bytesOf e<=reachBytes:=by simpa using this
 have m:(es.length+sp.length)*1<=(es.length+sp.length)*P.bytesOf e:=Nat.mul_le_mul_left _ f
 have n:reachBytes<=1000000000000000:=aB
 omega
theorem NU {n:Int}(h:(Lit.int .u16 n).wf=true):0<=n/\n<=65535:=by
 unfold Lit.wf at h;rw[Bool.and_eq_true,decide_eq_true_eq,decide_eq_true_eq] at h;exact h
abbrev EZ:Type:={n:Int//0<=n/\n<=65535}
def NV:cu EZ:=gP 1 (fun n=>[.int .u16 n.1]) (fun _=>rfl) (fun _ v a=>by simp at a;subst a;rfl)
section
variable {H:Type}{enc:TypeId×Value->H}{w:World}{base:Nat}{spare:Nat->Bool}{held:Bool}
theorem NW {n:Nat}{cs:List Value}{y:DataW H×List MemPlace}(h:DataW.trod enc Tryz.prog w base spare held n 194 cs=some y):∃z:EZ,cs=[.int .u16 z.1]:=by
 obtain ⟨z,h,_,hw⟩:=DataW.trod_int Tryz.underlying194 h;exact ⟨⟨z,NU hw⟩,h⟩
theorem NX {r:Reach}{f:Nat}{b:List TypeId}{e:List (DataW H)}(g:(DataW.weightsEach Tryz.prog b e).all (· <=reachBytes)=true){j:Nat}(k:b[j]?=some 55){d:DataW H}(m:e[j]?=some d){v:Value}{p:List MemPlace}
  (n:Value.okWide Tryz.prog w r f 55 v) (h:DataW.Trod enc Tryz.prog w base spare held 55 v d p):
  ∃u:List Int,aH oT (fun a=>w.cell? a) v u/\∀x∈u,0<=x/\x<=65535:=by
 obtain ⟨a,len,cap,rfl⟩:=okWide_slice Tryz.underlying55 n
 obtain ⟨fuel,o⟩:=h
 obtain ⟨s,l,hs,L⟩:=sL (r:=NV) Tryz.underlying55 aj (fun _ _ _ h=>NW h) o fun es sp he=>NT g k Tryz.underlying55 (of_decide_eq_true aj) (sp:=sp) (m.trans (congrArg some he))
 obtain rfl:Value.slice a len cap=s:=by simpa [Value.cells] using hs
 refine ⟨l.map (·.1),?_,fun x q=>?_⟩
 .obtain ⟨ad,c,t,z,A,B⟩:=L
  refine ⟨ad,c,by rw[List.length_map];exact t,by rw[List.length_map];exact z,by rw[List.length_map];exact A,fun i x hi=>?_⟩
  rw[List.getElem?_map] at hi
  obtain ⟨y,C,rfl⟩:=Option.map_eq_some_iff.1 hi
  exact B i y C
 .obtain ⟨y,_,rfl⟩:=List.mem_map.1 q
  exact y.2
end
theorem NY (os:Os)(H:Type)(enc:TypeId×Value->H):∃(w:World) (tape:Tape) (i:Input),w.os=os/\(w.forCall tape i).Shaped Tryz.checked.prog/\i.vars=[]/\Input.okWide Tryz.checked.prog (w.forCall tape i) .any w.heap.size 5 i/\
   ((Rows.terrainRealSpec.pre enc Tryz.checked.prog Tryz.f5 [] false (w.forCall tape i).memory i.args/\laidMetH Tryz.prog [("velarium/terrain.checks",Rows.laid_velarium_terrain_checks)] (w.forCall tape i).memory)/\sizedMet enc Tryz.checked.prog Tryz.f5 (OpenSpec.ofChange Rows.terrainRealSpec) false (w.forCall tape i).memory i.args)/\Rows.terrainRealRow.assume.holds Tryz.checked.prog (lone (Frame.enter Tryz.checked.prog 5 i.args .normal) [] (w.forCall tape i)):=by
 refine ⟨(((((World.holding Tryz.prog os ⟨#[],#[],[]⟩).setCell ⟨0,0,none⟩ (.func (.func 231) #[] #[])).setCell ⟨0,1,none⟩ (.func (.func 232) #[] #[])).setCell ⟨0,2,none⟩ (.func (.func 233) #[] #[])).setCell ⟨0,3,none⟩ (.func (.func 234) #[] #[])).setCell ⟨0,4,none⟩ (.func (.func 235) #[] #[]),
  fun _ _=>0,⟨#[],#[.agg #[.int .i64 0,.int .i64 0,.int .i64 0,.int .i64 0,.slice none 0 0,.slice none 0 0,.slice none 0 0,.slice none 0 0],.slice none 0 0,.int .u8 0],[]⟩,rfl,World.shaped_of_ZipB aj aj,rfl,(Input.okWide_of_okWideB aj).2,
  ⟨⟨ChangeSpec.pre_of_preB (fuel:=8) aj,laidMetH_of_parts3 (fuel:=8) ?_ rfl aj⟩,sizedMet_of_sizedB (fuel:=8) aj⟩,?_⟩
 .exact ⟨[],rfl,List.nodup_nil,fun _ _ h=>by cases h⟩
 .simp only[Assume.holds]
  exact ⟨by simp[Rows.terrainRealRow,OpenClaim.assume],fun _ _ _ _=>rfl,by simp[Rows.terrainRealRow,OpenClaim.assume],by simp[Rows.terrainRealRow,OpenClaim.assume],by simp[Rows.terrainRealRow,OpenClaim.assume]⟩
theorem NZ (os:Os)(started:os.Started)(H:Type)(enc:TypeId×Value->H)(F:Stop.Interp):
  ReturnsInLeavingWide Rows.terrainRealRow.assume Tryz.checked os 5 .any (fun w args=>(Rows.terrainRealSpec.pre enc Tryz.checked.prog Tryz.f5 [] false w args/\laidMetH Tryz.prog [("velarium/terrain.checks",Rows.laid_velarium_terrain_checks)] w)/\sizedMet enc Tryz.checked.prog Tryz.f5 (OpenSpec.ofChange Rows.terrainRealSpec) false w args)
   ((OpenSpec.ofChange Rows.terrainRealSpec).postWith enc Tryz.checked.prog Tryz.f5 F (outsideKept [.timePasses]) false true false):=by
 refine NG (C:=Tryz.checked) (X:=laidMetH Tryz.prog [("velarium/terrain.checks",Rows.laid_velarium_terrain_checks)]) (fun w w' u h=>h.of_heap u.symm) own started Tryz.func5 (NY os H enc) ?_
 intro W base args y gs before z hW _ i A
 have c:∀(j:Nat) t v,Tryz.f5.params[j]?=some t->args[j]?=some v->Value.okWide Tryz.prog W .any base t v:=z
 have l:=hW
 obtain ⟨p,q,B,D,rfl,_,_⟩:=hW
 have e:DataW.TrodAll enc Tryz.prog W 0 (fun _=>true) true Tryz.f5.params.toList args.toList y p:=B
 have f:=DataW.TrodAll.lt e
 rw[Tryz.params5] at e c
 obtain ⟨v0,v1,v2,d0,d1,d2,p0,Q,p2,rfl,rfl,rfl,m,n,o⟩:=trodAll_three e
 obtain ⟨rfl,rfl⟩:=trodVars_none D
 obtain ⟨u0,s1,s2,R,S,E,G,I,J,K⟩:=NP (j:=0) i rfl rfl (c 0 29 v0 rfl rfl) m
 obtain ⟨r,L,w1⟩:=NX (j:=1) i rfl rfl (c 1 55 v1 rfl rfl) n
 obtain ⟨s,M,_,_,w2⟩:=open_int Tryz.underlying5 (c 2 5 v2 rfl rfl) o
 have N:nh Tryz.prog 5 #[v0,v1,v2] ⟨fun a=>W.cell? a,[]⟩ (fun v _=>v= .bool true):=by
  rw[E,M]
  exact M0 (NR A) u0 ⟨G,I,J,K⟩ r L s rfl (NC u0 r w1 s (NQ w2))
 refine N.ends (ND W) fun v F' w' O hu=>?_
 subst O
 simp only[List.append_nil] at l
 have d:Below W.heap.size W {w' with os:=W.os}:=⟨rfl,hu.tape,hu.output,hu.size,fun k P=>hu.frame k P (by simp[keys])⟩
 have g:laidOutB Tryz.prog=true:=aj
 refine ⟨⟨_,_,_,[],_,[],l,trodAll_mk1 (shut_bool Tryz.underlying4 _),trodAll_mk3 (Below.trod g aj (of_decide_eq_true aj) m d ?_) (Below.trod g aj (of_decide_eq_true aj) n d ?_) (Below.trod g aj (of_decide_eq_true aj) o d ?_),rfl,d.frame _,fun h=>by cases h⟩,hu.os⟩
 .exact fun x b=>f x (by simp[b])
 .exact fun x b=>f x (by simp[b])
 .exact fun x b=>f x (by simp[b])
theorem N0:Rows.TerrainRealSaid:=
 OpenClaim.holds_of_wide_leaving_time 5 Tryz.f5 rfl rfl rfl rfl rfl rfl rfl ⟨rfl,rfl,rfl,rfl,rfl⟩ rfl rfl rfl rfl rfl aj Tryz.func5 aj
  (of_decide_eq_true aj) (by unfold Func.isWrapper;first|(rw[if_pos (by decide+kernel)];kernel_rfl)|(rw[if_neg (by decide+kernel)];exact ⟨rfl,rfl⟩))
  (fun os started H enc _ F=>NZ os started H enc F)
theorem TerrainReal_holds:Rows.TerrainRealCardSaid:=
 NS [.funcs] true (true, "b4ecb61a1673b43049b06061494abfd8480764b6860f6ae19a562d7400491a4b") false N0 aj terrainReal_row_tie rfl ⟨rfl,rfl⟩ aj rfl
  (fun f fn a b=>by
   obtain rfl:f=5:=Option.some.inj ((show Tryz.prog.funcNamed "velarium/velariumlaw04.TerrainReal"=some 5 by kernel_rfl).symm.trans a)|>.symm
   obtain rfl:fn=Tryz.f5:=(Option.some.inj (Tryz.func5.symm.trans b)).symm
   exact ⟨aj,fun j t ht=>by
    rw[Tryz.params5] at ht
    have hm:t∈[29,55,5]:=by simpa using Array.mem_of_getElem? ht
    have c:([29,55,5].all fun u=>!Tryz.prog.wantsStandIn u)=true:=aj
    exact (show Tryz.prog.wantsStandIn t=false by simpa using List.all_eq_true.1 c t hm)⟩)
  aj
end Go.Proofs.YtbpddfapodiemaaGreatDoor
end

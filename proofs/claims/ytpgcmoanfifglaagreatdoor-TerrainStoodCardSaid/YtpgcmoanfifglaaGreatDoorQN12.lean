/- For every input that can be read, on every calm tape: the call of velariumlaw04.TerrainStood returns true; its arguments read as they did; the listed variable terrain.checks is tied to the text of the program. -/
import Derived.Test.YtpgcmoanfifglaaGreatDoorQN11
import Derived.Test.YtpgcmoanfifglaaGreatDoorTie
import Derived.Test.YtpgcmoanfifglaaGreatDoorCards
import Derived.SevenTiedAt
set_option linter.all false
section
namespace Go.Proofs.YtpgcmoanfifglaaGreatDoor
open Go Go.Sep Go.Proofs Go.ChangeShapes Go.WideShapes Go.ChangeAt Go.RowKit Go.Conc Go.ConcM
set_option maxRecDepth 100000
set_option maxHeartbeats 4000000
section
variable {H : Type} {enc : TypeId × Value → H} {w : World} {base : Nat} {spare : Nat → Bool} {held : Bool}
theorem iF:Tryz.prog.cellsOf 3=1:=by kernel_rfl
theorem LQ:Tryz.prog.cellsOf 4=1:=by kernel_rfl
theorem iG {n:Nat}{cs:List Value}{y:DataW H×List MemPlace}(h:DataW.trod enc Tryz.prog w base spare held n 3 cs=some y):∃z:Int,cs=[.int .i64 z]:=by
 obtain ⟨z,h,_⟩:=DataW.trod_int Tryz.underlying3 h;exact ⟨z,h⟩
theorem LR {n:Nat}{cs:List Value}{y:DataW H×List MemPlace}(h:DataW.trod enc Tryz.prog w base spare held n 4 cs=some y):∃z:Bool,cs=[.bool z]:=by
 obtain ⟨z,h,_⟩:=DataW.trod_bool Tryz.underlying4 h;exact ⟨z,h⟩
theorem LS {n:Nat}{cs:List Value}{y:DataW H×List MemPlace}(h:DataW.trod enc Tryz.prog w base spare held n 23 cs=some y):∃z:an,cs=z.cells:=by
 obtain ⟨a,ys,m,_,b⟩:=mU Tryz.underlying23 h;replace a:cs.length=2:=a.trans (by kernel_rfl)
 match cs,a with
 |[g,c1],_=>
 obtain ⟨_,_,c⟩:=b 0 _ 3 0 _ rfl rfl rfl iF;obtain ⟨_,_,d⟩:=b 1 _ 3 1 _ rfl rfl rfl iF;obtain ⟨e,e0⟩:=iG c;obtain ⟨f,e1⟩:=iG d;simp only[List.drop,List.take,List.cons.injEq,and_true,Nat.reduceAdd] at e0 e1;exact ⟨⟨e,f⟩,by rw[e0,e1];rfl⟩
theorem LU {n:Nat}{cs:List Value}{y:DataW H×List MemPlace}(h:DataW.trod enc Tryz.prog w base spare held n 85 cs=some y):∃z:bY,cs=z.cells:=by
 obtain ⟨a,ys,m,_,b⟩:=mU Tryz.underlying85 h;replace a:cs.length=2:=a.trans (by kernel_rfl)
 match cs,a with
 |[g,c1],_=>
 obtain ⟨_,_,c⟩:=b 0 _ 3 0 _ rfl rfl rfl iF;obtain ⟨_,_,d⟩:=b 1 _ 3 1 _ rfl rfl rfl iF;obtain ⟨e,e0⟩:=iG c;obtain ⟨f,e1⟩:=iG d;simp only[List.drop,List.take,List.cons.injEq,and_true,Nat.reduceAdd] at e0 e1;exact ⟨⟨e,f⟩,by rw[e0,e1];rfl⟩
theorem LV {n:Nat}{cs:List Value}{y:DataW H×List MemPlace}(h:DataW.trod enc Tryz.prog w base spare held n 96 cs=some y):∃z:bN,cs=z.cells:=by
 obtain ⟨a,ys,m,_,b⟩:=mU Tryz.underlying96 h;replace a:cs.length=2:=a.trans (by kernel_rfl)
 match cs,a with
 |[g,c1],_=>
 obtain ⟨_,_,c⟩:=b 0 _ 3 0 _ rfl rfl rfl iF;obtain ⟨_,_,d⟩:=b 1 _ 3 1 _ rfl rfl rfl iF;obtain ⟨e,e0⟩:=iG c;obtain ⟨f,e1⟩:=iG d;simp only[List.drop,List.take,List.cons.injEq,and_true,Nat.reduceAdd] at e0 e1;exact ⟨⟨e,f⟩,by rw[e0,e1];rfl⟩
theorem LW {n:Nat}{cs:List Value}{y:DataW H×List MemPlace}(h:DataW.trod enc Tryz.prog w base spare held n 76 cs=some y):∃z:bU,cs=z.cells:=by
 obtain ⟨a,ys,m,_,b⟩:=mU Tryz.underlying76 h;replace a:cs.length=2:=a.trans (by kernel_rfl)
 match cs,a with
 |[g,c1],_=>
 obtain ⟨_,_,c⟩:=b 0 _ 3 0 _ rfl rfl rfl iF;obtain ⟨_,_,d⟩:=b 1 _ 4 1 _ rfl rfl rfl LQ;obtain ⟨e,e0⟩:=iG c;obtain ⟨f,e1⟩:=LR d;simp only[List.drop,List.take,List.cons.injEq,and_true,Nat.reduceAdd] at e0 e1;exact ⟨⟨e,f⟩,by rw[e0,e1];rfl⟩
theorem LX {n:Nat}{cs:List Value}{y:DataW H×List MemPlace}(h:DataW.trod enc Tryz.prog w base spare held n 39 cs=some y):∃z:c6,cs=z.cells:=by
 obtain ⟨a,ys,m,_,b⟩:=mU Tryz.underlying39 h;replace a:cs.length=2:=a.trans (by kernel_rfl)
 match cs,a with
 |[g,c1],_=>
 obtain ⟨_,_,c⟩:=b 0 _ 3 0 _ rfl rfl rfl iF;obtain ⟨_,_,d⟩:=b 1 _ 3 1 _ rfl rfl rfl iF;obtain ⟨e,e0⟩:=iG c;obtain ⟨f,e1⟩:=iG d;simp only[List.drop,List.take,List.cons.injEq,and_true,Nat.reduceAdd] at e0 e1;exact ⟨⟨e,f⟩,by rw[e0,e1];rfl⟩
theorem LY {n:Nat}{cs:List Value}{y:DataW H×List MemPlace}(h:DataW.trod enc Tryz.prog w base spare held n 41 cs=some y):∃z:b6,cs=z.cells:=by
 obtain ⟨a,ys,m,_,b⟩:=mU Tryz.underlying41 h;have c:Tryz.prog.cellsOf 39=2:=by kernel_rfl
 replace a:cs.length=3:=a.trans (by kernel_rfl)
 match cs,a with
 |[i,c1,c2],_=>
 obtain ⟨_,_,d⟩:=b 0 _ 3 0 _ rfl rfl rfl iF;obtain ⟨_,_,e⟩:=b 1 _ 39 1 _ rfl rfl rfl c;obtain ⟨f,e0⟩:=iG d;obtain ⟨g,e1⟩:=LX e;simp only[List.drop,List.take,List.cons.injEq,and_true,c6.cells] at e0 e1;exact ⟨⟨f,g⟩,by rw[e0,e1.1,e1.2];rfl⟩
theorem LZ {r:Reach}{z:Nat}{o:List TypeId}{q:List (DataW H)}(c:(DataW.weightsEach Tryz.prog o q).all (· <=reachBytes)=true){j:Nat}(e:o[j]?=some 29){d:DataW H}(f:q[j]?=some d){v:Value}{p:List MemPlace}
  (A:Value.okWide Tryz.prog w r z 29 v) (h:DataW.Trod enc Tryz.prog w base spare held 29 v d p):
  ∃(u:ak) (s1 s2 g k:Value),v= .agg #[.int .i64 u.bG,.int .i64 u.bO,.int .i64 u.aY.num,.int .i64 u.aY.den,s1,s2,g,k]/\aC eZ (fun a=>w.cell? a) s1 u.av/\aC ez (fun a=>w.cell? a) s2 u.props/\aC eT (fun a=>w.cell? a) g u.aG/\aC c9 (fun a=>w.cell? a) k u.told:=by
 obtain ⟨cs,rfl,n⟩:=okWide_struct Tryz.underlying29 A
 replace n:cs.size=8:=n.trans (by kernel_rfl)
 obtain ⟨l⟩:=cs
 match l,n with
 |[a0,c1,c2,c3,c4,a2,a3,a4],_=>
 obtain ⟨fuel,B⟩:=h
 have C:Tryz.prog.cellsOf 23=2:=by kernel_rfl
 have D:Tryz.prog.cellsOf 24=1:=by kernel_rfl
 have E:Tryz.prog.cellsOf 25=1:=by kernel_rfl
 have F:Tryz.prog.cellsOf 26=1:=by kernel_rfl
 have G:Tryz.prog.cellsOf 27=1:=by kernel_rfl
 obtain ⟨_,ys,m,hd,b⟩:=mU Tryz.underlying29 B
 replace hd:d= .agg (ys.map (·.1)):=hd
 subst hd
 obtain ⟨_,_,I⟩:=b 0 _ 3 0 _ rfl rfl rfl iF
 obtain ⟨_,_,J⟩:=b 1 _ 3 1 _ rfl rfl rfl iF
 obtain ⟨_,_,K⟩:=b 2 _ 23 2 _ rfl rfl rfl C
 obtain ⟨a5,L,M⟩:=b 3 _ 24 4 _ rfl rfl rfl D
 obtain ⟨a6,N,O⟩:=b 4 _ 25 5 _ rfl rfl rfl E
 obtain ⟨a7,P,Q⟩:=b 5 _ 26 6 _ rfl rfl rfl F
 obtain ⟨a8,R,S⟩:=b 6 _ 27 7 _ rfl rfl rfl G
 obtain ⟨T,e0⟩:=iG I
 obtain ⟨U,e1⟩:=iG J
 obtain ⟨V,e2⟩:=LS K
 obtain ⟨g,W,s,X⟩:=uw (r:=eZ) Tryz.underlying24 (by kernel_rfl) (fun _ _ _ h=>LU h) M fun es sp he=>uy c e f Tryz.underlying29 (i:=3) rfl rfl Tryz.underlying24 (of_decide_eq_true (by kernel_rfl)) (sp:=sp) (by rw[List.getElem?_map,L];exact congrArg some he)
 obtain ⟨k,Y,t,Z⟩:=uw (r:=ez) Tryz.underlying25 (by kernel_rfl) (fun _ _ _ h=>LV h) O fun es sp he=>uy c e f Tryz.underlying29 (i:=4) rfl rfl Tryz.underlying25 (of_decide_eq_true (by kernel_rfl)) (sp:=sp) (by rw[List.getElem?_map,N];exact congrArg some he)
 obtain ⟨ab,ad,x,ae⟩:=uw (r:=eT) Tryz.underlying26 (by kernel_rfl) (fun _ _ _ h=>LY h) Q fun es sp he=>uy c e f Tryz.underlying29 (i:=5) rfl rfl Tryz.underlying26 (of_decide_eq_true (by kernel_rfl)) (sp:=sp) (by rw[List.getElem?_map,P];exact congrArg some he)
 obtain ⟨al,ao,y,ar⟩:=uw (r:=c9) Tryz.underlying27 (by kernel_rfl) (fun _ _ _ h=>LW h) S fun es sp he=>uy c e f Tryz.underlying29 (i:=6) rfl rfl Tryz.underlying27 (of_decide_eq_true (by kernel_rfl)) (sp:=sp) (by rw[List.getElem?_map,R];exact congrArg some he)
 simp only[Value.cells,List.drop,List.take,List.cons.injEq,and_true,an.cells] at e0 e1 e2 s t x y
 refine ⟨⟨T,U,V,W,Y,ad,ao⟩,g,k,ab,al,?_,X,Z,ae,ar⟩
 rw[e0,e1,e2.1,e2.2,s,t,x,y]
end
theorem yW {n:Int}(h:(Lit.int .u8 n).wf=true):0<=n/\n<=255:=by
 unfold Lit.wf at h;rw[Bool.and_eq_true,decide_eq_true_eq,decide_eq_true_eq] at h;exact h
theorem L0 {w:World}(h:laidMetH Tryz.prog [("velarium/terrain.checks",Rows.laid_velarium_terrain_checks)] w):c7 (fun a=>w.cell? a):=by
 obtain ⟨g,t,cs,fuel,p,j,v,x,y⟩:=laidMetH.funcs h (n:= "velarium/terrain.checks") (List.mem_singleton.2 rfl);obtain rfl:=Option.some.inj ((show Tryz.prog.globalNamed "velarium/terrain.checks"=some 0 by kernel_rfl).symm.trans j);obtain rfl:=Option.some.inj ((show (Tryz.prog.globals[0]?).map (·.type)=some 174 by kernel_rfl).symm.trans v);obtain ⟨xs,m,_,ex,_,E,z⟩:=DataW.trod_array Tryz.underlying174 y;have c1:Tryz.prog.cellsOf 127=1:=by kernel_rfl
 have d:=DataW.agg.inj (Prod.mk.inj ex).1;have key:∀(i f:Nat) (b:UInt8) (r:List UInt8),i<5->(xs.map (·.1))[i]?=some (.held (b::r))->(∃fn,Tryz.prog.funcs[f]?=some fn/\fn.name.toUTF8.data.toList=b::r/\Tryz.prog.funcNamed fn.name=some f)->w.cell? ⟨0,i,none⟩=some (.func (.func f) #[] #[]):=by
  intro i f b r hi c ⟨k,F,A,B⟩;have l:=z i hi;rw[c1,Nat.mul_one,List.getElem?_eq_getElem (by omega)] at l;rw[List.getElem?_map,List.getElem?_eq_getElem (by omega)] at c;simp only[Option.map_some,Option.some.injEq] at c;rw[World.var?_cell j x i];rcases LO Tryz.underlying127 l with e|⟨f1,a1,c1,o,e⟩
  ·rw[e] at c;cases c
  rw[e] at c;obtain ⟨f2,q,e1,e2,s,u⟩:=funcToken_tells (DataW.held.inj c);have C:q.name=k.name:=by
   rw[<-A] at u;have D:q.name.toUTF8=k.name.toUTF8:=ByteArray.ext (Array.toList_inj.1 u);exact String.toByteArray_inj.1 D
  rw[C,B] at s;obtain rfl:=Option.some.inj s;rw[e1] at o;have:((cs.toList.drop i).take 1)[0]?=some (.func (.func f) #[] #[]):=by rw[o];rfl
  simpa using this
 refine ⟨key 0 _ _ _ (by decide) (by rw[<-d];rfl) ⟨_,Tryz.func229,by kernel_rfl,by kernel_rfl⟩,key 1 _ _ _ (by decide) (by rw[<-d];rfl) ⟨_,Tryz.func230,by kernel_rfl,by kernel_rfl⟩,key 2 _ _ _ (by decide) (by rw[<-d];rfl) ⟨_,Tryz.func231,by kernel_rfl,by kernel_rfl⟩,key 3 _ _ _ (by decide) (by rw[<-d];rfl) ⟨_,Tryz.func232,by kernel_rfl,by kernel_rfl⟩,key 4 _ _ _ (by decide) (by rw[<-d];rfl) ⟨_,Tryz.func233,by kernel_rfl,by kernel_rfl⟩⟩
theorem own:ownKnob Tryz.prog.godebug=none:=by kernel_rfl
theorem L1 {p:Pinned}{s:OpenSpec}{c:OpenClaim}(kinds:List LaidKind)(b:Bool)(a:Bool×String)(lk:Bool)
  (d:c.holds p s) (hw:c.wfByText s=true) (e:c.laidByTextAt .later p kinds b)
  (g:c.start= .entering) (i:c.noBlocks=false/\c.again=false) (hm:p.checked.prog.mainIs=some (a.1,a.2.toList)) (k:(!a.1&&a.2.isEmpty&&!lk)=false)
  (l:∀f fn,p.checked.prog.funcNamed c.func=some f->p.checked.prog.funcs[f]?=some fn->lk=p.checked.prog.looks []/\∀(j:Nat) t,fn.params[j]?=some t->p.checked.prog.wantsStandIn t=false)
  (hg:true=c.goesBy p.checked.prog):
  Claim7.holds p (.plain s) {stood:={row:=c,standIns:=[],harness:=a,looks:=lk},kinds:=[],alts:=[],goes:=true,laidByText:=true,laidKinds:=kinds,laidTests:=b,laidLooks:=.later}:=by
 have m:∀r:OpenClaim,Claim7.isSixth {stood:={row:=r,standIns:=[],harness:=a,looks:=lk},kinds:=[]}=false:=fun r=>by simpa [Claim7.isSixth] using k
 exact ⟨Claim7.tied_new_at .later kinds b (Claim7.new_of_sixth d a lk g i hm (m c) l) hw,fun D n=>(by cases n),e,(fun h=>by cases h),hg⟩
theorem L2 (os:Os)(H:Type)(enc:TypeId×Value->H):∃(w:World) (tape:Tape) (i:Input),w.os=os/\(w.forCall tape i).Shaped Tryz.checked.prog/\i.vars=[]/\Input.okWide Tryz.checked.prog (w.forCall tape i) .any w.heap.size 8 i/\
   ((Rows.terrainStoodSpec.pre enc Tryz.checked.prog Tryz.f8 [] false (w.forCall tape i).memory i.args/\laidMetH Tryz.prog [("velarium/terrain.checks",Rows.laid_velarium_terrain_checks)] (w.forCall tape i).memory)/\sizedMet enc Tryz.checked.prog Tryz.f8 (OpenSpec.ofChange Rows.terrainStoodSpec) false (w.forCall tape i).memory i.args)/\Rows.terrainStoodRow.assume.holds Tryz.checked.prog (lone (Frame.enter Tryz.checked.prog 8 i.args .normal) [] (w.forCall tape i)):=by
 refine ⟨(((((World.holding Tryz.prog os ⟨#[],#[],[]⟩).setCell ⟨0,0,none⟩ (.func (.func 229) #[] #[])).setCell ⟨0,1,none⟩ (.func (.func 230) #[] #[])).setCell ⟨0,2,none⟩ (.func (.func 231) #[] #[])).setCell ⟨0,3,none⟩ (.func (.func 232) #[] #[])).setCell ⟨0,4,none⟩ (.func (.func 233) #[] #[]),
  fun _ _=>0,⟨#[],#[.agg #[.int .i64 0,.int .i64 0,.int .i64 0,.int .i64 0,.slice none 0 0,.slice none 0 0,.slice none 0 0,.slice none 0 0],.int .u8 0,.int .u8 0,.int .u8 0],[]⟩,rfl,World.shaped_of_ZipB (by kernel_rfl) (by kernel_rfl),rfl,(Input.okWide_of_okWideB (by kernel_rfl)).2,
  ⟨⟨ChangeSpec.pre_of_preB (fuel:=8) (by kernel_rfl),laidMetH_of_parts3 (fuel:=8) ?_ rfl (by kernel_rfl)⟩,sizedMet_of_sizedB (fuel:=8) (by kernel_rfl)⟩,?_⟩
 ·exact ⟨[],rfl,List.nodup_nil,fun _ _ h=>by cases h⟩
 ·simp only[Assume.holds]
  exact ⟨by simp[Rows.terrainStoodRow,OpenClaim.assume],fun _ _ _ _=>rfl,by simp[Rows.terrainStoodRow,OpenClaim.assume],by simp[Rows.terrainStoodRow,OpenClaim.assume],by simp[Rows.terrainStoodRow,OpenClaim.assume]⟩
theorem L3 (os:Os)(started:os.Started)(H:Type)(enc:TypeId×Value->H)(F:Stop.Interp):
  ReturnsInLeavingWide Rows.terrainStoodRow.assume Tryz.checked os 8 .any (fun w args=>(Rows.terrainStoodSpec.pre enc Tryz.checked.prog Tryz.f8 [] false w args/\laidMetH Tryz.prog [("velarium/terrain.checks",Rows.laid_velarium_terrain_checks)] w)/\sizedMet enc Tryz.checked.prog Tryz.f8 (OpenSpec.ofChange Rows.terrainStoodSpec) false w args)
   ((OpenSpec.ofChange Rows.terrainStoodSpec).postWith enc Tryz.checked.prog Tryz.f8 F (outsideKept [.timePasses]) false true false):=by
 refine LP (C:=Tryz.checked) (X:=laidMetH Tryz.prog [("velarium/terrain.checks",Rows.laid_velarium_terrain_checks)]) (fun w w' hh h=>h.of_heap hh.symm) own started Tryz.func8 (L2 os H enc) ?_
 intro W base args z gs before A hW _ B D
 have c:∀(j:Nat) t v,Tryz.f8.params[j]?=some t->args[j]?=some v->Value.okWide Tryz.prog W .any base t v:=A
 have i:=hW
 obtain ⟨p,q,E,G,rfl,_,_⟩:=hW
 have g:DataW.TrodAll enc Tryz.prog W 0 (fun _=>true) true Tryz.f8.params.toList args.toList z p:=E
 have e:=DataW.TrodAll.lt g
 rw[Tryz.params8] at g c
 obtain ⟨v0,v1,v2,l,d0,d1,d2,d3,p0,T,p2,p3,rfl,rfl,rfl,m,n,o,r⟩:=trodAll_four g
 obtain ⟨rfl,rfl⟩:=trodVars_none G
 obtain ⟨u0,s1,s2,U,V,I,J,K,L,M⟩:=LZ (j:=0) B rfl rfl (c 0 29 v0 rfl rfl) m
 obtain ⟨s,N,_,_,w1⟩:=open_int Tryz.underlying5 (c 1 5 v1 rfl rfl) n
 obtain ⟨u,O,_,_,w2⟩:=open_int Tryz.underlying5 (c 2 5 v2 rfl rfl) o
 obtain ⟨y,P,_,_,w3⟩:=open_int Tryz.underlying5 (c 3 5 l rfl rfl) r
 have Q:lY Tryz.prog 8 #[v0,v1,v2,l] ⟨fun a=>W.cell? a,[]⟩ (fun v _=>v= .bool true):=by
  rw[I,N,O,P]
  exact K9 (L0 D) u0 ⟨J,K,L,M⟩ s u y rfl (LM u0 s (yW w1) u (yW w2) y (yW w3))
 refine Q.ends (LN W) fun v F' w' R hu=>?_
 subst R
 simp only[List.append_nil] at i
 have d:Below W.heap.size W {w' with os:=W.os}:=⟨rfl,hu.tape,hu.output,hu.size,fun k S=>hu.frame k S (by simp[keys])⟩
 have f:laidOutB Tryz.prog=true:=by kernel_rfl
 refine ⟨⟨_,_,_,[],_,[],i,trodAll_mk1 (shut_bool Tryz.underlying4 _),trodAll_mk4 (Below.trod f (by kernel_rfl) (of_decide_eq_true (by kernel_rfl)) m d ?_) (Below.trod f (by kernel_rfl) (of_decide_eq_true (by kernel_rfl)) n d ?_) (Below.trod f (by kernel_rfl) (of_decide_eq_true (by kernel_rfl)) o d ?_) (Below.trod f (by kernel_rfl) (of_decide_eq_true (by kernel_rfl)) r d ?_),rfl,d.frame _,fun h=>by cases h⟩,hu.os⟩
 ·exact fun x b=>e x (by simp[b])
 ·exact fun x b=>e x (by simp[b])
 ·exact fun x b=>e x (by simp[b])
 ·exact fun x b=>e x (by simp[b])
theorem L4:Rows.TerrainStoodSaid:=
 OpenClaim.holds_of_wide_leaving_time 8 Tryz.f8 rfl rfl rfl rfl rfl rfl rfl ⟨rfl,rfl,rfl,rfl,rfl⟩ rfl rfl rfl rfl rfl (by kernel_rfl) Tryz.func8 (by kernel_rfl)
  (of_decide_eq_true (by kernel_rfl)) (by unfold Func.isWrapper;first|(rw[if_pos (by decide+kernel)];kernel_rfl)|(rw[if_neg (by decide+kernel)];exact ⟨rfl,rfl⟩))
  (fun os started H enc _ F=>L3 os started H enc F)
theorem TerrainStood_holds:Rows.TerrainStoodCardSaid:=
 L1 [.funcs] true (true, "f862b117fde5345128c9dad0b5277439a4d82570b182fbf97f4f501680ae2e28") false L4 (by kernel_rfl) terrainStood_row_tie rfl ⟨rfl,rfl⟩ (by kernel_rfl) rfl
  (fun f fn a b=>by
   obtain rfl:f=8:=Option.some.inj ((show Tryz.prog.funcNamed "velarium/velariumlaw04.TerrainStood"=some 8 by kernel_rfl).symm.trans a)|>.symm
   obtain rfl:fn=Tryz.f8:=(Option.some.inj (Tryz.func8.symm.trans b)).symm
   exact ⟨by kernel_rfl,fun j t ht=>by
    rw[Tryz.params8] at ht
    have hm:t∈[29,5,5,5]:=by simpa using Array.mem_of_getElem? ht
    have c:([29,5,5,5].all fun u=>!Tryz.prog.wantsStandIn u)=true:=by kernel_rfl
    exact (show Tryz.prog.wantsStandIn t=false by simpa using List.all_eq_true.1 c t hm)⟩)
  (by kernel_rfl)
end Go.Proofs.YtpgcmoanfifglaaGreatDoor
end

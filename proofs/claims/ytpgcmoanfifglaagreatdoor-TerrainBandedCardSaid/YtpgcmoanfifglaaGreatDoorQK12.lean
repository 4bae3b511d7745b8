/- For every input that can be read, on every calm tape: the call of velariumlaw04.TerrainBanded returns true; its arguments read as they did; the listed variable terrain.checks is tied to the text of the program. -/
import Derived.Test.YtpgcmoanfifglaaGreatDoorQK11
import Derived.Test.YtpgcmoanfifglaaGreatDoorTie
import Derived.Test.YtpgcmoanfifglaaGreatDoorCards
import Derived.SevenTiedAt
set_option linter.all false
section
namespace Go.Proofs.YtpgcmoanfifglaaGreatDoor
open Go Go.Sep Go.Proofs Go.ChangeShapes Go.WideShapes Go.ChangeAt Go.RowKit Go.Conc Go.ConcM
set_option maxRecDepth 100000
set_option maxHeartbeats 4000000
section
variable {H : Type} {enc : TypeId × Value → H} {w : World} {base : Nat} {spare : Nat → Bool} {held : Bool}
theorem iM:Tryz.prog.cellsOf 3=1:=by kernel_rfl
theorem Lh:Tryz.prog.cellsOf 4=1:=by kernel_rfl
theorem iN {n:Nat}{cs:List Value}{y:DataW H×List MemPlace}(h:DataW.trod enc Tryz.prog w base spare held n 3 cs=some y):∃z:Int,cs=[.int .i64 z]:=by
 obtain ⟨z,h,_⟩:=DataW.trod_int Tryz.underlying3 h;exact ⟨z,h⟩
theorem Li {n:Nat}{cs:List Value}{y:DataW H×List MemPlace}(h:DataW.trod enc Tryz.prog w base spare held n 4 cs=some y):∃z:Bool,cs=[.bool z]:=by
 obtain ⟨z,h,_⟩:=DataW.trod_bool Tryz.underlying4 h;exact ⟨z,h⟩
theorem Lj {n:Nat}{cs:List Value}{y:DataW H×List MemPlace}(h:DataW.trod enc Tryz.prog w base spare held n 23 cs=some y):∃z:an,cs=z.cells:=by
 obtain ⟨hl,ys,m,_,hf⟩:=m3 Tryz.underlying23 h;replace hl:cs.length=2:=hl.trans (by kernel_rfl)
 match cs,hl with
 |[e,c1],_=>
 obtain ⟨_,_,a⟩:=hf 0 _ 3 0 _ rfl rfl rfl iM;obtain ⟨_,_,b⟩:=hf 1 _ 3 1 _ rfl rfl rfl iM;obtain ⟨c,e0⟩:=iN a;obtain ⟨d,e1⟩:=iN b;simp only[List.drop,List.take,List.cons.injEq,and_true,Nat.reduceAdd] at e0 e1;exact ⟨⟨c,d⟩,by rw[e0,e1];rfl⟩
theorem Ll {n:Nat}{cs:List Value}{y:DataW H×List MemPlace}(h:DataW.trod enc Tryz.prog w base spare held n 85 cs=some y):∃z:b8,cs=z.cells:=by
 obtain ⟨hl,ys,m,_,hf⟩:=m3 Tryz.underlying85 h;replace hl:cs.length=2:=hl.trans (by kernel_rfl)
 match cs,hl with
 |[e,c1],_=>
 obtain ⟨_,_,a⟩:=hf 0 _ 3 0 _ rfl rfl rfl iM;obtain ⟨_,_,b⟩:=hf 1 _ 3 1 _ rfl rfl rfl iM;obtain ⟨c,e0⟩:=iN a;obtain ⟨d,e1⟩:=iN b;simp only[List.drop,List.take,List.cons.injEq,and_true,Nat.reduceAdd] at e0 e1;exact ⟨⟨c,d⟩,by rw[e0,e1];rfl⟩
theorem Lm {n:Nat}{cs:List Value}{y:DataW H×List MemPlace}(h:DataW.trod enc Tryz.prog w base spare held n 96 cs=some y):∃z:cm,cs=z.cells:=by
 obtain ⟨hl,ys,m,_,hf⟩:=m3 Tryz.underlying96 h;replace hl:cs.length=2:=hl.trans (by kernel_rfl)
 match cs,hl with
 |[e,c1],_=>
 obtain ⟨_,_,a⟩:=hf 0 _ 3 0 _ rfl rfl rfl iM;obtain ⟨_,_,b⟩:=hf 1 _ 3 1 _ rfl rfl rfl iM;obtain ⟨c,e0⟩:=iN a;obtain ⟨d,e1⟩:=iN b;simp only[List.drop,List.take,List.cons.injEq,and_true,Nat.reduceAdd] at e0 e1;exact ⟨⟨c,d⟩,by rw[e0,e1];rfl⟩
theorem Ln {n:Nat}{cs:List Value}{y:DataW H×List MemPlace}(h:DataW.trod enc Tryz.prog w base spare held n 76 cs=some y):∃z:bU,cs=z.cells:=by
 obtain ⟨hl,ys,m,_,hf⟩:=m3 Tryz.underlying76 h;replace hl:cs.length=2:=hl.trans (by kernel_rfl)
 match cs,hl with
 |[e,c1],_=>
 obtain ⟨_,_,a⟩:=hf 0 _ 3 0 _ rfl rfl rfl iM;obtain ⟨_,_,b⟩:=hf 1 _ 4 1 _ rfl rfl rfl Lh;obtain ⟨c,e0⟩:=iN a;obtain ⟨d,e1⟩:=Li b;simp only[List.drop,List.take,List.cons.injEq,and_true,Nat.reduceAdd] at e0 e1;exact ⟨⟨c,d⟩,by rw[e0,e1];rfl⟩
theorem Lo {n:Nat}{cs:List Value}{y:DataW H×List MemPlace}(h:DataW.trod enc Tryz.prog w base spare held n 39 cs=some y):∃z:dh,cs=z.cells:=by
 obtain ⟨hl,ys,m,_,hf⟩:=m3 Tryz.underlying39 h;replace hl:cs.length=2:=hl.trans (by kernel_rfl)
 match cs,hl with
 |[e,c1],_=>
 obtain ⟨_,_,a⟩:=hf 0 _ 3 0 _ rfl rfl rfl iM;obtain ⟨_,_,b⟩:=hf 1 _ 3 1 _ rfl rfl rfl iM;obtain ⟨c,e0⟩:=iN a;obtain ⟨d,e1⟩:=iN b;simp only[List.drop,List.take,List.cons.injEq,and_true,Nat.reduceAdd] at e0 e1;exact ⟨⟨c,d⟩,by rw[e0,e1];rfl⟩
theorem Lp {n:Nat}{cs:List Value}{y:DataW H×List MemPlace}(h:DataW.trod enc Tryz.prog w base spare held n 41 cs=some y):∃z:b6,cs=z.cells:=by
 obtain ⟨hl,ys,m,_,hf⟩:=m3 Tryz.underlying41 h;have a:Tryz.prog.cellsOf 39=2:=by kernel_rfl
 replace hl:cs.length=3:=hl.trans (by kernel_rfl)
 match cs,hl with
 |[f,c1,c2],_=>
 obtain ⟨_,_,b⟩:=hf 0 _ 3 0 _ rfl rfl rfl iM;obtain ⟨_,_,c⟩:=hf 1 _ 39 1 _ rfl rfl rfl a;obtain ⟨d,e0⟩:=iN b;obtain ⟨e,e1⟩:=Lo c;simp only[List.drop,List.take,List.cons.injEq,and_true,dh.cells] at e0 e1;exact ⟨⟨d,e⟩,by rw[e0,e1.1,e1.2];rfl⟩
theorem Lq {r:Reach}{y:Nat}{n:List TypeId}{o:List (DataW H)}(b:(DataW.weightsEach Tryz.prog n o).all (· <=reachBytes)=true){j:Nat}(c:n[j]?=some 29){d:DataW H}(e:o[j]?=some d){v:Value}{p:List MemPlace}
  (z:Value.okWide Tryz.prog w r y 29 v) (h:DataW.Trod enc Tryz.prog w base spare held 29 v d p):
  ∃(u:ak) (s1 s2 f g:Value),v= .agg #[.int .i64 u.bH,.int .i64 u.bV,.int .i64 u.aF.num,.int .i64 u.aF.den,s1,s2,f,g]/\aB eY (fun a=>w.cell? a) s1 u.aD/\aB ez (fun a=>w.cell? a) s2 u.props/\aB eT (fun a=>w.cell? a) f u.aH/\aB di (fun a=>w.cell? a) g u.told:=by
 obtain ⟨cs,rfl,k⟩:=okWide_struct Tryz.underlying29 z
 replace k:cs.size=8:=k.trans (by kernel_rfl)
 obtain ⟨l⟩:=cs
 match l,k with
 |[ar,c1,c2,c3,c4,a0,a2,a3],_=>
 obtain ⟨fuel,A⟩:=h
 have B:Tryz.prog.cellsOf 23=2:=by kernel_rfl
 have C:Tryz.prog.cellsOf 24=1:=by kernel_rfl
 have D:Tryz.prog.cellsOf 25=1:=by kernel_rfl
 have E:Tryz.prog.cellsOf 26=1:=by kernel_rfl
 have F:Tryz.prog.cellsOf 27=1:=by kernel_rfl
 obtain ⟨_,ys,m,hd,hf⟩:=m3 Tryz.underlying29 A
 replace hd:d= .agg (ys.map (·.1)):=hd
 subst hd
 obtain ⟨_,_,G⟩:=hf 0 _ 3 0 _ rfl rfl rfl iM
 obtain ⟨_,_,I⟩:=hf 1 _ 3 1 _ rfl rfl rfl iM
 obtain ⟨_,_,J⟩:=hf 2 _ 23 2 _ rfl rfl rfl B
 obtain ⟨a4,K,L⟩:=hf 3 _ 24 4 _ rfl rfl rfl C
 obtain ⟨a5,M,N⟩:=hf 4 _ 25 5 _ rfl rfl rfl D
 obtain ⟨a6,O,P⟩:=hf 5 _ 26 6 _ rfl rfl rfl E
 obtain ⟨a7,Q,R⟩:=hf 6 _ 27 7 _ rfl rfl rfl F
 obtain ⟨S,e0⟩:=iN G
 obtain ⟨T,e1⟩:=iN I
 obtain ⟨U,e2⟩:=Lj J
 obtain ⟨f,V,q,W⟩:=tO (r:=eY) Tryz.underlying24 (by kernel_rfl) (fun _ _ _ h=>Ll h) L fun es sp he=>tP b c e Tryz.underlying29 (i:=3) rfl rfl Tryz.underlying24 (of_decide_eq_true (by kernel_rfl)) (sp:=sp) (by rw[List.getElem?_map,K];exact congrArg some he)
 obtain ⟨g,X,s,Y⟩:=tO (r:=ez) Tryz.underlying25 (by kernel_rfl) (fun _ _ _ h=>Lm h) N fun es sp he=>tP b c e Tryz.underlying29 (i:=4) rfl rfl Tryz.underlying25 (of_decide_eq_true (by kernel_rfl)) (sp:=sp) (by rw[List.getElem?_map,M];exact congrArg some he)
 obtain ⟨Z,ab,t,ad⟩:=tO (r:=eT) Tryz.underlying26 (by kernel_rfl) (fun _ _ _ h=>Lp h) P fun es sp he=>tP b c e Tryz.underlying29 (i:=5) rfl rfl Tryz.underlying26 (of_decide_eq_true (by kernel_rfl)) (sp:=sp) (by rw[List.getElem?_map,O];exact congrArg some he)
 obtain ⟨ae,al,x,ao⟩:=tO (r:=di) Tryz.underlying27 (by kernel_rfl) (fun _ _ _ h=>Ln h) R fun es sp he=>tP b c e Tryz.underlying29 (i:=6) rfl rfl Tryz.underlying27 (of_decide_eq_true (by kernel_rfl)) (sp:=sp) (by rw[List.getElem?_map,Q];exact congrArg some he)
 simp only[Value.cells,List.drop,List.take,List.cons.injEq,and_true,an.cells] at e0 e1 e2 q s t x
 refine ⟨⟨S,T,U,V,X,ab,al⟩,f,g,Z,ae,?_,W,Y,ad,ao⟩
 rw[e0,e1,e2.1,e2.2,q,s,t,x]
end
theorem Lr {w:World}(h:laidMetH Tryz.prog [("velarium/terrain.checks",Rows.laid_velarium_terrain_checks)] w):dc (fun a=>w.cell? a):=by
 obtain ⟨g,t,cs,fuel,p,e,u,v,x⟩:=laidMetH.funcs h (n:= "velarium/terrain.checks") (List.mem_singleton.2 rfl);obtain rfl:=Option.some.inj ((show Tryz.prog.globalNamed "velarium/terrain.checks"=some 0 by kernel_rfl).symm.trans e);obtain rfl:=Option.some.inj ((show (Tryz.prog.globals[0]?).map (·.type)=some 174 by kernel_rfl).symm.trans u);obtain ⟨xs,m,_,ex,_,hl,y⟩:=DataW.trod_array Tryz.underlying174 x;have c1:Tryz.prog.cellsOf 127=1:=by kernel_rfl
 have c:=DataW.agg.inj (Prod.mk.inj ex).1;have key:∀(i f:Nat) (b:UInt8) (r:List UInt8),i<5->(xs.map (·.1))[i]?=some (.held (b::r))->(∃fn,Tryz.prog.funcs[f]?=some fn/\fn.name.toUTF8.data.toList=b::r/\Tryz.prog.funcNamed fn.name=some f)->w.cell? ⟨0,i,none⟩=some (.func (.func f) #[] #[]):=by
  intro i f b r hi hx ⟨j,D,z,A⟩;have k:=y i hi;rw[c1,Nat.mul_one,List.getElem?_eq_getElem (by omega)] at k;rw[List.getElem?_map,List.getElem?_eq_getElem (by omega)] at hx;simp only[Option.map_some,Option.some.injEq] at hx;rw[World.var?_cell e v i];rcases Lf Tryz.underlying127 k with d|⟨f1,a1,c1,l,d⟩
  ·rw[d] at hx;cases hx
  rw[d] at hx;obtain ⟨f2,o,e1,e2,q,s⟩:=funcToken_tells (DataW.held.inj hx);have B:o.name=j.name:=by
   rw[<-z] at s;have C:o.name.toUTF8=j.name.toUTF8:=ByteArray.ext (Array.toList_inj.1 s);exact String.toByteArray_inj.1 C
  rw[B,A] at q;obtain rfl:=Option.some.inj q;rw[e1] at l;have:((cs.toList.drop i).take 1)[0]?=some (.func (.func f) #[] #[]):=by rw[l];rfl
  simpa using this
 refine ⟨key 0 _ _ _ (by decide) (by rw[<-c];rfl) ⟨_,Tryz.func229,by kernel_rfl,by kernel_rfl⟩,key 1 _ _ _ (by decide) (by rw[<-c];rfl) ⟨_,Tryz.func230,by kernel_rfl,by kernel_rfl⟩,key 2 _ _ _ (by decide) (by rw[<-c];rfl) ⟨_,Tryz.func231,by kernel_rfl,by kernel_rfl⟩,key 3 _ _ _ (by decide) (by rw[<-c];rfl) ⟨_,Tryz.func232,by kernel_rfl,by kernel_rfl⟩,key 4 _ _ _ (by decide) (by rw[<-c];rfl) ⟨_,Tryz.func233,by kernel_rfl,by kernel_rfl⟩⟩
theorem own:ownKnob Tryz.prog.godebug=none:=by kernel_rfl
theorem Ls {p:Pinned}{s:OpenSpec}{c:OpenClaim}(kinds:List LaidKind)(b:Bool)(a:Bool×String)(lk:Bool)
  (d:c.holds p s) (hw:c.wfByText s=true) (e:c.laidByTextAt .later p kinds b)
  (g:c.start= .entering) (i:c.noBlocks=false/\c.again=false) (hm:p.checked.prog.mainIs=some (a.1,a.2.toList)) (k:(!a.1&&a.2.isEmpty&&!lk)=false)
  (hl:∀f fn,p.checked.prog.funcNamed c.func=some f->p.checked.prog.funcs[f]?=some fn->lk=p.checked.prog.looks []/\∀(j:Nat) t,fn.params[j]?=some t->p.checked.prog.wantsStandIn t=false)
  (hg:true=c.goesBy p.checked.prog):
  Claim7.holds p (.plain s) {stood:={row:=c,standIns:=[],harness:=a,looks:=lk},kinds:=[],alts:=[],goes:=true,laidByText:=true,laidKinds:=kinds,laidTests:=b,laidLooks:=.later}:=by
 have l:∀r:OpenClaim,Claim7.isSixth {stood:={row:=r,standIns:=[],harness:=a,looks:=lk},kinds:=[]}=false:=fun r=>by simpa [Claim7.isSixth] using k
 exact ⟨Claim7.tied_new_at .later kinds b (Claim7.new_of_sixth d a lk g i hm (l c) hl) hw,fun D m=>(by cases m),e,(fun h=>by cases h),hg⟩
theorem Lt (os:Os)(H:Type)(enc:TypeId×Value->H):∃(w:World) (tape:Tape) (i:Input),w.os=os/\(w.forCall tape i).Shaped Tryz.checked.prog/\i.vars=[]/\Input.okWide Tryz.checked.prog (w.forCall tape i) .any w.heap.size 6 i/\
   ((Rows.terrainBandedSpec.pre enc Tryz.checked.prog Tryz.f6 [] false (w.forCall tape i).memory i.args/\laidMetH Tryz.prog [("velarium/terrain.checks",Rows.laid_velarium_terrain_checks)] (w.forCall tape i).memory)/\sizedMet enc Tryz.checked.prog Tryz.f6 (OpenSpec.ofChange Rows.terrainBandedSpec) false (w.forCall tape i).memory i.args)/\Rows.terrainBandedRow.assume.holds Tryz.checked.prog (lone (Frame.enter Tryz.checked.prog 6 i.args .normal) [] (w.forCall tape i)):=by
 refine ⟨(((((World.holding Tryz.prog os ⟨#[],#[],[]⟩).setCell ⟨0,0,none⟩ (.func (.func 229) #[] #[])).setCell ⟨0,1,none⟩ (.func (.func 230) #[] #[])).setCell ⟨0,2,none⟩ (.func (.func 231) #[] #[])).setCell ⟨0,3,none⟩ (.func (.func 232) #[] #[])).setCell ⟨0,4,none⟩ (.func (.func 233) #[] #[]),
  fun _ _=>0,⟨#[],#[.agg #[.int .i64 0,.int .i64 0,.int .i64 0,.int .i64 0,.slice none 0 0,.slice none 0 0,.slice none 0 0,.slice none 0 0]],[]⟩,rfl,World.shaped_of_ZipB (by kernel_rfl) (by kernel_rfl),rfl,(Input.okWide_of_okWideB (by kernel_rfl)).2,
  ⟨⟨ChangeSpec.pre_of_preB (fuel:=8) (by kernel_rfl),laidMetH_of_parts3 (fuel:=8) ?_ rfl (by kernel_rfl)⟩,sizedMet_of_sizedB (fuel:=8) (by kernel_rfl)⟩,?_⟩
 ·exact ⟨[],rfl,List.nodup_nil,fun _ _ h=>by cases h⟩
 ·simp only[Assume.holds]
  exact ⟨by simp[Rows.terrainBandedRow,OpenClaim.assume],fun _ _ _ _=>rfl,by simp[Rows.terrainBandedRow,OpenClaim.assume],by simp[Rows.terrainBandedRow,OpenClaim.assume],by simp[Rows.terrainBandedRow,OpenClaim.assume]⟩
theorem Lu (os:Os)(started:os.Started)(H:Type)(enc:TypeId×Value->H)(F:Stop.Interp):
  ReturnsInLeavingWide Rows.terrainBandedRow.assume Tryz.checked os 6 .any (fun w args=>(Rows.terrainBandedSpec.pre enc Tryz.checked.prog Tryz.f6 [] false w args/\laidMetH Tryz.prog [("velarium/terrain.checks",Rows.laid_velarium_terrain_checks)] w)/\sizedMet enc Tryz.checked.prog Tryz.f6 (OpenSpec.ofChange Rows.terrainBandedSpec) false w args)
   ((OpenSpec.ofChange Rows.terrainBandedSpec).postWith enc Tryz.checked.prog Tryz.f6 F (outsideKept [.timePasses]) false true false):=by
 refine Lg (C:=Tryz.checked) (X:=laidMetH Tryz.prog [("velarium/terrain.checks",Rows.laid_velarium_terrain_checks)]) (fun w w' f h=>h.of_heap f.symm) own started Tryz.func6 (Lt os H enc) ?_
 intro W base args g gs before i hW _ l m
 have b:∀(j:Nat) t v,Tryz.f6.params[j]?=some t->args[j]?=some v->Value.okWide Tryz.prog W .any base t v:=i
 have c:=hW
 obtain ⟨p,q,n,o,rfl,_,_⟩:=hW
 have hA:DataW.TrodAll enc Tryz.prog W 0 (fun _=>true) true Tryz.f6.params.toList args.toList g p:=n
 have r:=DataW.TrodAll.lt hA
 rw[Tryz.params6] at hA b
 obtain ⟨v0,d0,rfl,rfl,d⟩:=trodAll_one hA
 obtain ⟨rfl,rfl⟩:=trodVars_none o
 obtain ⟨u0,s1,s2,G,I,s,u,y,z,A⟩:=Lq (j:=0) l rfl rfl (b 0 29 v0 rfl rfl) d
 have B:l6 Tryz.prog 6 #[v0] ⟨fun a=>W.cell? a,[]⟩ (fun v _=>v= .bool true):=by
  rw[s]
  exact KA (Lr m) u0 ⟨u,y,z,A⟩ rfl (Lc u0)
 refine B.ends (Ld W) fun v F' w' D hu=>?_
 subst D
 simp only[List.append_nil] at c
 have e:Below W.heap.size W {w' with os:=W.os}:=⟨rfl,hu.tape,hu.output,hu.size,fun k E=>hu.frame k E (by simp[keys])⟩
 have hl:laidOutB Tryz.prog=true:=by kernel_rfl
 refine ⟨⟨_,_,_,[],_,[],c,trodAll_mk1 (shut_bool Tryz.underlying4 _),trodAll_mk1 (Below.trod hl (by kernel_rfl) (of_decide_eq_true (by kernel_rfl)) d e ?_),rfl,e.frame _,fun h=>by cases h⟩,hu.os⟩
 ·exact fun x hx=>r x (by simp[hx])
theorem Lv:Rows.TerrainBandedSaid:=
 OpenClaim.holds_of_wide_leaving_time 6 Tryz.f6 rfl rfl rfl rfl rfl rfl rfl ⟨rfl,rfl,rfl,rfl,rfl⟩ rfl rfl rfl rfl rfl (by kernel_rfl) Tryz.func6 (by kernel_rfl)
  (of_decide_eq_true (by kernel_rfl)) (by unfold Func.isWrapper;first|(rw[if_pos (by decide+kernel)];kernel_rfl)|(rw[if_neg (by decide+kernel)];exact ⟨rfl,rfl⟩))
  (fun os started H enc _ F=>Lu os started H enc F)
theorem TerrainBanded_holds:Rows.TerrainBandedCardSaid:=
 Ls [.funcs] true (true, "f862b117fde5345128c9dad0b5277439a4d82570b182fbf97f4f501680ae2e28") false Lv (by kernel_rfl) terrainBanded_row_tie rfl ⟨rfl,rfl⟩ (by kernel_rfl) rfl
  (fun f fn hf a=>by
   obtain rfl:f=6:=Option.some.inj ((show Tryz.prog.funcNamed "velarium/velariumlaw04.TerrainBanded"=some 6 by kernel_rfl).symm.trans hf)|>.symm
   obtain rfl:fn=Tryz.f6:=(Option.some.inj (Tryz.func6.symm.trans a)).symm
   exact ⟨by kernel_rfl,fun j t ht=>by
    rw[Tryz.params6] at ht
    have hm:t∈[29]:=by simpa using Array.mem_of_getElem? ht
    have en:([29].all fun u=>!Tryz.prog.wantsStandIn u)=true:=by kernel_rfl
    exact (show Tryz.prog.wantsStandIn t=false by simpa using List.all_eq_true.1 en t hm)⟩)
  (by kernel_rfl)
end Go.Proofs.YtpgcmoanfifglaaGreatDoor
end

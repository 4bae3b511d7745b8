/- For every input that can be read, on every calm tape: the call of velariumlaw04.TerrainAsked returns true; its arguments read as they did; the listed variable terrain.checks is tied to the text of the program. -/
import Derived.Test.YtjepffnffjdloaaGreatDoorQ12
import Derived.Test.YtjepffnffjdloaaGreatDoorVA2
set_option linter.all false
section
namespace Go.Proofs.YtjepffnffjdloaaGreatDoor
open Go Go.Sep Go.Proofs Go.ChangeShapes Go.WideShapes Go.ChangeAt Go.RowKit Go.Conc Go.ConcM
set_option maxRecDepth 100000
set_option maxHeartbeats 4000000
theorem Me (os:Os)(H:Type)(enc:TypeId×Value->H):∃(w:World) (tape:Tape) (i:Input),w.os=os/\(w.forCall tape i).Shaped Tryz.checked.prog/\i.vars=[]/\Input.okWide Tryz.checked.prog (w.forCall tape i) .any w.heap.size 8 i/\
   ((Rows.terrainAskedSpec.pre enc Tryz.checked.prog Tryz.f8 [] false (w.forCall tape i).memory i.args/\laidMetH Tryz.prog [("velarium/terrain.checks",Rows.laid_velarium_terrain_checks)] (w.forCall tape i).memory)/\sizedMet enc Tryz.checked.prog Tryz.f8 (OpenSpec.ofChange Rows.terrainAskedSpec) false (w.forCall tape i).memory i.args)/\Rows.terrainAskedRow.assume.holds Tryz.checked.prog (lone (Frame.enter Tryz.checked.prog 8 i.args .normal) [] (w.forCall tape i)):=by
 refine ⟨(((((World.holding Tryz.prog os ⟨#[],#[],[]⟩).setCell ⟨0,0,none⟩ (.func (.func 205) #[] #[])).setCell ⟨0,1,none⟩ (.func (.func 206) #[] #[])).setCell ⟨0,2,none⟩ (.func (.func 207) #[] #[])).setCell ⟨0,3,none⟩ (.func (.func 208) #[] #[])).setCell ⟨0,4,none⟩ (.func (.func 209) #[] #[]),
  fun _ _=>0,⟨#[],#[.agg #[.int .i64 0,.int .i64 0,.int .i64 0,.int .i64 0,.slice none 0 0,.slice none 0 0,.slice none 0 0,.slice none 0 0],.int .u8 0],[]⟩,rfl,World.shaped_of_ZipB (by kernel_rfl) (by kernel_rfl),rfl,(Input.okWide_of_okWideB (by kernel_rfl)).2,
  ⟨⟨ChangeSpec.pre_of_preB (fuel:=8) (by kernel_rfl),laidMetH_of_parts3 (fuel:=8) ?_ rfl (by kernel_rfl)⟩,sizedMet_of_sizedB (fuel:=8) (by kernel_rfl)⟩,?_⟩
 ·exact ⟨[],rfl,List.nodup_nil,fun _ _ h=>by cases h⟩
 ·simp only[Assume.holds]
  exact ⟨by simp[Rows.terrainAskedRow,OpenClaim.assume],fun _ _ _ _=>rfl,by simp[Rows.terrainAskedRow,OpenClaim.assume],by simp[Rows.terrainAskedRow,OpenClaim.assume],by simp[Rows.terrainAskedRow,OpenClaim.assume]⟩
theorem Mf (os:Os)(started:os.Started)(H:Type)(enc:TypeId×Value->H)(F:Stop.Interp):
  ReturnsInLeavingWide Rows.terrainAskedRow.assume Tryz.checked os 8 .any (fun w args=>(Rows.terrainAskedSpec.pre enc Tryz.checked.prog Tryz.f8 [] false w args/\laidMetH Tryz.prog [("velarium/terrain.checks",Rows.laid_velarium_terrain_checks)] w)/\sizedMet enc Tryz.checked.prog Tryz.f8 (OpenSpec.ofChange Rows.terrainAskedSpec) false w args)
   ((OpenSpec.ofChange Rows.terrainAskedSpec).postWith enc Tryz.checked.prog Tryz.f8 F (outsideKept [.timePasses]) false true false):=by
 refine uP (C:=Tryz.checked) (X:=laidMetH Tryz.prog [("velarium/terrain.checks",Rows.laid_velarium_terrain_checks)]) (fun w w' m h=>h.of_heap m.symm) own started Tryz.func8 (Me os H enc) ?_
 intro W base args n gs before o hW _ r s
 have b:∀(j:Nat) t v,Tryz.f8.params[j]?=some t->args[j]?=some v->Value.okWide Tryz.prog W .any base t v:=o
 have f:=hW
 obtain ⟨p,q,u,y,rfl,_,_⟩:=hW
 have c:DataW.TrodAll enc Tryz.prog W 0 (fun _=>true) true Tryz.f8.params.toList args.toList n p:=u
 have g:=DataW.TrodAll.lt c
 rw[Tryz.params8] at c b
 obtain ⟨v0,v1,d0,d1,p0,L,rfl,rfl,rfl,h0,h1⟩:=trodAll_two c
 obtain ⟨rfl,rfl⟩:=trodVars_none y
 obtain ⟨u0,s1,s2,M,N,z,A,B,D,E⟩:=uQ (j:=0) r rfl rfl (b 0 29 v0 rfl rfl) h0
 obtain ⟨i,G,_,_,w1⟩:=open_int Tryz.underlying5 (b 1 5 v1 rfl rfl) h1
 have I:fY Tryz.prog 8 #[v0,v1] ⟨fun a=>W.cell? a,[]⟩ (fun v _=>v= .bool true):=by
  rw[z,G]
  exact LR (uR s) u0 ⟨A,B,D,E⟩ i rfl (LQ u0 i (jZ w1))
 refine I.ends (uM W) fun v F' w' J hu=>?_
 subst J
 simp only[List.append_nil] at f
 have d:Below W.heap.size W {w' with os:=W.os}:=⟨rfl,hu.tape,hu.output,hu.size,fun k K=>hu.frame k K (by simp[keys])⟩
 have l:laidOutB Tryz.prog=true:=by kernel_rfl
 refine ⟨⟨_,_,_,[],_,[],f,trodAll_mk1 (shut_bool Tryz.underlying4 _),trodAll_mk2 (Below.trod l (by kernel_rfl) (of_decide_eq_true (by kernel_rfl)) h0 d ?_) (Below.trod l (by kernel_rfl) (of_decide_eq_true (by kernel_rfl)) h1 d ?_),rfl,d.frame _,fun h=>by cases h⟩,hu.os⟩
 ·exact fun x e=>g x (by simp[e])
 ·exact fun x e=>g x (by simp[e])
theorem Mg:Rows.TerrainAskedSaid:=
 OpenClaim.holds_of_wide_leaving_time 8 Tryz.f8 rfl rfl rfl rfl rfl rfl rfl ⟨rfl,rfl,rfl,rfl,rfl⟩ rfl rfl rfl rfl rfl (by kernel_rfl) Tryz.func8 (by kernel_rfl)
  (of_decide_eq_true (by kernel_rfl)) (by unfold Func.isWrapper;first|(rw[if_pos (by decide+kernel)];kernel_rfl)|(rw[if_neg (by decide+kernel)];exact ⟨rfl,rfl⟩))
  (fun os started H enc _ F=>Mf os started H enc F)
theorem TerrainAsked_holds:Rows.TerrainAskedCardSaid:=
 uS [.funcs] true (true, "64230ae704875298989d6401e51e805269fe085a0ba3c1c8a661d2df2d243933") false Mg (by kernel_rfl) terrainAsked_row_tie rfl ⟨rfl,rfl⟩ (by kernel_rfl) rfl
  (fun f fn a b=>by
   obtain rfl:f=8:=Option.some.inj ((show Tryz.prog.funcNamed "velarium/velariumlaw04.TerrainAsked"=some 8 by kernel_rfl).symm.trans a)|>.symm
   obtain rfl:fn=Tryz.f8:=(Option.some.inj (Tryz.func8.symm.trans b)).symm
   exact ⟨by kernel_rfl,fun j t ht=>by
    rw[Tryz.params8] at ht
    have hm:t∈[29,5]:=by simpa using Array.mem_of_getElem? ht
    have c:([29,5].all fun u=>!Tryz.prog.wantsStandIn u)=true:=by kernel_rfl
    exact (show Tryz.prog.wantsStandIn t=false by simpa using List.all_eq_true.1 c t hm)⟩)
  (by kernel_rfl)
end Go.Proofs.YtjepffnffjdloaaGreatDoor
end

/- For every input that can be read, on every calm tape: the call of velariumlaw04.TerrainAlike returns true; its arguments read as they did; the listed variable terrain.checks is tied to the text of the program. -/
import Derived.Test.YtjepffnffjdloaaGreatDoorQ12
import Derived.Test.YtjepffnffjdloaaGreatDoorVL2
set_option linter.all false
section
namespace Go.Proofs.YtjepffnffjdloaaGreatDoor
open Go Go.Sep Go.Proofs Go.ChangeShapes Go.WideShapes Go.ChangeAt Go.RowKit Go.Conc Go.ConcM
set_option maxRecDepth 100000
set_option maxHeartbeats 4000000
theorem KD (os:Os)(H:Type)(enc:TypeId×Value->H):∃(w:World) (tape:Tape) (i:Input),w.os=os/\(w.forCall tape i).Shaped Tryz.checked.prog/\i.vars=[]/\Input.okWide Tryz.checked.prog (w.forCall tape i) .any w.heap.size 5 i/\
   ((Rows.terrainAlikeSpec.pre enc Tryz.checked.prog Tryz.f5 [] false (w.forCall tape i).memory i.args/\laidMetH Tryz.prog [("velarium/terrain.checks",Rows.laid_velarium_terrain_checks)] (w.forCall tape i).memory)/\sizedMet enc Tryz.checked.prog Tryz.f5 (OpenSpec.ofChange Rows.terrainAlikeSpec) false (w.forCall tape i).memory i.args)/\Rows.terrainAlikeRow.assume.holds Tryz.checked.prog (lone (Frame.enter Tryz.checked.prog 5 i.args .normal) [] (w.forCall tape i)):=by
 refine ⟨(((((World.holding Tryz.prog os ⟨#[],#[],[]⟩).setCell ⟨0,0,none⟩ (.func (.func 205) #[] #[])).setCell ⟨0,1,none⟩ (.func (.func 206) #[] #[])).setCell ⟨0,2,none⟩ (.func (.func 207) #[] #[])).setCell ⟨0,3,none⟩ (.func (.func 208) #[] #[])).setCell ⟨0,4,none⟩ (.func (.func 209) #[] #[]),
  fun _ _=>0,⟨#[],#[.agg #[.int .i64 0,.int .i64 0,.int .i64 0,.int .i64 0,.slice none 0 0,.slice none 0 0,.slice none 0 0,.slice none 0 0],.int .u8 0,.int .u8 0,.int .u8 0],[]⟩,rfl,World.shaped_of_ZipB (by kernel_rfl) (by kernel_rfl),rfl,(Input.okWide_of_okWideB (by kernel_rfl)).2,
  ⟨⟨ChangeSpec.pre_of_preB (fuel:=8) (by kernel_rfl),laidMetH_of_parts3 (fuel:=8) ?_ rfl (by kernel_rfl)⟩,sizedMet_of_sizedB (fuel:=8) (by kernel_rfl)⟩,?_⟩
 ·exact ⟨[],rfl,List.nodup_nil,fun _ _ h=>by cases h⟩
 ·simp only[Assume.holds]
  exact ⟨by simp[Rows.terrainAlikeRow,OpenClaim.assume],fun _ _ _ _=>rfl,by simp[Rows.terrainAlikeRow,OpenClaim.assume],by simp[Rows.terrainAlikeRow,OpenClaim.assume],by simp[Rows.terrainAlikeRow,OpenClaim.assume]⟩
theorem KE (os:Os)(started:os.Started)(H:Type)(enc:TypeId×Value->H)(F:Stop.Interp):
  ReturnsInLeavingWide Rows.terrainAlikeRow.assume Tryz.checked os 5 .any (fun w args=>(Rows.terrainAlikeSpec.pre enc Tryz.checked.prog Tryz.f5 [] false w args/\laidMetH Tryz.prog [("velarium/terrain.checks",Rows.laid_velarium_terrain_checks)] w)/\sizedMet enc Tryz.checked.prog Tryz.f5 (OpenSpec.ofChange Rows.terrainAlikeSpec) false w args)
   ((OpenSpec.ofChange Rows.terrainAlikeSpec).postWith enc Tryz.checked.prog Tryz.f5 F (outsideKept [.timePasses]) false true false):=by
 refine CU (C:=Tryz.checked) (X:=laidMetH Tryz.prog [("velarium/terrain.checks",Rows.laid_velarium_terrain_checks)]) (fun w w' r h=>h.of_heap r.symm) own started Tryz.func5 (KD os H enc) ?_
 intro W base args s gs before u hW _ y z
 have c:∀(j:Nat) t v,Tryz.f5.params[j]?=some t->args[j]?=some v->Value.okWide Tryz.prog W .any base t v:=u
 have i:=hW
 obtain ⟨p,q,A,B,rfl,_,_⟩:=hW
 have g:DataW.TrodAll enc Tryz.prog W 0 (fun _=>true) true Tryz.f5.params.toList args.toList s p:=A
 have e:=DataW.TrodAll.lt g
 rw[Tryz.params5] at g c
 obtain ⟨v0,v1,v2,l,d0,d1,d2,d3,p0,P,p2,p3,rfl,rfl,rfl,h0,h1,h2,h3⟩:=trodAll_four g
 obtain ⟨rfl,rfl⟩:=trodVars_none B
 obtain ⟨u0,s1,s2,Q,R,D,E,G,I,J⟩:=CV (j:=0) y rfl rfl (c 0 29 v0 rfl rfl) h0
 obtain ⟨m,K,_,_,w1⟩:=open_int Tryz.underlying5 (c 1 5 v1 rfl rfl) h1
 obtain ⟨n,L,_,_,w2⟩:=open_int Tryz.underlying5 (c 2 5 v2 rfl rfl) h2
 obtain ⟨o,M,_,_,w3⟩:=open_int Tryz.underlying5 (c 3 5 l rfl rfl) h3
 have N:ji Tryz.prog 5 #[v0,v1,v2,l] ⟨fun a=>W.cell? a,[]⟩ (fun v _=>v= .bool true):=by
  rw[D,K,L,M]
  exact Kn (CW z) u0 ⟨E,G,I,J⟩ m n o rfl (Km u0 m (lD w1) n (lD w2) o (lD w3))
 refine N.ends (CS W) fun v F' w' O hu=>?_
 subst O
 simp only[List.append_nil] at i
 have d:Below W.heap.size W {w' with os:=W.os}:=⟨rfl,hu.tape,hu.output,hu.size,fun k hk=>hu.frame k hk (by simp[keys])⟩
 have f:laidOutB Tryz.prog=true:=by kernel_rfl
 refine ⟨⟨_,_,_,[],_,[],i,trodAll_mk1 (shut_bool Tryz.underlying4 _),trodAll_mk4 (Below.trod f (by kernel_rfl) (of_decide_eq_true (by kernel_rfl)) h0 d ?_) (Below.trod f (by kernel_rfl) (of_decide_eq_true (by kernel_rfl)) h1 d ?_) (Below.trod f (by kernel_rfl) (of_decide_eq_true (by kernel_rfl)) h2 d ?_) (Below.trod f (by kernel_rfl) (of_decide_eq_true (by kernel_rfl)) h3 d ?_),rfl,d.frame _,fun h=>by cases h⟩,hu.os⟩
 ·exact fun x b=>e x (by simp[b])
 ·exact fun x b=>e x (by simp[b])
 ·exact fun x b=>e x (by simp[b])
 ·exact fun x b=>e x (by simp[b])
theorem KF:Rows.TerrainAlikeSaid:=
 OpenClaim.holds_of_wide_leaving_time 5 Tryz.f5 rfl rfl rfl rfl rfl rfl rfl ⟨rfl,rfl,rfl,rfl,rfl⟩ rfl rfl rfl rfl rfl (by kernel_rfl) Tryz.func5 (by kernel_rfl)
  (of_decide_eq_true (by kernel_rfl)) (by unfold Func.isWrapper;first|(rw[if_pos (by decide+kernel)];kernel_rfl)|(rw[if_neg (by decide+kernel)];exact ⟨rfl,rfl⟩))
  (fun os started H enc _ F=>KE os started H enc F)
theorem TerrainAlike_holds:Rows.TerrainAlikeCardSaid:=
 CX [.funcs] true (true, "64230ae704875298989d6401e51e805269fe085a0ba3c1c8a661d2df2d243933") false KF (by kernel_rfl) terrainAlike_row_tie rfl ⟨rfl,rfl⟩ (by kernel_rfl) rfl
  (fun f fn a b=>by
   obtain rfl:f=5:=Option.some.inj ((show Tryz.prog.funcNamed "velarium/velariumlaw04.TerrainAlike"=some 5 by kernel_rfl).symm.trans a)|>.symm
   obtain rfl:fn=Tryz.f5:=(Option.some.inj (Tryz.func5.symm.trans b)).symm
   exact ⟨by kernel_rfl,fun j t ht=>by
    rw[Tryz.params5] at ht
    have hm:t∈[29,5,5,5]:=by simpa using Array.mem_of_getElem? ht
    have c:([29,5,5,5].all fun u=>!Tryz.prog.wantsStandIn u)=true:=by kernel_rfl
    exact (show Tryz.prog.wantsStandIn t=false by simpa using List.all_eq_true.1 c t hm)⟩)
  (by kernel_rfl)
end Go.Proofs.YtjepffnffjdloaaGreatDoor
end

/- For every input that can be read, on every calm tape: the call of velariumlaw04.TerrainShown returns true; its arguments read as they did; the listed variable terrain.checks is tied to the text of the program. -/
import Derived.Test.YtjepffnffjdloaaGreatDoorQ12
import Derived.Test.YtjepffnffjdloaaGreatDoorVS1
set_option linter.all false
section
namespace Go.Proofs.YtjepffnffjdloaaGreatDoor
open Go Go.Sep Go.Proofs Go.ChangeShapes Go.WideShapes Go.ChangeAt Go.RowKit Go.Conc Go.ConcM
set_option maxRecDepth 100000
set_option maxHeartbeats 4000000
theorem KA (os:Os)(H:Type)(enc:TypeId×Value->H):∃(w:World) (tape:Tape) (i:Input),w.os=os/\(w.forCall tape i).Shaped Tryz.checked.prog/\i.vars=[]/\Input.okWide Tryz.checked.prog (w.forCall tape i) .any w.heap.size 6 i/\
   ((Rows.terrainShownSpec.pre enc Tryz.checked.prog Tryz.f6 [] false (w.forCall tape i).memory i.args/\laidMetH Tryz.prog [("velarium/terrain.checks",Rows.laid_velarium_terrain_checks)] (w.forCall tape i).memory)/\sizedMet enc Tryz.checked.prog Tryz.f6 (OpenSpec.ofChange Rows.terrainShownSpec) false (w.forCall tape i).memory i.args)/\Rows.terrainShownRow.assume.holds Tryz.checked.prog (lone (Frame.enter Tryz.checked.prog 6 i.args .normal) [] (w.forCall tape i)):=by
 refine ⟨(((((World.holding Tryz.prog os ⟨#[],#[],[]⟩).setCell ⟨0,0,none⟩ (.func (.func 205) #[] #[])).setCell ⟨0,1,none⟩ (.func (.func 206) #[] #[])).setCell ⟨0,2,none⟩ (.func (.func 207) #[] #[])).setCell ⟨0,3,none⟩ (.func (.func 208) #[] #[])).setCell ⟨0,4,none⟩ (.func (.func 209) #[] #[]),
  fun _ _=>0,⟨#[],#[.agg #[.int .i64 0,.int .i64 0,.int .i64 0,.int .i64 0,.slice none 0 0,.slice none 0 0,.slice none 0 0,.slice none 0 0],.int .u8 0,.int .u8 0,.int .u8 0,.int .u8 0,.int .u8 0],[]⟩,rfl,World.shaped_of_ZipB (by kernel_rfl) (by kernel_rfl),rfl,(Input.okWide_of_okWideB (by kernel_rfl)).2,
  ⟨⟨ChangeSpec.pre_of_preB (fuel:=8) (by kernel_rfl),laidMetH_of_parts3 (fuel:=8) ?_ rfl (by kernel_rfl)⟩,sizedMet_of_sizedB (fuel:=8) (by kernel_rfl)⟩,?_⟩
 ·exact ⟨[],rfl,List.nodup_nil,fun _ _ h=>by cases h⟩
 ·simp only[Assume.holds]
  exact ⟨by simp[Rows.terrainShownRow,OpenClaim.assume],fun _ _ _ _=>rfl,by simp[Rows.terrainShownRow,OpenClaim.assume],by simp[Rows.terrainShownRow,OpenClaim.assume],by simp[Rows.terrainShownRow,OpenClaim.assume]⟩
theorem KB (os:Os)(started:os.Started)(H:Type)(enc:TypeId×Value->H)(F:Stop.Interp):
  ReturnsInLeavingWide Rows.terrainShownRow.assume Tryz.checked os 6 .any (fun w args=>(Rows.terrainShownSpec.pre enc Tryz.checked.prog Tryz.f6 [] false w args/\laidMetH Tryz.prog [("velarium/terrain.checks",Rows.laid_velarium_terrain_checks)] w)/\sizedMet enc Tryz.checked.prog Tryz.f6 (OpenSpec.ofChange Rows.terrainShownSpec) false w args)
   ((OpenSpec.ofChange Rows.terrainShownSpec).postWith enc Tryz.checked.prog Tryz.f6 F (outsideKept [.timePasses]) false true false):=by
 refine CU (C:=Tryz.checked) (X:=laidMetH Tryz.prog [("velarium/terrain.checks",Rows.laid_velarium_terrain_checks)]) (fun w w' A h=>h.of_heap A.symm) own started Tryz.func6 (KA os H enc) ?_
 intro W base args B gs before D hW _ E G
 have c:∀(j:Nat) t v,Tryz.f6.params[j]?=some t->args[j]?=some v->Value.okWide Tryz.prog W .any base t v:=D
 have i:=hW
 obtain ⟨p,q,I,J,rfl,_,_⟩:=hW
 have g:DataW.TrodAll enc Tryz.prog W 0 (fun _=>true) true Tryz.f6.params.toList args.toList B p:=I
 have e:=DataW.TrodAll.lt g
 rw[Tryz.params6] at g c
 obtain ⟨v0,v1,v2,l,v4,m,d0,d1,d2,d3,d4,d5,p0,Z,p2,p3,p4,ab,rfl,rfl,rfl,h0,h1,h2,h3,n,o⟩:=Kx g
 obtain ⟨rfl,rfl⟩:=trodVars_none J
 obtain ⟨u0,s1,s2,ad,ae,K,L,M,N,O⟩:=CV (j:=0) E rfl rfl (c 0 29 v0 rfl rfl) h0
 obtain ⟨r,P,_,_,w1⟩:=open_int Tryz.underlying5 (c 1 5 v1 rfl rfl) h1
 obtain ⟨s,Q,_,_,w2⟩:=open_int Tryz.underlying5 (c 2 5 v2 rfl rfl) h2
 obtain ⟨u,R,_,_,w3⟩:=open_int Tryz.underlying5 (c 3 5 l rfl rfl) h3
 obtain ⟨y,S,_,_,w4⟩:=open_int Tryz.underlying5 (c 4 5 v4 rfl rfl) n
 obtain ⟨z,T,_,_,U⟩:=open_int Tryz.underlying5 (c 5 5 m rfl rfl) o
 have V:ji Tryz.prog 6 #[v0,v1,v2,l,v4,m] ⟨fun a=>W.cell? a,[]⟩ (fun v _=>v= .bool true):=by
  rw[K,P,Q,R,S,T]
  exact J4 (CW G) u0 ⟨L,M,N,O⟩ r s u y z rfl (J3 u0 r (lD w1) s (lD w2) u (lD w3) y (lD w4) z (lD U))
 refine V.ends (CS W) fun v F' w' Y hu=>?_
 subst Y
 simp only[List.append_nil] at i
 have d:Below W.heap.size W {w' with os:=W.os}:=⟨rfl,hu.tape,hu.output,hu.size,fun k hk=>hu.frame k hk (by simp[keys])⟩
 have f:laidOutB Tryz.prog=true:=by kernel_rfl
 refine ⟨⟨_,_,_,[],_,[],i,trodAll_mk1 (shut_bool Tryz.underlying4 _),Kz (Below.trod f (by kernel_rfl) (of_decide_eq_true (by kernel_rfl)) h0 d ?_) (Below.trod f (by kernel_rfl) (of_decide_eq_true (by kernel_rfl)) h1 d ?_) (Below.trod f (by kernel_rfl) (of_decide_eq_true (by kernel_rfl)) h2 d ?_) (Below.trod f (by kernel_rfl) (of_decide_eq_true (by kernel_rfl)) h3 d ?_) (Below.trod f (by kernel_rfl) (of_decide_eq_true (by kernel_rfl)) n d ?_) (Below.trod f (by kernel_rfl) (of_decide_eq_true (by kernel_rfl)) o d ?_),rfl,d.frame _,fun h=>by cases h⟩,hu.os⟩
 ·exact fun x b=>e x (by simp[b])
 ·exact fun x b=>e x (by simp[b])
 ·exact fun x b=>e x (by simp[b])
 ·exact fun x b=>e x (by simp[b])
 ·exact fun x b=>e x (by simp[b])
 ·exact fun x b=>e x (by simp[b])
theorem KC:Rows.TerrainShownSaid:=
 OpenClaim.holds_of_wide_leaving_time 6 Tryz.f6 rfl rfl rfl rfl rfl rfl rfl ⟨rfl,rfl,rfl,rfl,rfl⟩ rfl rfl rfl rfl rfl (by kernel_rfl) Tryz.func6 (by kernel_rfl)
  (of_decide_eq_true (by kernel_rfl)) (by unfold Func.isWrapper;first|(rw[if_pos (by decide+kernel)];kernel_rfl)|(rw[if_neg (by decide+kernel)];exact ⟨rfl,rfl⟩))
  (fun os started H enc _ F=>KB os started H enc F)
theorem TerrainShown_holds:Rows.TerrainShownCardSaid:=
 CX [.funcs] true (true, "64230ae704875298989d6401e51e805269fe085a0ba3c1c8a661d2df2d243933") false KC (by kernel_rfl) terrainShown_row_tie rfl ⟨rfl,rfl⟩ (by kernel_rfl) rfl
  (fun f fn a b=>by
   obtain rfl:f=6:=Option.some.inj ((show Tryz.prog.funcNamed "velarium/velariumlaw04.TerrainShown"=some 6 by kernel_rfl).symm.trans a)|>.symm
   obtain rfl:fn=Tryz.f6:=(Option.some.inj (Tryz.func6.symm.trans b)).symm
   exact ⟨by kernel_rfl,fun j t ht=>by
    rw[Tryz.params6] at ht
    have hm:t∈[29,5,5,5,5,5]:=by simpa using Array.mem_of_getElem? ht
    have c:([29,5,5,5,5,5].all fun u=>!Tryz.prog.wantsStandIn u)=true:=by kernel_rfl
    exact (show Tryz.prog.wantsStandIn t=false by simpa using List.all_eq_true.1 c t hm)⟩)
  (by kernel_rfl)
end Go.Proofs.YtjepffnffjdloaaGreatDoor
end

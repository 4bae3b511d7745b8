/- For every input that can be read, on every calm tape: the call of velariumlaw01.StripShut returns true; its arguments read as they did; the listed variable strip.checks is tied to the text of the program. -/
import Derived.Test.YtcoalekambhghaaGreatDoorQS16
import Derived.Test.YtcoalekambhghaaGreatDoorVB3
set_option linter.all false
section
namespace Go.Proofs.YtcoalekambhghaaGreatDoor
open Go Go.Sep Go.Proofs Go.ChangeShapes Go.WideShapes Go.ChangeAt Go.RowKit Go.Conc Go.ConcM
set_option maxRecDepth 100000
set_option maxHeartbeats 4000000
theorem Js (os:Os)(H:Type)(enc:TypeId×Value->H):∃(w:World) (tape:Tape) (i:Input),w.os=os/\(w.forCall tape i).Shaped Tryz.checked.prog/\i.vars=[]/\Input.okWide Tryz.checked.prog (w.forCall tape i) .any w.heap.size 4 i/\
   ((Rows.stripShutSpec.pre enc Tryz.checked.prog Tryz.f4 [] false (w.forCall tape i).memory i.args/\laidMetH Tryz.prog [("velarium/strip.checks",Rows.laid_velarium_strip_checks)] (w.forCall tape i).memory)/\sizedMet enc Tryz.checked.prog Tryz.f4 (OpenSpec.ofChange Rows.stripShutSpec) false (w.forCall tape i).memory i.args)/\Rows.stripShutRow.assume.holds Tryz.checked.prog (lone (Frame.enter Tryz.checked.prog 4 i.args .normal) [] (w.forCall tape i)):=by
 refine ⟨(((World.holding Tryz.prog os ⟨#[],#[],[]⟩).setCell ⟨0,0,none⟩ (.func (.func 216) #[] #[])).setCell ⟨0,1,none⟩ (.func (.func 217) #[] #[])).setCell ⟨0,2,none⟩ (.func (.func 218) #[] #[]),
  fun _ _=>0,⟨#[],#[.agg #[.int .i64 0,.int .i64 0,.slice none 0 0]],[]⟩,rfl,World.shaped_of_ZipB aS aS,rfl,(Input.okWide_of_okWideB aS).2,
  ⟨⟨ChangeSpec.pre_of_preB (fuel:=8) aS,laidMetH_of_parts3 (fuel:=8) ?_ rfl aS⟩,sizedMet_of_sizedB (fuel:=8) aS⟩,?_⟩
 .exact ⟨[],rfl,List.nodup_nil,fun _ _ h=>by cases h⟩
 .simp only[Assume.holds]
  exact ⟨by simp[Rows.stripShutRow,OpenClaim.assume],fun _ _ _ _=>rfl,by simp[Rows.stripShutRow,OpenClaim.assume],by simp[Rows.stripShutRow,OpenClaim.assume],by simp[Rows.stripShutRow,OpenClaim.assume]⟩
theorem Jt (os:Os)(started:os.Started)(H:Type)(enc:TypeId×Value->H):
  ReturnsInLeavingWide Rows.stripShutRow.assume Tryz.checked os 4 .any (fun w args=>(Rows.stripShutSpec.pre enc Tryz.checked.prog Tryz.f4 [] false w args/\laidMetH Tryz.prog [("velarium/strip.checks",Rows.laid_velarium_strip_checks)] w)/\sizedMet enc Tryz.checked.prog Tryz.f4 (OpenSpec.ofChange Rows.stripShutSpec) false w args)
   (Rows.stripShutSpec.post enc Tryz.checked.prog Tryz.f4 false true false false):=by
 refine BG (C:=Tryz.checked) (X:=laidMetH Tryz.prog [("velarium/strip.checks",Rows.laid_velarium_strip_checks)]) (fun w w' g h=>h.of_heap g.symm) own started Tryz.func4 (Js os H enc) ?_
 intro W base args i gs before l hW _ m n
 have c:∀(j:Nat) t v,Tryz.f4.params[j]?=some t->args[j]?=some v->Value.okWide Tryz.prog W .any base t v:=l
 have d:=hW
 obtain ⟨p,q,o,r,rfl,_,_⟩:=hW
 have b:DataW.TrodAll enc Tryz.prog W 0 (fun _=>true) true Tryz.f4.params.toList args.toList i p:=o
 have s:=DataW.TrodAll.lt b
 rw[Tryz.params4] at b c
 obtain ⟨v0,d0,rfl,rfl,e⟩:=trodAll_one b
 obtain ⟨rfl,rfl⟩:=trodVars_none r
 obtain ⟨u0,F,u,y⟩:=BE (j:=0) m rfl rfl (c 0 24 v0 rfl rfl) e
 have z:iM Tryz.prog 4 #[v0] ⟨fun a=>W.cell? a,[]⟩ (fun v _=>v= .bool true):=by
  rw[u]
  exact Jh (BI n) u0 y rfl (Ji u0)
 refine z.ends (Bz W) fun v F' w' hv hu=>?_
 subst hv
 simp only[List.append_nil] at d
 have A:{w' with os:=W.os}=w':=by rw[show W.os=w'.os from Eq.symm hu.os]
 rw[<-A]
 have f:Below W.heap.size W {w' with os:=W.os}:=⟨rfl,hu.tape,hu.output,hu.size,fun k B=>hu.frame k B (by simp[keys])⟩
 have D:laidOutB Tryz.prog=true:=aS
 refine ⟨_,_,_,[],_,[],d,trodAll_mk1 (shut_bool Tryz.underlying4 _),trodAll_mk1 (Below.trod D aS (of_decide_eq_true aS) e f ?_),rfl,f.frame _,fun h=>by cases h⟩
 .exact fun x E=>s x (by simp[E])
theorem Ju:Rows.StripShutSaid:=
 OpenClaim.holds_of_wide_leaving 4 Tryz.f4 rfl rfl rfl rfl rfl rfl rfl ⟨rfl,rfl,rfl,rfl,rfl⟩ rfl rfl rfl rfl rfl aS Tryz.func4 aS
  (of_decide_eq_true aS) (by unfold Func.isWrapper;first|(rw[if_pos (by decide+kernel)];kernel_rfl)|(rw[if_neg (by decide+kernel)];exact ⟨rfl,rfl⟩))
  (fun os started H enc _=>Jt os started H enc)
theorem StripShut_holds:Rows.StripShutCardSaid:=
 BH [.funcs] true (true, "6e93537f4542a3785471ec690abb0a9608a4751997b2f658461eb156b5c062e9") false Ju aS stripShut_row_tie rfl ⟨rfl,rfl⟩ aS rfl
  (fun f fn a b=>by
   obtain rfl:f=4:=Option.some.inj ((show Tryz.prog.funcNamed "velarium/velariumlaw01.StripShut"=some 4 by kernel_rfl).symm.trans a)|>.symm
   obtain rfl:fn=Tryz.f4:=(Option.some.inj (Tryz.func4.symm.trans b)).symm
   exact ⟨aS,fun j t ht=>by
    rw[Tryz.params4] at ht
    have hm:t∈[24]:=by simpa using Array.mem_of_getElem? ht
    have c:([24].all fun u=>!Tryz.prog.wantsStandIn u)=true:=aS
    exact (show Tryz.prog.wantsStandIn t=false by simpa using List.all_eq_true.1 c t hm)⟩)
  aS
end Go.Proofs.YtcoalekambhghaaGreatDoor
end

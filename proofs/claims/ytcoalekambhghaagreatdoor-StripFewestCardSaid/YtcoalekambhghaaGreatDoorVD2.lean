/- For every input that can be read, on every calm tape: the call of velariumlaw01.StripFewest returns true; its arguments read as they did; the listed variable strip.checks is tied to the text of the program. -/
import Derived.Test.YtcoalekambhghaaGreatDoorQT16
import Derived.Test.YtcoalekambhghaaGreatDoorVD1
set_option linter.all false
section
namespace Go.Proofs.YtcoalekambhghaaGreatDoor
open Go Go.Sep Go.Proofs Go.ChangeShapes Go.WideShapes Go.ChangeAt Go.RowKit Go.Conc Go.ConcM
set_option maxRecDepth 100000
set_option maxHeartbeats 4000000
theorem I7 (os:Os)(H:Type)(enc:TypeId×Value->H):∃(w:World) (tape:Tape) (i:Input),w.os=os/\(w.forCall tape i).Shaped Tryz.checked.prog/\i.vars=[]/\Input.okWide Tryz.checked.prog (w.forCall tape i) .any w.heap.size 7 i/\
   ((Rows.stripFewestSpec.pre enc Tryz.checked.prog Tryz.f7 [] false (w.forCall tape i).memory i.args/\laidMetH Tryz.prog [("velarium/strip.checks",Rows.laid_velarium_strip_checks)] (w.forCall tape i).memory)/\sizedMet enc Tryz.checked.prog Tryz.f7 (OpenSpec.ofChange Rows.stripFewestSpec) false (w.forCall tape i).memory i.args)/\Rows.stripFewestRow.assume.holds Tryz.checked.prog (lone (Frame.enter Tryz.checked.prog 7 i.args .normal) [] (w.forCall tape i)):=by
 refine ⟨(((World.holding Tryz.prog os ⟨#[],#[],[]⟩).setCell ⟨0,0,none⟩ (.func (.func 216) #[] #[])).setCell ⟨0,1,none⟩ (.func (.func 217) #[] #[])).setCell ⟨0,2,none⟩ (.func (.func 218) #[] #[]),
  fun _ _=>0,⟨#[],#[.agg #[.int .i64 0,.int .i64 0,.slice none 0 0],.int .u8 0],[]⟩,rfl,World.shaped_of_ZipB aT aT,rfl,(Input.okWide_of_okWideB aT).2,
  ⟨⟨ChangeSpec.pre_of_preB (fuel:=8) aT,laidMetH_of_parts3 (fuel:=8) ?_ rfl aT⟩,sizedMet_of_sizedB (fuel:=8) aT⟩,?_⟩
 .exact ⟨[],rfl,List.nodup_nil,fun _ _ h=>by cases h⟩
 .simp only[Assume.holds]
  exact ⟨by simp[Rows.stripFewestRow,OpenClaim.assume],fun _ _ _ _=>rfl,by simp[Rows.stripFewestRow,OpenClaim.assume],by simp[Rows.stripFewestRow,OpenClaim.assume],by simp[Rows.stripFewestRow,OpenClaim.assume]⟩
theorem I8 (os:Os)(started:os.Started)(H:Type)(enc:TypeId×Value->H):
  ReturnsInLeavingWide Rows.stripFewestRow.assume Tryz.checked os 7 .any (fun w args=>(Rows.stripFewestSpec.pre enc Tryz.checked.prog Tryz.f7 [] false w args/\laidMetH Tryz.prog [("velarium/strip.checks",Rows.laid_velarium_strip_checks)] w)/\sizedMet enc Tryz.checked.prog Tryz.f7 (OpenSpec.ofChange Rows.stripFewestSpec) false w args)
   (Rows.stripFewestSpec.post enc Tryz.checked.prog Tryz.f7 false true false false):=by
 refine Bq (C:=Tryz.checked) (X:=laidMetH Tryz.prog [("velarium/strip.checks",Rows.laid_velarium_strip_checks)]) (fun w w' o h=>h.of_heap o.symm) own started Tryz.func7 (I7 os H enc) ?_
 intro W base args r gs before s hW _ u y
 have b:∀(j:Nat) t v,Tryz.f7.params[j]?=some t->args[j]?=some v->Value.okWide Tryz.prog W .any base t v:=s
 have f:=hW
 obtain ⟨p,q,z,A,rfl,_,_⟩:=hW
 have c:DataW.TrodAll enc Tryz.prog W 0 (fun _=>true) true Tryz.f7.params.toList args.toList r p:=z
 have g:=DataW.TrodAll.lt c
 rw[Tryz.params7] at c b
 obtain ⟨v0,v1,d0,d1,p0,J,rfl,rfl,rfl,i,l⟩:=trodAll_two c
 obtain ⟨rfl,rfl⟩:=trodVars_none A
 obtain ⟨u0,K,B,D⟩:=Bo (j:=0) u rfl rfl (b 0 24 v0 rfl rfl) i
 obtain ⟨m,E,_,_,w1⟩:=open_int Tryz.underlying5 (b 1 5 v1 rfl rfl) l
 have F:iG Tryz.prog 7 #[v0,v1] ⟨fun a=>W.cell? a,[]⟩ (fun v _=>v= .bool true):=by
  rw[B,E]
  exact IV (Bs y) u0 D m rfl (IX u0 m (Bp w1))
 refine F.ends (Bg W) fun v F' w' hv hu=>?_
 subst hv
 simp only[List.append_nil] at f
 have G:{w' with os:=W.os}=w':=by rw[show W.os=w'.os from Eq.symm hu.os]
 rw[<-G]
 have d:Below W.heap.size W {w' with os:=W.os}:=⟨rfl,hu.tape,hu.output,hu.size,fun k I=>hu.frame k I (by simp[keys])⟩
 have n:laidOutB Tryz.prog=true:=aT
 refine ⟨_,_,_,[],_,[],f,trodAll_mk1 (shut_bool Tryz.underlying4 _),trodAll_mk2 (Below.trod n aT (of_decide_eq_true aT) i d ?_) (Below.trod n aT (of_decide_eq_true aT) l d ?_),rfl,d.frame _,fun h=>by cases h⟩
 .exact fun x e=>g x (by simp[e])
 .exact fun x e=>g x (by simp[e])
theorem I9:Rows.StripFewestSaid:=
 OpenClaim.holds_of_wide_leaving 7 Tryz.f7 rfl rfl rfl rfl rfl rfl rfl ⟨rfl,rfl,rfl,rfl,rfl⟩ rfl rfl rfl rfl rfl aT Tryz.func7 aT
  (of_decide_eq_true aT) (by unfold Func.isWrapper;first|(rw[if_pos (by decide+kernel)];kernel_rfl)|(rw[if_neg (by decide+kernel)];exact ⟨rfl,rfl⟩))
  (fun os started H enc _=>I8 os started H enc)
theorem StripFewest_holds:Rows.StripFewestCardSaid:=
 Br [.funcs] true (true, "6e93537f4542a3785471ec690abb0a9608a4751997b2f658461eb156b5c062e9") false I9 aT stripFewest_row_tie rfl ⟨rfl,rfl⟩ aT rfl
  (fun f fn a b=>by
   obtain rfl:f=7:=Option.some.inj ((show Tryz.prog.funcNamed "velarium/velariumlaw01.StripFewest"=some 7 by kernel_rfl).symm.trans a)|>.symm
   obtain rfl:fn=Tryz.f7:=(Option.some.inj (Tryz.func7.symm.trans b)).symm
   exact ⟨aT,fun j t ht=>by
    rw[Tryz.params7] at ht
    have hm:t∈[24,5]:=by simpa using Array.mem_of_getElem? ht
    have c:([24,5].all fun u=>!Tryz.prog.wantsStandIn u)=true:=aT
    exact (show Tryz.prog.wantsStandIn t=false by simpa using List.all_eq_true.1 c t hm)⟩)
  aT
end Go.Proofs.YtcoalekambhghaaGreatDoor
end

/- For every input that can be read, on every calm tape: the call of velariumlaw01.StripAsked returns true; its arguments read as they did; the listed variable strip.checks is tied to the text of the program. -/
import Derived.Test.YtlchekhkopimhaaGreatDoorQT15
import Derived.Test.YtlchekhkopimhaaGreatDoorVH1
set_option linter.all false
section
namespace Go.Proofs.YtlchekhkopimhaaGreatDoor
open Go Go.Sep Go.Proofs Go.ChangeShapes Go.WideShapes Go.ChangeAt Go.RowKit Go.Conc Go.ConcM
set_option maxRecDepth 100000
set_option maxHeartbeats 4000000
theorem MD (os:Os)(H:Type)(enc:TypeId×Value->H):∃(w:World) (tape:Tape) (i:Input),w.os=os/\(w.forCall tape i).Shaped Tryz.checked.prog/\i.vars=[]/\Input.okWide Tryz.checked.prog (w.forCall tape i) .any w.heap.size 6 i/\
   ((Rows.stripAskedSpec.pre enc Tryz.checked.prog Tryz.f6 [] false (w.forCall tape i).memory i.args/\laidMetH Tryz.prog [("velarium/strip.checks",Rows.laid_velarium_strip_checks)] (w.forCall tape i).memory)/\sizedMet enc Tryz.checked.prog Tryz.f6 (OpenSpec.ofChange Rows.stripAskedSpec) false (w.forCall tape i).memory i.args)/\Rows.stripAskedRow.assume.holds Tryz.checked.prog (lone (Frame.enter Tryz.checked.prog 6 i.args .normal) [] (w.forCall tape i)):=by
 refine ⟨(((World.holding Tryz.prog os ⟨#[],#[],[]⟩).setCell ⟨0,0,none⟩ (.func (.func 243) #[] #[])).setCell ⟨0,1,none⟩ (.func (.func 244) #[] #[])).setCell ⟨0,2,none⟩ (.func (.func 245) #[] #[]),
  fun _ _=>0,⟨#[],#[.agg #[.int .i64 0,.int .i64 0,.slice none 0 0],.int .u8 0],[]⟩,rfl,World.shaped_of_ZipB aj aj,rfl,(Input.okWide_of_okWideB aj).2,
  ⟨⟨ChangeSpec.pre_of_preB (fuel:=8) aj,laidMetH_of_parts3 (fuel:=8) ?_ rfl aj⟩,sizedMet_of_sizedB (fuel:=8) aj⟩,?_⟩
 .exact ⟨[],rfl,List.nodup_nil,fun _ _ h=>by cases h⟩
 .simp only[Assume.holds]
  exact ⟨by simp[Rows.stripAskedRow,OpenClaim.assume],fun _ _ _ _=>rfl,by simp[Rows.stripAskedRow,OpenClaim.assume],by simp[Rows.stripAskedRow,OpenClaim.assume],by simp[Rows.stripAskedRow,OpenClaim.assume]⟩
theorem ME (os:Os)(started:os.Started)(H:Type)(enc:TypeId×Value->H):
  ReturnsInLeavingWide Rows.stripAskedRow.assume Tryz.checked os 6 .any (fun w args=>(Rows.stripAskedSpec.pre enc Tryz.checked.prog Tryz.f6 [] false w args/\laidMetH Tryz.prog [("velarium/strip.checks",Rows.laid_velarium_strip_checks)] w)/\sizedMet enc Tryz.checked.prog Tryz.f6 (OpenSpec.ofChange Rows.stripAskedSpec) false w args)
   (Rows.stripAskedSpec.post enc Tryz.checked.prog Tryz.f6 false true false false):=by
 refine yT (C:=Tryz.checked) (X:=laidMetH Tryz.prog [("velarium/strip.checks",Rows.laid_velarium_strip_checks)]) (fun w w' o h=>h.of_heap o.symm) own started Tryz.func6 (MD os H enc) ?_
 intro W base args r gs before s hW _ u y
 have b:∀(j:Nat) t v,Tryz.f6.params[j]?=some t->args[j]?=some v->Value.okWide Tryz.prog W .any base t v:=s
 have f:=hW
 obtain ⟨p,q,z,A,rfl,_,_⟩:=hW
 have c:DataW.TrodAll enc Tryz.prog W 0 (fun _=>true) true Tryz.f6.params.toList args.toList r p:=z
 have g:=DataW.TrodAll.lt c
 rw[Tryz.params6] at c b
 obtain ⟨v0,v1,d0,d1,p0,J,rfl,rfl,rfl,i,l⟩:=trodAll_two c
 obtain ⟨rfl,rfl⟩:=trodVars_none A
 obtain ⟨u0,K,B,D⟩:=yS (j:=0) u rfl rfl (b 0 24 v0 rfl rfl) i
 obtain ⟨m,E,_,_,w1⟩:=open_int Tryz.underlying5 (b 1 5 v1 rfl rfl) l
 have F:iu Tryz.prog 6 #[v0,v1] ⟨fun a=>W.cell? a,[]⟩ (fun v _=>v= .bool true):=by
  rw[B,E]
  exact L0 (yV y) u0 D m rfl (Ma u0 m (pO w1))
 refine F.ends (yR W) fun v F' w' hv hu=>?_
 subst hv
 simp only[List.append_nil] at f
 have G:{w' with os:=W.os}=w':=by rw[show W.os=w'.os from Eq.symm hu.os]
 rw[<-G]
 have d:Below W.heap.size W {w' with os:=W.os}:=⟨rfl,hu.tape,hu.output,hu.size,fun k I=>hu.frame k I (by simp[keys])⟩
 have n:laidOutB Tryz.prog=true:=pP
 refine ⟨_,_,_,[],_,[],f,trodAll_mk1 (shut_bool Tryz.underlying4 _),trodAll_mk2 (Below.trod n aj (of_decide_eq_true aj) i d ?_) (Below.trod n aj (of_decide_eq_true aj) l d ?_),rfl,d.frame _,fun h=>by cases h⟩
 .exact fun x e=>g x (by simp[e])
 .exact fun x e=>g x (by simp[e])
theorem MF:(Rows.stripAskedRow.inPlace==Tryz.checked.prog.inPlace 6)=true:=aj
theorem MG:(Rows.stripAskedRow.unfollowed==Tryz.checked.prog.unfollowed 6)=true:=aj
theorem MH:(Rows.stripAskedRow.recurses==Tryz.checked.prog.recurses 6)=true:=aj
theorem MI:(Rows.stripAskedRow.named==Tryz.checked.prog.varsNamed 6)=true:=aj
theorem MJ:(Rows.stripAskedRow.lifted==Tryz.checked.prog.liftsFinal)=true:=aj
theorem MK:(Tryz.checked.prog.make==some Rows.stripAskedRow.make)=true:=aj
theorem ML:joinedFacts Tryz.checked.prog 6 Tryz.f6 Rows.stripAskedSpec Rows.stripAskedRow=true:=by
 unfold joinedFacts;rw[pP,yW,yX,MF,MG,MH,MI,MJ,MK];kernel_rfl
theorem MM:Rows.StripAskedSaid:=
 OpenClaim.holds_of_wide_leaving 6 Tryz.f6 rfl rfl rfl rfl rfl rfl rfl ⟨rfl,rfl,rfl,rfl,rfl⟩ rfl rfl rfl rfl rfl aj Tryz.func6 ML
  (of_decide_eq_true aj) (by unfold Func.isWrapper;first|(rw[if_pos (by decide+kernel)];kernel_rfl)|(rw[if_neg (by decide+kernel)];exact ⟨rfl,rfl⟩))
  (fun os started H enc _=>ME os started H enc)
theorem StripAsked_holds:Rows.StripAskedCardSaid:=
 yU [.funcs] true (true, "6948e196cc7639a386f161b8c348245fb331f6e4d581db3d6df906965ac3d89f") false MM aj stripAsked_row_tie rfl ⟨rfl,rfl⟩ aj rfl
  (fun f fn a b=>by
   obtain rfl:f=6:=Option.some.inj ((show Tryz.prog.funcNamed "velarium/velariumlaw01.StripAsked"=some 6 by kernel_rfl).symm.trans a)|>.symm
   obtain rfl:fn=Tryz.f6:=(Option.some.inj (Tryz.func6.symm.trans b)).symm
   exact ⟨aj,fun j t ht=>by
    rw[Tryz.params6] at ht
    have hm:t∈[24,5]:=by simpa using Array.mem_of_getElem? ht
    have c:([24,5].all fun u=>!Tryz.prog.wantsStandIn u)=true:=aj
    exact (show Tryz.prog.wantsStandIn t=false by simpa using List.all_eq_true.1 c t hm)⟩)
  aj
end Go.Proofs.YtlchekhkopimhaaGreatDoor
end

/- For every input that can be read, on every calm tape: the call of velariumlaw01.StripMore returns true; its arguments read as they did; the listed variable strip.checks is tied to the text of the program. -/
import Derived.Test.YtlchekhkopimhaaGreatDoorQT15
import Derived.Test.YtlchekhkopimhaaGreatDoorVF2
set_option linter.all false
section
namespace Go.Proofs.YtlchekhkopimhaaGreatDoor
open Go Go.Sep Go.Proofs Go.ChangeShapes Go.WideShapes Go.ChangeAt Go.RowKit Go.Conc Go.ConcM
set_option maxRecDepth 100000
set_option maxHeartbeats 4000000
theorem Ms (os:Os)(H:Type)(enc:TypeId×Value->H):∃(w:World) (tape:Tape) (i:Input),w.os=os/\(w.forCall tape i).Shaped Tryz.checked.prog/\i.vars=[]/\Input.okWide Tryz.checked.prog (w.forCall tape i) .any w.heap.size 4 i/\
   ((Rows.stripMoreSpec.pre enc Tryz.checked.prog Tryz.f4 [] false (w.forCall tape i).memory i.args/\laidMetH Tryz.prog [("velarium/strip.checks",Rows.laid_velarium_strip_checks)] (w.forCall tape i).memory)/\sizedMet enc Tryz.checked.prog Tryz.f4 (OpenSpec.ofChange Rows.stripMoreSpec) false (w.forCall tape i).memory i.args)/\Rows.stripMoreRow.assume.holds Tryz.checked.prog (lone (Frame.enter Tryz.checked.prog 4 i.args .normal) [] (w.forCall tape i)):=by
 refine ⟨(((World.holding Tryz.prog os ⟨#[],#[],[]⟩).setCell ⟨0,0,none⟩ (.func (.func 243) #[] #[])).setCell ⟨0,1,none⟩ (.func (.func 244) #[] #[])).setCell ⟨0,2,none⟩ (.func (.func 245) #[] #[]),
  fun _ _=>0,⟨#[],#[.agg #[.int .i64 0,.int .i64 0,.slice none 0 0],.int .u8 0,.int .u8 0],[]⟩,rfl,World.shaped_of_ZipB aj aj,rfl,(Input.okWide_of_okWideB aj).2,
  ⟨⟨ChangeSpec.pre_of_preB (fuel:=8) aj,laidMetH_of_parts3 (fuel:=8) ?_ rfl aj⟩,sizedMet_of_sizedB (fuel:=8) aj⟩,?_⟩
 .exact ⟨[],rfl,List.nodup_nil,fun _ _ h=>by cases h⟩
 .simp only[Assume.holds]
  exact ⟨by simp[Rows.stripMoreRow,OpenClaim.assume],fun _ _ _ _=>rfl,by simp[Rows.stripMoreRow,OpenClaim.assume],by simp[Rows.stripMoreRow,OpenClaim.assume],by simp[Rows.stripMoreRow,OpenClaim.assume]⟩
theorem Mt (os:Os)(started:os.Started)(H:Type)(enc:TypeId×Value->H):
  ReturnsInLeavingWide Rows.stripMoreRow.assume Tryz.checked os 4 .any (fun w args=>(Rows.stripMoreSpec.pre enc Tryz.checked.prog Tryz.f4 [] false w args/\laidMetH Tryz.prog [("velarium/strip.checks",Rows.laid_velarium_strip_checks)] w)/\sizedMet enc Tryz.checked.prog Tryz.f4 (OpenSpec.ofChange Rows.stripMoreSpec) false w args)
   (Rows.stripMoreSpec.post enc Tryz.checked.prog Tryz.f4 false true false false):=by
 refine yT (C:=Tryz.checked) (X:=laidMetH Tryz.prog [("velarium/strip.checks",Rows.laid_velarium_strip_checks)]) (fun w w' s h=>h.of_heap s.symm) own started Tryz.func4 (Ms os H enc) ?_
 intro W base args u gs before y hW _ z A
 have c:∀(j:Nat) t v,Tryz.f4.params[j]?=some t->args[j]?=some v->Value.okWide Tryz.prog W .any base t v:=y
 have i:=hW
 obtain ⟨p,q,B,D,rfl,_,_⟩:=hW
 have e:DataW.TrodAll enc Tryz.prog W 0 (fun _=>true) true Tryz.f4.params.toList args.toList u p:=B
 have f:=DataW.TrodAll.lt e
 rw[Tryz.params4] at e c
 obtain ⟨v0,v1,v2,d0,d1,d2,p0,M,p2,rfl,rfl,rfl,l,m,n⟩:=trodAll_three e
 obtain ⟨rfl,rfl⟩:=trodVars_none D
 obtain ⟨u0,N,E,F⟩:=yS (j:=0) z rfl rfl (c 0 24 v0 rfl rfl) l
 obtain ⟨o,G,_,_,w1⟩:=open_int Tryz.underlying5 (c 1 5 v1 rfl rfl) m
 obtain ⟨r,I,_,_,w2⟩:=open_int Tryz.underlying5 (c 2 5 v2 rfl rfl) n
 have J:iu Tryz.prog 4 #[v0,v1,v2] ⟨fun a=>W.cell? a,[]⟩ (fun v _=>v= .bool true):=by
  rw[E,G,I]
  exact LU (yV A) u0 F o r rfl (LZ u0 o (pO w1) r (pO w2))
 refine J.ends (yR W) fun v F' w' hv hu=>?_
 subst hv
 simp only[List.append_nil] at i
 have K:{w' with os:=W.os}=w':=by rw[show W.os=w'.os from Eq.symm hu.os]
 rw[<-K]
 have d:Below W.heap.size W {w' with os:=W.os}:=⟨rfl,hu.tape,hu.output,hu.size,fun k L=>hu.frame k L (by simp[keys])⟩
 have g:laidOutB Tryz.prog=true:=pP
 refine ⟨_,_,_,[],_,[],i,trodAll_mk1 (shut_bool Tryz.underlying4 _),trodAll_mk3 (Below.trod g aj (of_decide_eq_true aj) l d ?_) (Below.trod g aj (of_decide_eq_true aj) m d ?_) (Below.trod g aj (of_decide_eq_true aj) n d ?_),rfl,d.frame _,fun h=>by cases h⟩
 .exact fun x b=>f x (by simp[b])
 .exact fun x b=>f x (by simp[b])
 .exact fun x b=>f x (by simp[b])
theorem Mv:(Rows.stripMoreRow.inPlace==Tryz.checked.prog.inPlace 4)=true:=aj
theorem Mw:(Rows.stripMoreRow.unfollowed==Tryz.checked.prog.unfollowed 4)=true:=aj
theorem Mx:(Rows.stripMoreRow.recurses==Tryz.checked.prog.recurses 4)=true:=aj
theorem My:(Rows.stripMoreRow.named==Tryz.checked.prog.varsNamed 4)=true:=aj
theorem Mz:(Rows.stripMoreRow.lifted==Tryz.checked.prog.liftsFinal)=true:=aj
theorem MA:(Tryz.checked.prog.make==some Rows.stripMoreRow.make)=true:=aj
theorem MB:joinedFacts Tryz.checked.prog 4 Tryz.f4 Rows.stripMoreSpec Rows.stripMoreRow=true:=by
 unfold joinedFacts;rw[pP,yW,yX,Mv,Mw,Mx,My,Mz,MA];kernel_rfl
theorem MC:Rows.StripMoreSaid:=
 OpenClaim.holds_of_wide_leaving 4 Tryz.f4 rfl rfl rfl rfl rfl rfl rfl ⟨rfl,rfl,rfl,rfl,rfl⟩ rfl rfl rfl rfl rfl aj Tryz.func4 MB
  (of_decide_eq_true aj) (by unfold Func.isWrapper;first|(rw[if_pos (by decide+kernel)];kernel_rfl)|(rw[if_neg (by decide+kernel)];exact ⟨rfl,rfl⟩))
  (fun os started H enc _=>Mt os started H enc)
theorem StripMore_holds:Rows.StripMoreCardSaid:=
 yU [.funcs] true (true, "6948e196cc7639a386f161b8c348245fb331f6e4d581db3d6df906965ac3d89f") false MC aj stripMore_row_tie rfl ⟨rfl,rfl⟩ aj rfl
  (fun f fn a b=>by
   obtain rfl:f=4:=Option.some.inj ((show Tryz.prog.funcNamed "velarium/velariumlaw01.StripMore"=some 4 by kernel_rfl).symm.trans a)|>.symm
   obtain rfl:fn=Tryz.f4:=(Option.some.inj (Tryz.func4.symm.trans b)).symm
   exact ⟨aj,fun j t ht=>by
    rw[Tryz.params4] at ht
    have hm:t∈[24,5,5]:=by simpa using Array.mem_of_getElem? ht
    have c:([24,5,5].all fun u=>!Tryz.prog.wantsStandIn u)=true:=aj
    exact (show Tryz.prog.wantsStandIn t=false by simpa using List.all_eq_true.1 c t hm)⟩)
  aj
end Go.Proofs.YtlchekhkopimhaaGreatDoor
end

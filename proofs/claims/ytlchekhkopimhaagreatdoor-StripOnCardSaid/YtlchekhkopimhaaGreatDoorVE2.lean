/- For every input that can be read, on every calm tape: the call of velariumlaw01.StripOn returns true; its arguments read as they did; the listed variable strip.checks is tied to the text of the program. -/
import Derived.Test.YtlchekhkopimhaaGreatDoorQT15
import Derived.Test.YtlchekhkopimhaaGreatDoorVE1
set_option linter.all false
section
namespace Go.Proofs.YtlchekhkopimhaaGreatDoor
open Go Go.Sep Go.Proofs Go.ChangeShapes Go.WideShapes Go.ChangeAt Go.RowKit Go.Conc Go.ConcM
set_option maxRecDepth 100000
set_option maxHeartbeats 4000000
theorem Mh (os:Os)(H:Type)(enc:TypeId×Value->H):∃(w:World) (tape:Tape) (i:Input),w.os=os/\(w.forCall tape i).Shaped Tryz.checked.prog/\i.vars=[]/\Input.okWide Tryz.checked.prog (w.forCall tape i) .any w.heap.size 3 i/\
   ((Rows.stripOnSpec.pre enc Tryz.checked.prog Tryz.f3 [] false (w.forCall tape i).memory i.args/\laidMetH Tryz.prog [("velarium/strip.checks",Rows.laid_velarium_strip_checks)] (w.forCall tape i).memory)/\sizedMet enc Tryz.checked.prog Tryz.f3 (OpenSpec.ofChange Rows.stripOnSpec) false (w.forCall tape i).memory i.args)/\Rows.stripOnRow.assume.holds Tryz.checked.prog (lone (Frame.enter Tryz.checked.prog 3 i.args .normal) [] (w.forCall tape i)):=by
 refine ⟨(((World.holding Tryz.prog os ⟨#[],#[],[]⟩).setCell ⟨0,0,none⟩ (.func (.func 243) #[] #[])).setCell ⟨0,1,none⟩ (.func (.func 244) #[] #[])).setCell ⟨0,2,none⟩ (.func (.func 245) #[] #[]),
  fun _ _=>0,⟨#[],#[.agg #[.int .i64 0,.int .i64 0,.slice none 0 0],.int .u8 0,.int .u8 0,.int .u8 0],[]⟩,rfl,World.shaped_of_ZipB aj aj,rfl,(Input.okWide_of_okWideB aj).2,
  ⟨⟨ChangeSpec.pre_of_preB (fuel:=8) aj,laidMetH_of_parts3 (fuel:=8) ?_ rfl aj⟩,sizedMet_of_sizedB (fuel:=8) aj⟩,?_⟩
 .exact ⟨[],rfl,List.nodup_nil,fun _ _ h=>by cases h⟩
 .simp only[Assume.holds]
  exact ⟨by simp[Rows.stripOnRow,OpenClaim.assume],fun _ _ _ _=>rfl,by simp[Rows.stripOnRow,OpenClaim.assume],by simp[Rows.stripOnRow,OpenClaim.assume],by simp[Rows.stripOnRow,OpenClaim.assume]⟩
theorem Mi (os:Os)(started:os.Started)(H:Type)(enc:TypeId×Value->H):
  ReturnsInLeavingWide Rows.stripOnRow.assume Tryz.checked os 3 .any (fun w args=>(Rows.stripOnSpec.pre enc Tryz.checked.prog Tryz.f3 [] false w args/\laidMetH Tryz.prog [("velarium/strip.checks",Rows.laid_velarium_strip_checks)] w)/\sizedMet enc Tryz.checked.prog Tryz.f3 (OpenSpec.ofChange Rows.stripOnSpec) false w args)
   (Rows.stripOnSpec.post enc Tryz.checked.prog Tryz.f3 false true false false):=by
 refine yT (C:=Tryz.checked) (X:=laidMetH Tryz.prog [("velarium/strip.checks",Rows.laid_velarium_strip_checks)]) (fun w w' z h=>h.of_heap z.symm) own started Tryz.func3 (Mh os H enc) ?_
 intro W base args A gs before B hW _ D E
 have c:∀(j:Nat) t v,Tryz.f3.params[j]?=some t->args[j]?=some v->Value.okWide Tryz.prog W .any base t v:=B
 have i:=hW
 obtain ⟨p,q,F,G,rfl,_,_⟩:=hW
 have g:DataW.TrodAll enc Tryz.prog W 0 (fun _=>true) true Tryz.f3.params.toList args.toList A p:=F
 have e:=DataW.TrodAll.lt g
 rw[Tryz.params3] at g c
 obtain ⟨v0,v1,v2,l,d0,d1,d2,d3,p0,Q,p2,p3,rfl,rfl,rfl,m,n,o,r⟩:=trodAll_four g
 obtain ⟨rfl,rfl⟩:=trodVars_none G
 obtain ⟨u0,R,I,J⟩:=yS (j:=0) D rfl rfl (c 0 24 v0 rfl rfl) m
 obtain ⟨s,K,_,_,w1⟩:=open_int Tryz.underlying5 (c 1 5 v1 rfl rfl) n
 obtain ⟨u,L,_,_,w2⟩:=open_int Tryz.underlying5 (c 2 5 v2 rfl rfl) o
 obtain ⟨y,M,_,_,w3⟩:=open_int Tryz.underlying5 (c 3 5 l rfl rfl) r
 have N:iu Tryz.prog 3 #[v0,v1,v2,l] ⟨fun a=>W.cell? a,[]⟩ (fun v _=>v= .bool true):=by
  rw[I,K,L,M]
  exact Lb (yV E) u0 J s u y rfl (LR u0 s (pO w1) u (pO w2) y (pO w3))
 refine N.ends (yR W) fun v F' w' hv hu=>?_
 subst hv
 simp only[List.append_nil] at i
 have O:{w' with os:=W.os}=w':=by rw[show W.os=w'.os from Eq.symm hu.os]
 rw[<-O]
 have d:Below W.heap.size W {w' with os:=W.os}:=⟨rfl,hu.tape,hu.output,hu.size,fun k P=>hu.frame k P (by simp[keys])⟩
 have f:laidOutB Tryz.prog=true:=pP
 refine ⟨_,_,_,[],_,[],i,trodAll_mk1 (shut_bool Tryz.underlying4 _),trodAll_mk4 (Below.trod f aj (of_decide_eq_true aj) m d ?_) (Below.trod f aj (of_decide_eq_true aj) n d ?_) (Below.trod f aj (of_decide_eq_true aj) o d ?_) (Below.trod f aj (of_decide_eq_true aj) r d ?_),rfl,d.frame _,fun h=>by cases h⟩
 .exact fun x b=>e x (by simp[b])
 .exact fun x b=>e x (by simp[b])
 .exact fun x b=>e x (by simp[b])
 .exact fun x b=>e x (by simp[b])
theorem Mj:(Rows.stripOnRow.inPlace==Tryz.checked.prog.inPlace 3)=true:=aj
theorem Mk:(Rows.stripOnRow.unfollowed==Tryz.checked.prog.unfollowed 3)=true:=aj
theorem Ml:(Rows.stripOnRow.recurses==Tryz.checked.prog.recurses 3)=true:=aj
theorem Mm:(Rows.stripOnRow.named==Tryz.checked.prog.varsNamed 3)=true:=aj
theorem Mn:(Rows.stripOnRow.lifted==Tryz.checked.prog.liftsFinal)=true:=aj
theorem Mo:(Tryz.checked.prog.make==some Rows.stripOnRow.make)=true:=aj
theorem Mq:joinedFacts Tryz.checked.prog 3 Tryz.f3 Rows.stripOnSpec Rows.stripOnRow=true:=by
 unfold joinedFacts;rw[pP,yW,yX,Mj,Mk,Ml,Mm,Mn,Mo];kernel_rfl
theorem Mr:Rows.StripOnSaid:=
 OpenClaim.holds_of_wide_leaving 3 Tryz.f3 rfl rfl rfl rfl rfl rfl rfl ⟨rfl,rfl,rfl,rfl,rfl⟩ rfl rfl rfl rfl rfl aj Tryz.func3 Mq
  (of_decide_eq_true aj) (by unfold Func.isWrapper;first|(rw[if_pos (by decide+kernel)];kernel_rfl)|(rw[if_neg (by decide+kernel)];exact ⟨rfl,rfl⟩))
  (fun os started H enc _=>Mi os started H enc)
theorem StripOn_holds:Rows.StripOnCardSaid:=
 yU [.funcs] true (true, "6948e196cc7639a386f161b8c348245fb331f6e4d581db3d6df906965ac3d89f") false Mr aj stripOn_row_tie rfl ⟨rfl,rfl⟩ aj rfl
  (fun f fn a b=>by
   obtain rfl:f=3:=Option.some.inj ((show Tryz.prog.funcNamed "velarium/velariumlaw01.StripOn"=some 3 by kernel_rfl).symm.trans a)|>.symm
   obtain rfl:fn=Tryz.f3:=(Option.some.inj (Tryz.func3.symm.trans b)).symm
   exact ⟨aj,fun j t ht=>by
    rw[Tryz.params3] at ht
    have hm:t∈[24,5,5,5]:=by simpa using Array.mem_of_getElem? ht
    have c:([24,5,5,5].all fun u=>!Tryz.prog.wantsStandIn u)=true:=aj
    exact (show Tryz.prog.wantsStandIn t=false by simpa using List.all_eq_true.1 c t hm)⟩)
  aj
end Go.Proofs.YtlchekhkopimhaaGreatDoor
end

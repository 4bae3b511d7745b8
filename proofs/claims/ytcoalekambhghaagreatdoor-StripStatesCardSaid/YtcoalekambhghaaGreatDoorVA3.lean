/- For every input that can be read, on every calm tape: the call of velariumlaw01.StripStates returns true; its arguments read as they did; the listed variable strip.checks is tied to the text of the program. -/
import Derived.Test.YtcoalekambhghaaGreatDoorQS16
import Derived.Test.YtcoalekambhghaaGreatDoorVA2
set_option linter.all false
section
namespace Go.Proofs.YtcoalekambhghaaGreatDoor
open Go Go.Sep Go.Proofs Go.ChangeShapes Go.WideShapes Go.ChangeAt Go.RowKit Go.Conc Go.ConcM
set_option maxRecDepth 100000
set_option maxHeartbeats 4000000
theorem Jp (os:Os)(H:Type)(enc:TypeId×Value->H):∃(w:World) (tape:Tape) (i:Input),w.os=os/\(w.forCall tape i).Shaped Tryz.checked.prog/\i.vars=[]/\Input.okWide Tryz.checked.prog (w.forCall tape i) .any w.heap.size 3 i/\
   ((Rows.stripStatesSpec.pre enc Tryz.checked.prog Tryz.f3 [] false (w.forCall tape i).memory i.args/\laidMetH Tryz.prog [("velarium/strip.checks",Rows.laid_velarium_strip_checks)] (w.forCall tape i).memory)/\sizedMet enc Tryz.checked.prog Tryz.f3 (OpenSpec.ofChange Rows.stripStatesSpec) false (w.forCall tape i).memory i.args)/\Rows.stripStatesRow.assume.holds Tryz.checked.prog (lone (Frame.enter Tryz.checked.prog 3 i.args .normal) [] (w.forCall tape i)):=by
 refine ⟨(((World.holding Tryz.prog os ⟨#[],#[],[]⟩).setCell ⟨0,0,none⟩ (.func (.func 216) #[] #[])).setCell ⟨0,1,none⟩ (.func (.func 217) #[] #[])).setCell ⟨0,2,none⟩ (.func (.func 218) #[] #[]),
  fun _ _=>0,⟨#[],#[.agg #[.int .i64 0,.int .i64 0,.slice none 0 0],.agg #[.slice none 0 0,.slice none 0 0,.slice none 0 0],.int .i64 0,.int .i64 0],[]⟩,rfl,World.shaped_of_ZipB aS aS,rfl,(Input.okWide_of_okWideB aS).2,
  ⟨⟨ChangeSpec.pre_of_preB (fuel:=8) aS,laidMetH_of_parts3 (fuel:=8) ?_ rfl aS⟩,sizedMet_of_sizedB (fuel:=8) aS⟩,?_⟩
 .exact ⟨[],rfl,List.nodup_nil,fun _ _ h=>by cases h⟩
 .simp only[Assume.holds]
  exact ⟨by simp[Rows.stripStatesRow,OpenClaim.assume],fun _ _ _ _=>rfl,by simp[Rows.stripStatesRow,OpenClaim.assume],by simp[Rows.stripStatesRow,OpenClaim.assume],by simp[Rows.stripStatesRow,OpenClaim.assume]⟩
theorem Jq (os:Os)(started:os.Started)(H:Type)(enc:TypeId×Value->H):
  ReturnsInLeavingWide Rows.stripStatesRow.assume Tryz.checked os 3 .any (fun w args=>(Rows.stripStatesSpec.pre enc Tryz.checked.prog Tryz.f3 [] false w args/\laidMetH Tryz.prog [("velarium/strip.checks",Rows.laid_velarium_strip_checks)] w)/\sizedMet enc Tryz.checked.prog Tryz.f3 (OpenSpec.ofChange Rows.stripStatesSpec) false w args)
   (Rows.stripStatesSpec.post enc Tryz.checked.prog Tryz.f3 false true false false):=by
 refine BG (C:=Tryz.checked) (X:=laidMetH Tryz.prog [("velarium/strip.checks",Rows.laid_velarium_strip_checks)]) (fun w w' A h=>h.of_heap A.symm) own started Tryz.func3 (Jp os H enc) ?_
 intro W base args B gs before D hW _ i E
 have c:∀(j:Nat) t v,Tryz.f3.params[j]?=some t->args[j]?=some v->Value.okWide Tryz.prog W .any base t v:=D
 have l:=hW
 obtain ⟨p,q,F,G,rfl,_,_⟩:=hW
 have g:DataW.TrodAll enc Tryz.prog W 0 (fun _=>true) true Tryz.f3.params.toList args.toList B p:=F
 have e:=DataW.TrodAll.lt g
 rw[Tryz.params3] at g c
 obtain ⟨v0,v1,v2,m,d0,d1,d2,d3,p0,T,p2,p3,rfl,rfl,rfl,n,o,r,s⟩:=trodAll_four g
 obtain ⟨rfl,rfl⟩:=trodVars_none G
 obtain ⟨u0,U,I,J⟩:=BE (j:=0) i rfl rfl (c 0 24 v0 rfl rfl) n
 obtain ⟨u,V,Y,Z,K,L,M,N⟩:=Jo (j:=1) i rfl rfl (c 1 27 v1 rfl rfl) o
 obtain ⟨y,O,_,_,w2⟩:=open_int Tryz.underlying3 (c 2 3 v2 rfl rfl) r
 obtain ⟨z,P,_,_,w3⟩:=open_int Tryz.underlying3 (c 3 3 m rfl rfl) s
 have Q:iM Tryz.prog 3 #[v0,v1,v2,m] ⟨fun a=>W.cell? a,[]⟩ (fun v _=>v= .bool true):=by
  rw[I,K,O,P]
  exact Jf (BI E) u0 J u L M N y z rfl (Jg u0 u y z)
 refine Q.ends (Bz W) fun v F' w' hv hu=>?_
 subst hv
 simp only[List.append_nil] at l
 have R:{w' with os:=W.os}=w':=by rw[show W.os=w'.os from Eq.symm hu.os]
 rw[<-R]
 have d:Below W.heap.size W {w' with os:=W.os}:=⟨rfl,hu.tape,hu.output,hu.size,fun k S=>hu.frame k S (by simp[keys])⟩
 have f:laidOutB Tryz.prog=true:=aS
 refine ⟨_,_,_,[],_,[],l,trodAll_mk1 (shut_bool Tryz.underlying4 _),trodAll_mk4 (Below.trod f aS (of_decide_eq_true aS) n d ?_) (Below.trod f aS (of_decide_eq_true aS) o d ?_) (Below.trod f aS (of_decide_eq_true aS) r d ?_) (Below.trod f aS (of_decide_eq_true aS) s d ?_),rfl,d.frame _,fun h=>by cases h⟩
 .exact fun x b=>e x (by simp[b])
 .exact fun x b=>e x (by simp[b])
 .exact fun x b=>e x (by simp[b])
 .exact fun x b=>e x (by simp[b])
theorem Jr:Rows.StripStatesSaid:=
 OpenClaim.holds_of_wide_leaving 3 Tryz.f3 rfl rfl rfl rfl rfl rfl rfl ⟨rfl,rfl,rfl,rfl,rfl⟩ rfl rfl rfl rfl rfl aS Tryz.func3 aS
  (of_decide_eq_true aS) (by unfold Func.isWrapper;first|(rw[if_pos (by decide+kernel)];kernel_rfl)|(rw[if_neg (by decide+kernel)];exact ⟨rfl,rfl⟩))
  (fun os started H enc _=>Jq os started H enc)
theorem StripStates_holds:Rows.StripStatesCardSaid:=
 BH [.funcs] true (true, "6e93537f4542a3785471ec690abb0a9608a4751997b2f658461eb156b5c062e9") false Jr aS stripStates_row_tie rfl ⟨rfl,rfl⟩ aS rfl
  (fun f fn a b=>by
   obtain rfl:f=3:=Option.some.inj ((show Tryz.prog.funcNamed "velarium/velariumlaw01.StripStates"=some 3 by kernel_rfl).symm.trans a)|>.symm
   obtain rfl:fn=Tryz.f3:=(Option.some.inj (Tryz.func3.symm.trans b)).symm
   exact ⟨aS,fun j t ht=>by
    rw[Tryz.params3] at ht
    have hm:t∈[24,27,3,3]:=by simpa using Array.mem_of_getElem? ht
    have c:([24,27,3,3].all fun u=>!Tryz.prog.wantsStandIn u)=true:=aS
    exact (show Tryz.prog.wantsStandIn t=false by simpa using List.all_eq_true.1 c t hm)⟩)
  aS
end Go.Proofs.YtcoalekambhghaaGreatDoor
end

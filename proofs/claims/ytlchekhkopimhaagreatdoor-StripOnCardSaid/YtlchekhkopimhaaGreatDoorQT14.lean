/- A part of the proof: QT14. -/
import Derived.Test.YtlchekhkopimhaaGreatDoorQT13
import Derived.Carry
import Derived.Deep.Slices
import Derived.Deep.Fields
import Derived.LaidHandle
import Derived.LaidMore
import Derived.Lay
import Derived.OpenShut
import Derived.LaidLaws
import Derived.Conc.HoldsTime
set_option linter.all false
section
namespace Go.Sep
open Go Go.ChangeShapes Go.WideShapes Go.Deep Go.RowKit Go.Conc Go.ConcM
section
variable {H:Type}{enc:TypeId×Value->H}{P:Program}{w:World}{base:Nat}{spare:Nat->Bool}{held:Bool}
theorem yR (w:World):Has ⟨fun a=>w.cell? a,[]⟩ w:=⟨fun _ _ h=>h,fun _ _ h=>(by cases h),List.nodup_nil,fun _ _ _ h=>(by cases h)⟩
theorem uw {t:TypeId}{b:Array Field}{fuel:Nat}{cs:List Value}{x:DataW H×List MemPlace}(ht:P.underlying t=some (.struct b))(h:DataW.trod enc P w base spare held fuel t cs=some x):
  cs.length=P.cellsOf t/\∃(ys:List (DataW H×List MemPlace)) (n:Nat),x.1= .agg (ys.map (·.1))/\∀(i:Nat) (f:Field) (a o k:Nat),b[i]?=some f->f.type=a->f.offset=o->P.cellsOf a=k->∃y,ys[i]?=some y/\DataW.trod enc P w base spare held n a ((cs.drop o).take k)=some y:=by
 obtain ⟨ys,n,_,d,e,p,g⟩:=DataW.trod_struct ht h
 refine ⟨e,ys,n,by rw[d],fun i f a o k hi j l m=>?_⟩
 subst j l m
 have:i<b.size:=(Array.getElem?_eq_some_iff.1 hi).1
 have c:ys[i]?=some (ys[i]'aa):=List.getElem?_eq_getElem aa
 exact ⟨_,c,(g i f hi).trans c⟩
theorem Mb {t:TypeId}{ps rs:Array TypeId}{b:Bool}{fuel:Nat}{cs:List Value}{x:DataW H×List MemPlace}(ht:P.underlying t=some (.func ps rs b))(h:DataW.trod enc P w base spare held fuel t cs=some x):
  x.1= .nil\/∃f a c,cs=[.func f a c]/\x.1= .held (enc (t,.func f a c)):=by
 cases fuel with
 |zero=>simp[DataW.trod] at h
 |succ m=>
  unfold DataW.trod at h
  rw[ht] at h
  split at h
  all_goals first
   |(rename_i e;cases e;done)
   |(rename_i e _;cases e;done)
   |(rename_i e _ _;cases e;done)
   |(obtain rfl:=Option.some.inj h;exact .inl rfl)
   |(split at h
     .obtain rfl:=Option.some.inj h;exact .inr ⟨_,_,_,rfl,rfl⟩
     .cases h)
   |(cases h;done)
end
end Go.Sep
end

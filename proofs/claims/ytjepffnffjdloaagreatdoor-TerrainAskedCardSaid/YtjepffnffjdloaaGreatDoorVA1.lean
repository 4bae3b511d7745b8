/- A part of the proof of a row and its tied card: VA1. -/
import Derived.Test.YtjepffnffjdloaaGreatDoorQ5
set_option linter.all false
section
namespace Go.Proofs.YtjepffnffjdloaaGreatDoor
open Go Go.Sep Go.Proofs
set_option maxRecDepth 100000
set_option maxHeartbeats 4000000
def eg (u:ak)(i:Nat):Int:=if ew u i<((bp u).length:Int) - ew u i then ((bp u).length:Int) - ew u i else ew u i
structure oR (u:ak)(k:Nat)(st:Int×Int):Prop where
 res:(st=(-1,((bp u).length:Int))/\∀i,i<k->((bp u).length:Int)<=eg u i)\/∃e,e<k/\st=((e:Int),eg u e)/\eg u e<(bp u).length/\(∀i,i<k->eg u e<=eg u i)/\∀i,i<e->eg u e<eg u i
theorem oR.step {u:ak}{k:Nat}{st:Int×Int}(h:oR u k st):oR u (k+1) (oO u k st):=by
 have e:oO u k st=cond (decide (eg u k<st.2)) ((k:Int),eg u k) st:=rfl
 rw[e]
 refine ⟨?_⟩
 rcases h.res with ⟨rfl,h1⟩|⟨j,a,rfl,h1,h2,h3⟩
 ·cases c:decide (eg u k<(-1,((bp u).length:Int)).2) with
  |true=>
   have c:=of_decide_eq_true c
   simp only at c
   refine .inr ⟨k,by omega,rfl,c,fun i hi=>?_,fun i hi=>?_⟩
   ·rcases Nat.lt_or_ge i k with x|x
    ·have:=h1 i x;omega
    ·obtain rfl:i=k:=by omega
     exact Int.le_refl _
   ·have:=h1 i hi;omega
  |false=>
   have c:=of_decide_eq_false c
   simp only at c
   refine .inl ⟨rfl,fun i hi=>?_⟩
   rcases Nat.lt_or_ge i k with x|x
   ·exact h1 i x
   ·obtain rfl:i=k:=by omega
    omega
 ·cases c:decide (eg u k<((j:Int),eg u j).2) with
  |true=>
   have c:=of_decide_eq_true c
   simp only at c
   refine .inr ⟨k,by omega,rfl,by omega,fun i hi=>?_,fun i hi=>?_⟩
   ·rcases Nat.lt_or_ge i k with x|x
    ·have:=h2 i x;omega
    ·obtain rfl:i=k:=by omega
     exact Int.le_refl _
   ·have:=h2 i hi;omega
  |false=>
   have c:=of_decide_eq_false c
   simp only at c
   refine .inr ⟨j,by omega,rfl,h1,fun i hi=>?_,h3⟩
   rcases Nat.lt_or_ge i k with x|x
   ·exact h2 i x
   ·obtain rfl:i=k:=by omega
    omega
theorem CC {u:ak}:∀(l:List b6) (k:Nat) (st:Int×Int),oR u k st->oR u (k+l.length) (foldI (fun i _ st=>oO u i st) k l st)
 |[],k,st,h=>h
 |x::l,k,st,h=>by
  unfold foldI
  have:=CC l (k+1) _ h.step
  rwa [show k+1+l.length=k+(x::l).length by simp;omega] at this
theorem I3 {u:ak}(F:Fit u)(h:dM u=some 0):((bp u).isEmpty=true/\mX u=some (0,0,9))\/((bp u).isEmpty=false/\∃st,mX u=some (st.1,st.2,0)/\oR u u.aE.length st):=by
 unfold mX
 rw[Cg F (qL h)]
 simp only[ah]
 cases hs:(bp u).isEmpty with
 |true=>exact .inl ⟨rfl,rfl⟩
 |false=>
  refine .inr ⟨rfl,?_⟩
  simp only[Bool.false_eq_true,if_false]
  rw[show ((0:Int) != 0)=false by decide]
  simp only[cond_false,List.length_map]
  rw[Ia F]
  refine ⟨_,rfl,?_⟩
  have:=CC (u:=u) u.aE 0 (-1,((bp u).length:Int)) ⟨.inl ⟨rfl,fun i hi=>absurd hi (by omega)⟩⟩
  simpa using this
end Go.Proofs.YtjepffnffjdloaaGreatDoor
end

/- A part of the proof of a row and its tied card: QM15. -/
import Derived.Test.YtghbphimkgamkaaGreatDoorQM14
set_option linter.all false
section
namespace Go.Proofs.YtghbphimkgamkaaGreatDoor
open Go Go.Sep Go.Proofs
def l6 (u0:aj)(c:cj)(b:Int)(d:Int):Option Bool:=
 ag (mW u0 b c) fun a=>cond ((a.2 != 0)) (cond ((a.2==1)) (ag (hU a.1 (⟨0,0,(⟨0,0⟩:an),([]:(List bT)),([]:(List bX)),([]:(List bL)),([]:(List bG))⟩:aj)) fun e=>cond (e) (ag (l5) fun f=>some f) (some false)) (cond ((a.2==9)) (ag (hU a.1 (⟨0,0,(⟨0,0⟩:an),([]:(List bT)),([]:(List bX)),([]:(List bL)),([]:(List bG))⟩:aj)) fun g=>cond (g) (ag (l5) fun h=>some h) (some false)) (some false))) (ag (bf u0.av b) fun i=>ag (m4 i.high c) fun j=>ag (lO u0 b j) fun k=>ag (hU a.1 k) fun l=>cond (l) (ag (fZ a.1) fun m=>cond ((m==0)) (ag (oI u0 a.1 d) fun n=>cond (n) (ag (l5) fun o=>some o) (some false)) (some false)) (some false))
def uQ (u0:aj)(e:bG)(f:Int)(g:Int)(c:cj):Option Bool:=
 ag (oE u0) fun h=>cond (!h) (ag (l5) fun i=>some i) (ag (iB (IntKind.i64.wrap f) (u0.av.length:Int)) fun d=>ag (iB (IntKind.i64.wrap g) (u0.av.length:Int)) fun b=>ag (lK u0 e) fun a=>cond ((a.2==0)) (ag (jr u0 e) fun j=>ag (hU a.1 j) fun k=>cond (!k) (some false) (ag (fZ a.1) fun l=>cond ((l != 0)) (some false) (ag (oI u0 a.1 b) fun m=>cond (!m) (some false) (cond ((a.2 != 0)) (ag (hU a.1 (⟨0,0,(⟨0,0⟩:an),([]:(List bT)),([]:(List bX)),([]:(List bL)),([]:(List bG))⟩:aj)) fun n=>cond (!n) (some false) (l6 u0 c d b)) (l6 u0 c d b))))) (cond ((a.2 != 0)) (ag (hU a.1 (⟨0,0,(⟨0,0⟩:an),([]:(List bT)),([]:(List bX)),([]:(List bL)),([]:(List bG))⟩:aj)) fun o=>cond (!o) (some false) (l6 u0 c d b)) (l6 u0 c d b)))
end Go.Proofs.YtghbphimkgamkaaGreatDoor
end

/- A part of the proof: QQ13. -/
import Derived.Test.YtnaejeiofbpbkaaGreatDoorQQ12
set_option linter.all false
section
namespace Go.Proofs.YtnaejeiofbpbkaaGreatDoor
open Go Go.Sep Go.Proofs
def vN (u0:aj)(w:Int)(x:Int)(y:Int)(z:Int)(a:(List bL))(b:(List bO))(c:(List bA)):Option Bool:=
 af (gI (IntKind.i64.wrap w) (u0.an.length:Int)) fun h=>af (rO x y) fun m=>af (gI (IntKind.i64.wrap z) 20) fun n=>af (lp u0 m) fun i=>af (lp (⟨u0.bB,u0.bH,u0.aO,u0.ax,a,b,c⟩:aj) m) fun j=>af (nD u0) fun o=>af (nD (⟨u0.bB,u0.bH,u0.aO,u0.ax,a,b,c⟩:aj)) fun p=>af (jM u0 h) fun q=>af (jM (⟨u0.bB,u0.bH,u0.aO,u0.ax,a,b,c⟩:aj) (IntKind.i64.wrap ((IntKind.i64.wrap ((u0.an.length:Int) - 1)) - h))) fun r=>af (iY u0 h) fun f=>af (iY (⟨u0.bB,u0.bH,u0.aO,u0.ax,a,b,c⟩:aj) (IntKind.i64.wrap ((IntKind.i64.wrap ((u0.an.length:Int) - 1)) - h))) fun g=>cond ((i.2.2 != 0)) (some false) (cond ((j.2.2 != 0)) (some false) (cond ((o.2 != 0)) (some false) (cond ((p.2 != 0)) (some false) (cond (!((i.1.num==j.1.num)&&(i.1.den==j.1.den))) (some false) (cond (!(i.2.1==j.2.1)) (some false) (cond ((o.1 != p.1)) (some false) (cond ((q.2 != r.2)) (some false) (af (nu q.1 r.1) fun A=>cond (!A) (some false) (cond ((f.2.2 != g.2.2)) (some false) (cond (!((f.1.num==g.1.num)&&(f.1.den==g.1.den))) (some false) (cond (!((f.2.1.num==g.2.1.num)&&(f.2.1.den==g.2.1.den))) (some false) (af (jN u0) fun k=>af (jN (⟨u0.bB,u0.bH,u0.aO,u0.ax,a,b,c⟩:aj)) fun l=>af (iX u0) fun d=>af (iX (⟨u0.bB,u0.bH,u0.aO,u0.ax,a,b,c⟩:aj)) fun e=>af (jm u0 (IntKind.i64.wrap (1+n))) fun s=>af (jm (⟨u0.bB,u0.bH,u0.aO,u0.ax,a,b,c⟩:aj) (IntKind.i64.wrap (1+n))) fun t=>af (iW u0) fun u=>af (iW (⟨u0.bB,u0.bH,u0.aO,u0.ax,a,b,c⟩:aj)) fun v=>cond ((k.2.2==l.2.2)) (cond (((k.2.1.num==l.2.1.num)&&(k.2.1.den==l.2.1.den))) (cond ((d.2.2.2==e.2.2.2)) (cond (((d.1.num==e.1.num)&&(d.1.den==e.1.den))) (cond (((d.2.1.num==e.2.1.num)&&(d.2.1.den==e.2.1.den))) (cond ((d.2.2.1==e.2.2.1)) (cond ((s.2==t.2)) (af (nu s.1 t.1) fun B=>cond (B) (cond ((u.2==v.2)) (cond (((u.1.length:Int)==(v.1.length:Int))) (af (qf) fun C=>some C) (some false)) (some false)) (some false)) (some false)) (some false)) (some false)) (some false)) (some false)) (some false)) (some false)))))))))))))
def om (u0:aj)(st:(Int×(List bA))):Option (Fl (Int×(List bA)) Bool):=
 cond (decide (0<=st.1)) (af (bh u0.told st.1) fun a=>af (lu (IntKind.i64.wrap ((IntKind.i64.wrap ((u0.an.length:Int) - 1)) - a.aS)) a.bt) fun b=>af (cG st.2 ([b])) fun c=>some (.nx ((IntKind.i64.wrap (st.1 - 1)),c))) (some (.bk (st.1,st.2)))
def vO (u0:aj)(a:Int)(b:Int)(c:Int)(d:Int)(e:(List bL))(f:(List bO)):Option Bool:=
 af (aU (om u0) fu ((IntKind.i64.wrap ((u0.told.length:Int) - 1)),([]:List bA))) fun o=>aC o (fun g=>vN u0 a b c d e f g.2) (fun _ _=>none) (fun r=>some r)
def oo (u0:aj)(st:(Int×(List bO))):Option (Fl (Int×(List bO)) Bool):=
 cond (decide (0<=st.1)) (af (bh u0.an st.1) fun a=>af (cG st.2 ([a])) fun b=>some (.nx ((IntKind.i64.wrap (st.1 - 1)),b))) (some (.bk (st.1,st.2)))
def vP (u0:aj)(a:Int)(b:Int)(c:Int)(d:Int)(e:(List bL)):Option Bool:=
 af (aU (oo u0) fu ((IntKind.i64.wrap ((u0.an.length:Int) - 1)),([]:List bO))) fun o=>aC o (fun f=>vO u0 a b c d e f.2) (fun _ _=>none) (fun r=>some r)
def oq (u0:aj)(st:(Int×(List bL))):Option (Fl (Int×(List bL)) Bool):=
 cond (decide (0<=st.1)) (af (bh u0.props st.1) fun a=>af (cG st.2 ([a])) fun b=>some (.nx ((IntKind.i64.wrap (st.1 - 1)),b))) (some (.bk (st.1,st.2)))
def vQ (u0:aj)(a:Int)(b:Int)(c:Int)(d:Int):Option Bool:=
 af (pG u0) fun e=>cond (!e) (af (qf) fun f=>some f) (af (aU (oq u0) fu ((IntKind.i64.wrap ((u0.props.length:Int) - 1)),([]:List bL))) fun o=>aC o (fun g=>vP u0 a b c d g.2) (fun _ _=>none) (fun r=>some r))
end Go.Proofs.YtnaejeiofbpbkaaGreatDoor
end

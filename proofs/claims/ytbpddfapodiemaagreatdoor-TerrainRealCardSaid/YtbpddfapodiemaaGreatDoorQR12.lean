/- A part of the proof: QR12. -/
import Derived.Test.YtbpddfapodiemaaGreatDoorQR11
set_option linter.all false
section
namespace Go.Proofs.YtbpddfapodiemaaGreatDoor
open Go Go.Sep Go.Proofs
def ql (b:(List Int))(c:an)(d:Int)(e:(Int×Int))(f:(Int×ax×Int))(st:(Bool×Bool×Int)):Option (Fl (Bool×Bool×Int) Bool):=
 cond (decide (st.2.2<(b.length:Int))) (ai (bD c.aF st.2.2) fun g=>ai (bD b st.2.2) fun h=>ai (jM g.back h) fun i=>ai (nG c i) fun a=>cond ((a.2.2 != 0)) (some (.rt false)) (cond (a.2.1) (cond (decide (f.1<0)) (some (.rt false)) (ai (iq f.2.1 a.1) fun j=>cond (j) (some (.rt false)) (cond ((st.2.2==d)) (ai (lC e.1 a.2.1) fun k=>cond (!k) (some (.rt false)) (cond (st.2.1) (some (.nx (st.1,true,(IntKind.i64.wrap (st.2.2+1))))) (some (.nx (st.1,a.2.1,(IntKind.i64.wrap (st.2.2+1))))))) (cond (st.2.1) (some (.nx (st.1,true,(IntKind.i64.wrap (st.2.2+1))))) (some (.nx (st.1,a.2.1,(IntKind.i64.wrap (st.2.2+1))))))))) (cond ((st.2.2==d)) (ai (lC e.1 a.2.1) fun l=>cond (!l) (some (.rt false)) (cond (st.2.1) (some (.nx (st.1,true,(IntKind.i64.wrap (st.2.2+1))))) (some (.nx (st.1,a.2.1,(IntKind.i64.wrap (st.2.2+1))))))) (cond (st.2.1) (some (.nx (st.1,true,(IntKind.i64.wrap (st.2.2+1))))) (some (.nx (st.1,a.2.1,(IntKind.i64.wrap (st.2.2+1))))))))) (some (.bk (st.1,st.2.1,st.2.2)))
def sJ (a:(List Int))(b:an)(c:Int)(d:(Int×Int))(e:(Int×Int))(f:(Int×ax×Int)):Option Bool:=
 ai (bp (ql a b c d f) fu (false,false,0)) fun o=>aJ o (fun g=>ai (lC e.1 (!g.2.1)) fun h=>cond (h) (ai (qj) fun i=>some i) (some false)) (fun _ _=>none) (fun r=>some r)
def vM (u0:an)(m:(List Int))(n:Int):Option Bool:=
 ai (rP u0 m) fun c=>ai (rQ u0 c) fun a=>ai (iZ (IntKind.i64.wrap n) (a.aF.length:Int)) fun b=>ai (pQ a c) fun f=>ai (nL a b) fun g=>ai (nN a b) fun d=>ai (bD a.aF b) fun o=>ai (bD c b) fun h=>ai (jM o.back h) fun p=>ai (o3 a p) fun i=>ai (mB a b) fun j=>ai (lu a) fun k=>ai (lz a) fun e=>ai (kC a) fun l=>cond ((f.2 != 0)) (some false) (cond ((g.2 != 0)) (some false) (cond ((d.2.2 != 0)) (some false) (cond ((i.2 != 0)) (some false) (cond ((j.2 != 0)) (some false) (cond ((k.2 != 0)) (some false) (cond ((e.2.2 != 0)) (some false) (cond ((l.2 != 0)) (some false) (cond (!f.1) (some false) (ai (pG g.1 h) fun q=>cond (!q) (some false) (ai (pH i.1 d.1 d.2.1) fun r=>cond (!r) (some false) (cond (decide (0<(l.1.length:Int))) (some false) (cond (decide (e.2.1.den<1)) (some false) (sJ c a b j k e)))))))))))))
def vN (u0:an)(a:(List Int))(b:Int):Option Bool:=
 ai (pF u0) fun c=>cond (!c) (ai (qj) fun d=>some d) (vM u0 a b)
end Go.Proofs.YtbpddfapodiemaaGreatDoor
end

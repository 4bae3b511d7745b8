/- A part of the proof: QQ11. -/
import Derived.Test.YtnaejeiofbpbkaaGreatDoorQQ10
set_option linter.all false
section
namespace Go.Proofs.YtnaejeiofbpbkaaGreatDoor
open Go Go.Sep Go.Proofs
set_option maxRecDepth 100000
set_option maxHeartbeats 4000000
def z3 (a:(Int×Int×Int))(e:(aj×Int))(b:((List Int)×Int))(f:(aj×Int))(g:(aj×Int))(c:(Int×Int))(d:((List Int)×Int)):Option Bool:=
 cond ((a.2.2==0)) (cond ((e.2==0)) (cond ((b.2==0)) (cond ((f.2==9)) (cond ((g.2==0)) (cond ((c.2==0)) (cond ((d.2==0)) (cond ((a.1==0)) (cond ((a.2.1==2)) (af (nv b.1 ([11,12])) fun h=>cond (h) (cond ((c.1==2)) (af (nv d.1 ([1])) fun i=>some i) (some false)) (some false)) (some false)) (some false)) (some false)) (some false)) (some false)) (some false)) (some false)) (some false)) (some false)
def z4 (a:aj):Option Bool:=
 af (yq a) fun d=>af (lu 0 true) fun e=>af (uB a e) fun b=>af (jM b.1 0) fun f=>af (lu 1 true) fun g=>af (uB a g) fun h=>af (rJ 12 12) fun i=>af (yt a 0 i) fun c=>af (rA c.1) fun j=>af (lu 0 true) fun k=>af (rK a k) fun l=>af (lu 1 true) fun m=>af (rK l m) fun n=>af (lu 0 false) fun o=>af (rK n o) fun p=>af (iW p) fun q=>z3 d b f h c j q
def z5 (d:aj)(f:(Int×Int))(g:(Int×Int))(h:(Int×Int))(i:(Int×Int))(b:(Int×au×Int))(c:(Int×au×Int))(a:(au×au×Bool×Int)):Option Bool:=
 af (jm d 2) fun j=>af (z2 d 2) fun e=>cond ((f.2 != 0)) (some false) (cond ((g.2 != 0)) (some false) (cond ((h.2 != 0)) (some false) (cond ((i.2 != 0)) (some false) (cond ((b.2.2 != 0)) (some false) (cond ((c.2.2 != 0)) (some false) (cond ((a.2.2.2 != 0)) (some false) (cond ((j.2 != 0)) (some false) (cond ((e.2.2 != 0)) (some false) (cond ((f.1 != 0)) (some false) (cond ((g.1 != 2)) (some false) (cond ((h.1 != 0)) (some false) (cond ((i.1 != 1)) (some false) (cond ((b.1 != 0)) (some false) (af (gO 1 1) fun k=>cond (!((b.2.1.num==k.num)&&(b.2.1.den==k.den))) (some false) (cond ((c.1 != (-1))) (some false) (af (gO 0 1) fun l=>cond (!((c.2.1.num==l.num)&&(c.2.1.den==l.den))) (some false) (cond (!a.2.2.1) (some false) (af (gO 3 2) fun m=>cond (!((a.1.num==m.num)&&(a.1.den==m.den))) (some false) (af (gO 3 2) fun n=>cond (!((a.2.1.num==n.num)&&(a.2.1.den==n.den))) (some false) (af (nv j.1 ([11,12,13,14])) fun o=>cond (!o) (some false) (cond (!e.2.1) (some false) (af (nv e.1 ([11])) fun p=>cond (!p) (some false) (z4 d)))))))))))))))))))))))
def z6 (a:aj)(b:aj):Option Bool:=
 af (uz a 0) fun c=>af (uz a 1) fun d=>af (rA a) fun e=>af (rA b) fun f=>af (jN a) fun g=>af (jN b) fun h=>af (iX a) fun i=>z5 a c d e f g h i
def z7 (b:aj)(s:aj)(g:(au×Int))(c:(Int×au×Int))(h:(au×Int))(d:(au×Bool×Int))(e:(au×Bool×Int))(f:(au×Bool×Int)):Option Bool:=
 af (nD b) fun i=>af (jM b 0) fun j=>af (iY b 0) fun a=>cond ((g.2 != 0)) (some false) (cond ((c.2.2 != 0)) (some false) (cond ((h.2 != 0)) (some false) (cond ((d.2.2 != 0)) (some false) (cond ((e.2.2 != 0)) (some false) (cond ((f.2.2 != 0)) (some false) (cond ((i.2 != 0)) (some false) (cond ((j.2 != 0)) (some false) (cond ((a.2.2 != 0)) (some false) (af (gO 13 4) fun k=>cond (!((g.1.num==k.num)&&(g.1.den==k.den))) (some false) (cond ((c.1 != 2)) (some false) (af (gO 11 8) fun l=>cond (!((c.2.1.num==l.num)&&(c.2.1.den==l.den))) (some false) (af (gO 1 4) fun m=>cond (!((h.1.num==m.num)&&(h.1.den==m.den))) (some false) (af (gO 24 13) fun n=>cond (!((d.1.num==n.num)&&(d.1.den==n.den))) (some false) (cond (!d.2.1) (some false) (af (gO 2 13) fun o=>cond (!((e.1.num==o.num)&&(e.1.den==o.den))) (some false) (cond (e.2.1) (some false) (af (gO 1 1) fun p=>cond (!((f.1.num==p.num)&&(f.1.den==p.den))) (some false) (cond (!f.2.1) (some false) (cond ((i.1 != 3)) (some false) (af (nv j.1 ([10,11,12])) fun t=>cond (!t) (some false) (af (gO 1 4) fun q=>cond (!((a.1.num==q.num)&&(a.1.den==q.den))) (some false) (af (gO 1 1) fun r=>cond (!((a.2.1.num==r.num)&&(a.2.1.den==r.den))) (some false) (z6 b s)))))))))))))))))))))))
def qf :Option Bool:=
 af (yF) fun a=>af (yD a ([11]) 2) fun b=>af (xL a 5) fun c=>af (mm 2 11) fun d=>af (xM a d) fun e=>af (mm 2 10) fun f=>af (xN a f) fun g=>af (mm 2 12) fun h=>af (lp b h) fun i=>af (mm 2 12) fun j=>af (uf b j) fun k=>af (mm 2 12) fun l=>af (uf a l) fun m=>z7 a b c e g i k m
theorem z8:qf=some true:=by decide+kernel
end Go.Proofs.YtnaejeiofbpbkaaGreatDoor
end

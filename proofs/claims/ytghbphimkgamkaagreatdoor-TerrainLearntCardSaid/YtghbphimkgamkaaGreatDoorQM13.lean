/- A part of the proof of a row and its tied card: QM13. -/
import Derived.Test.YtghbphimkgamkaaGreatDoorQM12
set_option linter.all false
section
namespace Go.Proofs.YtghbphimkgamkaaGreatDoor
open Go Go.Sep Go.Proofs
set_option maxRecDepth 100000
set_option maxHeartbeats 4000000
def zw (a:(Int×Int×Int))(e:(aj×Int))(b:((List Int)×Int))(f:(aj×Int))(g:(aj×Int))(c:(Int×Int))(d:((List Int)×Int)):Option Bool:=
 cond ((a.2.2==0)) (cond ((e.2==0)) (cond ((b.2==0)) (cond ((f.2==9)) (cond ((g.2==0)) (cond ((c.2==0)) (cond ((d.2==0)) (cond ((a.1==0)) (cond ((a.2.1==2)) (ag (mU b.1 ([11,12])) fun h=>cond (h) (cond ((c.1==2)) (ag (mU d.1 ([1])) fun i=>some i) (some false)) (some false)) (some false)) (some false)) (some false)) (some false)) (some false)) (some false)) (some false)) (some false)) (some false)
def zx (a:aj):Option Bool:=
 ag (xH a) fun d=>ag (m7 0 true) fun e=>ag (lK a e) fun b=>ag (jX b.1 0) fun f=>ag (m7 1 true) fun g=>ag (lK a g) fun h=>ag (qF 12 12) fun i=>ag (mW a 0 i) fun c=>ag (jo c.1) fun j=>ag (m7 0 true) fun k=>ag (jr a k) fun l=>ag (m7 1 true) fun m=>ag (jr l m) fun n=>ag (m7 0 false) fun o=>ag (jr n o) fun p=>ag (xP p) fun q=>zw d b f h c j q
def zy (d:aj)(f:(Int×Int))(g:(Int×Int))(h:(Int×Int))(i:(Int×Int))(b:(Int×an×Int))(c:(Int×an×Int))(a:(an×an×Bool×Int)):Option Bool:=
 ag (zq d 2) fun j=>ag (zv d 2) fun e=>cond ((f.2 != 0)) (some false) (cond ((g.2 != 0)) (some false) (cond ((h.2 != 0)) (some false) (cond ((i.2 != 0)) (some false) (cond ((b.2.2 != 0)) (some false) (cond ((c.2.2 != 0)) (some false) (cond ((a.2.2.2 != 0)) (some false) (cond ((j.2 != 0)) (some false) (cond ((e.2.2 != 0)) (some false) (cond ((f.1 != 0)) (some false) (cond ((g.1 != 2)) (some false) (cond ((h.1 != 0)) (some false) (cond ((i.1 != 1)) (some false) (cond ((b.1 != 0)) (some false) (ag (gy 1 1) fun k=>cond (!((b.2.1.num==k.num)&&(b.2.1.den==k.den))) (some false) (cond ((c.1 != (-1))) (some false) (ag (gy 0 1) fun l=>cond (!((c.2.1.num==l.num)&&(c.2.1.den==l.den))) (some false) (cond (!a.2.2.1) (some false) (ag (gy 3 2) fun m=>cond (!((a.1.num==m.num)&&(a.1.den==m.den))) (some false) (ag (gy 3 2) fun n=>cond (!((a.2.1.num==n.num)&&(a.2.1.den==n.den))) (some false) (ag (mU j.1 ([11,12,13,14])) fun o=>cond (!o) (some false) (cond (!e.2.1) (some false) (ag (mU e.1 ([11])) fun p=>cond (!p) (some false) (zx d)))))))))))))))))))))))
def zz (a:aj)(b:aj):Option Bool:=
 ag (jW a 0) fun c=>ag (jW a 1) fun d=>ag (jo a) fun e=>ag (jo b) fun f=>ag (jq a) fun g=>ag (jq b) fun h=>ag (xR a) fun i=>zy a c d e f g h i
def zA (b:aj)(s:aj)(g:(an×Int))(c:(Int×an×Int))(h:(an×Int))(d:(an×Bool×Int))(e:(an×Bool×Int))(f:(an×Bool×Int)):Option Bool:=
 ag (mY b) fun i=>ag (jX b 0) fun j=>ag (jY b 0) fun a=>cond ((g.2 != 0)) (some false) (cond ((c.2.2 != 0)) (some false) (cond ((h.2 != 0)) (some false) (cond ((d.2.2 != 0)) (some false) (cond ((e.2.2 != 0)) (some false) (cond ((f.2.2 != 0)) (some false) (cond ((i.2 != 0)) (some false) (cond ((j.2 != 0)) (some false) (cond ((a.2.2 != 0)) (some false) (ag (gy 13 4) fun k=>cond (!((g.1.num==k.num)&&(g.1.den==k.den))) (some false) (cond ((c.1 != 2)) (some false) (ag (gy 11 8) fun l=>cond (!((c.2.1.num==l.num)&&(c.2.1.den==l.den))) (some false) (ag (gy 1 4) fun m=>cond (!((h.1.num==m.num)&&(h.1.den==m.den))) (some false) (ag (gy 24 13) fun n=>cond (!((d.1.num==n.num)&&(d.1.den==n.den))) (some false) (cond (!d.2.1) (some false) (ag (gy 2 13) fun o=>cond (!((e.1.num==o.num)&&(e.1.den==o.den))) (some false) (cond (e.2.1) (some false) (ag (gy 1 1) fun p=>cond (!((f.1.num==p.num)&&(f.1.den==p.den))) (some false) (cond (!f.2.1) (some false) (cond ((i.1 != 3)) (some false) (ag (mU j.1 ([10,11,12])) fun t=>cond (!t) (some false) (ag (gy 1 4) fun q=>cond (!((a.1.num==q.num)&&(a.1.den==q.den))) (some false) (ag (gy 1 1) fun r=>cond (!((a.2.1.num==r.num)&&(a.2.1.den==r.den))) (some false) (zz b s)))))))))))))))))))))))
def l5 :Option Bool:=
 ag (xZ) fun a=>ag (xY a ([11]) 2) fun b=>ag (wO a 5) fun c=>ag (m6 2 11) fun d=>ag (wP a d) fun e=>ag (m6 2 10) fun f=>ag (wQ a f) fun g=>ag (m6 2 12) fun h=>ag (wR b h) fun i=>ag (m6 2 12) fun j=>ag (s6 b j) fun k=>ag (m6 2 12) fun l=>ag (s6 a l) fun m=>zA a b c e g i k m
theorem pe:l5=some true:=by decide+kernel
end Go.Proofs.YtghbphimkgamkaaGreatDoor
end

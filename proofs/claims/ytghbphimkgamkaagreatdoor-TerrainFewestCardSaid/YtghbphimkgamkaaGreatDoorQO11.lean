/- A part of the proof of a row and its tied card: QO11. -/
import Derived.Test.YtghbphimkgamkaaGreatDoorQO10
set_option linter.all false
section
namespace Go.Proofs.YtghbphimkgamkaaGreatDoor
open Go Go.Sep Go.Proofs
set_option maxRecDepth 100000
set_option maxHeartbeats 4000000
def ze (a:(Int×Int×Int))(e:(ak×Int))(b:((List Int)×Int))(f:(ak×Int))(g:(ak×Int))(c:(Int×Int))(d:((List Int)×Int)):Option Bool:=
 cond ((a.2.2==0)) (cond ((e.2==0)) (cond ((b.2==0)) (cond ((f.2==9)) (cond ((g.2==0)) (cond ((c.2==0)) (cond ((d.2==0)) (cond ((a.1==0)) (cond ((a.2.1==2)) (ag (mK b.1 ([11,12])) fun h=>cond (h) (cond ((c.1==2)) (ag (mK d.1 ([1])) fun i=>some i) (some false)) (some false)) (some false)) (some false)) (some false)) (some false)) (some false)) (some false)) (some false)) (some false)) (some false)
def zf (a:ak):Option Bool:=
 ag (xz a) fun d=>ag (mT 0 true) fun e=>ag (tH a e) fun b=>ag (mO b.1 0) fun f=>ag (mT 1 true) fun g=>ag (tH a g) fun h=>ag (qN 12 12) fun i=>ag (xA a 0 i) fun c=>ag (kE c.1) fun j=>ag (mT 0 true) fun k=>ag (qO a k) fun l=>ag (mT 1 true) fun m=>ag (qO l m) fun n=>ag (mT 0 false) fun o=>ag (qO n o) fun p=>ag (xF p) fun q=>ze d b f h c j q
def zg (d:ak)(f:(Int×Int))(g:(Int×Int))(h:(Int×Int))(i:(Int×Int))(b:(Int×au×Int))(c:(Int×au×Int))(a:(au×au×Bool×Int)):Option Bool:=
 ag (za d 2) fun j=>ag (nu d 2) fun e=>cond ((f.2 != 0)) (some false) (cond ((g.2 != 0)) (some false) (cond ((h.2 != 0)) (some false) (cond ((i.2 != 0)) (some false) (cond ((b.2.2 != 0)) (some false) (cond ((c.2.2 != 0)) (some false) (cond ((a.2.2.2 != 0)) (some false) (cond ((j.2 != 0)) (some false) (cond ((e.2.2 != 0)) (some false) (cond ((f.1 != 0)) (some false) (cond ((g.1 != 2)) (some false) (cond ((h.1 != 0)) (some false) (cond ((i.1 != 1)) (some false) (cond ((b.1 != 0)) (some false) (ag (gx 1 1) fun k=>cond (!((b.2.1.num==k.num)&&(b.2.1.den==k.den))) (some false) (cond ((c.1 != (-1))) (some false) (ag (gx 0 1) fun l=>cond (!((c.2.1.num==l.num)&&(c.2.1.den==l.den))) (some false) (cond (!a.2.2.1) (some false) (ag (gx 3 2) fun m=>cond (!((a.1.num==m.num)&&(a.1.den==m.den))) (some false) (ag (gx 3 2) fun n=>cond (!((a.2.1.num==n.num)&&(a.2.1.den==n.den))) (some false) (ag (mK j.1 ([11,12,13,14])) fun o=>cond (!o) (some false) (cond (!e.2.1) (some false) (ag (mK e.1 ([11])) fun p=>cond (!p) (some false) (zf d)))))))))))))))))))))))
def zh (a:ak)(b:ak):Option Bool:=
 ag (tG a 0) fun c=>ag (tG a 1) fun d=>ag (kE a) fun e=>ag (kE b) fun f=>ag (tN a) fun g=>ag (tN b) fun h=>ag (xH a) fun i=>zg a c d e f g h i
def zi (b:ak)(s:ak)(g:(au×Int))(c:(Int×au×Int))(h:(au×Int))(d:(au×Bool×Int))(e:(au×Bool×Int))(f:(au×Bool×Int)):Option Bool:=
 ag (xM b) fun i=>ag (mO b 0) fun j=>ag (xL b 0) fun a=>cond ((g.2 != 0)) (some false) (cond ((c.2.2 != 0)) (some false) (cond ((h.2 != 0)) (some false) (cond ((d.2.2 != 0)) (some false) (cond ((e.2.2 != 0)) (some false) (cond ((f.2.2 != 0)) (some false) (cond ((i.2 != 0)) (some false) (cond ((j.2 != 0)) (some false) (cond ((a.2.2 != 0)) (some false) (ag (gx 13 4) fun k=>cond (!((g.1.num==k.num)&&(g.1.den==k.den))) (some false) (cond ((c.1 != 2)) (some false) (ag (gx 11 8) fun l=>cond (!((c.2.1.num==l.num)&&(c.2.1.den==l.den))) (some false) (ag (gx 1 4) fun m=>cond (!((h.1.num==m.num)&&(h.1.den==m.den))) (some false) (ag (gx 24 13) fun n=>cond (!((d.1.num==n.num)&&(d.1.den==n.den))) (some false) (cond (!d.2.1) (some false) (ag (gx 2 13) fun o=>cond (!((e.1.num==o.num)&&(e.1.den==o.den))) (some false) (cond (e.2.1) (some false) (ag (gx 1 1) fun p=>cond (!((f.1.num==p.num)&&(f.1.den==p.den))) (some false) (cond (!f.2.1) (some false) (cond ((i.1 != 3)) (some false) (ag (mK j.1 ([10,11,12])) fun t=>cond (!t) (some false) (ag (gx 1 4) fun q=>cond (!((a.1.num==q.num)&&(a.1.den==q.den))) (some false) (ag (gx 1 1) fun r=>cond (!((a.2.1.num==r.num)&&(a.2.1.den==r.den))) (some false) (zh b s)))))))))))))))))))))))
def kU :Option Bool:=
 ag (xO) fun a=>ag (oG a ([11]) 2) fun b=>ag (wJ a 5) fun c=>ag (kG 2 11) fun d=>ag (wK a d) fun e=>ag (kG 2 10) fun f=>ag (wL a f) fun g=>ag (kG 2 12) fun h=>ag (wM b h) fun i=>ag (kG 2 12) fun j=>ag (mM b j) fun k=>ag (kG 2 12) fun l=>ag (mM a l) fun m=>zi a b c e g i k m
theorem pE:kU=some true:=by decide+kernel
end Go.Proofs.YtghbphimkgamkaaGreatDoor
end

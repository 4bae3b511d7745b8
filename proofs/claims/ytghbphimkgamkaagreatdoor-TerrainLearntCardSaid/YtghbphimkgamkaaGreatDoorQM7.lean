/- A part of the proof of a row and its tied card: QM7. -/
import Derived.Test.YtghbphimkgamkaaGreatDoorQM6
set_option linter.all false
section
namespace Go.Proofs.YtghbphimkgamkaaGreatDoor
open Go Go.Sep Go.Proofs
set_option maxRecDepth 100000
set_option maxHeartbeats 4000000
def oI (u0:aj)(c:aj)(d:Int):Option Bool:=
 ag (mY u0) fun j=>ag (mY c) fun k=>ag (jX u0 d) fun l=>ag (jX c d) fun m=>ag (jY u0 d) fun e=>ag (jY c d) fun g=>cond ((j.2 != 0)) (some false) (cond ((k.2 != 0)) (some false) (cond ((l.2 != 0)) (some false) (cond ((m.2 != 0)) (some false) (cond ((e.2.2 != 0)) (some false) (cond ((g.2.2 != 0)) (some false) (ag (eT k.1 1 j.1) fun o=>cond (!o) (some false) (ag (qL m.1 l.1) fun p=>cond (!p) (some false) (ag (oG g.1 e.1 e.2.1) fun q=>cond (!q) (some false) (ag (oG g.2.1 e.1 e.2.1) fun r=>cond (!r) (some false) (ag (jW u0 d) fun h=>ag (jW c d) fun n=>ag (jo u0) fun f=>ag (jo c) fun i=>ag (jq u0) fun a=>ag (jq c) fun b=>cond ((h.2==0)) (cond ((n.2==0)) (cond ((f.2==0)) (cond ((i.2==0)) (cond ((a.2.2==0)) (cond ((b.2.2==0)) (cond ((h.1==0)) (cond ((f.1==0)) (cond (decide (0<a.2.1.den)) (cond (decide (0<b.2.1.den)) (ag (fN a.2.1 b.2.1) fun s=>some (!s)) (some false)) (some false)) (cond ((f.1==i.1)) (cond (decide (0<a.2.1.den)) (cond (decide (0<b.2.1.den)) (ag (fN a.2.1 b.2.1) fun t=>some (!t)) (some false)) (some false)) (some false))) (cond ((h.1==n.1)) (cond ((f.1==0)) (cond (decide (0<a.2.1.den)) (cond (decide (0<b.2.1.den)) (ag (fN a.2.1 b.2.1) fun u=>some (!u)) (some false)) (some false)) (cond ((f.1==i.1)) (cond (decide (0<a.2.1.den)) (cond (decide (0<b.2.1.den)) (ag (fN a.2.1 b.2.1) fun v=>some (!v)) (some false)) (some false)) (some false))) (some false))) (some false)) (some false)) (some false)) (some false)) (some false)) (some false)))))))))))
set_option maxHeartbeats 40000000 in
theorem BT {ro:Addr->Option Value}(a:de ro)(u0:aj){s1 o p q:Value}(b:bN ro u0 s1 o p q)(d:aj){s t u w:Value}(c:bN ro d s t u w)(e:Int){r:Bool}(K:r=true)(h:oI u0 d e=some r):aD Tryz.prog 29 #[bv u0 s1 o p q,bv d s t u w,.int .i64 e] ⟨ro,[]⟩ (fun v _=>v= .bool r):=by
 subst K;unfold oI at h;refine aD.go Tryz.func29 rfl Tryz.ntmps29 Tryz.results29 (by simp) fun main J hJ A L hd hs=>?_;have M:=hs 0;have k1:=hs 1;have N:=hs 2;clear hs;refine ah hJ ?_;try simp (maxSteps:=9^9) only[*,go_sem]
 refine ay fun dC dE O=>?_;try simp only[au] at O
 refine ay fun dT ea P=>?_;try simp only[au] at P
 try simp (maxSteps:=9^9) only[*,go_sem]
 refine ah hJ ?_;revert h;refine bS fun Q R h=>?_;try simp (maxSteps:=9^9) only[*,go_sem]
 refine aU hJ _ (xV (a.mono aN) u0 (b.mono aN) R) (aJ ?_);try simp (maxSteps:=9^9) only[*,go_sem]
 refine ah hJ ?_;revert h;refine bS fun S T h=>?_;try simp (maxSteps:=9^9) only[*,go_sem]
 refine aU hJ _ (xV (a.mono aN) d (c.mono aN) T) (aJ ?_);try simp (maxSteps:=9^9) only[*,go_sem]
 refine ah hJ ?_;revert h;refine bS fun U V h=>?_;try simp (maxSteps:=9^9) only[*,go_sem]
 refine b9 hJ _ (qD a u0 b e V) fun v eb k W l=>?_;obtain ⟨ec,rfl,m⟩:=l;replace b:=b.mono k;replace c:=c.mono k;replace a:=a.mono k;simp only[bu] at W;refine aJ ?_;try simp (maxSteps:=9^9) only[*,go_sem]
 refine ah hJ ?_;revert h;refine bS fun X Y h=>?_;try simp (maxSteps:=9^9) only[*,go_sem]
 refine b9 hJ _ (qD a d c e Y) fun v ed f Z l=>?_;obtain ⟨eh,rfl,ab⟩:=l;replace b:=b.mono f;replace c:=c.mono f;replace m:=m.mono f;replace a:=a.mono f;simp only[bu] at Z;refine aJ ?_;try simp (maxSteps:=9^9) only[*,go_sem]
 refine af hJ ?_;refine eY [2,3,4,6,7,8,9,10,11,12,13,14] fun et x y z=>?_;simp only[*,go_sem] at x y z;clear L hd M k1 N;refine ak hJ ?_;revert h;refine bS fun g ad h=>?_;try simp (maxSteps:=9^9) only[*,go_sem]
 refine aU hJ _ (xS (a.mono aN) u0 (b.mono aN) e ad) (aJ ?_);try simp (maxSteps:=9^9) only[*,go_sem]
 refine ay fun eu ev ae=>?_;try simp only[au] at ae
 refine ay fun eQ eS al=>?_;try simp only[au] at al
 try simp (maxSteps:=9^9) only[*,go_sem]
 refine ah hJ ?_;revert h;refine bS fun B ao h=>?_;try simp (maxSteps:=9^9) only[*,go_sem]
 refine aU hJ _ (xS (a.mono aN) d (c.mono aN) e ao) (aJ ?_);try simp (maxSteps:=9^9) only[*,go_sem]
 refine ay fun e0 e1 ar=>?_;try simp only[au] at ar
 refine ay fun e2 e3 a0=>?_;try simp only[au] at a0
 try simp (maxSteps:=9^9) only[*,go_sem]
 refine af hJ (ah hJ ?_);revert h;refine cS (fun a2 h=>?_) fun a2 h=>?_
 .cases h
 revert h;refine cS (fun a3 h=>?_) fun a3 h=>?_
 .cases h
 revert h;refine cS (fun a4 h=>?_) fun a4 h=>?_
 .cases h
 revert h;refine cS (fun a5 h=>?_) fun a5 h=>?_
 .cases h
 revert h;refine cS (fun a6 h=>?_) fun a6 h=>?_
 .cases h
 revert h;refine cS (fun a7 h=>?_) fun a7 h=>?_
 .cases h
 revert h;refine bS fun fa a8 h=>?_;try simp (maxSteps:=9^9) only[*,go_sem]
 refine aU hJ _ (hH S.1 1 Q.1 a8) (aJ ?_);revert h;refine cS (fun C h=>?_) fun C h=>?_
 .cases h
 rw[Bool.not_eq_false'] at C;revert h;refine bS fun fb a9 h=>?_;try simp (maxSteps:=9^9) only[*,go_sem]
 refine aU hJ _ (Iu X.1 (ab.mono aN) U.1 (m.mono aN) a9) (aJ ?_);revert h;refine cS (fun D h=>?_) fun D h=>?_
 .cases h
 rw[Bool.not_eq_false'] at D;revert h;refine bS fun fg ba h=>?_;try simp (maxSteps:=9^9) only[*,go_sem]
 refine aU hJ _ (BP B.1 g.1 g.2.1 ba) (aJ ?_);revert h;refine cS (fun E h=>?_) fun E h=>?_
 .cases h
 rw[Bool.not_eq_false'] at E;revert h;refine bS fun fi bb h=>?_;try simp (maxSteps:=9^9) only[*,go_sem]
 refine aU hJ _ (BP B.2.1 g.1 g.2.1 bb) (aJ ?_);try simp (maxSteps:=9^9) only[*,go_sem]
 revert h;refine cS (fun F h=>?_) fun F h=>?_
 .cases h
 refine b6 hJ ?_;rw[Bool.not_eq_false'] at F;refine aI hJ (af hJ ?_);refine eY [2,3,4,6,8,10,12,14,17,20] fun fo G H I=>?_;simp only[*,go_sem] at G H I;clear x y z;refine ak hJ ?_;revert h;refine bS fun fp bc h=>?_;try simp (maxSteps:=9^9) only[*,go_sem]
 refine aU hJ _ (tr (a.mono aN) u0 (b.mono aN) e bc) (aJ ?_);try simp (maxSteps:=9^9) only[*,go_sem]
 refine ah hJ ?_;revert h;refine bS fun fr bd h=>?_;try simp (maxSteps:=9^9) only[*,go_sem]
 refine aU hJ _ (tr (a.mono aN) d (c.mono aN) e bd) (aJ ?_);try simp (maxSteps:=9^9) only[*,go_sem]
 refine ah hJ ?_;revert h;refine bS fun fs bj h=>?_;try simp (maxSteps:=9^9) only[*,go_sem]
 refine aU hJ _ (ov (a.mono aN) u0 (b.mono aN) bj) (aJ ?_);try simp (maxSteps:=9^9) only[*,go_sem]
 refine ah hJ ?_;revert h;refine bS fun ft bk h=>?_;try simp (maxSteps:=9^9) only[*,go_sem]
 refine aU hJ _ (ov (a.mono aN) d (c.mono aN) bk) (aJ ?_);try simp (maxSteps:=9^9) only[*,go_sem]
 refine af hJ ?_;refine eY [3,4,6,8,10,12,14,17,20,21,22,23,24] fun fu bl bm bo=>?_;simp only[*,go_sem] at bl bm bo;clear G H I;refine ak hJ ?_;revert h;refine bS fun i br h=>?_;try simp (maxSteps:=9^9) only[*,go_sem]
 refine aU hJ _ (tw (a.mono aN) u0 (b.mono aN) br) (aJ ?_);try simp (maxSteps:=9^9) only[*,go_sem]
 refine ay fun fv fw bs=>?_;try simp only[au] at bs
 try simp (maxSteps:=9^9) only[*,go_sem]
 refine ah hJ ?_;revert h;refine bS fun j bz h=>?_;try simp (maxSteps:=9^9) only[*,go_sem]
 refine aU hJ _ (tw (a.mono aN) d (c.mono aN) bz) (aJ ?_);try simp (maxSteps:=9^9) only[*,go_sem]
 refine ay fun fx fz b0=>?_;try simp only[au] at b0
 try simp (maxSteps:=9^9) only[*,go_sem]
 refine ah hJ ?_;revert h;refine cS (fun b1 h=>?_) fun b1 h=>?_
 .revert h;refine cS (fun b2 h=>?_) fun b2 h=>?_
  .revert h;refine cS (fun b3 h=>?_) fun b3 h=>?_
   .revert h;refine cS (fun b4 h=>?_) fun b4 h=>?_
    .revert h;refine cS (fun b5 h=>?_) fun b5 h=>?_
     .revert h;refine cS (fun ca h=>?_) fun ca h=>?_
      .revert h;refine cS (fun cb h=>?_) fun cb h=>?_
       .revert h;refine cS (fun cd h=>?_) fun cd h=>?_
        .revert h;refine cS (fun cf h=>?_) fun cf h=>?_
         .revert h;refine cS (fun cl h=>?_) fun cl h=>?_
          .revert h;refine bS fun gg cu h=>?_;(try simp (maxSteps:=9^9) only[*,go_sem]);refine aU hJ _ (oC i.2.1 j.2.1 cu) (aJ ?_);(try simp (maxSteps:=9^9) only[*,go_sem]);have n:=Option.some.inj h;clear h;refine ax ?_;try simp only[*,go_sem]
          cases h
         cases h
        revert h;refine cS (fun cy h=>?_) fun cy h=>?_
        .revert h;refine cS (fun c0 h=>?_) fun c0 h=>?_
         .revert h;refine cS (fun da h=>?_) fun da h=>?_
          .revert h;refine bS fun gl db h=>?_;(try simp (maxSteps:=9^9) only[*,go_sem]);refine aU hJ _ (oC i.2.1 j.2.1 db) (aJ ?_);(try simp (maxSteps:=9^9) only[*,go_sem]);have n:=Option.some.inj h;clear h;refine ax ?_;try simp only[*,go_sem]
          cases h
         cases h
        cases h
       revert h;refine cS (fun dd h=>?_) fun dd h=>?_
       .revert h;refine cS (fun df h=>?_) fun df h=>?_
        .revert h;refine cS (fun dk h=>?_) fun dk h=>?_
         .revert h;refine cS (fun dp h=>?_) fun dp h=>?_
          .revert h;refine bS fun gn dq h=>?_;(try simp (maxSteps:=9^9) only[*,go_sem]);refine aU hJ _ (oC i.2.1 j.2.1 dq) (aJ ?_);(try simp (maxSteps:=9^9) only[*,go_sem]);have n:=Option.some.inj h;clear h;refine ax ?_;try simp only[*,go_sem]
          cases h
         cases h
        revert h;refine cS (fun ds h=>?_) fun ds h=>?_
        .revert h;refine cS (fun dt h=>?_) fun dt h=>?_
         .revert h;refine cS (fun du h=>?_) fun du h=>?_
          .revert h;refine bS fun gp dv h=>?_;(try simp (maxSteps:=9^9) only[*,go_sem]);refine aU hJ _ (oC i.2.1 j.2.1 dv) (aJ ?_);(try simp (maxSteps:=9^9) only[*,go_sem]);have n:=Option.some.inj h;clear h;refine ax ?_;try simp only[*,go_sem]
          cases h
         cases h
        cases h
       cases h
      cases h
     cases h
    cases h
   cases h
  cases h
 cases h
end Go.Proofs.YtghbphimkgamkaaGreatDoor
end

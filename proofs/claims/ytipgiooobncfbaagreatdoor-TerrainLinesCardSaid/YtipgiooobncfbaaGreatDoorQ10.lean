/- A part of the proof of a row and its tied card: part 10. -/
import Derived.Test.YtipgiooobncfbaaGreatDoorQ9
set_option linter.all false
section
namespace Go.Proofs.YtipgiooobncfbaaGreatDoor
open Go Go.Sep Go.Proofs
set_option maxRecDepth 100000
set_option maxHeartbeats 4000000
set_option linter.all false
def rC (u0:an)(l:Int)(a:aP):Option Bool:=
 ah (k6 u0) fun m=>cond (m) (ah (mX) fun n=>some n) (ah (me u0 l) fun h=>ah (ow u0 l) fun i=>ah (mg u0 a) fun b=>ah (oz u0 a) fun c=>ah (jh u0) fun o=>ah (jl u0) fun p=>cond ((o != p)) (some false) (cond (!((h.1.num==i.1.num)&&(h.1.den==i.1.den))) (some false) (cond ((h.2 != i.2)) (some false) (cond ((b.1 != c.1)) (some false) (cond (!((b.2.1.num==c.2.1.num)&&(b.2.1.den==c.2.1.den))) (some false) (cond ((b.2.2 != c.2.2)) (some false) (ah (mh u0 a) fun j=>ah (oA u0 a) fun k=>ah (mj u0 a) fun d=>ah (oB u0 a) fun e=>cond (!((j.1.num==k.1.num)&&(j.1.den==k.1.den))) (some false) (cond ((j.2 != k.2)) (some false) (cond (!((d.1.num==e.1.num)&&(d.1.den==e.1.den))) (some false) (cond (!(d.2.1==e.2.1)) (some false) (cond ((d.2.2 != e.2.2)) (some false) (ah (k4 u0 a) fun f=>ah (oC u0 a) fun g=>cond (((f.1.num==g.1.num)&&(f.1.den==g.1.den))) (cond ((f.2.1==g.2.1)) (cond ((f.2.2==g.2.2)) (ah (mX) fun q=>some q) (some false)) (some false)) (some false)))))))))))))
theorem GP {u:an}(h:k6 u=some false):u.aB.length<=20/\u.props.length<=20/\u.aR.length<=20/\u.told.length<=20:=by
 unfold k6 at h
 rcases gX h with ⟨a,h⟩|⟨a,h⟩
 ·cases h
 rcases gX h with ⟨b,h⟩|⟨b,h⟩
 ·cases h
 rcases gX h with ⟨c,h⟩|⟨c,h⟩
 ·cases h
 have d:=Option.some.inj h
 simp only[decide_eq_false_iff_not] at a b c d
 omega
theorem GQ (u:an):∃b,k6 u=some b:=by
 unfold k6
 cases decide (20<(u.aB.length:Int))<;>cases decide (20<(u.props.length:Int))<;>cases decide (20<(u.aR.length:Int))<;>exact ⟨_,rfl⟩
theorem GR (u:an)(p:Int)(s:aP):rC u p s=some true:=by
 unfold rC
 obtain ⟨b,hb⟩:=GQ u
 rw[hb]
 cases b with
 |true=>
  simp only[ah,cond_true,vW]
 |false=>
  obtain ⟨h0,h1,h2,h3⟩:=GP hb
  obtain ⟨g,a,d⟩:=D2 u h0 h1 h2 h3 p
  obtain ⟨e,e1,e2⟩:=Ej u h0 h1 h2 h3 s
  obtain ⟨k,k1,f⟩:=Ek u h0 h1 h2 h3 s
  obtain ⟨v,v1,v2⟩:=El u h0 h1 h2 h3 s
  obtain ⟨w,w1,w2⟩:=Em u h0 h1 h2 h3 s
  obtain ⟨h,c,c1⟩:=uS u h0 h1 h2 h3
  have c2:jl u=some c:=by rw[<-h,c1]
  simp only[ah,cond_false,a,d,e1,e2,k1,f,v1,v2,w1,w2,c1,c2,bne_self_eq_false,beq_self_eq_true,Bool.and_self,Bool.not_true,cond_true,vW]
end Go.Proofs.YtipgiooobncfbaaGreatDoor
end
section
namespace Go.Proofs.YtipgiooobncfbaaGreatDoor
open Go Go.Sep Go.Proofs
set_option maxRecDepth 100000
set_option maxHeartbeats 4000000
set_option linter.all false
theorem GU {ro:Addr->Option Value}(c:cP ro)(u0:an){s1 k l m:Value}(a:bx ro u0 s1 k l m)(j:Int)(b:aP){r:Bool}(h:rC u0 j b=some r):kL Tryz.prog 3 #[bv u0 s1 k l m,.int .i64 j,.agg #[.int .i64 b.back,.int .i64 b.high]] ⟨ro,[]⟩ (fun v _=>v= .bool r):=by
 unfold rC at h
 refine kL.go Tryz.func3 rfl Tryz.ntmps3 Tryz.results3 (by simp) (by kernel_rfl) fun Φ hJ A x hd hs=>?_
 have z:=hs 0
 have k1:=hs 1
 have B:=hs 2
 clear hs
 refine aa hJ (ag hJ ?_)
 simp only[*,go_sem]
 refine au fun cb cd C=>?_;try simp only[aj] at C
 refine au fun cf cl D=>?_;try simp only[aj] at D
 try simp only[*,go_sem]
 refine aa hJ (aa hJ (ag hJ ?_))
 revert h;refine bS fun cy E h=>?_
 simp only[*,go_sem]
 refine aJ hJ _ (DC u0 (a.mono aI) E) ?_
 try simp only[*,go_sem]
 revert h;refine jC hJ (by simp only[*,go_sem]) (fun G h=>?_) fun G h=>?_
 ·refine aa hJ (ag hJ ?_)
  revert h;refine bS fun c0 H h=>?_
  obtain rfl:=sI h
  simp only[*,go_sem]
  refine xq _ (Az c H) (aC ?_)
  try simp only[*,go_sem]
  refine av ?_
  simp only[*,go_sem]
 refine aE hJ (aa hJ ?_)
 refine ag hJ ?_
 revert h;refine bS fun da I h=>?_
 simp only[*,go_sem]
 refine aJ hJ _ (yp (c.mono aI) u0 (a.mono aI) j I) (aC ?_)
 try simp only[*,go_sem]
 refine au fun db dd J=>?_;try simp only[aj] at J
 try simp only[*,go_sem]
 refine aa hJ (ag hJ ?_)
 revert h;refine bS fun df K h=>?_
 simp only[*,go_sem]
 refine aJ hJ _ (DL u0 (a.mono aI) j K) (aC ?_)
 try simp only[*,go_sem]
 refine au fun dk dp L=>?_;try simp only[aj] at L
 try simp only[*,go_sem]
 refine aa hJ (ag hJ ?_)
 revert h;refine bS fun dq M h=>?_
 simp only[*,go_sem]
 refine aJ hJ _ (yq (c.mono aI) u0 (a.mono aI) b M) (aC ?_)
 try simp only[*,go_sem]
 refine au fun ds dt N=>?_;try simp only[aj] at N
 try simp only[*,go_sem]
 refine aa hJ ?_
 refine dU [3,5,6,7,8,9,10,11,12,13] fun du d f g=>?_
 simp only[*,go_sem] at d f g
 clear x hd z k1 B
 refine ag hJ ?_
 revert h;refine bS fun dv O h=>?_
 simp only[*,go_sem]
 refine aJ hJ _ (DN u0 (a.mono aI) b O) (aC ?_)
 try simp only[*,go_sem]
 refine au fun dC dE P=>?_;try simp only[aj] at P
 try simp only[*,go_sem]
 refine aa hJ (aa hJ ?_)
 refine dc hJ mixed 30 6 (by simp only[*,go_sem]) (by kernel_rfl) ?_
 revert h;refine bS fun dT Q h=>?_
 simp only[*,go_sem]
 refine ⟨_,bu hJ fun F i=>tA (c.mono (bM i)) u0 (a.e.mono (bM i)) (a.p.mono (bM i)) (a.y.mono (bM i)) (a.t.mono (bM i)) Q,b6 ?_⟩
 revert h;refine bS fun ea R h=>?_
 try simp only[*,go_sem]
 refine ⟨_,bu hJ fun F i=>uO u0 (a.mono (bM i)) R,b6 ?_⟩
 revert h;refine cS (fun S h=>?_) fun S h=>?_
 ·obtain rfl:=sI h
  try simp only[*,go_sem]
  refine bD hJ (by simp only[*,go_sem]) ?_
  refine aa hJ ?_
  refine dU [3,5,6,7,8,9,10,12,13,15,16] fun eb T U V=>?_
  simp only[*,go_sem] at T U V
  clear d f g
  refine ag hJ ?_
  simp only[*,go_sem]
  refine av ?_
  simp only[*,go_sem]
 revert h;refine cS (fun W h=>?_) fun W h=>?_
 ·obtain rfl:=sI h
  try simp only[*,go_sem]
  refine bD hJ (by simp only[*,go_sem]) ?_
  refine aa hJ ?_
  refine dU [3,5,6,7,8,9,10,12,13,15,16] fun ec X Y Z=>?_
  simp only[*,go_sem] at X Y Z
  clear d f g
  refine ag hJ ?_
  simp only[*,go_sem]
  refine av ?_
  simp only[*,go_sem]
 revert h;refine cS (fun ab h=>?_) fun ab h=>?_
 ·obtain rfl:=sI h
  try simp only[*,go_sem]
  refine bD hJ (by simp only[*,go_sem]) ?_
  refine aa hJ ?_
  refine dU [3,5,6,7,8,9,10,12,13,15,16] fun ed ad ae al=>?_
  simp only[*,go_sem] at ad ae al
  clear d f g
  refine ag hJ ?_
  simp only[*,go_sem]
  refine av ?_
  simp only[*,go_sem]
 revert h;refine cS (fun ao h=>?_) fun ao h=>?_
 ·obtain rfl:=sI h
  try simp only[*,go_sem]
  refine bD hJ (by simp only[*,go_sem]) ?_
  refine aa hJ ?_
  refine dU [3,5,6,7,8,9,10,12,13,15,16] fun eh ar a0 a2=>?_
  simp only[*,go_sem] at ar a0 a2
  clear d f g
  refine ag hJ ?_
  simp only[*,go_sem]
  refine av ?_
  simp only[*,go_sem]
 revert h;refine cS (fun a3 h=>?_) fun a3 h=>?_
 ·obtain rfl:=sI h
  try simp only[*,go_sem]
  refine bD hJ (by simp only[*,go_sem]) ?_
  refine aa hJ ?_
  refine dU [3,5,6,7,8,9,10,12,13,15,16] fun et a4 a5 a6=>?_
  simp only[*,go_sem] at a4 a5 a6
  clear d f g
  refine ag hJ ?_
  simp only[*,go_sem]
  refine av ?_
  simp only[*,go_sem]
 try simp only[*,go_sem]
 revert h;refine jC hJ (by simp only[*,go_sem]) (fun a7 h=>?_) fun a7 h=>?_
 ·obtain rfl:=sI h
  refine aa hJ ?_
  refine dU [3,5,6,7,8,9,10,12,13,15,16] fun ev a8 a9 ba=>?_
  simp only[*,go_sem] at a8 a9 ba
  clear d f g
  refine ag hJ ?_
  simp only[*,go_sem]
  refine av ?_
  simp only[*,go_sem]
 refine aE hJ (aa hJ ?_)
 refine dU [3,5,6,7,8,9,10,12,13,15,16] fun eQ n o q=>?_
 simp only[*,go_sem] at n o q
 clear d f g
 refine ag hJ ?_
 revert h;refine bS fun eS bb h=>?_
 simp only[*,go_sem]
 refine aJ hJ _ (yt (c.mono aI) u0 (a.mono aI) b bb) (aC ?_)
 try simp only[*,go_sem]
 refine aa hJ (ag hJ ?_)
 revert h;refine bS fun e0 bc h=>?_
 simp only[*,go_sem]
 refine aJ hJ _ (DO u0 (a.mono aI) b bc) (aC ?_)
 try simp only[*,go_sem]
 refine aa hJ (ag hJ ?_)
 revert h;refine bS fun e1 bd h=>?_
 simp only[*,go_sem]
 refine aJ hJ _ (yu (c.mono aI) u0 (a.mono aI) b bd) (aC ?_)
 try simp only[*,go_sem]
 refine aa hJ (ag hJ ?_)
 revert h;refine bS fun e2 bj h=>?_
 simp only[*,go_sem]
 refine aJ hJ _ (DQ u0 (a.mono aI) b bj) (aC ?_)
 try simp only[*,go_sem]
 refine aa hJ (aa hJ ?_)
 refine dU [3,5,6,7,8,9,10,12,13,15,16,17,18] fun e3 s u w=>?_
 simp only[*,go_sem] at s u w
 clear n o q
 refine ag hJ ?_
 revert h;refine cS (fun bk h=>?_) fun bk h=>?_
 ·obtain rfl:=sI h
  try simp only[*,go_sem]
  refine bD hJ (by simp only[*,go_sem]) ?_
  refine aa hJ (ag hJ ?_)
  simp only[*,go_sem]
  refine av ?_
  simp only[*,go_sem]
 revert h;refine cS (fun bl h=>?_) fun bl h=>?_
 ·obtain rfl:=sI h
  try simp only[*,go_sem]
  refine bD hJ (by simp only[*,go_sem]) ?_
  refine aa hJ (ag hJ ?_)
  simp only[*,go_sem]
  refine av ?_
  simp only[*,go_sem]
 revert h;refine cS (fun bm h=>?_) fun bm h=>?_
 ·obtain rfl:=sI h
  try simp only[*,go_sem]
  refine bD hJ (by simp only[*,go_sem]) ?_
  refine aa hJ (ag hJ ?_)
  simp only[*,go_sem]
  refine av ?_
  simp only[*,go_sem]
 revert h;refine cS (fun bo h=>?_) fun bo h=>?_
 ·obtain rfl:=sI h
  try simp only[*,go_sem]
  refine bD hJ (by simp only[*,go_sem]) ?_
  refine aa hJ (ag hJ ?_)
  simp only[*,go_sem]
  refine av ?_
  simp only[*,go_sem]
 try simp only[*,go_sem]
 revert h;refine jC hJ (by simp only[*,go_sem]) (fun br h=>?_) fun br h=>?_
 ·obtain rfl:=sI h
  refine aa hJ (ag hJ ?_)
  simp only[*,go_sem]
  refine av ?_
  simp only[*,go_sem]
 refine aE hJ (aa hJ ?_)
 refine ag hJ ?_
 revert h;refine bS fun fa bs h=>?_
 simp only[*,go_sem]
 refine aJ hJ _ (tB (c.mono aI) u0 (a.mono aI) b bs) (aC ?_)
 try simp only[*,go_sem]
 refine aa hJ ?_
 refine dU [3,5,6,7,8,9,10,17,18] fun fb bz b0 b1=>?_
 simp only[*,go_sem] at bz b0 b1
 clear s u w
 refine ag hJ ?_
 revert h;refine bS fun fg b2 h=>?_
 simp only[*,go_sem]
 refine aJ hJ _ (DR u0 (a.mono aI) b b2) (aC ?_)
 try simp only[*,go_sem]
 refine aa hJ (ag hJ ?_)
 revert h;refine cS (fun b3 h=>?_) fun b3 h=>?_
 ·revert h;refine cS (fun b4 h=>?_) fun b4 h=>?_
  ·revert h;refine cS (fun b5 h=>?_) fun b5 h=>?_
   ·revert h;refine bS fun fi ca h=>?_
    obtain rfl:=sI h
    try simp only[*,go_sem]
    refine xq _ (Az c ca) (aC ?_)
    try simp only[*,go_sem]
    refine av ?_
    simp only[*,go_sem]
   obtain rfl:=sI h
   try simp only[*,go_sem]
   refine av ?_
   simp only[*,go_sem]
  obtain rfl:=sI h
  try simp only[*,go_sem]
  refine av ?_
  simp only[*,go_sem]
 obtain rfl:=sI h
 try simp only[*,go_sem]
 refine av ?_
 simp only[*,go_sem]
end Go.Proofs.YtipgiooobncfbaaGreatDoor
end

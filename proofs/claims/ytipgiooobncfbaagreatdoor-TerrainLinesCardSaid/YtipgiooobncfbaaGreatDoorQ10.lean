/- A part of the proof of a row and its tied card: part 10. -/
import Derived.Test.YtipgiooobncfbaaGreatDoorQ9
set_option linter.all false
section
namespace Go.Proofs.YtipgiooobncfbaaGreatDoor
open Go Go.Sep Go.Proofs
set_option maxRecDepth 100000
set_option maxHeartbeats 4000000
theorem GV {ro:Addr->Option Value}(c:cP ro)(u0:an){s1 k l m:Value}(a:bx ro u0 s1 k l m)(j:Int)(b:aP){r:Bool}(h:rC u0 j b=some r):kL Tryz.prog 3 #[bv u0 s1 k l m,.int .i64 j,.agg #[.int .i64 b.back,.int .i64 b.high]] ⟨ro,[]⟩ (fun v _=>v= .bool r):=by
 unfold rC at h
 refine kL.go Tryz.func3 rfl Tryz.ntmps3 Tryz.results3 (by simp) (by kernel_rfl) fun Φ hJ A x hd hs=>?_
 have z:=hs 0
 have k1:=hs 1
 have B:=hs 2
 clear hs
 refine aa hJ (ag hJ ?_)
 simp only[*,go_sem]
 refine au fun cb cd C=>?_;try simp only[aj] at C
 refine au fun cf cl D=>?_;try simp only[aj] at D
 try simp only[*,go_sem]
 refine aa hJ (aa hJ (ag hJ ?_))
 revert h;refine bS fun cy E h=>?_
 simp only[*,go_sem]
 refine aJ hJ _ (DD u0 (a.mono aI) E) ?_
 try simp only[*,go_sem]
 revert h;refine jC hJ (by simp only[*,go_sem]) (fun G h=>?_) fun G h=>?_
 ·refine aa hJ (ag hJ ?_)
  revert h;refine bS fun c0 H h=>?_
  obtain rfl:=sI h
  simp only[*,go_sem]
  refine xu _ (AA c H) (aC ?_)
  try simp only[*,go_sem]
  refine av ?_
  simp only[*,go_sem]
 refine aE hJ (aa hJ ?_)
 refine ag hJ ?_
 revert h;refine bS fun da I h=>?_
 simp only[*,go_sem]
 refine aJ hJ _ (yq (c.mono aI) u0 (a.mono aI) j I) (aC ?_)
 try simp only[*,go_sem]
 refine au fun db dd J=>?_;try simp only[aj] at J
 try simp only[*,go_sem]
 refine aa hJ (ag hJ ?_)
 revert h;refine bS fun df K h=>?_
 simp only[*,go_sem]
 refine aJ hJ _ (DN u0 (a.mono aI) j K) (aC ?_)
 try simp only[*,go_sem]
 refine au fun dk dp L=>?_;try simp only[aj] at L
 try simp only[*,go_sem]
 refine aa hJ (ag hJ ?_)
 revert h;refine bS fun dq M h=>?_
 simp only[*,go_sem]
 refine aJ hJ _ (yt (c.mono aI) u0 (a.mono aI) b M) (aC ?_)
 try simp only[*,go_sem]
 refine au fun ds dt N=>?_;try simp only[aj] at N
 try simp only[*,go_sem]
 refine aa hJ ?_
 refine dU [3,5,6,7,8,9,10,11,12,13] fun du d f g=>?_
 simp only[*,go_sem] at d f g
 clear x hd z k1 B
 refine ag hJ ?_
 revert h;refine bS fun dv O h=>?_
 simp only[*,go_sem]
 refine aJ hJ _ (DO u0 (a.mono aI) b O) (aC ?_)
 try simp only[*,go_sem]
 refine au fun dC dE P=>?_;try simp only[aj] at P
 try simp only[*,go_sem]
 refine aa hJ (aa hJ ?_)
 refine dc hJ mixed 30 6 (by simp only[*,go_sem]) (by kernel_rfl) ?_
 revert h;refine bS fun dT Q h=>?_
 simp only[*,go_sem]
 refine ⟨_,bu hJ fun F i=>s5 (c.mono (bM i)) u0 (a.e.mono (bM i)) (a.p.mono (bM i)) (a.y.mono (bM i)) (a.t.mono (bM i)) Q,b6 ?_⟩
 revert h;refine bS fun ea R h=>?_
 try simp only[*,go_sem]
 refine ⟨_,bu hJ fun F i=>uO u0 (a.mono (bM i)) R,b6 ?_⟩
 revert h;refine cS (fun S h=>?_) fun S h=>?_
 ·obtain rfl:=sI h
  try simp only[*,go_sem]
  refine bD hJ (by simp only[*,go_sem]) ?_
  refine aa hJ ?_
  refine dU [3,5,6,7,8,9,10,12,13,15,16] fun eb T U V=>?_
  simp only[*,go_sem] at T U V
  clear d f g
  refine ag hJ ?_
  simp only[*,go_sem]
  refine av ?_
  simp only[*,go_sem]
 revert h;refine cS (fun W h=>?_) fun W h=>?_
 ·obtain rfl:=sI h
  try simp only[*,go_sem]
  refine bD hJ (by simp only[*,go_sem]) ?_
  refine aa hJ ?_
  refine dU [3,5,6,7,8,9,10,12,13,15,16] fun ec X Y Z=>?_
  simp only[*,go_sem] at X Y Z
  clear d f g
  refine ag hJ ?_
  simp only[*,go_sem]
  refine av ?_
  simp only[*,go_sem]
 revert h;refine cS (fun ab h=>?_) fun ab h=>?_
 ·obtain rfl:=sI h
  try simp only[*,go_sem]
  refine bD hJ (by simp only[*,go_sem]) ?_
  refine aa hJ ?_
  refine dU [3,5,6,7,8,9,10,12,13,15,16] fun ed ad ae al=>?_
  simp only[*,go_sem] at ad ae al
  clear d f g
  refine ag hJ ?_
  simp only[*,go_sem]
  refine av ?_
  simp only[*,go_sem]
 revert h;refine cS (fun ao h=>?_) fun ao h=>?_
 ·obtain rfl:=sI h
  try simp only[*,go_sem]
  refine bD hJ (by simp only[*,go_sem]) ?_
  refine aa hJ ?_
  refine dU [3,5,6,7,8,9,10,12,13,15,16] fun eh ar a0 a2=>?_
  simp only[*,go_sem] at ar a0 a2
  clear d f g
  refine ag hJ ?_
  simp only[*,go_sem]
  refine av ?_
  simp only[*,go_sem]
 revert h;refine cS (fun a3 h=>?_) fun a3 h=>?_
 ·obtain rfl:=sI h
  try simp only[*,go_sem]
  refine bD hJ (by simp only[*,go_sem]) ?_
  refine aa hJ ?_
  refine dU [3,5,6,7,8,9,10,12,13,15,16] fun et a4 a5 a6=>?_
  simp only[*,go_sem] at a4 a5 a6
  clear d f g
  refine ag hJ ?_
  simp only[*,go_sem]
  refine av ?_
  simp only[*,go_sem]
 try simp only[*,go_sem]
 revert h;refine jC hJ (by simp only[*,go_sem]) (fun a7 h=>?_) fun a7 h=>?_
 ·obtain rfl:=sI h
  refine aa hJ ?_
  refine dU [3,5,6,7,8,9,10,12,13,15,16] fun ev a8 a9 ba=>?_
  simp only[*,go_sem] at a8 a9 ba
  clear d f g
  refine ag hJ ?_
  simp only[*,go_sem]
  refine av ?_
  simp only[*,go_sem]
 refine aE hJ (aa hJ ?_)
 refine dU [3,5,6,7,8,9,10,12,13,15,16] fun eQ n o q=>?_
 simp only[*,go_sem] at n o q
 clear d f g
 refine ag hJ ?_
 revert h;refine bS fun eS bb h=>?_
 simp only[*,go_sem]
 refine aJ hJ _ (yu (c.mono aI) u0 (a.mono aI) b bb) (aC ?_)
 try simp only[*,go_sem]
 refine aa hJ (ag hJ ?_)
 revert h;refine bS fun e0 bc h=>?_
 simp only[*,go_sem]
 refine aJ hJ _ (DQ u0 (a.mono aI) b bc) (aC ?_)
 try simp only[*,go_sem]
 refine aa hJ (ag hJ ?_)
 revert h;refine bS fun e1 bd h=>?_
 simp only[*,go_sem]
 refine aJ hJ _ (yw (c.mono aI) u0 (a.mono aI) b bd) (aC ?_)
 try simp only[*,go_sem]
 refine aa hJ (ag hJ ?_)
 revert h;refine bS fun e2 bj h=>?_
 simp only[*,go_sem]
 refine aJ hJ _ (DR u0 (a.mono aI) b bj) (aC ?_)
 try simp only[*,go_sem]
 refine aa hJ (aa hJ ?_)
 refine dU [3,5,6,7,8,9,10,12,13,15,16,17,18] fun e3 s u w=>?_
 simp only[*,go_sem] at s u w
 clear n o q
 refine ag hJ ?_
 revert h;refine cS (fun bk h=>?_) fun bk h=>?_
 ·obtain rfl:=sI h
  try simp only[*,go_sem]
  refine bD hJ (by simp only[*,go_sem]) ?_
  refine aa hJ (ag hJ ?_)
  simp only[*,go_sem]
  refine av ?_
  simp only[*,go_sem]
 revert h;refine cS (fun bl h=>?_) fun bl h=>?_
 ·obtain rfl:=sI h
  try simp only[*,go_sem]
  refine bD hJ (by simp only[*,go_sem]) ?_
  refine aa hJ (ag hJ ?_)
  simp only[*,go_sem]
  refine av ?_
  simp only[*,go_sem]
 revert h;refine cS (fun bm h=>?_) fun bm h=>?_
 ·obtain rfl:=sI h
  try simp only[*,go_sem]
  refine bD hJ (by simp only[*,go_sem]) ?_
  refine aa hJ (ag hJ ?_)
  simp only[*,go_sem]
  refine av ?_
  simp only[*,go_sem]
 revert h;refine cS (fun bo h=>?_) fun bo h=>?_
 ·obtain rfl:=sI h
  try simp only[*,go_sem]
  refine bD hJ (by simp only[*,go_sem]) ?_
  refine aa hJ (ag hJ ?_)
  simp only[*,go_sem]
  refine av ?_
  simp only[*,go_sem]
 try simp only[*,go_sem]
 revert h;refine jC hJ (by simp only[*,go_sem]) (fun br h=>?_) fun br h=>?_
 ·obtain rfl:=sI h
  refine aa hJ (ag hJ ?_)
  simp only[*,go_sem]
  refine av ?_
  simp only[*,go_sem]
 refine aE hJ (aa hJ ?_)
 refine ag hJ ?_
 revert h;refine bS fun fa bs h=>?_
 simp only[*,go_sem]
 refine aJ hJ _ (tB (c.mono aI) u0 (a.mono aI) b bs) (aC ?_)
 try simp only[*,go_sem]
 refine aa hJ ?_
 refine dU [3,5,6,7,8,9,10,17,18] fun fb bz b0 b1=>?_
 simp only[*,go_sem] at bz b0 b1
 clear s u w
 refine ag hJ ?_
 revert h;refine bS fun fg b2 h=>?_
 simp only[*,go_sem]
 refine aJ hJ _ (DS u0 (a.mono aI) b b2) (aC ?_)
 try simp only[*,go_sem]
 refine aa hJ (ag hJ ?_)
 revert h;refine cS (fun b3 h=>?_) fun b3 h=>?_
 ·revert h;refine cS (fun b4 h=>?_) fun b4 h=>?_
  ·revert h;refine cS (fun b5 h=>?_) fun b5 h=>?_
   ·revert h;refine bS fun fi ca h=>?_
    obtain rfl:=sI h
    try simp only[*,go_sem]
    refine xu _ (AA c ca) (aC ?_)
    try simp only[*,go_sem]
    refine av ?_
    simp only[*,go_sem]
   obtain rfl:=sI h
   try simp only[*,go_sem]
   refine av ?_
   simp only[*,go_sem]
  obtain rfl:=sI h
  try simp only[*,go_sem]
  refine av ?_
  simp only[*,go_sem]
 obtain rfl:=sI h
 try simp only[*,go_sem]
 refine av ?_
 simp only[*,go_sem]
end Go.Proofs.YtipgiooobncfbaaGreatDoor
end

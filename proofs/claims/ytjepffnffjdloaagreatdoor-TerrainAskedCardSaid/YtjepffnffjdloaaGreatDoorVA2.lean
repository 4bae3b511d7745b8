/- A part of the proof of a row and its tied card: VA2. -/
import Derived.Test.YtjepffnffjdloaaGreatDoorQ10
import Derived.Test.YtjepffnffjdloaaGreatDoorVA1
set_option linter.all false
section
namespace Go.Proofs.YtjepffnffjdloaaGreatDoor
open Go Go.Sep Go.Proofs
set_option maxRecDepth 100000
set_option maxHeartbeats 4000000
def uL (u0:ak)(g:Int):Option Bool:=
 ah (kO u0) fun h=>cond (!h) (ah (eH) fun i=>some i) (cond (decide (3<=(u0.told.length:Int))) (ah (eH) fun j=>some j) (ah (mX u0) fun a=>ah (fy u0) fun c=>cond ((c.2 != 0)) (some false) (cond (!((a.2.2==0)==(decide (0<c.1)))) (some false) (cond ((a.2.2 != 0)) (cond ((a.2.2==9)) (cond ((a.1==0)) (cond ((a.2.1==0)) (ah (eH) fun k=>some k) (some false)) (some false)) (some false)) (ah (eO (IntKind.i64.wrap g) (u0.aE.length:Int)) fun d=>ah (nj u0 d) fun b=>cond (!b.2) (some false) (ah (dI a.1 (-1) (IntKind.i64.wrap ((u0.aE.length:Int) - 1))) fun l=>cond (!l) (some false) (cond (!((decide (a.1<0))==(a.2.1==c.1))) (some false) (cond (decide (c.1<a.2.1)) (some false) (cond (decide (b.1<a.2.1)) (some false) (cond ((b.1==a.2.1)) (cond (decide (0<=a.1)) (cond (decide (d<a.1)) (some false) (ah (nj u0 a.1) fun e=>cond (e.2) (cond (decide (a.1<0)) (ah (eH) fun m=>some m) (cond ((e.1==a.2.1)) (ah (eH) fun n=>some n) (some false))) (some false))) (cond (b.2) (cond (decide (a.1<0)) (ah (eH) fun o=>some o) (ah (eH) fun p=>some p)) (some false))) (cond (decide (0<=a.1)) (ah (nj u0 a.1) fun f=>cond (f.2) (cond (decide (a.1<0)) (ah (eH) fun q=>some q) (cond ((f.1==a.2.1)) (ah (eH) fun r=>some r) (some false))) (some false)) (cond (b.2) (cond (decide (a.1<0)) (ah (eH) fun s=>some s) (some false)) (some false)))))))))))))
set_option maxHeartbeats 40000000 in
set_option maxHeartbeats 40000000 in
theorem LO {u:ak}(t:bB)(a:u.told.length<=20):kL u t=some (wt u (u.told++[t])):=by
 unfold kL
 rw[iE (l:=([]:List bB)) (xs:=u.told) (by simp;omega),List.nil_append]
 simp only[ah,iE (l:=u.told) (xs:=[t]) (by simp;omega)]
 rfl
theorem LP {u:ak}(F:Fit u){t:bB}(ht:0<=t.aQ/\t.aQ<u.aE.length)(c:u.told.length<3):Fit (wt u (u.told++[t])):=
 ⟨F.aZ,F.bD,F.den,F.num,F.aj,F.dn,F.kS,F.props,F.prop,F.aE,F.aQ,by show (u.told++[t]).length<=3;simp;omega,fun i x a=>by
  have a:(u.told++[t])[i]?=some x:=a
  rcases List.mem_append.1 (List.mem_of_getElem? a) with m|m
  ·obtain ⟨j,b⟩:=List.mem_iff_getElem?.1 m
   exact F.m8 j x b
  ·rw[List.mem_singleton] at m
   subst m
   exact ht⟩
theorem DO {u:ak}(F:Fit u)(h:dM u=some 0){i:Nat}(hi:i<u.aE.length)(a:u.told.length<3)(b:Bool):fy (wt u (u.told++[⟨(i:Int),b⟩]))=some (((if b then gz u i else (bp u).length - gz u i:Nat):Int),0):=by
 have G:Fit (wt u (u.told++[⟨(i:Int),b⟩])):=LP F (t:=⟨(i:Int),b⟩) ⟨by simp,by simp;omega⟩ a
 rw[lW G (xW (show gV u=0 from xV h) G),IE]
theorem DQ {u:ak}(F:Fit u)(h:dM u=some 0){i:Nat}(hi:i<u.aE.length)(a:u.told.length<3):nj u (i:Int)=some (eg u i,true):=by
 have c:=DO F h hi a true
 have d:=DO F h hi a false
 simp only[if_true,Bool.false_eq_true,if_false] at c d
 unfold nj
 simp only[show ∀b,jO (i:Int) b=some ⟨(i:Int),b⟩ from fun _=>rfl,ah,LO _ (show u.told.length<=20 by omega),c,d]
 have f:gz u i<=(bp u).length:=List.countP_le_length
 have e:(if (gz u i:Int)<(((bp u).length - gz u i:Nat):Int) then (((bp u).length - gz u i:Nat):Int) else (gz u i:Int))=eg u i:=by
  unfold eg
  rw[ID,show (((bp u).length - gz u i:Nat):Int)=((bp u).length:Int) - gz u i by omega]
 simp only[beq_self_eq_true,cond_true]
 rw[e]
theorem LQ (u:ak)(a:Int)(l:0<=a/\a<=255):uL u a=some true:=by
 unfold uL
 rcases uG u with e|⟨e,L,h,F⟩
 ·simp only[e,ah,Bool.not_false,cond_true,gF]
 by_cases ht:u.told.length<3
 ·have r:=F.aE
  have d:=lW F h
  rcases I3 F h with ⟨hs,f⟩|⟨hs,st,f,A⟩
  ·have hn:(bp u).length=0:=by simpa using hs
   rw[hn] at d
   simp only[e,ah,Bool.not_true,cond_false,decide_eq_false (show ¬(3:Int)<=(u.told.length:Int) by omega),f,d]
   simp[gF]
  ·have hn:0<(bp u).length:=List.length_pos_iff.2 (by simpa using hs)
   obtain ⟨k1,m⟩:=nC (a:=a) (b:=u.aE.length) l.1 (by omega)
   have k:eO (IntKind.i64.wrap a) (u.aE.length:Int)=some (a.tmod u.aE.length):=by rw[bR (by omega)];exact nB (by omega)
   obtain ⟨i,hi⟩:∃i:Nat,a.tmod u.aE.length=(i:Int):=⟨(a.tmod u.aE.length).toNat,by omega⟩
   rw[hi] at k k1 m
   have g:i<u.aE.length:=by omega
   have lv:=DQ F h g ht
   have n:IntKind.i64.wrap ((u.aE.length:Int) - 1)=(u.aE.length:Int) - 1:=bR (by omega)
   simp only[e,ah,Bool.not_true,cond_false,decide_eq_false (show ¬(3:Int)<=(u.told.length:Int) by omega),f,d,bne_self_eq_false,beq_self_eq_true,decide_eq_true (show (0:Int)<((bp u).length:Int) by omega),k,lv,eu,n]
   rcases A.res with ⟨rfl,h1⟩|⟨j,o,rfl,h1,h2,h3⟩
   ·have p:=h1 i g
    simp only[lX (show (-1:Int)<= -1 by omega) (show (-1:Int)<=(u.aE.length:Int) - 1 by omega),Bool.not_true,cond_false,beq_self_eq_true,show decide ((-1:Int)<0)=true from rfl,show decide ((0:Int)<= -1)=false from rfl,cond_true,decide_eq_false (show ¬((bp u).length:Int)<((bp u).length:Int) by omega),decide_eq_false (show ¬eg u i<((bp u).length:Int) by omega),gF]
    cases (eg u i==((bp u).length:Int))<;>rfl
   ·have p:=h2 i g
    have q:=DQ F h o ht
    have z:((eg u j==((bp u).length:Int)))=false:=by rw[beq_eq_false_iff_ne];omega
    simp only[lX (show (-1:Int)<=(j:Int) by omega) (show (j:Int)<=(u.aE.length:Int) - 1 by omega),Bool.not_true,cond_false,beq_self_eq_true,decide_eq_false (show ¬(j:Int)<0 by omega),decide_eq_true (show (0:Int)<=(j:Int) by omega),cond_true,z,decide_eq_false (show ¬((bp u).length:Int)<eg u j by omega),decide_eq_false (show ¬eg u i<eg u j by omega),gF,q]
    cases c:(eg u i==eg u j) with
    |false=>rfl
    |true=>
     have c:eg u i=eg u j:=by simpa using c
     have:¬i<j:=fun x=>by have:=h3 i x;omega
     rw[decide_eq_false (show ¬(i:Int)<(j:Int) by omega)]
     rfl
 ·simp only[e,ah,Bool.not_true,cond_false,decide_eq_true (show (3:Int)<=(u.told.length:Int) by omega),cond_true,gF]
theorem LR {ro:Addr->Option Value}(a:cU ro)(u0:ak){s1 i j k:Value}(b:bI ro u0 s1 i j k)(l:Int){r:Bool}(s:r=true)(h:uL u0 l=some r):fY Tryz.prog 8 #[bv u0 s1 i j k,.int .u8 l] ⟨ro,[]⟩ (fun v _=>v= .bool r):=by
 obtain ⟨d3,c4,rfl,bs,bz,-⟩:=id b.e
 obtain ⟨d10,b0,rfl,b1,b2,-⟩:=id b.p
 obtain ⟨d17,b3,rfl,b4,b5,-⟩:=id b.y
 obtain ⟨d24,ca,rfl,cb,cd,-⟩:=id b.t
 subst s
 unfold uL at h
 refine fY.go Tryz.func8 rfl Tryz.ntmps8 Tryz.results8 (by simp) (by kernel_rfl) fun Φ hJ A u hd hs=>?_
 have w:=hs 0
 have k1:=hs 1
 clear hs
 refine aa hJ (ag hJ ?_)
 try simp (maxSteps:=10000000) only[*,go_sem]
 refine ax fun cf cl x=>?_;try simp only[au] at x
 try simp (maxSteps:=10000000) only[*,go_sem]
 refine aa hJ (aa hJ (ag hJ ?_))
 revert h;refine bS fun cy z h=>?_
 try simp (maxSteps:=10000000) only[*,go_sem]
 refine aM hJ _ (s9 u0 (b.mono aH) z) (aD ?_)
 revert h;refine cS (fun B h=>?_) fun B h=>?_
 ·try simp (maxSteps:=10000000) only[*,go_sem]
  refine bK hJ (by simp (maxSteps:=10000000) only[*,go_sem]) ?_
  refine aa hJ (ag hJ ?_)
  revert h;refine bS fun c0 C h=>?_
  obtain rfl:=sI h
  try simp (maxSteps:=10000000) only[*,go_sem]
  refine e6 _ (e9 a C) (aD ?_)
  try simp (maxSteps:=10000000) only[*,go_sem]
  refine ay ?_
  try simp only[*,go_sem]
 try simp (maxSteps:=10000000) only[*,go_sem]
 revert h;refine cS (fun m h=>?_) fun m h=>?_
 ·try simp only[Int.ofNat_lt] at m
  refine bK hJ (by simp (maxSteps:=10000000) only[*,go_sem]) ?_
  refine aa hJ (ag hJ ?_)
  revert h;refine bS fun da D h=>?_
  obtain rfl:=sI h
  try simp (maxSteps:=10000000) only[*,go_sem]
  refine e6 _ (e9 a D) (aD ?_)
  try simp (maxSteps:=10000000) only[*,go_sem]
  refine ay ?_
  try simp only[*,go_sem]
 refine bL hJ (by simp (maxSteps:=10000000) only[*,go_sem]) ?_
 refine aF hJ (aa hJ ?_)
 refine ag hJ ?_
 revert h;refine bS fun g E h=>?_
 try simp (maxSteps:=10000000) only[*,go_sem]
 refine aM hJ _ (Bc (a.mono aH) u0 (b.mono aH) E) (aD ?_)
 try simp (maxSteps:=10000000) only[*,go_sem]
 refine aa hJ (ag hJ ?_)
 revert h;refine bS fun db F h=>?_
 try simp (maxSteps:=10000000) only[*,go_sem]
 refine aM hJ _ (jN (a.mono aH) u0 (b.mono aH) F) (aD ?_)
 try simp (maxSteps:=10000000) only[*,go_sem]
 refine aa hJ (aa hJ (ag hJ ?_))
 revert h;refine cS (fun G h=>?_) fun G h=>?_
 ·cases h
 try simp (maxSteps:=10000000) only[*,go_sem]
 revert h;refine cS (fun H h=>?_) fun H h=>?_
 ·cases h
 refine bL hJ (by simp (maxSteps:=10000000) only[*,go_sem]) ?_
 refine aF hJ (aa hJ ?_)
 refine aa hJ ?_
 refine eC [1,2,4,5,6,7,8] fun dd c d f=>?_
 simp only[*,go_sem] at c d f
 clear u hd w k1
 refine ag hJ ?_
 try simp (maxSteps:=10000000) only[*,go_sem]
 revert h;refine cS (fun n h=>?_) fun n h=>?_
 ·try simp only[Int.ofNat_lt] at n
  refine bK hJ (by simp (maxSteps:=10000000) only[*,go_sem]) ?_
  refine aa hJ (ag hJ ?_)
  revert h;refine cS (fun I h=>?_) fun I h=>?_
  ·revert h;refine cS (fun J h=>?_) fun J h=>?_
   ·revert h;refine cS (fun K h=>?_) fun K h=>?_
    ·revert h;refine bS fun df L h=>?_
     obtain rfl:=sI h
     try simp (maxSteps:=10000000) only[*,go_sem]
     refine e6 _ (e9 a L) (aD ?_)
     try simp (maxSteps:=10000000) only[*,go_sem]
     refine ay ?_
     try simp only[*,go_sem]
    cases h
   cases h
  cases h
 refine bL hJ (by simp (maxSteps:=10000000) only[*,go_sem]) ?_
 refine aF hJ (aa hJ ?_)
 refine ag hJ ?_
 revert h;refine bS fun M o h=>?_
 obtain ⟨dk,dp⟩:=iY o
 clear o
 try simp (maxSteps:=10000000) only[*,go_sem]
 refine aa hJ (ag hJ ?_)
 revert h;refine bS fun dq N h=>?_
 try simp (maxSteps:=10000000) only[*,go_sem]
 refine aM hJ _ (yj (a.mono aH) u0 (b.mono aH) M N) (aD ?_)
 try simp (maxSteps:=10000000) only[*,go_sem]
 refine aa hJ (aa hJ (ag hJ ?_))
 revert h;refine cS (fun O h=>?_) fun O h=>?_
 ·cases h
 revert h;refine bS fun ds P h=>?_
 try simp (maxSteps:=10000000) only[*,go_sem]
 refine aM hJ _ (fR g.1 (-1) (IntKind.i64.wrap ((u0.aE.length:Int) - 1)) P) (aD ?_)
 revert h;refine cS (fun Q h=>?_) fun Q h=>?_
 ·cases h
 revert h;refine cS (fun R h=>?_) fun R h=>?_
 ·cases h
 revert h;refine cS (fun S h=>?_) fun S h=>?_
 ·cases h
 revert h;refine cS (fun T h=>?_) fun T h=>?_
 ·cases h
 revert h;refine cS (fun U h=>?_) fun U h=>?_
 ·revert h;refine cS (fun V h=>?_) fun V h=>?_
  ·try simp (maxSteps:=10000000) only[*,go_sem]
   revert h;refine cS (fun W h=>?_) fun W h=>?_
   ·cases h
   refine bL hJ (by simp (maxSteps:=10000000) only[*,go_sem]) ?_
   refine aF hJ (aa hJ ?_)
   refine aa hJ ?_
   refine eC [2,4,5,6,11,12] fun dt X Y Z=>?_
   simp only[*,go_sem] at X Y Z
   clear c d f
   refine ag hJ ?_
   try simp (maxSteps:=10000000) only[*,go_sem]
   refine bK hJ (by simp (maxSteps:=10000000) only[*,go_sem]) ?_
   refine ag hJ ?_
   revert h;refine bS fun du ab h=>?_
   try simp (maxSteps:=10000000) only[*,go_sem]
   refine aM hJ _ (yj (a.mono aH) u0 (b.mono aH) g.1 ab) (aD ?_)
   try simp (maxSteps:=10000000) only[*,go_sem]
   refine aa hJ (ag hJ ?_)
   revert h;refine cS (fun ad h=>?_) fun ad h=>?_
   ·revert h;refine cS (fun ae h=>?_) fun ae h=>?_
    ·revert h;refine bS fun dv al h=>?_
     obtain rfl:=sI h
     try simp (maxSteps:=10000000) only[*,go_sem]
     refine e6 _ (e9 a al) (aD ?_)
     try simp (maxSteps:=10000000) only[*,go_sem]
     refine ay ?_
     try simp only[*,go_sem]
    revert h;refine cS (fun ao h=>?_) fun ao h=>?_
    ·revert h;refine bS fun dC ar h=>?_
     obtain rfl:=sI h
     try simp (maxSteps:=10000000) only[*,go_sem]
     refine e6 _ (e9 a ar) (aD ?_)
     try simp (maxSteps:=10000000) only[*,go_sem]
     refine ay ?_
     try simp only[*,go_sem]
    cases h
   cases h
  try simp (maxSteps:=10000000) only[*,go_sem]
  refine bL hJ (by simp (maxSteps:=10000000) only[*,go_sem]) ?_
  refine aF hJ (aa hJ ?_)
  refine aa hJ ?_
  refine eC [2,4,5,6,11,12] fun dE a0 a2 a3=>?_
  simp only[*,go_sem] at a0 a2 a3
  clear c d f
  refine ag hJ ?_
  try simp (maxSteps:=10000000) only[*,go_sem]
  refine bL hJ (by simp (maxSteps:=10000000) only[*,go_sem]) ?_
  refine aF hJ (aa hJ ?_)
  refine ag hJ ?_
  revert h;refine cS (fun a4 h=>?_) fun a4 h=>?_
  ·revert h;refine cS (fun a5 h=>?_) fun a5 h=>?_
   ·revert h;refine bS fun dT a6 h=>?_
    obtain rfl:=sI h
    try simp (maxSteps:=10000000) only[*,go_sem]
    refine e6 _ (e9 a a6) (aD ?_)
    try simp (maxSteps:=10000000) only[*,go_sem]
    refine ay ?_
    try simp only[*,go_sem]
   revert h;refine bS fun ea a7 h=>?_
   obtain rfl:=sI h
   try simp (maxSteps:=10000000) only[*,go_sem]
   refine e6 _ (e9 a a7) (aD ?_)
   try simp (maxSteps:=10000000) only[*,go_sem]
   refine ay ?_
   try simp only[*,go_sem]
  cases h
 try simp (maxSteps:=10000000) only[*,go_sem]
 refine bL hJ (by simp (maxSteps:=10000000) only[*,go_sem]) ?_
 refine aF hJ (aa hJ ?_)
 refine aa hJ ?_
 refine eC [2,4,5,6,11,12] fun eb a8 a9 ba=>?_
 simp only[*,go_sem] at a8 a9 ba
 clear c d f
 refine ag hJ ?_
 try simp (maxSteps:=10000000) only[*,go_sem]
 revert h;refine cS (fun q h=>?_) fun q h=>?_
 ·try simp only[Int.ofNat_lt] at q
  refine bK hJ (by simp (maxSteps:=10000000) only[*,go_sem]) ?_
  refine ag hJ ?_
  revert h;refine bS fun ec bb h=>?_
  try simp (maxSteps:=10000000) only[*,go_sem]
  refine aM hJ _ (yj (a.mono aH) u0 (b.mono aH) g.1 bb) (aD ?_)
  try simp (maxSteps:=10000000) only[*,go_sem]
  refine aa hJ (ag hJ ?_)
  revert h;refine cS (fun bc h=>?_) fun bc h=>?_
  ·revert h;refine cS (fun bd h=>?_) fun bd h=>?_
   ·revert h;refine bS fun ed bj h=>?_
    obtain rfl:=sI h
    try simp (maxSteps:=10000000) only[*,go_sem]
    refine e6 _ (e9 a bj) (aD ?_)
    try simp (maxSteps:=10000000) only[*,go_sem]
    refine ay ?_
    try simp only[*,go_sem]
   revert h;refine cS (fun bk h=>?_) fun bk h=>?_
   ·revert h;refine bS fun eh bl h=>?_
    obtain rfl:=sI h
    try simp (maxSteps:=10000000) only[*,go_sem]
    refine e6 _ (e9 a bl) (aD ?_)
    try simp (maxSteps:=10000000) only[*,go_sem]
    refine ay ?_
    try simp only[*,go_sem]
   cases h
  cases h
 refine bL hJ (by simp (maxSteps:=10000000) only[*,go_sem]) ?_
 refine aF hJ (aa hJ ?_)
 refine ag hJ ?_
 revert h;refine cS (fun bm h=>?_) fun bm h=>?_
 ·revert h;refine cS (fun bo h=>?_) fun bo h=>?_
  ·revert h;refine bS fun et br h=>?_
   obtain rfl:=sI h
   try simp (maxSteps:=10000000) only[*,go_sem]
   refine e6 _ (e9 a br) (aD ?_)
   try simp (maxSteps:=10000000) only[*,go_sem]
   refine ay ?_
   try simp only[*,go_sem]
  cases h
 cases h
end Go.Proofs.YtjepffnffjdloaaGreatDoor
end

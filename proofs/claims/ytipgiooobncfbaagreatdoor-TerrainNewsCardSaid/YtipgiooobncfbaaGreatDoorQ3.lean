/- A part of the proof of a row and its tied card: part 3. -/
import Derived.Test.YtipgiooobncfbaaGreatDoorQ2
set_option linter.all false
section
namespace Go.Proofs.YtipgiooobncfbaaGreatDoor
open Go Go.Sep Go.Proofs
set_option maxRecDepth 100000
set_option maxHeartbeats 4000000
def ff (u0:Int)(a:Int)(b:Int):Option Bool:=
 cond (decide (a<=u0)) (some (decide (u0<=b))) (some false)
theorem fX {ro:Addr->Option Value}(u0:Int)(a:Int)(b:Int){r:Bool}(h:ff u0 a b=some r):aA Tryz.prog 122 #[.int .i64 u0,.int .i64 a,.int .i64 b] ⟨ro,[]⟩ (fun v _=>v= .bool r):=by
 unfold ff at h
 refine aA.go Tryz.func122 rfl Tryz.ntmps122 Tryz.results122 (by simp) fun main J hJ A d hd hs=>?_
 have e:=hs 0
 have k1:=hs 1
 have f:=hs 2
 clear hs
 refine aa hJ (af hJ ?_)
 simp only[*,go_sem]
 refine aa hJ (af hJ ?_)
 revert h;refine cS (fun c h=>?_) fun c h=>?_
 ·obtain rfl:=sI h
  try simp only[*,go_sem]
  refine av ?_
  simp only[*,go_sem]
 obtain rfl:=sI h
 try simp only[*,go_sem]
 refine av ?_
 simp only[*,go_sem]
def fF (u0:Int):Option au:=
 some (⟨u0,1⟩:au)
theorem iW {ro:Addr->Option Value}(u0:Int){r:au}(h:fF u0=some r):aA Tryz.prog 119 #[.int .i64 u0] ⟨ro,[]⟩ (fun v _=>v=r.v):=by
 unfold fF at h
 obtain rfl:=sI h
 refine aA.go Tryz.func119 rfl Tryz.ntmps119 Tryz.results119 (by simp) fun main J hJ A a hd hs=>?_
 have b:=hs 0
 clear hs
 refine aa hJ (af hJ ?_)
 simp only[*,go_sem]
 refine an fun c r1 n1=>?_;try simp only[ak] at n1
 try simp only[*,go_sem]
 refine aa hJ (af hJ ?_)
 simp only[*,go_sem]
 refine av ?_
 simp only[*,go_sem]
def ew (u0:au)(a:au):Option Bool:=
 some (decide ((IntKind.i64.wrap (u0.num*a.den))<(IntKind.i64.wrap (a.num*u0.den))))
theorem iE {ro:Addr->Option Value}(u0:au)(a:au){r:Bool}(h:ew u0 a=some r):aA Tryz.prog 78 #[.agg #[.int .i64 u0.num,.int .i64 u0.den],.agg #[.int .i64 a.num,.int .i64 a.den]] ⟨ro,[]⟩ (fun v _=>v= .bool r):=by
 unfold ew at h
 obtain rfl:=sI h
 refine aA.go Tryz.func78 rfl Tryz.ntmps78 Tryz.results78 (by simp) fun main J hJ A b hd hs=>?_
 have c:=hs 0
 have k1:=hs 1
 clear hs
 refine aa hJ (af hJ ?_)
 simp only[*,go_sem]
 refine an fun d r1 n1=>?_;try simp only[ak] at n1
 refine an fun b2 r2 n2=>?_;try simp only[ak] at n2
 try simp only[*,go_sem]
 refine aa hJ (af hJ ?_)
 simp only[*,go_sem]
 refine av ?_
 simp only[*,go_sem]
def o5 (u0:cr)(a:Int)(b:Int):Option Bool:=
 cond (decide (a<=u0.low)) (cond (decide (u0.low<=u0.high)) (some (decide (u0.high<=b))) (some false)) (some false)
theorem zp {ro:Addr->Option Value}(u0:cr)(a:Int)(b:Int){r:Bool}(h:o5 u0 a b=some r):aA Tryz.prog 106 #[.agg #[.int .i64 u0.low,.int .i64 u0.high],.int .i64 a,.int .i64 b] ⟨ro,[]⟩ (fun v _=>v= .bool r):=by
 unfold o5 at h
 refine aA.go Tryz.func106 rfl Tryz.ntmps106 Tryz.results106 (by simp) fun main J hJ A e hd hs=>?_
 have f:=hs 0
 have k1:=hs 1
 have g:=hs 2
 clear hs
 refine aa hJ (af hJ ?_)
 simp only[*,go_sem]
 refine an fun i r1 n1=>?_;try simp only[ak] at n1
 try simp only[*,go_sem]
 refine aa hJ (af hJ ?_)
 revert h;refine cS (fun c h=>?_) fun c h=>?_
 ·revert h;refine cS (fun d h=>?_) fun d h=>?_
  ·obtain rfl:=sI h
   try simp only[*,go_sem]
   refine av ?_
   simp only[*,go_sem]
  obtain rfl:=sI h
  try simp only[*,go_sem]
  refine av ?_
  simp only[*,go_sem]
 obtain rfl:=sI h
 try simp only[*,go_sem]
 refine av ?_
 simp only[*,go_sem]
def iF (u0:bA)(a:bA):Option Bool:=
 ah (ew u0.high a.high) fun b=>some b
theorem q7 {ro:Addr->Option Value}(u0:bA)(a:bA){r:Bool}(h:iF u0 a=some r):aA Tryz.prog 67 #[.agg #[.int .i64 u0.spot.aK,.int .i64 u0.spot.high.num,.int .i64 u0.spot.high.den,.int .i64 u0.at_,.int .i64 u0.high.num,.int .i64 u0.high.den],.agg #[.int .i64 a.spot.aK,.int .i64 a.spot.high.num,.int .i64 a.spot.high.den,.int .i64 a.at_,.int .i64 a.high.num,.int .i64 a.high.den]] ⟨ro,[]⟩ (fun v _=>v= .bool r):=by
 unfold iF at h
 refine aA.go Tryz.func67 rfl Tryz.ntmps67 Tryz.results67 (by simp) fun main J hJ A c hd hs=>?_
 have d:=hs 0
 have k1:=hs 1
 clear hs
 refine aa hJ (af hJ ?_)
 simp only[*,go_sem]
 refine an fun e r1 n1=>?_;try simp only[ak] at n1
 refine an fun b2 r2 n2=>?_;try simp only[ak] at n2
 try simp only[*,go_sem]
 refine aa hJ (af hJ ?_)
 revert h;refine bS fun f b h=>?_
 obtain rfl:=sI h
 simp only[*,go_sem]
 refine aO hJ _ (iE u0.high a.high b) (aE ?_)
 try simp only[*,go_sem]
 refine av ?_
 simp only[*,go_sem]
def gz (u0:Int)(b:aj):Option Int:=
 ah (ff u0 1 20) fun a=>cond (!a) (some 1) (some 0)
theorem uN {ro:Addr->Option Value}(u0:Int)(b:aj){s1 c d f:Value}(a:bt ro b s1 c d f){r:Int}(h:gz u0 b=some r):aA Tryz.prog 84 #[.int .i64 u0,bv b s1 c d f] ⟨ro,[]⟩ (fun v _=>v= .int .i64 r):=by
 obtain ⟨d3,c4,rfl,k,l,-⟩:=id a.e
 obtain ⟨d10,m,rfl,n,o,-⟩:=id a.p
 obtain ⟨d17,q,rfl,s,u,-⟩:=id a.y
 obtain ⟨d24,w,rfl,x,z,-⟩:=id a.t
 unfold gz at h
 refine aA.go Tryz.func84 rfl Tryz.ntmps84 Tryz.results84 (by simp) fun main J hJ A B hd hs=>?_
 have C:=hs 0
 have k1:=hs 1
 clear hs
 refine aa hJ (af hJ ?_)
 simp only[*,go_sem]
 refine an fun D E g=>?_;try simp only[ak] at g
 try simp only[*,go_sem]
 refine aa hJ (aa hJ (af hJ ?_))
 revert h;refine bS fun F i h=>?_
 simp only[*,go_sem]
 refine aO hJ _ (fX u0 1 20 i) (aE ?_)
 try simp only[*,go_sem]
 revert h;refine jC hJ (by simp only[*,go_sem]) (fun j h=>?_) fun j h=>?_
 ·obtain rfl:=sI h
  refine aa hJ (af hJ ?_)
  simp only[*,go_sem]
  refine av ?_
  simp only[*,go_sem]
 obtain rfl:=sI h
 refine aD hJ (aa hJ ?_)
 refine af hJ ?_
 simp only[*,go_sem]
 refine av ?_
 simp only[*,go_sem]
def eT (u0:bf)(c:aj):Option Int:=
 ah (ff u0.back 1 20) fun a=>cond (!a) (some 1) (ah (ff u0.high 0 60) fun b=>cond (!b) (some 1) (some 0))
theorem q8 {ro:Addr->Option Value}(u0:bf)(b:aj){s1 c d f:Value}(a:bt ro b s1 c d f){r:Int}(h:eT u0 b=some r):aA Tryz.prog 55 #[.agg #[.int .i64 u0.back,.int .i64 u0.high],bv b s1 c d f] ⟨ro,[]⟩ (fun v _=>v= .int .i64 r):=by
 obtain ⟨d3,c4,rfl,n,o,-⟩:=id a.e
 obtain ⟨d10,q,rfl,s,u,-⟩:=id a.p
 obtain ⟨d17,w,rfl,x,z,-⟩:=id a.y
 obtain ⟨d24,B,rfl,C,D,-⟩:=id a.t
 unfold eT at h
 refine aA.go Tryz.func55 rfl Tryz.ntmps55 Tryz.results55 (by simp) fun main J hJ A E hd hs=>?_
 have F:=hs 0
 have k1:=hs 1
 clear hs
 refine aa hJ (af hJ ?_)
 simp only[*,go_sem]
 refine an fun G H g=>?_;try simp only[ak] at g
 refine an fun I K i=>?_;try simp only[ak] at i
 try simp only[*,go_sem]
 refine aa hJ (aa hJ (af hJ ?_))
 revert h;refine bS fun L j h=>?_
 simp only[*,go_sem]
 refine aO hJ _ (fX u0.back 1 20 j) (aE ?_)
 revert h;refine cS (fun k h=>?_) fun k h=>?_
 ·obtain rfl:=sI h
  try simp only[*,go_sem]
  refine bD hJ (by simp only[*,go_sem]) ?_
  refine aa hJ (af hJ ?_)
  simp only[*,go_sem]
  refine av ?_
  simp only[*,go_sem]
 revert h;refine bS fun M l h=>?_
 try simp only[*,go_sem]
 refine aO hJ _ (fX u0.high 0 60 l) (aE ?_)
 try simp only[*,go_sem]
 revert h;refine jC hJ (by simp only[*,go_sem]) (fun m h=>?_) fun m h=>?_
 ·obtain rfl:=sI h
  refine aa hJ (af hJ ?_)
  simp only[*,go_sem]
  refine av ?_
  simp only[*,go_sem]
 obtain rfl:=sI h
 refine aD hJ (aa hJ ?_)
 refine af hJ ?_
 simp only[*,go_sem]
 refine av ?_
 simp only[*,go_sem]
def mV (u0:aj)(a:Int):Option Bool:=
 ah (ff a 0 (IntKind.i64.wrap ((u0.aC.length:Int) - 1))) fun b=>some b
theorem zq {ro:Addr->Option Value}(u0:aj){s1 c d f:Value}(a:bt ro u0 s1 c d f)(b:Int){r:Bool}(h:mV u0 b=some r):aA Tryz.prog 144 #[bv u0 s1 c d f,.int .i64 b] ⟨ro,[]⟩ (fun v _=>v= .bool r):=by
 obtain ⟨d3,c4,rfl,j,k,-⟩:=id a.e
 obtain ⟨d10,l,rfl,m,n,-⟩:=id a.p
 obtain ⟨d17,o,rfl,q,s,-⟩:=id a.y
 obtain ⟨d24,u,rfl,w,x,-⟩:=id a.t
 unfold mV at h
 refine aA.go Tryz.func144 rfl Tryz.ntmps144 Tryz.results144 (by simp) fun main J hJ A z hd hs=>?_
 have B:=hs 0
 have k1:=hs 1
 clear hs
 refine aa hJ (af hJ ?_)
 simp only[*,go_sem]
 refine an fun C D g=>?_;try simp only[ak] at g
 try simp only[*,go_sem]
 refine aa hJ (af hJ ?_)
 revert h;refine bS fun E i h=>?_
 obtain rfl:=sI h
 simp only[*,go_sem]
 refine aO hJ _ (fX b 0 (IntKind.i64.wrap ((u0.aC.length:Int) - 1)) i) (aE ?_)
 try simp only[*,go_sem]
 refine av ?_
 simp only[*,go_sem]
def fG (u0:aj)(a:Int):Option Bool:=
 ah (bq u0.aB 0) fun b=>ah (bq u0.aB (IntKind.i64.wrap ((u0.aB.length:Int) - 1))) fun c=>ah (ff a b.aK c.aK) fun d=>some d
theorem q9 {ro:Addr->Option Value}(u0:aj){s1 f g i:Value}(a:bt ro u0 s1 f g i)(b:Int){r:Bool}(h:fG u0 b=some r):aA Tryz.prog 120 #[bv u0 s1 f g i,.int .i64 b] ⟨ro,[]⟩ (fun v _=>v= .bool r):=by
 obtain ⟨d3,c4,rfl,E,G,-⟩:=id a.e
 unfold fG at h
 refine aA.go Tryz.func120 rfl Tryz.ntmps120 Tryz.results120 (by simp) fun main J hJ A H hd hs=>?_
 have I:=hs 0
 have k1:=hs 1
 clear hs
 refine aa hJ (af hJ ?_)
 simp only[*,go_sem]
 refine an fun K L n=>?_;try simp only[ak] at n
 try simp only[*,go_sem]
 refine aa hJ ?_
 refine cQ hJ mixed 20 1 (by simp only[*,go_sem]) (by kernel_rfl) ?_
 revert h;refine bS fun j o h=>?_
 obtain ⟨M,N,k⟩:=bX o
 obtain ⟨O,p,q,s,c⟩:=a.e.el _ _ k
 obtain rfl:p=j.cells:=s
 cases q
 have t:=c 0 _ rfl;simp only[go_sem] at t
 have u:=c 1 _ rfl;simp only[go_sem] at u
 clear c k
 revert h;refine bS fun l w h=>?_
 obtain ⟨P,Q,m⟩:=bX w
 obtain ⟨R,x,y,z,d⟩:=a.e.el _ _ m
 obtain rfl:x=l.cells:=z
 cases y
 have B:=d 0 _ rfl;simp only[go_sem] at B
 have C:=d 1 _ rfl;simp only[go_sem] at C
 clear d m
 revert h;refine bS fun S D h=>?_
 obtain rfl:=sI h
 try simp only[*,go_sem]
 refine ⟨_,bB hJ fun F T=>fX b j.aK l.aK D,cc ?_⟩
 try simp only[*,go_sem]
 refine av ?_
 simp only[*,go_sem]
def eF (u0:Int)(a:aj):Option Int:=
 ah (mV a u0) fun b=>cond (!b) (some 6) (some 0)
theorem rf {ro:Addr->Option Value}(u0:Int)(b:aj){s1 c d f:Value}(a:bt ro b s1 c d f){r:Int}(h:eF u0 b=some r):aA Tryz.prog 105 #[.int .i64 u0,bv b s1 c d f] ⟨ro,[]⟩ (fun v _=>v= .int .i64 r):=by
 obtain ⟨d3,c4,rfl,k,l,-⟩:=id a.e
 obtain ⟨d10,m,rfl,n,o,-⟩:=id a.p
 obtain ⟨d17,q,rfl,s,u,-⟩:=id a.y
 obtain ⟨d24,w,rfl,x,z,-⟩:=id a.t
 unfold eF at h
 refine aA.go Tryz.func105 rfl Tryz.ntmps105 Tryz.results105 (by simp) fun main J hJ A B hd hs=>?_
 have C:=hs 0
 have k1:=hs 1
 clear hs
 refine aa hJ (af hJ ?_)
 simp only[*,go_sem]
 refine an fun D E g=>?_;try simp only[ak] at g
 try simp only[*,go_sem]
 refine aa hJ (aa hJ (af hJ ?_))
 revert h;refine bS fun F i h=>?_
 simp only[*,go_sem]
 refine aO hJ _ (zq b (a.mono aN) u0 i) (aE ?_)
 try simp only[*,go_sem]
 revert h;refine jC hJ (by simp only[*,go_sem]) (fun j h=>?_) fun j h=>?_
 ·obtain rfl:=sI h
  refine aa hJ (af hJ ?_)
  simp only[*,go_sem]
  refine av ?_
  simp only[*,go_sem]
 obtain rfl:=sI h
 refine aD hJ (aa hJ ?_)
 refine af hJ ?_
 simp only[*,go_sem]
 refine av ?_
 simp only[*,go_sem]
def mW (u0:Int)(a:aj):Option Int:=
 ah (fG a u0) fun b=>cond (!b) (some 6) (some 0)
theorem Ek {ro:Addr->Option Value}(u0:Int)(b:aj){s1 c d f:Value}(a:bt ro b s1 c d f){r:Int}(h:mW u0 b=some r):aA Tryz.prog 51 #[.int .i64 u0,bv b s1 c d f] ⟨ro,[]⟩ (fun v _=>v= .int .i64 r):=by
 obtain ⟨d3,c4,rfl,k,l,-⟩:=id a.e
 obtain ⟨d10,m,rfl,n,o,-⟩:=id a.p
 obtain ⟨d17,q,rfl,s,u,-⟩:=id a.y
 obtain ⟨d24,w,rfl,x,z,-⟩:=id a.t
 unfold mW at h
 refine aA.go Tryz.func51 rfl Tryz.ntmps51 Tryz.results51 (by simp) fun main J hJ A B hd hs=>?_
 have C:=hs 0
 have k1:=hs 1
 clear hs
 refine aa hJ (af hJ ?_)
 simp only[*,go_sem]
 refine an fun D E g=>?_;try simp only[ak] at g
 try simp only[*,go_sem]
 refine aa hJ (aa hJ (af hJ ?_))
 revert h;refine bS fun F i h=>?_
 simp only[*,go_sem]
 refine aO hJ _ (q9 b (a.mono aN) u0 i) (aE ?_)
 try simp only[*,go_sem]
 revert h;refine jC hJ (by simp only[*,go_sem]) (fun j h=>?_) fun j h=>?_
 ·obtain rfl:=sI h
  refine aa hJ (af hJ ?_)
  simp only[*,go_sem]
  refine av ?_
  simp only[*,go_sem]
 obtain rfl:=sI h
 refine aD hJ (aa hJ ?_)
 refine af hJ ?_
 simp only[*,go_sem]
 refine av ?_
 simp only[*,go_sem]
def o6 (st:(Int×Int)):Option (Fl (Int×Int) au):=
 cond ((st.2 != 0)) (ah (lf st.1 st.2) fun a=>some (.nx (st.2,a))) (some (.bk (st.1,st.2)))
def jH (u0:Int)(a:Int):Option au:=
 ah (aR (o6) fu ((if u0<IntKind.i64.wrap (0 - u0) then IntKind.i64.wrap (0 - u0) else u0),a)) fun o=>aF o (fun b=>ah (fU u0 b.1) fun c=>ah (fU a b.1) fun d=>some (⟨c,d⟩:au)) (fun _ _=>none) (fun r=>some r)
theorem o7 {ro:Addr->Option Value}(u0:Int)(c:Int){r:au}(h:jH u0 c=some r):aA Tryz.prog 121 #[.int .i64 u0,.int .i64 c] ⟨ro,[]⟩ (fun v _=>v=r.v):=by
 unfold jH at h
 refine aA.go Tryz.func121 rfl Tryz.ntmps121 Tryz.results121 (by simp) fun main J hJ A l hd hs=>?_
 have n:=hs 0
 have k1:=hs 1
 clear hs
 refine aa hJ (af hJ ?_)
 simp only[*,go_sem]
 refine an fun o r1 n1=>?_;try simp only[ak] at n1
 try simp only[*,go_sem]
 refine aa hJ (af hJ ?_)
 simp only[*,go_sem]
 refine aa hJ (aM hJ ?_)
 revert h;refine bS fun o4 a p=>?_
 refine bM hJ [5,6,12,13,14,15,16,17] (fun m f F'=>∃(v2:Int) (b:Int),aR (o6) m (v2,b)=some o4/\F'=⟨ro,(o,rt 0 0)::[]⟩/\slot f 5= .int .i64 v2/\slot f 6= .int .i64 b) fu ?_ ?_
 ·refine ⟨(if u0<IntKind.i64.wrap (0 - u0) then IntKind.i64.wrap (0 - u0) else u0),c,a,rfl,?_⟩
  simp only[*,go_sem]
 rintro d x F' g ⟨v2,b,a,rfl,y,z⟩
 obtain ⟨q,s,t⟩:=g.pick [0,1,4] (by decide)
 simp only[*,go_sem] at q s t
 clear g l hd n k1
 obtain _|d:=d
 ·exact absurd a (by simp only[aR,reduceCtorEq,not_false_eq_true])
 revert a;refine bS fun B h e=>?_
 unfold o6 at h
 try dsimp only at h
 refine aa hJ (aa hJ (af hJ ?_))
 simp only[*,go_sem]
 revert h;refine jC hJ (by simp only[*,go_sem]) (fun u h=>?_) fun u h=>?_
 ·refine aD hJ (aM hJ ?_)
  refine cQ hJ mixed 6 1 (by simp only[*,go_sem]) (by kernel_rfl) ?_
  revert h;refine bS fun w i h=>?_
  obtain rfl:=sI h
  obtain ⟨C,D⟩:=uf i
  clear i
  try simp only[*,go_sem]
  refine ⟨d,Nat.lt_succ_self _,_,Le.sub (List.Sublist.refl _),b,w,e,rfl,?_⟩
  simp only[*,go_sem]
 obtain rfl:=sI h
 refine bJ ?_
 simp only[go_sem]
 obtain rfl:=sI e;clear e
 have h:=p
 dsimp only[aF] at h
 refine aa hJ ?_
 refine cQ hJ mixed 7 0 (by simp only[*,go_sem]) (by kernel_rfl) ?_
 revert h;refine bS fun E j h=>?_
 obtain ⟨F,G⟩:=mQ j
 clear j
 revert h;refine bS fun H k h=>?_
 obtain rfl:=sI h
 obtain ⟨I,K⟩:=mQ k
 clear k
 try simp only[*,go_sem]
 refine av ?_
 simp only[*,go_sem]
def iX (u0:au)(a:au):Option au:=
 ah (jH (IntKind.i64.wrap ((IntKind.i64.wrap (u0.num*a.den))+(IntKind.i64.wrap (a.num*u0.den)))) (IntKind.i64.wrap (u0.den*a.den))) fun b=>some b
theorem o8 {ro:Addr->Option Value}(u0:au)(a:au){r:au}(h:iX u0 a=some r):aA Tryz.prog 77 #[.agg #[.int .i64 u0.num,.int .i64 u0.den],.agg #[.int .i64 a.num,.int .i64 a.den]] ⟨ro,[]⟩ (fun v _=>v=r.v):=by
 unfold iX at h
 refine aA.go Tryz.func77 rfl Tryz.ntmps77 Tryz.results77 (by simp) fun main J hJ A c hd hs=>?_
 have d:=hs 0
 have k1:=hs 1
 clear hs
 refine aa hJ (af hJ ?_)
 simp only[*,go_sem]
 refine an fun e r1 n1=>?_;try simp only[ak] at n1
 refine an fun b2 r2 n2=>?_;try simp only[ak] at n2
 refine an fun b3 r3 n3=>?_;try simp only[ak] at n3
 try simp only[*,go_sem]
 refine aa hJ (af hJ ?_)
 revert h;refine bS fun f b h=>?_
 obtain rfl:=sI h
 simp only[*,go_sem]
 refine aO hJ _ (o7 (IntKind.i64.wrap ((IntKind.i64.wrap (u0.num*a.den))+(IntKind.i64.wrap (a.num*u0.den)))) (IntKind.i64.wrap (u0.den*a.den)) b) (aE ?_)
 try simp only[*,go_sem]
 refine av ?_
 simp only[*,go_sem]
def iY (u0:au)(a:au):Option au:=
 ah (iX u0 (⟨IntKind.i64.wrap (0 - a.num),a.den⟩:au)) fun b=>some b
theorem o9 {ro:Addr->Option Value}(u0:au)(a:au){r:au}(h:iY u0 a=some r):aA Tryz.prog 76 #[.agg #[.int .i64 u0.num,.int .i64 u0.den],.agg #[.int .i64 a.num,.int .i64 a.den]] ⟨ro,[]⟩ (fun v _=>v=r.v):=by
 unfold iY at h
 refine aA.go Tryz.func76 rfl Tryz.ntmps76 Tryz.results76 (by simp) fun main J hJ A c hd hs=>?_
 have d:=hs 0
 have k1:=hs 1
 clear hs
 refine aa hJ (af hJ ?_)
 simp only[*,go_sem]
 refine an fun e r1 n1=>?_;try simp only[ak] at n1
 refine an fun b2 r2 n2=>?_;try simp only[ak] at n2
 refine an fun b3 r3 n3=>?_;try simp only[ak] at n3
 try simp only[*,go_sem]
 refine aa hJ (af hJ ?_)
 revert h;refine bS fun f b h=>?_
 obtain rfl:=sI h
 simp only[*,go_sem]
 refine aO hJ _ (o8 u0 (⟨IntKind.i64.wrap (0 - a.num),a.den⟩:au) b) (aE ?_)
 try simp only[*,go_sem]
 refine av ?_
 simp only[*,go_sem]
def jI (u0:aj)(a:bf)(e:Int)(b:gx):Option bA:=
 ah (fF a.high) fun f=>ah (iY b.high f) fun c=>ah (jH (IntKind.i64.wrap (u0.bF+a.back)) (IntKind.i64.wrap (b.aK+a.back))) fun d=>ah (fF a.high) fun g=>ah (jH (IntKind.i64.wrap (c.num*d.num)) (IntKind.i64.wrap (c.den*d.den))) fun h=>ah (iX g h) fun i=>some (⟨b,e,i⟩:bA)
theorem zu {ro:Addr->Option Value}(u0:aj){s1 c d e:Value}(K:bt ro u0 s1 c d e)(b:bf)(j:Int)(a:gx){r:bA}(h:jI u0 b j a=some r):aA Tryz.prog 123 #[bv u0 s1 c d e,.agg #[.int .i64 b.back,.int .i64 b.high],.int .i64 j,.agg #[.int .i64 a.aK,.int .i64 a.high.num,.int .i64 a.high.den]] ⟨ro,[]⟩ (fun v _=>v=r.v):=by
 unfold jI at h
 refine aA.go Tryz.func123 rfl Tryz.ntmps123 Tryz.results123 (by simp) fun main J hJ A L hd hs=>?_
 have M:=hs 0
 have k1:=hs 1
 have N:=hs 2
 have O:=hs 3
 clear hs
 refine aa hJ (af hJ ?_)
 simp only[*,go_sem]
 refine an fun k P n=>?_;try simp only[ak] at n
 refine an fun l Q o=>?_;try simp only[ak] at o
 refine an fun m R p=>?_;try simp only[ak] at p
 refine an fun q S s=>?_;try simp only[ak] at s
 try simp only[*,go_sem]
 refine aa hJ ?_
 refine dY hJ mixed 6 ⟨ro,[(q,.cells #[.int .i64 0,.int .i64 0,.int .i64 0,.int .i64 0,.int .i64 0,.int .i64 0] 94),(m,.cells #[.int .i64 a.aK,.int .i64 a.high.num,.int .i64 a.high.den] 92),(l,.cells #[.int .i64 b.back,.int .i64 b.high] 90),(k,bl u0 s1 c d e)]⟩ (by simp only[*,go_sem]) (by kernel_rfl) ?_
 revert h;refine bS fun t u h=>?_
 simp only[*,go_sem]
 refine ⟨_,bB hJ fun F f=>iW b.high u,cc ?_⟩
 revert h;refine bS fun g w h=>?_
 try simp only[*,go_sem]
 refine ⟨_,bB hJ fun F f=>o9 a.high t w,?_⟩
 try simp only[*,go_sem]
 refine an fun x T y=>?_;try simp only[ak] at y
 try simp only[*,go_sem]
 refine aa hJ (af hJ ?_)
 revert h;refine bS fun i z h=>?_
 simp only[*,go_sem]
 refine aO hJ _ (o7 (IntKind.i64.wrap (u0.bF+b.back)) (IntKind.i64.wrap (a.aK+b.back)) z) (aE ?_)
 try simp only[*,go_sem]
 refine an fun B U C=>?_;try simp only[ak] at C
 try simp only[*,go_sem]
 refine aa hJ ?_
 refine dY hJ mixed 18 ⟨ro,[(B,rt i.num i.den),(x,rt g.num g.den),(m,.cells #[.int .i64 a.aK,.int .i64 a.high.num,.int .i64 a.high.den] 92),(l,.cells #[.int .i64 b.back,.int .i64 b.high] 90),(k,bl u0 s1 c d e)]⟩ (by simp only[*,go_sem]) (by kernel_rfl) ?_
 revert h;refine bS fun D E h=>?_
 simp only[*,go_sem]
 refine ⟨_,bB hJ fun F f=>iW b.high E,cc ?_⟩
 revert h;refine bS fun G H h=>?_
 try simp only[*,go_sem]
 refine ⟨_,bB hJ fun F f=>o7 (IntKind.i64.wrap (g.num*i.num)) (IntKind.i64.wrap (g.den*i.den)) H,cc ?_⟩
 revert h;refine bS fun V I h=>?_
 obtain rfl:=sI h
 try simp only[*,go_sem]
 refine ⟨_,bB hJ fun F f=>o8 D G I,cc ?_⟩
 try simp only[*,go_sem]
 refine av ?_
 simp only[*,go_sem]
def iG (u0:aj)(a:Int)(b:Int):Option bf:=
 ah (bq u0.aC a) fun c=>some (⟨c.back,b⟩:bf)
theorem lF {ro:Addr->Option Value}(u0:aj){s1 c d f:Value}(a:bt ro u0 s1 c d f)(g:Int)(i:Int){r:bf}(h:iG u0 g i=some r):aA Tryz.prog 101 #[bv u0 s1 c d f,.int .i64 g,.int .i64 i] ⟨ro,[]⟩ (fun v _=>v=r.v):=by
 obtain ⟨d3,c4,rfl,z,B,-⟩:=id a.e
 obtain ⟨d10,C,rfl,D,E,-⟩:=id a.p
 obtain ⟨d17,F,rfl,G,H,-⟩:=id a.y
 obtain ⟨d24,I,rfl,K,L,-⟩:=id a.t
 unfold iG at h
 refine aA.go Tryz.func101 rfl Tryz.ntmps101 Tryz.results101 (by simp) fun main J hJ A M hd hs=>?_
 have N:=hs 0
 have k1:=hs 1
 have O:=hs 2
 clear hs
 refine aa hJ (af hJ ?_)
 simp only[*,go_sem]
 refine an fun P Q k=>?_;try simp only[ak] at k
 refine an fun R S l=>?_;try simp only[ak] at l
 try simp only[*,go_sem]
 refine aa hJ (af hJ ?_)
 revert h;refine bS fun m n h=>?_
 obtain rfl:=sI h
 obtain ⟨T,U,j⟩:=bX n
 obtain ⟨V,o,q,s,b⟩:=a.y.el _ _ j
 obtain rfl:o=m.cells:=s
 cases q
 have u:=b 0 _ rfl;simp only[go_sem] at u
 have w:=b 1 _ rfl;simp only[go_sem] at w
 have x:=b 2 _ rfl;simp only[go_sem] at x
 clear b j
 try simp only[*,go_sem]
 refine av ?_
 simp only[*,go_sem]
def pe (u0:(bA->bA->Option Bool))(i11:Nat)(a:bA)(st:bA):Option (Fl bA bA):=
 ah (u0 st a) fun b=>cond (b) (some (.nx a)) (some (.nx st))
def lG (u0:(bA->bA->Option Bool))(a:bA)(b:(List bA)):Option bA:=
 ah (bE (pe u0) 0 b a) fun o=>aF o (fun c=>some c) (fun _ _=>none) (fun r=>some r)
theorem ri {ro:Addr->Option Value}(u0:(bA->bA->Option Bool)){dA:FuncId}{dQ dR:Array Value}(s:aG Tryz.prog dA=true/\∀(aI:Addr->Option Value),Ext ro aI->∀(i:bA) (j:bA) (z:Bool),u0 i j=some z->aA Tryz.prog dA (dQ++#[i.v,j.v]++dR) ⟨aI,[]⟩ (fun v _=>v= .bool z))(c:bA)(b:(List bA)){s1:Value}(k:ax jG ro s1 b){r:bA}(h:lG u0 c b=some r):aA Tryz.prog 66 #[.func (.func dA) dQ dR,.agg #[.int .i64 c.spot.aK,.int .i64 c.spot.high.num,.int .i64 c.spot.high.den,.int .i64 c.at_,.int .i64 c.high.num,.int .i64 c.high.den],s1] ⟨ro,[]⟩ (fun v _=>v=r.v):=by
 obtain ⟨d3,c4,rfl,Z,l,-⟩:=id k
 unfold lG at h
 refine aA.go Tryz.func66 rfl Tryz.ntmps66 Tryz.results66 (by simp) fun main J hJ A t hd hs=>?_
 have u:=hs 0
 have k1:=hs 1
 have w:=hs 2
 clear hs
 refine aa hJ (af hJ ?_)
 simp only[*,go_sem]
 refine an fun y ab B=>?_;try simp only[ak] at B
 refine an fun C ad D=>?_;try simp only[ak] at D
 try simp only[*,go_sem]
 refine aa hJ (aa hJ (af hJ ?_))
 simp only[*,go_sem]
 refine aM hJ ?_
 revert h;refine bS fun E d F=>?_
 refine bM hJ [8,11,12,13,14,15,16,17,18,19,20] (fun m G F'=>∃(i11:Nat) (v10:bA),m=b.length - i11/\i11<=b.length/\bE (pe u0) i11 (b.drop i11) v10=some E/\F'=⟨ro,(C,.cells #[.int .i64 0,.int .i64 0,.int .i64 0,.int .i64 0,.int .i64 0,.int .i64 0] 94)::(y,.cells #[.int .i64 v10.spot.aK,.int .i64 v10.spot.high.num,.int .i64 v10.spot.high.den,.int .i64 v10.at_,.int .i64 v10.high.num,.int .i64 v10.high.den] 94)::[]⟩/\slot G 11= .int .i64 (i11:Int)) b.length ?_ ?_
 ·refine ⟨0,c,(Nat.sub_zero _).symm,Nat.zero_le _,d,rfl,?_⟩
  simp only[*,go_sem]
 rintro ae al F' o ⟨i11,v10,rfl,ao,d,rfl,ar⟩
 obtain ⟨H,I,K⟩:=o.pick [0,4,6,9,10] (by decide)
 simp only[*,go_sem] at H I K
 clear o t hd u k1 w
 refine aa hJ (af hJ ?_)
 simp only[*,go_sem]
 refine aa hJ ?_
 rcases Nat.lt_or_ge i11 b.length with L|p
 ·refine bD hJ (by simp only[*,go_sem]) ?_
  refine aD hJ ?_
  obtain ⟨f,g⟩:∃x,b[i11]?=some x:=⟨_,List.getElem?_eq_getElem L⟩
  rw[cX g] at d
  revert d;refine bS fun a0 h q=>?_
  unfold pe at h
  try dsimp only at h
  obtain ⟨a2,M,N,O,e⟩:=k.el _ _ g
  obtain rfl:M=f.cells:=O
  cases N
  have P:=e 0 _ rfl;simp only[go_sem] at P
  have Q:=e 1 _ rfl;simp only[go_sem] at Q
  have R:=e 2 _ rfl;simp only[go_sem] at R
  have S:=e 3 _ rfl;simp only[go_sem] at S
  have T:=e 4 _ rfl;simp only[go_sem] at T
  have U:=e 5 _ rfl;simp only[go_sem] at U
  clear e g
  refine aa hJ (aM hJ (aa hJ ?_))
  refine af hJ ?_
  simp only[*,go_sem]
  refine an fun a3 a4 V=>?_;try simp only[ak] at V
  try simp only[*,go_sem]
  refine aa hJ (af hJ ?_)
  revert h;refine bS fun a5 W h=>?_
  simp only[*,go_sem]
  refine aO hJ _ (s.2 _ (fun a v h=>aN a v h) v10 f _ W) ?_
  try simp only[*,go_sem]
  revert h;refine jC hJ (by simp only[*,go_sem]) (fun X h=>?_) fun X h=>?_
  ·obtain rfl:=sI h
   refine af hJ ?_
   simp only[*,go_sem]
   have Y:=cj (n:=i11) (by have:=l;omega)
   refine af hJ ?_
   simp only[*,go_sem]
   refine ⟨b.length - (i11+1),by omega,_,Le.sub (List.Sublist.cons _ (List.Sublist.refl _)),i11+1,f,rfl,by omega,q,rfl,?_⟩
   simp only[*,go_sem]
  obtain rfl:=sI h
  refine aD hJ ?_
  have Y:=cj (n:=i11) (by have:=l;omega)
  refine af hJ ?_
  simp only[*,go_sem]
  refine ⟨b.length - (i11+1),by omega,_,Le.sub (List.Sublist.cons _ (List.Sublist.refl _)),i11+1,v10,rfl,by omega,q,rfl,?_⟩
  simp only[*,go_sem]
 have a6:=Nat.not_lt.2 p
 refine bI hJ (by simp only[*,go_sem]) ?_
 rw[List.drop_eq_nil_of_le p] at d
 obtain rfl:=sI d;clear d
 have h:=F
 dsimp only[aF] at h
 obtain rfl:=sI h
 refine bJ ?_
 simp only[go_sem]
 refine aa hJ (af hJ ?_)
 simp only[*,go_sem]
 refine av ?_
 simp only[*,go_sem]
def pg (u0:(au->au->Option Bool))(i11:Nat)(a:au)(st:au):Option (Fl au au):=
 ah (u0 st a) fun b=>cond (b) (some (.nx a)) (some (.nx st))
def gP (u0:(au->au->Option Bool))(a:au)(b:(List au)):Option au:=
 ah (bE (pg u0) 0 b a) fun o=>aF o (fun c=>some c) (fun _ _=>none) (fun r=>some r)
theorem mX {ro:Addr->Option Value}(u0:(au->au->Option Bool)){dA:FuncId}{dQ dR:Array Value}(s:aG Tryz.prog dA=true/\∀(aI:Addr->Option Value),Ext ro aI->∀(i:au) (j:au) (z:Bool),u0 i j=some z->aA Tryz.prog dA (dQ++#[i.v,j.v]++dR) ⟨aI,[]⟩ (fun v _=>v= .bool z))(d:au)(b:(List au)){s1:Value}(k:ax kq ro s1 b){r:au}(h:gP u0 d b=some r):aA Tryz.prog 115 #[.func (.func dA) dQ dR,.agg #[.int .i64 d.num,.int .i64 d.den],s1] ⟨ro,[]⟩ (fun v _=>v=r.v):=by
 obtain ⟨d3,c4,rfl,V,l,-⟩:=id k
 unfold gP at h
 refine aA.go Tryz.func115 rfl Tryz.ntmps115 Tryz.results115 (by simp) fun main J hJ A t hd hs=>?_
 have u:=hs 0
 have k1:=hs 1
 have w:=hs 2
 clear hs
 refine aa hJ (af hJ ?_)
 simp only[*,go_sem]
 refine an fun y W B=>?_;try simp only[ak] at B
 refine an fun C X D=>?_;try simp only[ak] at D
 try simp only[*,go_sem]
 refine aa hJ (aa hJ (af hJ ?_))
 simp only[*,go_sem]
 refine aM hJ ?_
 revert h;refine bS fun E c F=>?_
 refine bM hJ [8,11,12,13,14,15,16,17,18,19,20] (fun m G F'=>∃(i11:Nat) (v10:au),m=b.length - i11/\i11<=b.length/\bE (pg u0) i11 (b.drop i11) v10=some E/\F'=⟨ro,(C,rt 0 0)::(y,rt v10.num v10.den)::[]⟩/\slot G 11= .int .i64 (i11:Int)) b.length ?_ ?_
 ·refine ⟨0,d,(Nat.sub_zero _).symm,Nat.zero_le _,c,rfl,?_⟩
  simp only[*,go_sem]
 rintro Y Z F' o ⟨i11,v10,rfl,ab,c,rfl,ad⟩
 obtain ⟨H,I,K⟩:=o.pick [0,4,6,9,10] (by decide)
 simp only[*,go_sem] at H I K
 clear o t hd u k1 w
 refine aa hJ (af hJ ?_)
 simp only[*,go_sem]
 refine aa hJ ?_
 rcases Nat.lt_or_ge i11 b.length with L|p
 ·refine bD hJ (by simp only[*,go_sem]) ?_
  refine aD hJ ?_
  obtain ⟨e,f⟩:∃x,b[i11]?=some x:=⟨_,List.getElem?_eq_getElem L⟩
  rw[cX f] at c
  revert c;refine bS fun ae h q=>?_
  unfold pg at h
  try dsimp only at h
  obtain ⟨al,M,N,O,g⟩:=k.el _ _ f
  obtain rfl:M=e.cells:=O
  cases N
  have P:=g 0 _ rfl;simp only[go_sem] at P
  have Q:=g 1 _ rfl;simp only[go_sem] at Q
  clear g f
  refine aa hJ (aM hJ (aa hJ ?_))
  refine af hJ ?_
  simp only[*,go_sem]
  refine an fun ao ar R=>?_;try simp only[ak] at R
  try simp only[*,go_sem]
  refine aa hJ (af hJ ?_)
  revert h;refine bS fun a0 S h=>?_
  simp only[*,go_sem]
  refine aO hJ _ (s.2 _ (fun a v h=>aN a v h) v10 e _ S) ?_
  try simp only[*,go_sem]
  revert h;refine jC hJ (by simp only[*,go_sem]) (fun T h=>?_) fun T h=>?_
  ·obtain rfl:=sI h
   refine af hJ ?_
   simp only[*,go_sem]
   have U:=cj (n:=i11) (by have:=l;omega)
   refine af hJ ?_
   simp only[*,go_sem]
   refine ⟨b.length - (i11+1),by omega,_,Le.sub (List.Sublist.cons _ (List.Sublist.refl _)),i11+1,e,rfl,by omega,q,rfl,?_⟩
   simp only[*,go_sem]
  obtain rfl:=sI h
  refine aD hJ ?_
  have U:=cj (n:=i11) (by have:=l;omega)
  refine af hJ ?_
  simp only[*,go_sem]
  refine ⟨b.length - (i11+1),by omega,_,Le.sub (List.Sublist.cons _ (List.Sublist.refl _)),i11+1,v10,rfl,by omega,q,rfl,?_⟩
  simp only[*,go_sem]
 have a2:=Nat.not_lt.2 p
 refine bI hJ (by simp only[*,go_sem]) ?_
 rw[List.drop_eq_nil_of_le p] at c
 obtain rfl:=sI c;clear c
 have h:=F
 dsimp only[aF] at h
 obtain rfl:=sI h
 refine bJ ?_
 simp only[go_sem]
 refine aa hJ (af hJ ?_)
 simp only[*,go_sem]
 refine av ?_
 simp only[*,go_sem]
def rj (u0:bA)(a:bA):Option Bool:=
 ah (iF a u0) fun b=>some b
theorem El {ro:Addr->Option Value}(u0:bA)(a:bA){r:Bool}(h:rj u0 a=some r):aA Tryz.prog 75 #[.agg #[.int .i64 u0.spot.aK,.int .i64 u0.spot.high.num,.int .i64 u0.spot.high.den,.int .i64 u0.at_,.int .i64 u0.high.num,.int .i64 u0.high.den],.agg #[.int .i64 a.spot.aK,.int .i64 a.spot.high.num,.int .i64 a.spot.high.den,.int .i64 a.at_,.int .i64 a.high.num,.int .i64 a.high.den]] ⟨ro,[]⟩ (fun v _=>v= .bool r):=by
 unfold rj at h
 refine aA.go Tryz.func75 rfl Tryz.ntmps75 Tryz.results75 (by simp) fun main J hJ A c hd hs=>?_
 have d:=hs 0
 have k1:=hs 1
 clear hs
 refine aa hJ (af hJ ?_)
 simp only[*,go_sem]
 refine an fun e r1 n1=>?_;try simp only[ak] at n1
 refine an fun b2 r2 n2=>?_;try simp only[ak] at n2
 try simp only[*,go_sem]
 refine aa hJ (af hJ ?_)
 revert h;refine bS fun f b h=>?_
 obtain rfl:=sI h
 simp only[*,go_sem]
 refine aO hJ _ (q7 a u0 b) (aE ?_)
 try simp only[*,go_sem]
 refine av ?_
 simp only[*,go_sem]
def rm (u0:au)(a:au):Option Bool:=
 ah (ew a u0) fun b=>some b
theorem Em {ro:Addr->Option Value}(u0:au)(a:au){r:Bool}(h:rm u0 a=some r):aA Tryz.prog 114 #[.agg #[.int .i64 u0.num,.int .i64 u0.den],.agg #[.int .i64 a.num,.int .i64 a.den]] ⟨ro,[]⟩ (fun v _=>v= .bool r):=by
 unfold rm at h
 refine aA.go Tryz.func114 rfl Tryz.ntmps114 Tryz.results114 (by simp) fun main J hJ A c hd hs=>?_
 have d:=hs 0
 have k1:=hs 1
 clear hs
 refine aa hJ (af hJ ?_)
 simp only[*,go_sem]
 refine an fun e r1 n1=>?_;try simp only[ak] at n1
 refine an fun b2 r2 n2=>?_;try simp only[ak] at n2
 try simp only[*,go_sem]
 refine aa hJ (af hJ ?_)
 revert h;refine bS fun f b h=>?_
 obtain rfl:=sI h
 simp only[*,go_sem]
 refine aO hJ _ (iE a u0 b) (aE ?_)
 try simp only[*,go_sem]
 refine av ?_
 simp only[*,go_sem]
def rq (u0:aj)(i32:Nat)(a:bx)(st:Int):Option (Fl Int Int):=
 ah (mV u0 a.aT) fun b=>cond (!b) (some (.rt 6)) (some (.nx st))
def lH (u0:aj):Option Int:=
 cond (decide (3<(u0.told.length:Int))) (some 2) (ah (bE (rq u0) 0 u0.told 0) fun o=>aF o (fun a=>some 0) (fun _ _=>none) (fun r=>some r))
theorem En {ro:Addr->Option Value}(u0:aj){s1 c d j:Value}(e:bt ro u0 s1 c d j){r:Int}(h:lH u0=some r):aA Tryz.prog 232 #[bv u0 s1 c d j] ⟨ro,[]⟩ (fun v _=>v= .int .i64 r):=by
 obtain ⟨d24,s,rfl,R,u,-⟩:=id e.t
 unfold lH at h
 refine aA.go Tryz.func232 rfl Tryz.ntmps232 Tryz.results232 (by simp) fun main J hJ A w hd hs=>?_
 have y:=hs 0
 clear hs
 refine aa hJ (af hJ ?_)
 simp only[*,go_sem]
 refine an fun z S B=>?_;try simp only[ak] at B
 try simp only[*,go_sem]
 refine aa hJ (aa hJ (af hJ ?_))
 simp only[*,go_sem]
 revert h;refine jC hJ (by simp only[*,go_sem]) (fun C h=>?_) fun C h=>?_
 ·obtain rfl:=sI h
  refine aa hJ (af hJ ?_)
  simp only[*,go_sem]
  refine av ?_
  simp only[*,go_sem]
 refine aD hJ (aa hJ ?_)
 refine aa hJ (af hJ ?_)
 simp only[*,go_sem]
 refine aM hJ ?_
 revert h;refine bS fun D a k=>?_
 refine bM hJ [2,4,14,15,16,17,18,19,20,21,22,23] (fun m l F'=>∃(i32:Nat) (b:Int),m=u0.told.length - i32/\i32<=u0.told.length/\bE (rq u0) i32 (u0.told.drop i32) b=some D/\F'=⟨ro,(z,bl u0 s1 c d (sl d24 u0.told s))::[]⟩/\slot l 14= .int .i64 (i32:Int)/\slot l 2= .int .i64 b) u0.told.length ?_ ?_
 ·refine ⟨0,0,(Nat.sub_zero _).symm,Nat.zero_le _,a,rfl,?_⟩
  simp only[*,go_sem]
 rintro T U F' o ⟨i32,b,rfl,V,a,rfl,W,X⟩
 obtain ⟨E,F,G⟩:=o.pick [1,12,13] (by decide)
 simp only[*,go_sem] at E F G
 clear o w hd y
 refine aa hJ (af hJ ?_)
 simp only[*,go_sem]
 refine aa hJ ?_
 rcases Nat.lt_or_ge i32 u0.told.length with H|p
 ·refine bD hJ (by simp only[*,go_sem]) ?_
  refine aD hJ ?_
  obtain ⟨q,f⟩:∃x,u0.told[i32]?=some x:=⟨_,List.getElem?_eq_getElem H⟩
  rw[cX f] at a
  revert a;refine bS fun Y h g=>?_
  unfold rq at h
  try dsimp only at h
  obtain ⟨Z,I,K,L,i⟩:=e.t.el _ _ f
  obtain rfl:I=q.cells:=L
  cases K
  have M:=i 0 _ rfl;simp only[go_sem] at M
  have N:=i 1 _ rfl;simp only[go_sem] at N
  clear i f
  refine aa hJ (aM hJ (aa hJ ?_))
  refine af hJ ?_
  simp only[*,go_sem]
  refine an fun ab ad O=>?_;try simp only[ak] at O
  try simp only[*,go_sem]
  refine aa hJ (af hJ ?_)
  revert h;refine bS fun ae P h=>?_
  simp only[*,go_sem]
  refine aO hJ _ (zq u0 (e.mono aN) q.aT P) (aE ?_)
  try simp only[*,go_sem]
  revert h;refine jC hJ (by simp only[*,go_sem]) (fun Q h=>?_) fun Q h=>?_
  ·obtain rfl:=sI h
   refine aa hJ (af hJ ?_)
   simp only[*,go_sem]
   obtain rfl:=sI g;clear g
   have h:=k
   dsimp only[aF] at h
   obtain rfl:=sI h
   refine av ?_
   simp only[*,go_sem]
  obtain rfl:=sI h
  refine aD hJ ?_
  have al:=cj (n:=i32) (by have:=u;omega)
  refine af hJ ?_
  simp only[*,go_sem]
  refine ⟨u0.told.length - (i32+1),by omega,_,Le.sub (List.Sublist.cons _ (List.Sublist.refl _)),i32+1,b,rfl,by omega,g,rfl,?_⟩
  simp only[*,go_sem]
 have ao:=Nat.not_lt.2 p
 refine bI hJ (by simp only[*,go_sem]) ?_
 rw[List.drop_eq_nil_of_le p] at a
 obtain rfl:=sI a;clear a
 have h:=k
 dsimp only[aF] at h
 obtain rfl:=sI h
 refine bJ ?_
 simp only[go_sem]
 refine aa hJ (af hJ ?_)
 simp only[*,go_sem]
 refine av ?_
 simp only[*,go_sem]
def ru (i34:Nat)(a:bV)(st:Int):Option (Fl Int Int):=
 ah (ff a.back 1 20) fun b=>cond (!b) (some (.rt 1)) (ah (o5 a.high 0 60) fun c=>cond (!c) (some (.rt 1)) (cond (decide (3<=(IntKind.i64.wrap (a.high.high - a.high.low)))) (some (.rt 1)) (some (.nx st))))
def lI (u0:aj):Option Int:=
 ah (ff (u0.aC.length:Int) 1 3) fun a=>cond (!a) (some 2) (ah (bE (ru) 0 u0.aC 0) fun o=>aF o (fun b=>some 0) (fun _ _=>none) (fun r=>some r))
theorem Eo {ro:Addr->Option Value}(u0:aj){s1 f k g:Value}(l:bt ro u0 s1 f k g){r:Int}(h:lI u0=some r):aA Tryz.prog 231 #[bv u0 s1 f k g] ⟨ro,[]⟩ (fun v _=>v= .int .i64 r):=by
 obtain ⟨d17,s,rfl,W,t,-⟩:=id l.y
 unfold lI at h
 refine aA.go Tryz.func231 rfl Tryz.ntmps231 Tryz.results231 (by simp) fun main J hJ A u hd hs=>?_
 have w:=hs 0
 clear hs
 refine aa hJ (af hJ ?_)
 simp only[*,go_sem]
 refine an fun z X B=>?_;try simp only[ak] at B
 try simp only[*,go_sem]
 refine aa hJ (aa hJ (af hJ ?_))
 revert h;refine bS fun Y C h=>?_
 simp only[*,go_sem]
 refine aO hJ _ (fX (u0.aC.length:Int) 1 3 C) (aE ?_)
 try simp only[*,go_sem]
 revert h;refine jC hJ (by simp only[*,go_sem]) (fun D h=>?_) fun D h=>?_
 ·obtain rfl:=sI h
  refine aa hJ (af hJ ?_)
  simp only[*,go_sem]
  refine av ?_
  simp only[*,go_sem]
 refine aD hJ (aa hJ ?_)
 refine aa hJ (af hJ ?_)
 simp only[*,go_sem]
 refine aM hJ ?_
 revert h;refine bS fun E a c=>?_
 refine bM hJ [2,4,15,16,17,18,19,20,21,22,23,24,25,26,27,28,29,30,31,32,33,34,35,36,37,38,39] (fun m o F'=>∃(i34:Nat) (d:Int),m=u0.aC.length - i34/\i34<=u0.aC.length/\bE (ru) i34 (u0.aC.drop i34) d=some E/\F'=⟨ro,(z,bl u0 s1 f (sl d17 u0.aC s) g)::[]⟩/\slot o 15= .int .i64 (i34:Int)/\slot o 2= .int .i64 d) u0.aC.length ?_ ?_
 ·refine ⟨0,0,(Nat.sub_zero _).symm,Nat.zero_le _,a,rfl,?_⟩
  simp only[*,go_sem]
 rintro Z ab F' p ⟨i34,d,rfl,ad,a,rfl,ae,al⟩
 obtain ⟨F,G,H⟩:=p.pick [13,14] (by decide)
 simp only[*,go_sem] at F G H
 clear p u hd w
 refine aa hJ (af hJ ?_)
 simp only[*,go_sem]
 refine aa hJ ?_
 rcases Nat.lt_or_ge i34 u0.aC.length with I|q
 ·refine bD hJ (by simp only[*,go_sem]) ?_
  refine aD hJ ?_
  obtain ⟨i,j⟩:∃x,u0.aC[i34]?=some x:=⟨_,List.getElem?_eq_getElem I⟩
  rw[cX j] at a
  revert a;refine bS fun ao h b=>?_
  unfold ru at h
  try dsimp only at h
  obtain ⟨ar,K,L,M,e⟩:=l.y.el _ _ j
  obtain rfl:K=i.cells:=M
  cases L
  have N:=e 0 _ rfl;simp only[go_sem] at N
  have O:=e 1 _ rfl;simp only[go_sem] at O
  have P:=e 2 _ rfl;simp only[go_sem] at P
  clear e j
  refine aa hJ (aM hJ (aa hJ ?_))
  refine af hJ ?_
  simp only[*,go_sem]
  refine an fun a0 a2 Q=>?_;try simp only[ak] at Q
  try simp only[*,go_sem]
  refine aa hJ (af hJ ?_)
  revert h;refine bS fun a3 R h=>?_
  simp only[*,go_sem]
  refine aO hJ _ (fX i.back 1 20 R) (aE ?_)
  revert h;refine cS (fun S h=>?_) fun S h=>?_
  ·obtain rfl:=sI h
   try simp only[*,go_sem]
   refine bD hJ (by simp only[*,go_sem]) ?_
   refine aa hJ (af hJ ?_)
   simp only[*,go_sem]
   obtain rfl:=sI b;clear b
   have h:=c
   dsimp only[aF] at h
   obtain rfl:=sI h
   refine av ?_
   simp only[*,go_sem]
  revert h;refine bS fun a4 T h=>?_
  try simp only[*,go_sem]
  refine aO hJ _ (zp i.high 0 60 T) (aE ?_)
  revert h;refine cS (fun U h=>?_) fun U h=>?_
  ·obtain rfl:=sI h
   try simp only[*,go_sem]
   refine bD hJ (by simp only[*,go_sem]) ?_
   refine aa hJ (af hJ ?_)
   simp only[*,go_sem]
   obtain rfl:=sI b;clear b
   have h:=c
   dsimp only[aF] at h
   obtain rfl:=sI h
   refine av ?_
   simp only[*,go_sem]
  try simp only[*,go_sem]
  revert h;refine jC hJ (by simp only[*,go_sem]) (fun V h=>?_) fun V h=>?_
  ·obtain rfl:=sI h
   refine aa hJ (af hJ ?_)
   simp only[*,go_sem]
   obtain rfl:=sI b;clear b
   have h:=c
   dsimp only[aF] at h
   obtain rfl:=sI h
   refine av ?_
   simp only[*,go_sem]
  obtain rfl:=sI h
  refine aD hJ ?_
  have a5:=cj (n:=i34) (by have:=t;omega)
  refine af hJ ?_
  simp only[*,go_sem]
  refine ⟨u0.aC.length - (i34+1),by omega,_,Le.sub (List.Sublist.cons _ (List.Sublist.refl _)),i34+1,d,rfl,by omega,b,rfl,?_⟩
  simp only[*,go_sem]
 have a6:=Nat.not_lt.2 q
 refine bI hJ (by simp only[*,go_sem]) ?_
 rw[List.drop_eq_nil_of_le q] at a
 obtain rfl:=sI a;clear a
 have h:=c
 dsimp only[aF] at h
 obtain rfl:=sI h
 refine bJ ?_
 simp only[go_sem]
 refine aa hJ (af hJ ?_)
 simp only[*,go_sem]
 refine av ?_
 simp only[*,go_sem]
def ry (u0:aj)(i32:Nat)(a:b6)(st:Int):Option (Fl Int Int):=
 ah (fG u0 a.place) fun c=>cond (!c) (some (.rt 6)) (ah (gz a.cV u0) fun b=>cond ((b != 0)) (some (.rt b)) (some (.nx st)))
def lJ (u0:aj):Option Int:=
 cond (decide (3<(u0.props.length:Int))) (some 2) (ah (bE (ry u0) 0 u0.props 0) fun o=>aF o (fun a=>some 0) (fun _ _=>none) (fun r=>some r))
theorem Ep {ro:Addr->Option Value}(u0:aj){s1 l e f:Value}(c:bt ro u0 s1 l e f){r:Int}(h:lJ u0=some r):aA Tryz.prog 230 #[bv u0 s1 l e f] ⟨ro,[]⟩ (fun v _=>v= .int .i64 r):=by
 obtain ⟨d10,t,rfl,T,u,-⟩:=id c.p
 unfold lJ at h
 refine aA.go Tryz.func230 rfl Tryz.ntmps230 Tryz.results230 (by simp) fun main J hJ A w hd hs=>?_
 have y:=hs 0
 clear hs
 refine aa hJ (af hJ ?_)
 simp only[*,go_sem]
 refine an fun z U B=>?_;try simp only[ak] at B
 try simp only[*,go_sem]
 refine aa hJ (aa hJ (af hJ ?_))
 simp only[*,go_sem]
 revert h;refine jC hJ (by simp only[*,go_sem]) (fun C h=>?_) fun C h=>?_
 ·obtain rfl:=sI h
  refine aa hJ (af hJ ?_)
  simp only[*,go_sem]
  refine av ?_
  simp only[*,go_sem]
 refine aD hJ (aa hJ ?_)
 refine aa hJ (af hJ ?_)
 simp only[*,go_sem]
 refine aM hJ ?_
 revert h;refine bS fun D a g=>?_
 refine bM hJ [2,4,5,15,16,17,18,19,20,21,22,23,24,25,26,27,28,29,30,31] (fun m o F'=>∃(i32:Nat) (d:Int),m=u0.props.length - i32/\i32<=u0.props.length/\bE (ry u0) i32 (u0.props.drop i32) d=some D/\F'=⟨ro,(z,bl u0 s1 (sl d10 u0.props t) e f)::[]⟩/\slot o 15= .int .i64 (i32:Int)/\slot o 2= .int .i64 d) u0.props.length ?_ ?_
 ·refine ⟨0,0,(Nat.sub_zero _).symm,Nat.zero_le _,a,rfl,?_⟩
  simp only[*,go_sem]
 rintro V W F' q ⟨i32,d,rfl,X,a,rfl,Y,Z⟩
 obtain ⟨E,F,G⟩:=q.pick [1,13,14] (by decide)
 simp only[*,go_sem] at E F G
 clear q w hd y
 refine aa hJ (af hJ ?_)
 simp only[*,go_sem]
 refine aa hJ ?_
 rcases Nat.lt_or_ge i32 u0.props.length with H|s
 ·refine bD hJ (by simp only[*,go_sem]) ?_
  refine aD hJ ?_
  obtain ⟨i,j⟩:∃x,u0.props[i32]?=some x:=⟨_,List.getElem?_eq_getElem H⟩
  rw[cX j] at a
  revert a;refine bS fun ab h b=>?_
  unfold ry at h
  try dsimp only at h
  obtain ⟨ad,I,K,L,k⟩:=c.p.el _ _ j
  obtain rfl:I=i.cells:=L
  cases K
  have M:=k 0 _ rfl;simp only[go_sem] at M
  have N:=k 1 _ rfl;simp only[go_sem] at N
  clear k j
  refine aa hJ (aM hJ (aa hJ ?_))
  refine af hJ ?_
  simp only[*,go_sem]
  refine an fun ae al O=>?_;try simp only[ak] at O
  try simp only[*,go_sem]
  refine aa hJ (aa hJ (af hJ ?_))
  revert h;refine bS fun ao P h=>?_
  simp only[*,go_sem]
  refine aO hJ _ (q9 u0 (c.mono aN) i.place P) (aE ?_)
  try simp only[*,go_sem]
  revert h;refine jC hJ (by simp only[*,go_sem]) (fun Q h=>?_) fun Q h=>?_
  ·obtain rfl:=sI h
   refine aa hJ (af hJ ?_)
   simp only[*,go_sem]
   obtain rfl:=sI b;clear b
   have h:=g
   dsimp only[aF] at h
   obtain rfl:=sI h
   refine av ?_
   simp only[*,go_sem]
  refine aD hJ (aa hJ ?_)
  refine af hJ ?_
  revert h;refine bS fun ar R h=>?_
  simp only[*,go_sem]
  refine aO hJ _ (uN i.cV u0 (c.mono aN) R) (aE ?_)
  try simp only[*,go_sem]
  refine aa hJ (af hJ ?_)
  simp only[*,go_sem]
  revert h;refine jC hJ (by simp only[*,go_sem]) (fun S h=>?_) fun S h=>?_
  ·obtain rfl:=sI h
   refine aa hJ (af hJ ?_)
   simp only[*,go_sem]
   obtain rfl:=sI b;clear b
   have h:=g
   dsimp only[aF] at h
   obtain rfl:=sI h
   refine av ?_
   simp only[*,go_sem]
  obtain rfl:=sI h
  refine aD hJ ?_
  have a0:=cj (n:=i32) (by have:=u;omega)
  refine af hJ ?_
  simp only[*,go_sem]
  refine ⟨u0.props.length - (i32+1),by omega,_,Le.sub (List.Sublist.cons _ (List.Sublist.refl _)),i32+1,d,rfl,by omega,b,rfl,?_⟩
  simp only[*,go_sem]
 have a2:=Nat.not_lt.2 s
 refine bI hJ (by simp only[*,go_sem]) ?_
 rw[List.drop_eq_nil_of_le s] at a
 obtain rfl:=sI a;clear a
 have h:=g
 dsimp only[aF] at h
 obtain rfl:=sI h
 refine bJ ?_
 simp only[go_sem]
 refine aa hJ (af hJ ?_)
 simp only[*,go_sem]
 refine av ?_
 simp only[*,go_sem]
def rz (u0:aj)(i34:Nat)(a:bZ)(st:Int):Option (Fl Int Int):=
 ah (ff a.aK 0 (IntKind.i64.wrap (u0.bF - 1))) fun b=>cond (!b) (some (.rt 1)) (ah (ff a.high 0 60) fun c=>cond (!c) (some (.rt 1)) (cond (decide (0<(i34:Int))) (ah (bq u0.aB (IntKind.i64.wrap ((i34:Int) - 1))) fun d=>cond (decide (a.aK<=d.aK)) (some (.rt 7)) (some (.nx st))) (some (.nx st))))
def kr (u0:aj):Option Int:=
 ah (ff (u0.aB.length:Int) 2 5) fun a=>cond (!a) (some 2) (ah (bE (rz u0) 0 u0.aB 0) fun o=>aF o (fun b=>some 0) (fun _ _=>none) (fun r=>some r))
theorem Er {ro:Addr->Option Value}(u0:aj){s1 f g i:Value}(j:bt ro u0 s1 f g i){r:Int}(h:kr u0=some r):aA Tryz.prog 229 #[bv u0 s1 f g i] ⟨ro,[]⟩ (fun v _=>v= .int .i64 r):=by
 obtain ⟨d3,c4,rfl,ar,q,-⟩:=id j.e
 unfold kr at h
 refine aA.go Tryz.func229 rfl Tryz.ntmps229 Tryz.results229 (by simp) fun main J hJ A y hd hs=>?_
 have z:=hs 0
 clear hs
 refine aa hJ (af hJ ?_)
 simp only[*,go_sem]
 refine an fun B a0 C=>?_;try simp only[ak] at C
 try simp only[*,go_sem]
 refine aa hJ (aa hJ (af hJ ?_))
 revert h;refine bS fun a2 D h=>?_
 simp only[*,go_sem]
 refine aO hJ _ (fX (u0.aB.length:Int) 2 5 D) (aE ?_)
 try simp only[*,go_sem]
 revert h;refine jC hJ (by simp only[*,go_sem]) (fun E h=>?_) fun E h=>?_
 ·obtain rfl:=sI h
  refine aa hJ (af hJ ?_)
  simp only[*,go_sem]
  refine av ?_
  simp only[*,go_sem]
 refine aD hJ (aa hJ ?_)
 refine aa hJ (af hJ ?_)
 simp only[*,go_sem]
 refine aM hJ ?_
 revert h;refine bS fun F b d=>?_
 refine bM hJ [2,3,4,15,16,17,18,19,20,21,22,23,24,25,26,27,28,29,30,31,32,33,34,35,36,37,38,39,40,41,42,43,44,45,46,47,48,49] (fun m s F'=>∃(i34:Nat) (c:Int),m=u0.aB.length - i34/\i34<=u0.aB.length/\bE (rz u0) i34 (u0.aB.drop i34) c=some F/\F'=⟨ro,(B,bl u0 (sl d3 u0.aB c4) f g i)::[]⟩/\slot s 15= .int .i64 (i34:Int)/\slot s 2= .int .i64 c) u0.aB.length ?_ ?_
 ·refine ⟨0,0,(Nat.sub_zero _).symm,Nat.zero_le _,b,rfl,?_⟩
  simp only[*,go_sem]
 rintro a3 a4 F' t ⟨i34,c,rfl,a5,b,rfl,a6,a7⟩
 obtain ⟨G,H,I⟩:=t.pick [1,13,14] (by decide)
 simp only[*,go_sem] at G H I
 clear t y hd z
 refine aa hJ (af hJ ?_)
 simp only[*,go_sem]
 refine aa hJ ?_
 rcases Nat.lt_or_ge i34 u0.aB.length with K|u
 ·refine bD hJ (by simp only[*,go_sem]) ?_
  refine aD hJ ?_
  obtain ⟨k,l⟩:∃x,u0.aB[i34]?=some x:=⟨_,List.getElem?_eq_getElem K⟩
  rw[cX l] at b
  revert b;refine bS fun a8 h a=>?_
  unfold rz at h
  try dsimp only at h
  obtain ⟨a9,L,M,N,o⟩:=j.e.el _ _ l
  obtain rfl:L=k.cells:=N
  cases M
  have O:=o 0 _ rfl;simp only[go_sem] at O
  have P:=o 1 _ rfl;simp only[go_sem] at P
  clear o l
  refine aa hJ (aM hJ (aa hJ ?_))
  refine af hJ ?_
  simp only[*,go_sem]
  refine an fun ba bb Q=>?_;try simp only[ak] at Q
  try simp only[*,go_sem]
  refine aM hJ (aa hJ ?_)
  refine aa hJ (af hJ ?_)
  revert h;refine bS fun bc R h=>?_
  simp only[*,go_sem]
  refine aO hJ _ (fX k.aK 0 (IntKind.i64.wrap (u0.bF - 1)) R) (aE ?_)
  try simp only[*,go_sem]
  revert h;refine jC hJ (by simp only[*,go_sem]) (fun S h=>?_) fun S h=>?_
  ·obtain rfl:=sI h
   refine aD hJ ?_
   refine bD hJ (by simp only[*,go_sem]) ?_
   refine aa hJ (af hJ ?_)
   simp only[*,go_sem]
   obtain rfl:=sI a;clear a
   have h:=d
   dsimp only[aF] at h
   obtain rfl:=sI h
   refine av ?_
   simp only[*,go_sem]
  refine af hJ ?_
  revert h;refine bS fun bd T h=>?_
  simp only[*,go_sem]
  refine aO hJ _ (fX k.high 0 60 T) (aE ?_)
  try simp only[*,go_sem]
  revert h;refine jC hJ (by simp only[*,go_sem]) (fun U h=>?_) fun U h=>?_
  ·obtain rfl:=sI h
   refine aa hJ (af hJ ?_)
   simp only[*,go_sem]
   obtain rfl:=sI a;clear a
   have h:=d
   dsimp only[aF] at h
   obtain rfl:=sI h
   refine av ?_
   simp only[*,go_sem]
  refine aa hJ ?_
  refine cQ hJ mixed 16 2 (by simp only[*,go_sem]) (by kernel_rfl) ?_
  revert h;refine cS (fun V h=>?_) fun V h=>?_
  ·revert h;refine bS fun W X h=>?_
   obtain ⟨bj,bk,w⟩:=bX X
   obtain ⟨bm,Y,Z,ab,p⟩:=j.e.el _ _ w
   obtain rfl:Y=W.cells:=ab
   cases Z
   have ad:=p 0 _ rfl;simp only[go_sem] at ad
   have ae:=p 1 _ rfl;simp only[go_sem] at ae
   clear p w
   try simp only[*,go_sem]
   revert h;refine jC hJ (by simp only[*,go_sem]) (fun al h=>?_) fun al h=>?_
   ·obtain rfl:=sI h
    refine aa hJ (af hJ ?_)
    simp only[*,go_sem]
    obtain rfl:=sI a;clear a
    have h:=d
    dsimp only[aF] at h
    obtain rfl:=sI h
    refine av ?_
    simp only[*,go_sem]
   obtain rfl:=sI h
   refine aD hJ ?_
   have ao:=cj (n:=i34) (by have:=q;omega)
   refine af hJ ?_
   simp only[*,go_sem]
   refine ⟨u0.aB.length - (i34+1),by omega,_,Le.sub (List.Sublist.cons _ (List.Sublist.refl _)),i34+1,c,rfl,by omega,a,rfl,?_⟩
   simp only[*,go_sem]
  obtain rfl:=sI h
  try simp only[*,go_sem]
  refine bI hJ (by simp only[*,go_sem]) ?_
  refine aD hJ ?_
  have ao:=cj (n:=i34) (by have:=q;omega)
  refine af hJ ?_
  simp only[*,go_sem]
  refine ⟨u0.aB.length - (i34+1),by omega,_,Le.sub (List.Sublist.cons _ (List.Sublist.refl _)),i34+1,c,rfl,by omega,a,rfl,?_⟩
  simp only[*,go_sem]
 have bo:=Nat.not_lt.2 u
 refine bI hJ (by simp only[*,go_sem]) ?_
 rw[List.drop_eq_nil_of_le u] at b
 obtain rfl:=sI b;clear b
 have h:=d
 dsimp only[aF] at h
 obtain rfl:=sI h
 refine bJ ?_
 simp only[go_sem]
 refine aa hJ (af hJ ?_)
 simp only[*,go_sem]
 refine av ?_
 simp only[*,go_sem]
def mY (u0:aj):Option Int:=
 ah (ff u0.bF 2 60) fun b=>cond (!b) (some 1) (ah (ff u0.bL 0 60) fun c=>cond (!c) (some 1) (ah (ff u0.aV.den 1 20) fun d=>cond (!d) (some 1) (ah (ff u0.aV.num 0 20) fun e=>cond (!e) (some 1) (ah (jH u0.aV.num u0.aV.den) fun a=>cond (!((a.num==u0.aV.num)&&(a.den==u0.aV.den))) (some 3) (some 0)))))
theorem Es {ro:Addr->Option Value}(u0:aj){s1 a b c:Value}(z:bt ro u0 s1 a b c){r:Int}(h:mY u0=some r):aA Tryz.prog 228 #[bv u0 s1 a b c] ⟨ro,[]⟩ (fun v _=>v= .int .i64 r):=by
 unfold mY at h
 refine aA.go Tryz.func228 rfl Tryz.ntmps228 Tryz.results228 (by simp) fun main J hJ A d hd hs=>?_
 have e:=hs 0
 clear hs
 refine aa hJ (af hJ ?_)
 simp only[*,go_sem]
 refine an fun B C f=>?_;try simp only[ak] at f
 try simp only[*,go_sem]
 refine aa hJ (aM hJ (aa hJ ?_))
 refine aa hJ (af hJ ?_)
 revert h;refine bS fun D g h=>?_
 simp only[*,go_sem]
 refine aO hJ _ (fX u0.bF 2 60 g) (aE ?_)
 try simp only[*,go_sem]
 revert h;refine jC hJ (by simp only[*,go_sem]) (fun i h=>?_) fun i h=>?_
 ·obtain rfl:=sI h
  refine aD hJ ?_
  refine bD hJ (by simp only[*,go_sem]) ?_
  refine aa hJ (af hJ ?_)
  simp only[*,go_sem]
  refine av ?_
  simp only[*,go_sem]
 refine aa hJ (af hJ ?_)
 revert h;refine bS fun E j h=>?_
 simp only[*,go_sem]
 refine aO hJ _ (fX u0.bL 0 60 j) (aE ?_)
 try simp only[*,go_sem]
 revert h;refine jC hJ (by simp only[*,go_sem]) (fun k h=>?_) fun k h=>?_
 ·obtain rfl:=sI h
  refine aD hJ ?_
  refine bD hJ (by simp only[*,go_sem]) ?_
  refine aa hJ (af hJ ?_)
  simp only[*,go_sem]
  refine av ?_
  simp only[*,go_sem]
 refine aa hJ (af hJ ?_)
 revert h;refine bS fun G l h=>?_
 simp only[*,go_sem]
 refine aO hJ _ (fX u0.aV.den 1 20 l) (aE ?_)
 try simp only[*,go_sem]
 revert h;refine jC hJ (by simp only[*,go_sem]) (fun m h=>?_) fun m h=>?_
 ·obtain rfl:=sI h
  refine aD hJ ?_
  refine bD hJ (by simp only[*,go_sem]) ?_
  refine aa hJ (af hJ ?_)
  simp only[*,go_sem]
  refine av ?_
  simp only[*,go_sem]
 refine af hJ ?_
 revert h;refine bS fun H n h=>?_
 simp only[*,go_sem]
 refine aO hJ _ (fX u0.aV.num 0 20 n) (aE ?_)
 try simp only[*,go_sem]
 revert h;refine jC hJ (by simp only[*,go_sem]) (fun o h=>?_) fun o h=>?_
 ·obtain rfl:=sI h
  refine aa hJ (af hJ ?_)
  simp only[*,go_sem]
  refine av ?_
  simp only[*,go_sem]
 refine aa hJ ?_
 refine cQ hJ mixed 14 1 (by simp only[*,go_sem]) (by kernel_rfl) ?_
 revert h;refine bS fun I p h=>?_
 simp only[*,go_sem]
 refine ⟨_,bB hJ fun F K=>o7 u0.aV.num u0.aV.den p,cc ?_⟩
 try simp only[*,go_sem]
 revert h;refine jC hJ (by simp only[*,go_sem]) (fun q h=>?_) fun q h=>?_
 ·obtain rfl:=sI h
  refine aa hJ ?_
  refine eM [2] fun L s t u=>?_
  simp only[*,go_sem] at s t u
  clear d hd e
  refine af hJ ?_
  simp only[*,go_sem]
  refine av ?_
  simp only[*,go_sem]
 obtain rfl:=sI h
 refine aD hJ (aa hJ ?_)
 refine eM [2] fun M w x y=>?_
 simp only[*,go_sem] at w x y
 clear d hd e
 refine af hJ ?_
 simp only[*,go_sem]
 refine av ?_
 simp only[*,go_sem]
def cY (ro:Addr->Option Value):Prop:=
 ro ⟨0,0,none⟩=some (.func (.func 228) #[] #[])/\ro ⟨0,1,none⟩=some (.func (.func 229) #[] #[])/\ro ⟨0,2,none⟩=some (.func (.func 230) #[] #[])/\ro ⟨0,3,none⟩=some (.func (.func 231) #[] #[])/\ro ⟨0,4,none⟩=some (.func (.func 232) #[] #[])
theorem cY.mono {ro aI:Addr->Option Value}(h:cY ro)(a:Ext ro aI):cY aI:=
 ⟨a _ _ h.1,a _ _ h.2.1,a _ _ h.2.2.1,a _ _ h.2.2.2.1,a _ _ h.2.2.2.2⟩
def pn (_:aj):Option Int:=some 0
def mZ (b:aj):Option Int:=ah (lH b) fun x=>cond (x != 0) (some x) (pn b)
def m0 (b:aj):Option Int:=ah (lI b) fun x=>cond (x != 0) (some x) (mZ b)
def m3 (b:aj):Option Int:=ah (lJ b) fun x=>cond (x != 0) (some x) (m0 b)
def m4 (b:aj):Option Int:=ah (kr b) fun x=>cond (x != 0) (some x) (m3 b)
def lK (b:aj):Option Int:=ah (mY b) fun x=>cond (x != 0) (some x) (m4 b)
def iH (b:aj):Option Int:=lK b
def rA:Nat->aj->Option Int
 |0=>lK|1=>m4|2=>m3|3=>m0|4=>mZ|_=>pn
theorem zv {ro:Addr->Option Value}(o:cY ro)(u0:aj){s1:Value}(e:ax eN ro s1 u0.aB){s2:Value}(f:ax ej ro s2 u0.props){g:Value}(j:ax ek ro g u0.aC){k:Value}(l:ax cU ro k u0.told){r:Int}(h:iH u0=some r):
  aA Tryz.prog 12 #[.agg #[.int .i64 u0.bF,.int .i64 u0.bL,.int .i64 u0.aV.num,.int .i64 u0.aV.den,s1,s2,g,k]] ⟨ro,[]⟩ (fun v _=>v= .int .i64 r):=by
 obtain ⟨s,t,u,w,y⟩:=o
 replace h:rA 0 u0=some r:=h
 refine aA.go Tryz.func12 rfl Tryz.ntmps12 Tryz.results12 (by simp) fun main J hJ A p hd hs=>?_
 have h0:=hs 0
 clear hs
 first|refine af hJ ?_|refine aa hJ (af hJ ?_)|refine aa hJ (aa hJ (af hJ ?_))|refine aa hJ (aa hJ (aa hJ (af hJ ?_)))
 simp only[*,go_sem]
 intro d f1;have r1:=ep f1;have n1:=e8 f1;simp only[ak] at n1
 first|refine af hJ ?_|refine aa hJ (af hJ ?_)|refine aa hJ (aa hJ (af hJ ?_))|refine aa hJ (aa hJ (aa hJ (af hJ ?_)))
 simp only[*,go_sem]
 first|refine aM hJ (tY hJ (fun m a F=>∃i:Nat,F=⟨ro,[(d,.cells #[.int .i64 u0.bF,.int .i64 u0.bL,.int .i64 u0.aV.num,.int .i64 u0.aV.den,s1,s2,g,k] 29)]⟩/\m=5 - i/\sz a=18/\a.defers=[]/\slot a 1= .pointer (some ⟨d,0,none⟩)/\slot a 6= .agg #[.func (.func 228) #[] #[],.func (.func 229) #[] #[],.func (.func 230) #[] #[],.func (.func 231) #[] #[],.func (.func 232) #[] #[]]/\slot a 7= .int .i64 i/\i<=5/\rA i u0=some r) (5) ?_ ?_)|refine aa hJ (aM hJ (tY hJ (fun m a F=>∃i:Nat,F=⟨ro,[(d,.cells #[.int .i64 u0.bF,.int .i64 u0.bL,.int .i64 u0.aV.num,.int .i64 u0.aV.den,s1,s2,g,k] 29)]⟩/\m=5 - i/\sz a=18/\a.defers=[]/\slot a 1= .pointer (some ⟨d,0,none⟩)/\slot a 6= .agg #[.func (.func 228) #[] #[],.func (.func 229) #[] #[],.func (.func 230) #[] #[],.func (.func 231) #[] #[],.func (.func 232) #[] #[]]/\slot a 7= .int .i64 i/\i<=5/\rA i u0=some r) (5) ?_ ?_))|refine aa hJ (aa hJ (aM hJ (tY hJ (fun m a F=>∃i:Nat,F=⟨ro,[(d,.cells #[.int .i64 u0.bF,.int .i64 u0.bL,.int .i64 u0.aV.num,.int .i64 u0.aV.den,s1,s2,g,k] 29)]⟩/\m=5 - i/\sz a=18/\a.defers=[]/\slot a 1= .pointer (some ⟨d,0,none⟩)/\slot a 6= .agg #[.func (.func 228) #[] #[],.func (.func 229) #[] #[],.func (.func 230) #[] #[],.func (.func 231) #[] #[],.func (.func 232) #[] #[]]/\slot a 7= .int .i64 i/\i<=5/\rA i u0=some r) (5) ?_ ?_)))
 ·refine ⟨0,rfl,rfl,?_⟩
  simp only[*,go_sem,-h]
  exact ⟨Nat.zero_le _,h⟩
 ·clear h
  rintro m a F ⟨i,rfl,rfl,p,hd,h1,z,B,hi,h⟩
  rcases i with _|_|_|_|_|i
  ·replace h:ah (mY u0) (fun x=>cond (x != 0) (some x) (m4 u0))=some r:=h
   have b:=fj h;clear h;obtain ⟨x,q,h⟩:=b
   have n:((0:Nat):Int)=0:=rfl
   first|refine af hJ ?_|refine aa hJ (af hJ ?_)|refine aa hJ (aa hJ (af hJ ?_))|refine aa hJ (aa hJ (aa hJ (af hJ ?_)))
   simp only[*,go_sem,-h]
   refine aa hJ ?_
   refine bD hJ (by simp only[*,go_sem,-h]) ?_
   refine aD hJ ?_
   refine aa hJ (aM hJ ?_)
   first|refine af hJ ?_|refine aa hJ (af hJ ?_)|refine aa hJ (aa hJ (af hJ ?_))|refine aa hJ (aa hJ (aa hJ (af hJ ?_)))
   simp only[*,go_sem,-h]
   first|refine af hJ ?_|refine aa hJ (af hJ ?_)|refine aa hJ (aa hJ (af hJ ?_))|refine aa hJ (aa hJ (aa hJ (af hJ ?_)))
   simp only[*,go_sem,-h]
   refine aO hJ _ (Es u0 ⟨(e.mono aN),(f.mono aN),(j.mono aN),(l.mono aN)⟩ q) (aE ?_)
   simp only[*,go_sem,-h]
   first|refine af hJ ?_|refine aa hJ (af hJ ?_)|refine aa hJ (aa hJ (af hJ ?_))|refine aa hJ (aa hJ (aa hJ (af hJ ?_)))
   simp only[*,go_sem,-h]
   have b:=iz h;clear h;rcases b with ⟨c,h⟩|⟨c,h⟩
   ·refine bD hJ (by simp only[*,go_sem,-h]) ?_
    first|refine af hJ ?_|refine aa hJ (af hJ ?_)|refine aa hJ (aa hJ (af hJ ?_))|refine aa hJ (aa hJ (aa hJ (af hJ ?_)))
    simp only[*,go_sem,-h]
    have b:=Option.some.inj h;clear h;subst b
    refine av ?_
    simp only[*,go_sem]
   ·refine bI hJ (by simp only[*,go_sem,-h]) ?_
    refine aD hJ ?_
    refine af hJ ?_
    simp only[*,go_sem,-h]
    refine ⟨5 - 1,by omega,_,Le.refl _,1,rfl,rfl,?_⟩
    have hw:IntKind.i64.wrap (0+1)=((1:Nat):Int):=by decide
    simp only[*,go_sem,-h]
    exact ⟨by omega,h⟩
  ·replace h:ah (kr u0) (fun x=>cond (x != 0) (some x) (m3 u0))=some r:=h
   have b:=fj h;clear h;obtain ⟨x,q,h⟩:=b
   have n:((0+1:Nat):Int)=1:=rfl
   first|refine af hJ ?_|refine aa hJ (af hJ ?_)|refine aa hJ (aa hJ (af hJ ?_))|refine aa hJ (aa hJ (aa hJ (af hJ ?_)))
   simp only[*,go_sem,-h]
   refine aa hJ ?_
   refine bD hJ (by simp only[*,go_sem,-h]) ?_
   refine aD hJ ?_
   refine aa hJ (aM hJ ?_)
   first|refine af hJ ?_|refine aa hJ (af hJ ?_)|refine aa hJ (aa hJ (af hJ ?_))|refine aa hJ (aa hJ (aa hJ (af hJ ?_)))
   simp only[*,go_sem,-h]
   first|refine af hJ ?_|refine aa hJ (af hJ ?_)|refine aa hJ (aa hJ (af hJ ?_))|refine aa hJ (aa hJ (aa hJ (af hJ ?_)))
   simp only[*,go_sem,-h]
   refine aO hJ _ (Er u0 ⟨(e.mono aN),(f.mono aN),(j.mono aN),(l.mono aN)⟩ q) (aE ?_)
   simp only[*,go_sem,-h]
   first|refine af hJ ?_|refine aa hJ (af hJ ?_)|refine aa hJ (aa hJ (af hJ ?_))|refine aa hJ (aa hJ (aa hJ (af hJ ?_)))
   simp only[*,go_sem,-h]
   have b:=iz h;clear h;rcases b with ⟨c,h⟩|⟨c,h⟩
   ·refine bD hJ (by simp only[*,go_sem,-h]) ?_
    first|refine af hJ ?_|refine aa hJ (af hJ ?_)|refine aa hJ (aa hJ (af hJ ?_))|refine aa hJ (aa hJ (aa hJ (af hJ ?_)))
    simp only[*,go_sem,-h]
    have b:=Option.some.inj h;clear h;subst b
    refine av ?_
    simp only[*,go_sem]
   ·refine bI hJ (by simp only[*,go_sem,-h]) ?_
    refine aD hJ ?_
    refine af hJ ?_
    simp only[*,go_sem,-h]
    refine ⟨5 - 2,by omega,_,Le.refl _,2,rfl,rfl,?_⟩
    have hw:IntKind.i64.wrap (1+1)=((2:Nat):Int):=by decide
    simp only[*,go_sem,-h]
    exact ⟨by omega,h⟩
  ·replace h:ah (lJ u0) (fun x=>cond (x != 0) (some x) (m0 u0))=some r:=h
   have b:=fj h;clear h;obtain ⟨x,q,h⟩:=b
   have n:((0+1+1:Nat):Int)=2:=rfl
   first|refine af hJ ?_|refine aa hJ (af hJ ?_)|refine aa hJ (aa hJ (af hJ ?_))|refine aa hJ (aa hJ (aa hJ (af hJ ?_)))
   simp only[*,go_sem,-h]
   refine aa hJ ?_
   refine bD hJ (by simp only[*,go_sem,-h]) ?_
   refine aD hJ ?_
   refine aa hJ (aM hJ ?_)
   first|refine af hJ ?_|refine aa hJ (af hJ ?_)|refine aa hJ (aa hJ (af hJ ?_))|refine aa hJ (aa hJ (aa hJ (af hJ ?_)))
   simp only[*,go_sem,-h]
   first|refine af hJ ?_|refine aa hJ (af hJ ?_)|refine aa hJ (aa hJ (af hJ ?_))|refine aa hJ (aa hJ (aa hJ (af hJ ?_)))
   simp only[*,go_sem,-h]
   refine aO hJ _ (Ep u0 ⟨(e.mono aN),(f.mono aN),(j.mono aN),(l.mono aN)⟩ q) (aE ?_)
   simp only[*,go_sem,-h]
   first|refine af hJ ?_|refine aa hJ (af hJ ?_)|refine aa hJ (aa hJ (af hJ ?_))|refine aa hJ (aa hJ (aa hJ (af hJ ?_)))
   simp only[*,go_sem,-h]
   have b:=iz h;clear h;rcases b with ⟨c,h⟩|⟨c,h⟩
   ·refine bD hJ (by simp only[*,go_sem,-h]) ?_
    first|refine af hJ ?_|refine aa hJ (af hJ ?_)|refine aa hJ (aa hJ (af hJ ?_))|refine aa hJ (aa hJ (aa hJ (af hJ ?_)))
    simp only[*,go_sem,-h]
    have b:=Option.some.inj h;clear h;subst b
    refine av ?_
    simp only[*,go_sem]
   ·refine bI hJ (by simp only[*,go_sem,-h]) ?_
    refine aD hJ ?_
    refine af hJ ?_
    simp only[*,go_sem,-h]
    refine ⟨5 - 3,by omega,_,Le.refl _,3,rfl,rfl,?_⟩
    have hw:IntKind.i64.wrap (2+1)=((3:Nat):Int):=by decide
    simp only[*,go_sem,-h]
    exact ⟨by omega,h⟩
  ·replace h:ah (lI u0) (fun x=>cond (x != 0) (some x) (mZ u0))=some r:=h
   have b:=fj h;clear h;obtain ⟨x,q,h⟩:=b
   have n:((0+1+1+1:Nat):Int)=3:=rfl
   first|refine af hJ ?_|refine aa hJ (af hJ ?_)|refine aa hJ (aa hJ (af hJ ?_))|refine aa hJ (aa hJ (aa hJ (af hJ ?_)))
   simp only[*,go_sem,-h]
   refine aa hJ ?_
   refine bD hJ (by simp only[*,go_sem,-h]) ?_
   refine aD hJ ?_
   refine aa hJ (aM hJ ?_)
   first|refine af hJ ?_|refine aa hJ (af hJ ?_)|refine aa hJ (aa hJ (af hJ ?_))|refine aa hJ (aa hJ (aa hJ (af hJ ?_)))
   simp only[*,go_sem,-h]
   first|refine af hJ ?_|refine aa hJ (af hJ ?_)|refine aa hJ (aa hJ (af hJ ?_))|refine aa hJ (aa hJ (aa hJ (af hJ ?_)))
   simp only[*,go_sem,-h]
   refine aO hJ _ (Eo u0 ⟨(e.mono aN),(f.mono aN),(j.mono aN),(l.mono aN)⟩ q) (aE ?_)
   simp only[*,go_sem,-h]
   first|refine af hJ ?_|refine aa hJ (af hJ ?_)|refine aa hJ (aa hJ (af hJ ?_))|refine aa hJ (aa hJ (aa hJ (af hJ ?_)))
   simp only[*,go_sem,-h]
   have b:=iz h;clear h;rcases b with ⟨c,h⟩|⟨c,h⟩
   ·refine bD hJ (by simp only[*,go_sem,-h]) ?_
    first|refine af hJ ?_|refine aa hJ (af hJ ?_)|refine aa hJ (aa hJ (af hJ ?_))|refine aa hJ (aa hJ (aa hJ (af hJ ?_)))
    simp only[*,go_sem,-h]
    have b:=Option.some.inj h;clear h;subst b
    refine av ?_
    simp only[*,go_sem]
   ·refine bI hJ (by simp only[*,go_sem,-h]) ?_
    refine aD hJ ?_
    refine af hJ ?_
    simp only[*,go_sem,-h]
    refine ⟨5 - 4,by omega,_,Le.refl _,4,rfl,rfl,?_⟩
    have hw:IntKind.i64.wrap (3+1)=((4:Nat):Int):=by decide
    simp only[*,go_sem,-h]
    exact ⟨by omega,h⟩
  ·replace h:ah (lH u0) (fun x=>cond (x != 0) (some x) (pn u0))=some r:=h
   have b:=fj h;clear h;obtain ⟨x,q,h⟩:=b
   have n:((0+1+1+1+1:Nat):Int)=4:=rfl
   first|refine af hJ ?_|refine aa hJ (af hJ ?_)|refine aa hJ (aa hJ (af hJ ?_))|refine aa hJ (aa hJ (aa hJ (af hJ ?_)))
   simp only[*,go_sem,-h]
   refine aa hJ ?_
   refine bD hJ (by simp only[*,go_sem,-h]) ?_
   refine aD hJ ?_
   refine aa hJ (aM hJ ?_)
   first|refine af hJ ?_|refine aa hJ (af hJ ?_)|refine aa hJ (aa hJ (af hJ ?_))|refine aa hJ (aa hJ (aa hJ (af hJ ?_)))
   simp only[*,go_sem,-h]
   first|refine af hJ ?_|refine aa hJ (af hJ ?_)|refine aa hJ (aa hJ (af hJ ?_))|refine aa hJ (aa hJ (aa hJ (af hJ ?_)))
   simp only[*,go_sem,-h]
   refine aO hJ _ (En u0 ⟨(e.mono aN),(f.mono aN),(j.mono aN),(l.mono aN)⟩ q) (aE ?_)
   simp only[*,go_sem,-h]
   first|refine af hJ ?_|refine aa hJ (af hJ ?_)|refine aa hJ (aa hJ (af hJ ?_))|refine aa hJ (aa hJ (aa hJ (af hJ ?_)))
   simp only[*,go_sem,-h]
   have b:=iz h;clear h;rcases b with ⟨c,h⟩|⟨c,h⟩
   ·refine bD hJ (by simp only[*,go_sem,-h]) ?_
    first|refine af hJ ?_|refine aa hJ (af hJ ?_)|refine aa hJ (aa hJ (af hJ ?_))|refine aa hJ (aa hJ (aa hJ (af hJ ?_)))
    simp only[*,go_sem,-h]
    have b:=Option.some.inj h;clear h;subst b
    refine av ?_
    simp only[*,go_sem]
   ·refine bI hJ (by simp only[*,go_sem,-h]) ?_
    refine aD hJ ?_
    refine af hJ ?_
    simp only[*,go_sem,-h]
    refine ⟨5 - 5,by omega,_,Le.refl _,5,rfl,rfl,?_⟩
    have hw:IntKind.i64.wrap (4+1)=((5:Nat):Int):=by decide
    simp only[*,go_sem,-h]
    exact ⟨by omega,h⟩
  ·have:i=0:=by omega
   subst this
   replace h:some 0=some r:=h
   have n:((0+1+1+1+1+1:Nat):Int)=5:=rfl
   first|refine af hJ ?_|refine aa hJ (af hJ ?_)|refine aa hJ (aa hJ (af hJ ?_))|refine aa hJ (aa hJ (aa hJ (af hJ ?_)))
   simp only[*,go_sem,-h]
   refine aa hJ ?_
   refine bI hJ (by simp only[*,go_sem,-h]) ?_
   refine bJ ?_
   simp only[go_sem]
   first|refine af hJ ?_|refine aa hJ (af hJ ?_)|refine aa hJ (aa hJ (af hJ ?_))|refine aa hJ (aa hJ (aa hJ (af hJ ?_)))
   simp only[*,go_sem,-h]
   have b:=Option.some.inj h;clear h;subst b
   refine av ?_
   simp only[*,go_sem]
def m5 (u0:aj)(b:bf)(i39:Nat)(a:bZ)(st:(List bA)):Option (Fl (List bA) bA):=
 ah (fF a.high) fun c=>ah (jI u0 b (i39:Int) (⟨a.aK,c⟩:gx)) fun d=>ah (cI st ([d])) fun e=>some (.nx e)
def ku (u0:aj)(b:bf):Option bA:=
 ah (bE (m5 u0 b) 0 u0.aB ([]:List bA)) fun o=>aF o (fun a=>ah (bq a 0) fun c=>ah (iA a 1 (a.length:Int)) fun d=>ah (lG iF c d) fun e=>some e) (fun _ _=>none) (fun r=>some r)
theorem rC {ro:Addr->Option Value}(u0:aj){s1 f g i:Value}(u:bt ro u0 s1 f g i)(b:bf){r:bA}(h:ku u0 b=some r):aA Tryz.prog 56 #[bv u0 s1 f g i,.agg #[.int .i64 b.back,.int .i64 b.high]] ⟨ro,[]⟩ (fun v _=>v=r.v):=by
 obtain ⟨d3,c4,rfl,dT,W,-⟩:=id u.e
 unfold ku at h
 refine aA.go Tryz.func56 rfl Tryz.ntmps56 Tryz.results56 (by simp) fun main J hJ A X hd hs=>?_
 have Y:=hs 0
 have k1:=hs 1
 clear hs
 refine aa hJ (af hJ ?_)
 simp only[*,go_sem]
 refine an fun o Z ab=>?_;try simp only[ak] at ab
 refine an fun p ad ae=>?_;try simp only[ak] at ae
 refine an fun q al ao=>?_;try simp only[ak] at ao
 try simp only[*,go_sem]
 refine aa hJ (af hJ ?_)
 simp only[*,go_sem]
 refine aa hJ (aa hJ (af hJ ?_))
 simp only[*,go_sem]
 refine aM hJ ?_
 revert h;refine bS fun ar j a0=>?_
 refine bM hJ [5,6,7,12,13,14,15,16,17,18,19,20,21,22,23,24,25,26,27,28,29,30] (fun m G F'=>∃(i39:Nat) (d33:Option Addr) (s:Nat) (w:List (Nat×Obj)) (c:(List bA)),m=u0.aB.length - i39/\i39<=u0.aB.length/\bE (m5 u0 b) i39 (u0.aB.drop i39) c=some ar/\F'=⟨ro,(q,.cells #[.int .i64 0,.int .i64 0,.int .i64 0,.int .i64 0,.int .i64 0,.int .i64 0] 94)::(p,.cells #[.int .i64 b.back,.int .i64 b.high] 90)::(o,bl u0 (sl d3 u0.aB c4) f g i)::w⟩/\aP jG ro 94 (.slice d33 c.length s) c w/\c.length<=s/\slot G 12= .int .i64 (i39:Int)/\slot G 5= .slice d33 c.length s) u0.aB.length ?_ ?_
 ·refine ⟨0,none,0,[],([]:List bA),(Nat.sub_zero _).symm,Nat.zero_le _,j,rfl,aP.nil _ _ _,Nat.le_refl _,?_⟩
  simp only[*,go_sem]
 rintro ea eb F' H ⟨i39,d33,s,w,c,rfl,ec,j,rfl,I,ed,eh,et⟩
 obtain ⟨a2,a3,a4⟩:=H.pick [2,3,4,10,11] (by decide)
 simp only[*,go_sem] at a2 a3 a4
 clear H X hd Y k1
 refine aa hJ (af hJ ?_)
 simp only[*,go_sem]
 refine aa hJ ?_
 rcases Nat.lt_or_ge i39 u0.aB.length with a5|K
 ·refine bD hJ (by simp only[*,go_sem]) ?_
  refine aD hJ ?_
  obtain ⟨d,y⟩:∃x,u0.aB[i39]?=some x:=⟨_,List.getElem?_eq_getElem a5⟩
  rw[cX y] at j
  revert j;refine bS fun ev h a6=>?_
  unfold m5 at h
  try dsimp only at h
  obtain ⟨z,a7,a8,a9,B⟩:=u.e.el _ _ y
  obtain rfl:a7=d.cells:=a9
  cases a8
  have ba:=B 0 _ rfl;simp only[go_sem] at ba
  have bb:=B 1 _ rfl;simp only[go_sem] at bb
  clear B y
  refine aa hJ (aM hJ (aa hJ ?_))
  refine aH hJ fun bc=>?_
  refine af hJ ?_
  simp only[*,go_sem]
  refine an fun C eQ L=>?_;have eS:=aL.cons L bc;try simp only[ak] at L
  try simp only[*,go_sem]
  refine aH hJ fun bd=>?_
  refine dY hJ mixed 11 ⟨ro,[(C,.cells #[.int .i64 d.aK,.int .i64 d.high] 132),(q,.cells #[.int .i64 0,.int .i64 0,.int .i64 0,.int .i64 0,.int .i64 0,.int .i64 0] 94),(p,.cells #[.int .i64 b.back,.int .i64 b.high] 90),(o,bl u0 (sl (some z) u0.aB c4) f g i)]⟩ (by simp only[*,go_sem]) (by kernel_rfl) ?_
  revert h;refine bS fun bj bk h=>?_
  simp only[*,go_sem]
  refine ⟨_,bB hJ fun F t=>iW d.high bk,cc ?_⟩
  revert h;refine bS fun a bm h=>?_
  try simp only[*,go_sem]
  refine ⟨_,bB hJ fun F t=>zu u0 (u.mono (bQ t)) b (i39:Int) (⟨d.aK,bj⟩:gx) bm,?_⟩
  revert h;refine bS fun bo br h=>?_
  obtain rfl:=sI h
  obtain ⟨bs,M⟩:=cG br
  try simp only[*,go_sem]
  refine an fun N bz O=>?_;have b0:=aL.cons O bd;try simp only[ak] at O
  try simp only[*,go_sem]
  refine di (r:=jG) (l:=c) (x:=a) (cs:=#[.int .i64 a.spot.aK,.int .i64 a.spot.high.num,.int .i64 a.spot.high.den,.int .i64 a.at_,.int .i64 a.high.num,.int .i64 a.high.den]) (e2:=94) [(N,.cells #[.int .i64 a.spot.aK,.int .i64 a.spot.high.num,.int .i64 a.spot.high.den,.int .i64 a.at_,.int .i64 a.high.num,.int .i64 a.high.den] 94),(C,.cells #[.int .i64 d.aK,.int .i64 d.high] 132),(q,.cells #[.int .i64 0,.int .i64 0,.int .i64 0,.int .i64 0,.int .i64 0,.int .i64 0] 94),(p,.cells #[.int .i64 b.back,.int .i64 b.high] 90),(o,bl u0 (sl (some z) u0.aB c4) f g i)] [] I b0 bs rfl (by simp only[*,go_sem]) bz rfl rfl mR mR uj um rfl uk (by decide) (by decide) (fun e0 P D b1 b2 e1=>?_)
  simp only[List.append_nil,List.cons_append,List.nil_append,List.append_assoc] at b2
  subst b1
  rw[<-M] at D;clear M
  obtain ⟨d63,b3,rfl,b4⟩:=D.len
  refine ⟨⟨ro,(N,.cells #[.int .i64 a.spot.aK,.int .i64 a.spot.high.num,.int .i64 a.spot.high.den,.int .i64 a.at_,.int .i64 a.high.num,.int .i64 a.high.den] 94)::(C,.cells #[.int .i64 d.aK,.int .i64 d.high] 132)::(q,.cells #[.int .i64 0,.int .i64 0,.int .i64 0,.int .i64 0,.int .i64 0,.int .i64 0] 94)::(p,.cells #[.int .i64 b.back,.int .i64 b.high] 90)::(o,bl u0 (sl (some z) u0.aB c4) f g i)::P⟩,Le.refl _,?_⟩
  refine ⟨by simp only[*,go_sem],k8 ?_⟩
  try simp only[*,go_sem]
  have e3:=cj (n:=i39) (by have:=W;omega)
  refine af hJ ?_
  simp only[*,go_sem]
  refine ⟨u0.aB.length - (i39+1),by omega,_,Le.sub (List.Sublist.cons _ (List.Sublist.cons _ (List.Sublist.refl _))),i39+1,d63,b3,P,bo,rfl,by omega,a6,rfl,D,b4,?_⟩
  simp only[*,go_sem]
 have fa:=Nat.not_lt.2 K
 refine bI hJ (by simp only[*,go_sem]) ?_
 rw[List.drop_eq_nil_of_le K] at j
 obtain rfl:=sI j;clear j
 have h:=a0
 dsimp only[aF] at h
 refine bJ ?_
 simp only[go_sem]
 refine aa hJ ?_
 refine aH hJ fun Q=>?_
 obtain ⟨b5,fb,ca,E,cb⟩:=I.dF [(q,.cells #[.int .i64 0,.int .i64 0,.int .i64 0,.int .i64 0,.int .i64 0,.int .i64 0] 94),(p,.cells #[.int .i64 b.back,.int .i64 b.high] 90),(o,bl u0 (sl d3 u0.aB c4) f g i)] [] Q (az.cons al (az.cons ad (az.cons Z (az.nil _))))
 clear Q
 refine cA hJ cb ?_
 obtain ⟨fg,fi,-⟩:=E.op
 simp only[aU] at ca
 refine dY hJ mixed 6 ⟨b5,[(p,.cells #[.int .i64 b.back,.int .i64 b.high] 90),(o,bl u0 (sl d3 u0.aB c4) f g i)]⟩ (by simp only[*,go_sem]) (by kernel_rfl) ?_
 revert h;refine bS fun R cd h=>?_
 obtain ⟨fp,fr,S⟩:=bX cd
 obtain ⟨fs,cf,cl,cy,k⟩:=E.el _ _ S
 obtain rfl:cf=R.cells:=cy
 cases cl
 have cS:=k 0 _ rfl;simp only[go_sem] at cS
 have c0:=k 1 _ rfl;simp only[go_sem] at c0
 have da:=k 2 _ rfl;simp only[go_sem] at da
 have db:=k 3 _ rfl;simp only[go_sem] at db
 have dd:=k 4 _ rfl;simp only[go_sem] at dd
 have df:=k 5 _ rfl;simp only[go_sem] at df
 clear k S
 revert h;refine bS fun dk dp h=>?_
 obtain ⟨ft,fu,fv,T⟩:=oN dp
 have U:(1:Int).toNat<=((c.length:Int)).toNat:=by omega
 have dq:((c.length:Int)).toNat<=s:=by omega
 have fw:0<=((c.length:Int)):=by omega
 obtain ⟨d80,ds,dt,V⟩:=ax.oQ E (1:Int).toNat ((c.length:Int)).toNat U (by omega) T
 simp only[go_sem] at ds dt U dq
 obtain ⟨_,_,du,fx,gg,gl⟩:=id V;cases du
 clear T
 revert h;refine bS fun gn dv h=>?_
 obtain rfl:=sI h
 try simp only[*,go_sem]
 refine ⟨_,bB hJ fun F t=>ri (dA:=67) (dQ:=#[]) (dR:=#[]) iF ⟨by simp only[go_sem],fun gp gB dC dE _ h=>by simp only[go_sem];exact q7 dC dE h⟩ R dk (V.mono (bQ t)) dv,?_⟩
 try simp only[*,go_sem]
 refine av ?_
 simp only[*,go_sem]
def rD (u0:aj)(a:bf):Option au:=
 ah (fF u0.bL) fun b=>ah (ku u0 a) fun c=>ah (iY b c.high) fun d=>some d
theorem zw {ro:Addr->Option Value}(u0:aj){s1 b c d:Value}(f:bt ro u0 s1 b c d)(a:bf){r:au}(h:rD u0 a=some r):aA Tryz.prog 63 #[bv u0 s1 b c d,.agg #[.int .i64 a.back,.int .i64 a.high]] ⟨ro,[]⟩ (fun v _=>v=r.v):=by
 unfold rD at h
 refine aA.go Tryz.func63 rfl Tryz.ntmps63 Tryz.results63 (by simp) fun main J hJ A s hd hs=>?_
 have t:=hs 0
 have k1:=hs 1
 clear hs
 refine aa hJ (af hJ ?_)
 simp only[*,go_sem]
 refine an fun g u i=>?_;try simp only[ak] at i
 refine an fun j w k=>?_;try simp only[ak] at k
 refine an fun x y l=>?_;try simp only[ak] at l
 try simp only[*,go_sem]
 refine aa hJ ?_
 refine dY hJ mixed 9 ⟨ro,[(j,.cells #[.int .i64 a.back,.int .i64 a.high] 90),(g,bl u0 s1 b c d)]⟩ (by simp only[*,go_sem]) (by kernel_rfl) ?_
 revert h;refine bS fun m n h=>?_
 simp only[*,go_sem]
 refine ⟨_,bB hJ fun F e=>iW u0.bL n,cc ?_⟩
 revert h;refine bS fun o p h=>?_
 try simp only[*,go_sem]
 refine ⟨_,bB hJ fun F e=>rC u0 (f.mono (bQ e)) a p,cc ?_⟩
 revert h;refine bS fun z q h=>?_
 obtain rfl:=sI h
 try simp only[*,go_sem]
 refine ⟨_,bB hJ fun F e=>o9 m o.high q,?_⟩
 try simp only[*,go_sem]
 refine av ?_
 simp only[*,go_sem]
def m6 (u0:aj)(a:Int)(st:Int):Option (Fl Int au):=
 ah (bq u0.aB st) fun b=>cond (decide (b.aK<a)) (some (.nx (IntKind.i64.wrap (st+1)))) (some (.bk st))
def kz (u0:aj)(b:Int):Option au:=
 ah (aR (m6 u0 b) fu 1) fun o=>aF o (fun c=>ah (bq u0.aB (IntKind.i64.wrap (c - 1))) fun a=>ah (bq u0.aB c) fun d=>ah (fF a.high) fun e=>ah (jH (IntKind.i64.wrap ((IntKind.i64.wrap (d.high - a.high))*(IntKind.i64.wrap (b - a.aK)))) (IntKind.i64.wrap (d.aK - a.aK))) fun f=>ah (iX e f) fun g=>some g) (fun _ _=>none) (fun r=>some r)
theorem zx {ro:Addr->Option Value}(u0:aj){s1 b c d:Value}(g:bt ro u0 s1 b c d)(i:Int){r:au}(h:kz u0 i=some r):aA Tryz.prog 52 #[bv u0 s1 b c d,.int .i64 i] ⟨ro,[]⟩ (fun v _=>v=r.v):=by
 obtain ⟨d3,c4,rfl,bc,bd,-⟩:=id g.e
 unfold kz at h
 refine aA.go Tryz.func52 rfl Tryz.ntmps52 Tryz.results52 (by simp) fun main J hJ A E hd hs=>?_
 have G:=hs 0
 have k1:=hs 1
 clear hs
 refine aa hJ (af hJ ?_)
 simp only[*,go_sem]
 refine an fun l bj H=>?_;try simp only[ak] at H
 refine an fun t bk I=>?_;try simp only[ak] at I
 try simp only[*,go_sem]
 refine aa hJ (af hJ ?_)
 simp only[*,go_sem]
 refine aa hJ (aM hJ ?_)
 revert h;refine bS fun K j L=>?_
 refine bM hJ [5,8,9,10,11,12,13,14,15,16,17,18] (fun m M F'=>∃(k:Int),aR (m6 u0 i) m k=some K/\F'=⟨ro,(t,rt 0 0)::(l,bl u0 (sl d3 u0.aB c4) b c d)::[]⟩/\slot M 5= .int .i64 k) fu ?_ ?_
 ·refine ⟨1,j,rfl,?_⟩
  simp only[*,go_sem]
 rintro n bm F' u ⟨k,j,rfl,bo⟩
 obtain ⟨N,O,P⟩:=u.pick [1,2,4] (by decide)
 simp only[*,go_sem] at N O P
 clear u E hd G k1
 obtain _|n:=n
 ·exact absurd j (by simp only[aR,reduceCtorEq,not_false_eq_true])
 revert j;refine bS fun br h o=>?_
 unfold m6 at h
 try dsimp only at h
 refine aa hJ (aa hJ (af hJ ?_))
 revert h;refine bS fun Q R h=>?_
 obtain ⟨bs,bz,w⟩:=bX R
 obtain ⟨x,S,T,U,p⟩:=g.e.el _ _ w
 obtain rfl:S=Q.cells:=U
 cases T
 have y:=p 0 _ rfl;simp only[go_sem] at y
 have z:=p 1 _ rfl;simp only[go_sem] at z
 clear p w
 try simp only[*,go_sem]
 revert h;refine jC hJ (by simp only[*,go_sem]) (fun V h=>?_) fun V h=>?_
 ·obtain rfl:=sI h
  refine aD hJ (aM hJ ?_)
  refine af hJ ?_
  simp only[*,go_sem]
  refine ⟨n,Nat.lt_succ_self _,_,Le.sub (List.Sublist.refl _),(IntKind.i64.wrap (k+1)),o,rfl,?_⟩
  simp only[*,go_sem]
 obtain rfl:=sI h
 refine bJ ?_
 simp only[go_sem]
 obtain rfl:=sI o;clear o
 have h:=L
 dsimp only[aF] at h
 clear y z
 refine aa hJ ?_
 refine qU hJ mixed 13 ⟨ro,[(t,rt 0 0),(l,bl u0 (sl (some x) u0.aB c4) b c d)]⟩ (by simp only[*,go_sem]) (by kernel_rfl) 132 rfl uo ?_
 revert h;refine bS fun a W h=>?_
 obtain ⟨b0,b1,B⟩:=bX W
 obtain ⟨b2,X,Y,Z,q⟩:=g.e.el _ _ B
 obtain rfl:X=a.cells:=Z
 cases Y
 have ab:=q 0 _ rfl;simp only[go_sem] at ab
 have ad:=q 1 _ rfl;simp only[go_sem] at ad
 clear q B
 revert h;refine bS fun f ae h=>?_
 obtain ⟨b3,b4,C⟩:=bX ae
 obtain ⟨b5,al,ao,ar,s⟩:=g.e.el _ _ C
 obtain rfl:al=f.cells:=ar
 cases ao
 have a0:=s 0 _ rfl;simp only[go_sem] at a0
 have a2:=s 1 _ rfl;simp only[go_sem] at a2
 clear s C
 try simp only[*,go_sem]
 refine an fun a3 ca a4=>?_;try simp only[ak] at a4
 try simp only[*,go_sem]
 refine an fun a5 cb a6=>?_;try simp only[ak] at a6
 try simp only[*,go_sem]
 refine aa hJ ?_
 refine dY hJ mixed 20 ⟨ro,[(a5,.cells #[.int .i64 f.aK,.int .i64 f.high] 132),(a3,.cells #[.int .i64 a.aK,.int .i64 a.high] 132),(l,bl u0 (sl (some x) u0.aB c4) b c d)]⟩ (by simp only[*,go_sem]) (by kernel_rfl) ?_
 revert h;refine bS fun a7 a8 h=>?_
 simp only[*,go_sem]
 refine ⟨_,bB hJ fun F D=>iW a.high a8,cc ?_⟩
 revert h;refine bS fun a9 ba h=>?_
 try simp only[*,go_sem]
 refine ⟨_,bB hJ fun F D=>o7 (IntKind.i64.wrap ((IntKind.i64.wrap (f.high - a.high))*(IntKind.i64.wrap (i - a.aK)))) (IntKind.i64.wrap (f.aK - a.aK)) ba,cc ?_⟩
 revert h;refine bS fun cd bb h=>?_
 obtain rfl:=sI h
 try simp only[*,go_sem]
 refine ⟨_,bB hJ fun F D=>o8 a7 a9 bb,?_⟩
 try simp only[*,go_sem]
 refine av ?_
 simp only[*,go_sem]
def pq (c:b6)(b:au)(i59:Nat)(a:bA)(st:Unit):Option (Fl Unit (List bA)):=
 cond (((a.spot.aK==c.place)&&((a.spot.high.num==b.num)&&(a.spot.high.den==b.den)))) (some (.br 1 ())) (some (.nx ()))
def pz (u0:aj)(c:bf)(i38:Nat)(a:b6)(st:(List bA)):Option (Fl (List bA) (List bA)):=
 ah (kz u0 a.place) fun d=>ah (fF a.cV) fun e=>ah (iX d e) fun b=>ah (bE (pq a b) 0 st ()) fun o=>aF o (fun h=>ah (jI u0 c (i38:Int) (⟨a.place,b⟩:gx)) fun f=>ah (cI st ([f])) fun g=>some (.nx g)) (fun _ i=>some (.nx st)) (fun r=>some (.rt r))
def iZ (u0:aj)(a:bf):Option (List bA):=
 ah (bE (pz u0 a) 0 u0.props ([]:List bA)) fun o=>aF o (fun b=>some b) (fun _ _=>none) (fun r=>some r)
theorem uO {ro:Addr->Option Value}(u0:aj){s1 O f g:Value}(w:bt ro u0 s1 O f g)(b:bf){r:(List bA)}(h:iZ u0 b=some r):c9 Tryz.prog 65 #[bv u0 s1 O f g,.agg #[.int .i64 b.back,.int .i64 b.high]] ro (fun v aI=>∃P,v=P/\ax jG aI P r):=by
 obtain ⟨d10,o,rfl,fi,Q,-⟩:=id w.p
 unfold iZ at h
 refine aA.go Tryz.func65 rfl Tryz.ntmps65 Tryz.results65 (by simp) fun main J hJ A ba hd hs=>?_
 have bb:=hs 0
 have k1:=hs 1
 clear hs
 refine aa hJ (af hJ ?_)
 simp only[*,go_sem]
 refine an fun q bc bj=>?_;try simp only[ak] at bj
 refine an fun s bk bm=>?_;try simp only[ak] at bm
 try simp only[*,go_sem]
 refine Cl hJ (aa hJ ?_)
 refine af hJ ?_
 simp only[*,go_sem]
 refine aa hJ ?_
 refine Ck hJ ?_
 refine aa hJ (aa hJ (af hJ ?_))
 simp only[*,go_sem]
 refine aM hJ ?_
 revert h;refine bS fun bo i br=>?_
 refine bM hJ [5,6,7,8,10,15,16,17,18,19,20,21,22,23,24,25,26,27,28,29,30,31,32,33,34,35,36,37,38,39,40,41,42,43,44,45,46,47,48,49,50] (fun m y F'=>∃(i38:Nat) (d32:Option Addr) (t:Nat) (z:List (Nat×Obj)) (c:(List bA)),m=u0.props.length - i38/\i38<=u0.props.length/\bE (pz u0 b) i38 (u0.props.drop i38) c=some bo/\F'=⟨ro,(s,.cells #[.int .i64 b.back,.int .i64 b.high] 90)::(q,bl u0 s1 (sl d10 u0.props o) f g)::z⟩/\aP jG ro 94 (.slice d32 c.length t) c z/\c.length<=t/\slot y 15= .int .i64 (i38:Int)/\slot y 5= .slice d32 c.length t) u0.props.length ?_ ?_
 ·refine ⟨0,none,0,[],([]:List bA),(Nat.sub_zero _).symm,Nat.zero_le _,i,rfl,aP.nil _ _ _,Nat.le_refl _,?_⟩
  simp only[*,go_sem]
 rintro fp bs F' R ⟨i38,d32,t,z,c,rfl,fr,i,rfl,u,bz,b0,b1⟩
 obtain ⟨S,T,U⟩:=R.pick [2,3,4,13,14] (by decide)
 simp only[*,go_sem] at S T U
 clear R ba hd bb k1
 refine aa hJ (af hJ ?_)
 simp only[*,go_sem]
 refine aa hJ ?_
 rcases Nat.lt_or_ge i38 u0.props.length with b2|V
 ·refine bD hJ (by simp only[*,go_sem]) ?_
  refine aD hJ ?_
  obtain ⟨d,B⟩:∃x,u0.props[i38]?=some x:=⟨_,List.getElem?_eq_getElem b2⟩
  rw[cX B] at i
  revert i;refine bS fun fs h W=>?_
  unfold pz at h
  try dsimp only at h
  obtain ⟨C,b3,b4,b5,D⟩:=w.p.el _ _ B
  obtain rfl:b3=d.cells:=b5
  cases b4
  have ca:=D 0 _ rfl;simp only[go_sem] at ca
  have cb:=D 1 _ rfl;simp only[go_sem] at cb
  clear D B
  refine aa hJ (aM hJ (aa hJ ?_))
  refine aH hJ fun cd=>?_
  refine af hJ ?_
  simp only[*,go_sem]
  refine an fun E ft X=>?_;have fu:=aL.cons X cd;try simp only[ak] at X
  try simp only[*,go_sem]
  refine aa hJ ?_
  refine aH hJ fun cf=>?_
  refine cQ hJ mixed 11 3 (by simp only[*,go_sem]) (by kernel_rfl) ?_
  revert h;refine bS fun cl cy h=>?_
  simp only[*,go_sem]
  refine ⟨_,bB hJ fun F G=>zx u0 (w.mono (bQ G)) d.place cy,cc ?_⟩
  revert h;refine bS fun cS c0 h=>?_
  try simp only[*,go_sem]
  refine ⟨_,bB hJ fun F G=>iW d.cV c0,cc ?_⟩
  revert h;refine bS fun e da h=>?_
  try simp only[*,go_sem]
  refine ⟨_,bB hJ fun F G=>o8 cl cS da,cc ?_⟩
  try simp only[*,go_sem]
  refine an fun H fv Y=>?_;have fw:=aL.cons Y cf;try simp only[ak] at Y
  try simp only[*,go_sem]
  refine aa hJ (aa hJ ?_)
  refine aH hJ fun fx=>?_
  refine af hJ ?_
  simp only[*,go_sem]
  refine aM hJ ?_
  revert h;refine bS fun db j Z=>?_
  refine bM hJ [10,33,34,35,36,37,38,39,40,41] (fun m y F'=>∃(i59:Nat),m=c.length - i59/\i59<=c.length/\bE (pq d e) i59 (c.drop i59) ()=some db/\F'=⟨ro,(H,.cells #[.int .i64 d.place,.int .i64 e.num,.int .i64 e.den] 92)::(E,.cells #[.int .i64 d.place,.int .i64 d.cV] 146)::(s,.cells #[.int .i64 b.back,.int .i64 b.high] 90)::(q,bl u0 s1 (sl (some C) u0.props o) f g)::z⟩/\slot y 33= .int .i64 (i59:Int)) c.length ?_ ?_
  ·refine ⟨0,(Nat.sub_zero _).symm,Nat.zero_le _,j,rfl,?_⟩
   simp only[*,go_sem]
  rintro gg dd F' I ⟨i59,rfl,gl,j,rfl,gn⟩
  obtain ⟨df,dk,dp⟩:=I.pick [2,3,4,5,6,7,8,13,14,15,16,17,19,20,21,22,23,24,25,26,27,28,29,30,31,32] (by decide)
  simp only[*,go_sem] at df dk dp
  have gp:cW [5,6,7,8,10,15,16,17,18,19,20,21,22,23,24,25,26,27,28,29,30,31,32,33,34,35,36,37,38,39,40,41,42,43,44,45,46,47,48,49,50] dd bs:=(I.fD (by decide)).trans (by simp only[*,go_sem])
  clear I S T U b1 b0
  refine aa hJ (af hJ ?_)
  simp only[*,go_sem]
  refine aa hJ ?_
  rcases Nat.lt_or_ge i59 c.length with dq|ab
  ·refine bD hJ (by simp only[*,go_sem]) ?_
   refine aD hJ ?_
   obtain ⟨ds,K⟩:∃x,c[i59]?=some x:=⟨_,List.getElem?_eq_getElem dq⟩
   rw[cX K] at j
   revert j;refine bS fun gB h L=>?_
   unfold pq at h
   try dsimp only at h
   refine aH hJ fun M=>?_
   obtain ⟨ad,dt,gC,du,dv,rfl,gM,dC,k⟩:=u.elem K
   obtain rfl:du=ds.cells:=dC
   cases dv
   replace M:=M.nd
   simp only[keys,List.map_cons,List.map_nil,List.map_append,List.cons_append,List.nil_append,List.nodup_cons,List.mem_cons,List.mem_append,List.not_mem_nil,or_false,not_or] at M
   have ae:=k 0 _ rfl;simp only[go_sem] at ae
   have al:=k 1 _ rfl;simp only[go_sem] at al
   have ao:=k 2 _ rfl;simp only[go_sem] at ao
   have ar:=k 3 _ rfl;simp only[go_sem] at ar
   have a0:=k 4 _ rfl;simp only[go_sem] at a0
   have a2:=k 5 _ rfl;simp only[go_sem] at a2
   clear k K
   refine aa hJ (aM hJ (aa hJ ?_))
   refine aH hJ fun dE=>?_
   refine af hJ ?_
   simp only[*,go_sem]
   refine an fun gT gV a3=>?_;have g0:=aL.cons a3 dE;try simp only[ak] at a3
   try simp only[*,go_sem]
   refine aa hJ ?_
   refine aH hJ fun g1=>?_
   refine af hJ ?_
   simp only[*,go_sem]
   revert h;refine jC hJ (by simp only[*,go_sem]) (fun dT h=>?_) fun dT h=>?_
   ·obtain rfl:=sI h
    refine bJ ?_
    simp only[go_sem]
    obtain rfl:=sI L;clear L
    have h:=Z
    dsimp only[aF] at h
    obtain rfl:=sI h
    clear ae al ao ar a0 a2
    have ea:=cj (n:=i38) (by have:=Q;omega)
    refine af hJ ?_
    simp only[*,go_sem]
    refine ⟨u0.props.length - (i38+1),by omega,_,Le.sub (List.Sublist.cons _ (List.Sublist.cons _ (List.Sublist.cons _ (List.Sublist.refl _)))),i38+1,(some ⟨ad,0,none⟩),t,[(ad,Obj.cells dt 94)],c,rfl,by omega,W,rfl,u,bz,?_⟩
    simp only[*,go_sem]
   obtain rfl:=sI h
   refine aD hJ ?_
   have g2:=cj (n:=i59) (by have:=u.bd;omega)
   refine af hJ ?_
   simp only[*,go_sem]
   refine ⟨c.length - (i59+1),by omega,_,Le.sub (List.Sublist.cons _ (List.Sublist.refl _)),i59+1,rfl,by omega,L,rfl,?_⟩
   simp only[*,go_sem]
  have g3:=Nat.not_lt.2 ab
  refine bI hJ (by simp only[*,go_sem]) ?_
  rw[List.drop_eq_nil_of_le ab] at j
  obtain rfl:=sI j;clear j
  have h:=Z
  dsimp only[aF] at h
  refine bJ ?_
  simp only[go_sem]
  refine aH hJ fun eb=>?_
  refine af hJ ?_
  revert h;refine bS fun a ec h=>?_
  simp only[*,go_sem]
  refine aO hJ _ (zu u0 (w.mono aN) b (i38:Int) (⟨d.place,e⟩:gx) ec) (aE ?_)
  revert h;refine bS fun ed eh h=>?_
  obtain rfl:=sI h
  obtain ⟨et,a4⟩:=cG eh
  try simp only[*,go_sem]
  refine an fun a5 ev a6=>?_;have eQ:=aL.cons a6 eb;try simp only[ak] at a6
  try simp only[*,go_sem]
  refine di (r:=jG) (l:=c) (x:=a) (cs:=#[.int .i64 a.spot.aK,.int .i64 a.spot.high.num,.int .i64 a.spot.high.den,.int .i64 a.at_,.int .i64 a.high.num,.int .i64 a.high.den]) (e2:=94) [(a5,.cells #[.int .i64 a.spot.aK,.int .i64 a.spot.high.num,.int .i64 a.spot.high.den,.int .i64 a.at_,.int .i64 a.high.num,.int .i64 a.high.den] 94),(H,.cells #[.int .i64 d.place,.int .i64 e.num,.int .i64 e.den] 92),(E,.cells #[.int .i64 d.place,.int .i64 d.cV] 146),(s,.cells #[.int .i64 b.back,.int .i64 b.high] 90),(q,bl u0 s1 (sl (some C) u0.props o) f g)] [] u eQ et rfl (by simp only[*,go_sem]) ev rfl rfl mR mR uj um rfl uk (by decide) (by decide) (fun g4 a7 N eS e0 ha=>?_)
  simp only[List.append_nil,List.cons_append,List.nil_append,List.append_assoc] at e0
  subst eS
  rw[<-a4] at N;clear a4
  obtain ⟨d83,e1,rfl,e3⟩:=N.len
  refine ⟨⟨ro,(a5,.cells #[.int .i64 a.spot.aK,.int .i64 a.spot.high.num,.int .i64 a.spot.high.den,.int .i64 a.at_,.int .i64 a.high.num,.int .i64 a.high.den] 94)::(H,.cells #[.int .i64 d.place,.int .i64 e.num,.int .i64 e.den] 92)::(E,.cells #[.int .i64 d.place,.int .i64 d.cV] 146)::(s,.cells #[.int .i64 b.back,.int .i64 b.high] 90)::(q,bl u0 s1 (sl (some C) u0.props o) f g)::a7⟩,Le.refl _,?_⟩
  refine aE ?_
  try simp only[*,go_sem]
  have ea:=cj (n:=i38) (by have:=Q;omega)
  refine af hJ ?_
  simp only[*,go_sem]
  refine ⟨u0.props.length - (i38+1),by omega,_,Le.sub (List.Sublist.cons _ (List.Sublist.cons _ (List.Sublist.cons _ (List.Sublist.refl _)))),i38+1,d83,e1,a7,ed,rfl,by omega,W,rfl,N,e3,?_⟩
  simp only[*,go_sem]
 have hc:=Nat.not_lt.2 V
 refine bI hJ (by simp only[*,go_sem]) ?_
 rw[List.drop_eq_nil_of_le V] at i
 obtain rfl:=sI i;clear i
 have h:=br
 dsimp only[aF] at h
 obtain rfl:=sI h
 refine bJ ?_
 simp only[go_sem]
 refine aa hJ ?_
 refine aH hJ fun hf=>?_
 refine af hJ ?_
 simp only[*,go_sem]
 refine aH hJ fun a8=>?_
 obtain ⟨hg,fa,fb,a9,fg⟩:=u.dF [(s,.cells #[.int .i64 b.back,.int .i64 b.high] 90),(q,bl u0 s1 (sl d10 u0.props o) f g)] [] a8 (az.cons bk (az.cons bc (az.nil _)))
 clear a8
 refine cA hJ fg ?_
 obtain ⟨hh,hi,-⟩:=a9.op
 simp only[aU] at fb
 refine av ?_
 simp only[*,go_sem]
 exact ⟨_,fa,Le.sub (List.nil_sublist _),_,rfl,a9⟩
def lM (i54:Nat)(a:bA)(st:au):Option (Fl au au):=
 ah (gP ew st ([a.high])) fun b=>some (.nx b)
def lN (i100:Nat)(a:bA)(st:au):Option (Fl au au):=
 ah (gP ew st ([a.high])) fun b=>some (.nx b)
def kA (u0:aj)(a:bf):Option au:=
 ah (fF u0.bL) fun b=>ah (ku u0 a) fun c=>ah (ew c.high b) fun d=>cond (d) (ah (iZ u0 a) fun e=>ah (bE (lM) 0 e c.high) fun o=>aF o (fun f=>ah (iY b f) fun g=>ah (fF 0) fun h=>ah (gP ew g ([h])) fun i=>some i) (fun _ _=>none) (fun r=>some r)) (ah (iZ u0 a) fun j=>ah (bE (lN) 0 j b) fun o=>aF o (fun k=>ah (iY c.high k) fun l=>ah (fF 0) fun m=>ah (gP ew l ([m])) fun n=>some n) (fun _ _=>none) (fun r=>some r))
theorem rE {ro:Addr->Option Value}(u0:aj){s1 p q s:Value}(t:bt ro u0 s1 p q s)(a:bf){r:au}(h:kA u0 a=some r):aA Tryz.prog 69 #[bv u0 s1 p q s,.agg #[.int .i64 a.back,.int .i64 a.high]] ⟨ro,[]⟩ (fun v _=>v=r.v):=by
 unfold kA at h
 refine aA.go Tryz.func69 rfl Tryz.ntmps69 Tryz.results69 (by simp) fun main J hJ A O hd hs=>?_
 have P:=hs 0
 have k1:=hs 1
 clear hs
 refine aa hJ (af hJ ?_)
 simp only[*,go_sem]
 refine an fun D fu al=>?_;try simp only[ak] at al
 refine an fun E fv ao=>?_;try simp only[ak] at ao
 refine an fun G fw ar=>?_;try simp only[ak] at ar
 try simp only[*,go_sem]
 refine aa hJ ?_
 refine qU hJ mixed 8 ⟨ro,[(G,rt 0 0),(E,.cells #[.int .i64 a.back,.int .i64 a.high] 90),(D,bl u0 s1 p q s)]⟩ (by simp only[*,go_sem]) (by kernel_rfl) 23 rfl uh ?_
 revert h;refine bS fun u a0 h=>?_
 simp only[*,go_sem]
 refine ⟨_,bB hJ fun F Q=>iW u0.bL a0,cc ?_⟩
 revert h;refine bS fun w a2 h=>?_
 try simp only[*,go_sem]
 refine ⟨_,bB hJ fun F Q=>rC u0 (t.mono (bQ Q)) a a2,cc ?_⟩
 try simp only[*,go_sem]
 refine an fun R fx a3=>?_;try simp only[ak] at a3
 try simp only[*,go_sem]
 refine an fun S gg a4=>?_;try simp only[ak] at a4
 try simp only[*,go_sem]
 refine aa hJ (aa hJ (af hJ ?_))
 revert h;refine bS fun gl a5 h=>?_
 simp only[*,go_sem]
 refine aO hJ _ (iE w.high u a5) ?_
 try simp only[*,go_sem]
 revert h;refine jC hJ (by simp only[*,go_sem]) (fun a6 h=>?_) fun a6 h=>?_
 ·refine af hJ ?_
  simp only[*,go_sem]
  refine aa hJ (aa hJ (af hJ ?_))
  revert h;refine bS fun b a7 h=>?_
  simp only[*,go_sem]
  refine bN hJ _ (uO u0 t a a7) fun v a8 a9 ba H=>?_
  obtain ⟨gn,rfl,T⟩:=H
  replace t:=t.mono a9
  simp only[aU] at ba
  obtain ⟨d48,gp,rfl,gB,bb,-⟩:=id T
  refine aE ?_
  try simp only[*,go_sem]
  refine aM hJ ?_
  revert h;refine bS fun bc c bd=>?_
  refine bM hJ [8,26,27,28,29,30,31,32,33,34,35] (fun m I F'=>∃(i54:Nat) (l:au),m=b.length - i54/\i54<=b.length/\bE (lM) i54 (b.drop i54) l=some bc/\F'=⟨a8,(S,rt u.num u.den)::(R,rt l.num l.den)::(G,rt 0 0)::(E,.cells #[.int .i64 a.back,.int .i64 a.high] 90)::(D,bl u0 s1 p q s)::[]⟩/\slot I 26= .int .i64 (i54:Int)) b.length ?_ ?_
  ·refine ⟨0,w.high,(Nat.sub_zero _).symm,Nat.zero_le _,c,rfl,?_⟩
   simp only[*,go_sem]
  rintro gC gM F' U ⟨i54,l,rfl,gT,c,rfl,gV⟩
  obtain ⟨bj,bk,bm⟩:=U.pick [4,5,6,24,25] (by decide)
  simp only[*,go_sem] at bj bk bm
  clear U O hd P k1
  refine aa hJ (af hJ ?_)
  simp only[*,go_sem]
  refine aa hJ ?_
  rcases Nat.lt_or_ge i54 b.length with bo|V
  ·refine bD hJ (by simp only[*,go_sem]) ?_
   refine aD hJ ?_
   obtain ⟨y,K⟩:∃x,b[i54]?=some x:=⟨_,List.getElem?_eq_getElem bo⟩
   rw[cX K] at c
   revert c;refine bS fun g0 h br=>?_
   unfold lM at h
   try dsimp only at h
   obtain ⟨g1,bs,bz,b0,d⟩:=T.el _ _ K
   obtain rfl:bs=y.cells:=b0
   cases bz
   have b1:=d 0 _ rfl;simp only[go_sem] at b1
   have b2:=d 1 _ rfl;simp only[go_sem] at b2
   have b3:=d 2 _ rfl;simp only[go_sem] at b3
   have b4:=d 3 _ rfl;simp only[go_sem] at b4
   have b5:=d 4 _ rfl;simp only[go_sem] at b5
   have ca:=d 5 _ rfl;simp only[go_sem] at ca
   clear d K
   refine aa hJ (aM hJ (aa hJ ?_))
   refine af hJ ?_
   simp only[*,go_sem]
   refine an fun g2 g3 cb=>?_;try simp only[ak] at cb
   try simp only[*,go_sem]
   refine aH hJ fun cd=>?_
   refine af hJ ?_
   revert h;refine bS fun cf cl h=>?_
   obtain rfl:=sI h
   simp only[*,go_sem]
   refine an fun g4 cy W=>?_;have ha:=aL.cons W cd;try simp only[ak] at W
   try simp only[*,go_sem]
   refine aO hJ _ (mX (dA:=78) (dQ:=#[]) (dR:=#[]) ew ⟨by simp only[go_sem],fun L M f g _ h=>by simp only[go_sem];exact iE f g h⟩ l ([y.high]) ((ax.flat (r:=kq) (e:=23) (cs:=#[.int .i64 y.high.num,.int .i64 y.high.den]) au.cells ([y.high]) (fun _=>rfl) cy rfl (by simp)).mono (jy (by simp only[*,go_sem]))) cl) (aE ?_)
   try simp only[*,go_sem]
   have hc:=cj (n:=i54) (by have:=bb;omega)
   refine af hJ ?_
   simp only[*,go_sem]
   refine ⟨b.length - (i54+1),by omega,_,Le.sub (List.Sublist.cons _ (List.Sublist.cons _ (List.Sublist.refl _))),i54+1,cf,rfl,by omega,br,rfl,?_⟩
   simp only[*,go_sem]
  have hf:=Nat.not_lt.2 V
  refine bI hJ (by simp only[*,go_sem]) ?_
  rw[List.drop_eq_nil_of_le V] at c
  obtain rfl:=sI c;clear c
  have h:=bd
  dsimp only[aF] at h
  refine bJ ?_
  simp only[go_sem]
  refine aa hJ ?_
  refine aH hJ fun cS=>?_
  refine af hJ ?_
  revert h;refine bS fun c0 da h=>?_
  simp only[*,go_sem]
  refine aO hJ _ (o9 u l da) (aE ?_)
  revert h;refine bS fun B db h=>?_
  try simp only[*,go_sem]
  refine aO hJ _ (iW 0 db) (aE ?_)
  revert h;refine bS fun hg dd h=>?_
  obtain rfl:=sI h
  try simp only[*,go_sem]
  refine an fun hh df X=>?_;have hi:=aL.cons X cS;try simp only[ak] at X
  try simp only[*,go_sem]
  refine aO hJ _ (mX (dA:=78) (dQ:=#[]) (dR:=#[]) ew ⟨by simp only[go_sem],fun L M f g _ h=>by simp only[go_sem];exact iE f g h⟩ c0 ([B]) ((ax.flat (r:=kq) (e:=23) (cs:=#[.int .i64 B.num,.int .i64 B.den]) au.cells ([B]) (fun _=>rfl) df rfl (by simp)).mono (jy (by simp only[*,go_sem]))) dd) (aE ?_)
  try simp only[*,go_sem]
  refine av ?_
  simp only[*,go_sem]
 refine aD hJ (aa hJ ?_)
 refine aa hJ (af hJ ?_)
 revert h;refine bS fun i dk h=>?_
 simp only[*,go_sem]
 refine bN hJ _ (uO u0 t a dk) fun v dp hj dq H=>?_
 obtain ⟨hk,rfl,Y⟩:=H
 simp only[aU] at dq
 obtain ⟨d94,hl,rfl,hn,ds,-⟩:=id Y
 refine aE ?_
 try simp only[*,go_sem]
 refine aM hJ ?_
 revert h;refine bS fun dt j du=>?_
 refine bM hJ [8,26,27,28,29,30,31,32,33,34,35] (fun m I F'=>∃(i100:Nat) (o:au),m=i.length - i100/\i100<=i.length/\bE (lN) i100 (i.drop i100) o=some dt/\F'=⟨dp,(S,rt w.high.num w.high.den)::(R,rt o.num o.den)::(G,rt 0 0)::(E,.cells #[.int .i64 a.back,.int .i64 a.high] 90)::(D,bl u0 s1 p q s)::[]⟩/\slot I 26= .int .i64 (i100:Int)) i.length ?_ ?_
 ·refine ⟨0,u,(Nat.sub_zero _).symm,Nat.zero_le _,j,rfl,?_⟩
  simp only[*,go_sem]
 rintro ho hp F' Z ⟨i100,o,rfl,hq,j,rfl,hr⟩
 obtain ⟨dv,dC,dE⟩:=Z.pick [4,5,6,24,25] (by decide)
 simp only[*,go_sem] at dv dC dE
 clear Z O hd P k1
 refine aa hJ (af hJ ?_)
 simp only[*,go_sem]
 refine aa hJ ?_
 rcases Nat.lt_or_ge i100 i.length with dT|ab
 ·refine bD hJ (by simp only[*,go_sem]) ?_
  refine aD hJ ?_
  obtain ⟨z,N⟩:∃x,i[i100]?=some x:=⟨_,List.getElem?_eq_getElem dT⟩
  rw[cX N] at j
  revert j;refine bS fun ht h ea=>?_
  unfold lN at h
  try dsimp only at h
  obtain ⟨hv,eb,ec,ed,k⟩:=Y.el _ _ N
  obtain rfl:eb=z.cells:=ed
  cases ec
  have eh:=k 0 _ rfl;simp only[go_sem] at eh
  have et:=k 1 _ rfl;simp only[go_sem] at et
  have ev:=k 2 _ rfl;simp only[go_sem] at ev
  have eQ:=k 3 _ rfl;simp only[go_sem] at eQ
  have eS:=k 4 _ rfl;simp only[go_sem] at eS
  have e0:=k 5 _ rfl;simp only[go_sem] at e0
  clear k N
  refine aa hJ (aM hJ (aa hJ ?_))
  refine af hJ ?_
  simp only[*,go_sem]
  refine an fun hx hy e1=>?_;try simp only[ak] at e1
  try simp only[*,go_sem]
  refine aH hJ fun e2=>?_
  refine af hJ ?_
  revert h;refine bS fun e3 fa h=>?_
  obtain rfl:=sI h
  simp only[*,go_sem]
  refine an fun hz fb ad=>?_;have hA:=aL.cons ad e2;try simp only[ak] at ad
  try simp only[*,go_sem]
  refine aO hJ _ (mX (dA:=78) (dQ:=#[]) (dR:=#[]) ew ⟨by simp only[go_sem],fun L M f g _ h=>by simp only[go_sem];exact iE f g h⟩ o ([z.high]) ((ax.flat (r:=kq) (e:=23) (cs:=#[.int .i64 z.high.num,.int .i64 z.high.den]) au.cells ([z.high]) (fun _=>rfl) fb rfl (by simp)).mono (jy (by simp only[*,go_sem]))) fa) (aE ?_)
  try simp only[*,go_sem]
  have hB:=cj (n:=i100) (by have:=ds;omega)
  refine af hJ ?_
  simp only[*,go_sem]
  refine ⟨i.length - (i100+1),by omega,_,Le.sub (List.Sublist.cons _ (List.Sublist.cons _ (List.Sublist.refl _))),i100+1,e3,rfl,by omega,ea,rfl,?_⟩
  simp only[*,go_sem]
 have hD:=Nat.not_lt.2 ab
 refine bI hJ (by simp only[*,go_sem]) ?_
 rw[List.drop_eq_nil_of_le ab] at j
 obtain rfl:=sI j;clear j
 have h:=du
 dsimp only[aF] at h
 refine bJ ?_
 simp only[go_sem]
 refine aa hJ ?_
 refine aH hJ fun fg=>?_
 refine af hJ ?_
 revert h;refine bS fun fi fp h=>?_
 simp only[*,go_sem]
 refine aO hJ _ (o9 w.high o fp) (aE ?_)
 revert h;refine bS fun C fr h=>?_
 try simp only[*,go_sem]
 refine aO hJ _ (iW 0 fr) (aE ?_)
 revert h;refine bS fun hE fs h=>?_
 obtain rfl:=sI h
 try simp only[*,go_sem]
 refine an fun hF ft ae=>?_;have hG:=aL.cons ae fg;try simp only[ak] at ae
 try simp only[*,go_sem]
 refine aO hJ _ (mX (dA:=78) (dQ:=#[]) (dR:=#[]) ew ⟨by simp only[go_sem],fun L M f g _ h=>by simp only[go_sem];exact iE f g h⟩ fi ([C]) ((ax.flat (r:=kq) (e:=23) (cs:=#[.int .i64 C.num,.int .i64 C.den]) au.cells ([C]) (fun _=>rfl) ft rfl (by simp)).mono (jy (by simp only[*,go_sem]))) fs) (aE ?_)
 try simp only[*,go_sem]
 refine av ?_
 simp only[*,go_sem]
def fY (u0:aj)(a:bf):Option Bool:=
 ah (kA u0 a) fun b=>ah (ew u0.aV b) fun c=>some c
theorem lO {ro:Addr->Option Value}(u0:aj){s1 b c d:Value}(f:bt ro u0 s1 b c d)(a:bf){r:Bool}(h:fY u0 a=some r):aA Tryz.prog 70 #[bv u0 s1 b c d,.agg #[.int .i64 a.back,.int .i64 a.high]] ⟨ro,[]⟩ (fun v _=>v= .bool r):=by
 unfold fY at h
 refine aA.go Tryz.func70 rfl Tryz.ntmps70 Tryz.results70 (by simp) fun main J hJ A m hd hs=>?_
 have n:=hs 0
 have k1:=hs 1
 clear hs
 refine aa hJ (af hJ ?_)
 simp only[*,go_sem]
 refine an fun o p g=>?_;try simp only[ak] at g
 refine an fun q s i=>?_;try simp only[ak] at i
 try simp only[*,go_sem]
 refine aa hJ ?_
 refine cQ hJ mixed 8 2 (by simp only[*,go_sem]) (by kernel_rfl) ?_
 revert h;refine bS fun j k h=>?_
 simp only[*,go_sem]
 refine ⟨_,bB hJ fun F e=>rE u0 (f.mono (bQ e)) a k,cc ?_⟩
 revert h;refine bS fun t l h=>?_
 obtain rfl:=sI h
 try simp only[*,go_sem]
 refine ⟨_,bB hJ fun F e=>iE u0.aV j l,cc ?_⟩
 try simp only[*,go_sem]
 refine av ?_
 simp only[*,go_sem]
def pE (u0:((List Int)->(List Int)->Option Bool))(i22:Nat)(a:(List Int))(st:(List Int)):Option (Fl (List Int) (List Int)):=
 ah (u0 st a) fun b=>cond (b) (some (.nx a)) (some (.nx st))
def m7 (u0:((List Int)->(List Int)->Option Bool))(a:(List Int))(b:(List (List Int))):Option (List Int):=
 ah (bE (pE u0) 0 b a) fun o=>aF o (fun c=>some c) (fun _ _=>none) (fun r=>some r)
theorem Et {ro:Addr->Option Value}(u0:((List Int)->(List Int)->Option Bool)){dA:FuncId}{dQ dR:Array Value}(G:aG Tryz.prog dA=true/\∀(aI:Addr->Option Value),Ext ro aI->∀(k:(List Int)) (l:Value) (o:(List Int)) (p:Value) (z:Bool),ax rI aI l k->ax rI aI p o->u0 k o=some z->aA Tryz.prog dA (dQ++#[l,p]++dR) ⟨aI,[]⟩ (fun v _=>v= .bool z))(g:(List Int)){s1:Value}(q:ax rI ro s1 g)(b:(List (List Int))){s:Value}(t:ax (rL rI) ro s b){r:(List Int)}(h:m7 u0 g b=some r):c9 Tryz.prog 93 #[.func (.func dA) dQ dR,s1,s] ro (fun v aI=>∃u,v=u/\ax rI aI u r):=by
 obtain ⟨d3,c4,rfl,Y,Z,-⟩:=id q
 obtain ⟨d10,ab,rfl,ad,w,-⟩:=id t
 unfold m7 at h
 refine aA.go Tryz.func93 rfl Tryz.ntmps93 Tryz.results93 (by simp) fun main J hJ A H hd hs=>?_
 have I:=hs 0
 have k1:=hs 1
 have K:=hs 2
 clear hs
 refine aa hJ (af hJ ?_)
 simp only[*,go_sem]
 refine aa hJ (aa hJ (af hJ ?_))
 simp only[*,go_sem]
 refine aM hJ ?_
 revert h;refine bS fun L c M=>?_
 refine bM hJ [1,8,11,12,13,14,15,16,17,18,19,20] (fun m y F'=>∃(i22:Nat) (d16:Option Addr) (e:Nat) (d:(List Int)),m=b.length - i22/\i22<=b.length/\bE (pE u0) i22 (b.drop i22) d=some L/\F'=⟨ro,[]⟩/\ax rI ro (.slice d16 d.length e) d/\slot y 11= .int .i64 (i22:Int)/\slot y 1= .slice d16 d.length e) b.length ?_ ?_
 ·refine ⟨0,d3,c4,g,(Nat.sub_zero _).symm,Nat.zero_le _,c,rfl,q,?_⟩
  simp only[*,go_sem]
 rintro ae al F' B ⟨i22,d16,e,d,rfl,ao,c,rfl,f,ar,a0⟩
 obtain ⟨a2,a3,-⟩:=f.op
 obtain ⟨N,O,P⟩:=B.pick [0,6,9,10] (by decide)
 simp only[*,go_sem] at N O P
 clear B H hd I k1 K
 refine aa hJ (af hJ ?_)
 simp only[*,go_sem]
 refine aa hJ ?_
 rcases Nat.lt_or_ge i22 b.length with Q|C
 ·refine bD hJ (by simp only[*,go_sem]) ?_
  refine aD hJ ?_
  obtain ⟨D,i⟩:∃x,b[i22]?=some x:=⟨_,List.getElem?_eq_getElem Q⟩
  rw[cX i] at c
  revert c;refine bS fun a4 h E=>?_
  unfold pE at h
  try dsimp only at h
  obtain ⟨a5,a6,R,S,F⟩:=t.el _ _ i
  obtain ⟨a7,rfl,j⟩:=S;obtain ⟨d31,T,rfl,a8,a9,ba⟩:=id j
  cases R
  have U:=F 0 _ rfl;simp only[go_sem] at U
  clear F i
  refine aa hJ (aM hJ (aa hJ ?_))
  refine af hJ ?_
  simp only[*,go_sem]
  refine aa hJ (af hJ ?_)
  revert h;refine bS fun bb V h=>?_
  simp only[*,go_sem]
  refine aO hJ _ (G.2 _ (fun a v h=>aN a v h) d _ D _ _ (f.mono aN) (j.mono aN) V) ?_
  try simp only[*,go_sem]
  revert h;refine jC hJ (by simp only[*,go_sem]) (fun W h=>?_) fun W h=>?_
  ·obtain rfl:=sI h
   refine af hJ ?_
   simp only[*,go_sem]
   have X:=cj (n:=i22) (by have:=w;omega)
   refine af hJ ?_
   simp only[*,go_sem]
   refine ⟨b.length - (i22+1),by omega,_,Le.sub (List.Sublist.refl _),i22+1,d31,T,D,rfl,by omega,E,rfl,j,?_⟩
   simp only[*,go_sem]
  obtain rfl:=sI h
  refine aD hJ ?_
  have X:=cj (n:=i22) (by have:=w;omega)
  refine af hJ ?_
  simp only[*,go_sem]
  refine ⟨b.length - (i22+1),by omega,_,Le.sub (List.Sublist.refl _),i22+1,d16,e,d,rfl,by omega,E,rfl,f,?_⟩
  simp only[*,go_sem]
 have bc:=Nat.not_lt.2 C
 refine bI hJ (by simp only[*,go_sem]) ?_
 rw[List.drop_eq_nil_of_le C] at c
 obtain rfl:=sI c;clear c
 have h:=M
 dsimp only[aF] at h
 obtain rfl:=sI h
 refine bJ ?_
 simp only[go_sem]
 refine aa hJ (af hJ ?_)
 simp only[*,go_sem]
 refine av ?_
 simp only[*,go_sem]
 exact ⟨_,Ext.refl _,Le.sub (List.nil_sublist _),_,rfl,f⟩
def pF (u0:(List Int))(a:(List Int))(st:(Bool×Int)):Option (Fl (Bool×Int) Bool):=
 cond (decide (st.2<(u0.length:Int))) (ah (bq u0 st.2) fun b=>ah (bq a st.2) fun c=>cond ((b != c)) (some (.rt false)) (some (.nx (st.1,(IntKind.i64.wrap (st.2+1)))))) (some (.bk (st.1,st.2)))
def m8 (u0:(List Int))(a:(List Int)):Option Bool:=
 cond (((u0.length:Int) != (a.length:Int))) (some false) (ah (aR (pF u0 a) fu (false,0)) fun o=>aF o (fun b=>some true) (fun _ _=>none) (fun r=>some r))
theorem zy {ro:Addr->Option Value}(u0:(List Int)){s1:Value}(g:ax rI ro s1 u0)(e:(List Int)){i:Value}(j:ax rI ro i e){r:Bool}(h:m8 u0 e=some r):aA Tryz.prog 24 #[s1,i] ⟨ro,[]⟩ (fun v _=>v= .bool r):=by
 obtain ⟨d3,c4,rfl,R,S,-⟩:=id g
 obtain ⟨d10,T,rfl,U,V,-⟩:=id j
 unfold m8 at h
 refine aA.go Tryz.func24 rfl Tryz.ntmps24 Tryz.results24 (by simp) fun main J hJ A t hd hs=>?_
 have u:=hs 0
 have k1:=hs 1
 clear hs
 refine aa hJ (af hJ ?_)
 simp only[*,go_sem]
 refine aa hJ (aa hJ (af hJ ?_))
 simp only[*,go_sem]
 revert h;refine jC hJ (by simp only[*,go_sem]) (fun w h=>?_) fun w h=>?_
 ·obtain rfl:=sI h
  refine aa hJ (af hJ ?_)
  simp only[*,go_sem]
  refine av ?_
  simp only[*,go_sem]
 refine aD hJ (aa hJ ?_)
 refine aa hJ (af hJ ?_)
 simp only[*,go_sem]
 refine aM hJ ?_
 revert h;refine bS fun x b k=>?_
 refine bM hJ [4,5,11,12,13,14,15,16,17,18,19,20,21,22,23,24,25] (fun m l F'=>∃(c:Bool) (d:Int),aR (pF u0 e) m (c,d)=some x/\F'=⟨ro,[]⟩/\slot l 4= .bool c/\slot l 5= .int .i64 d) fu ?_ ?_
 ·refine ⟨false,0,b,rfl,?_⟩
  simp only[*,go_sem]
 rintro f W F' n ⟨c,d,b,rfl,X,Y⟩
 obtain ⟨y,z,B⟩:=n.pick [0,1] (by decide)
 simp only[*,go_sem] at y z B
 clear n t hd u k1
 obtain _|f:=f
 ·exact absurd b (by simp only[aR,reduceCtorEq,not_false_eq_true])
 revert b;refine bS fun Z h a=>?_
 unfold pF at h
 try dsimp only at h
 refine aa hJ (aa hJ (af hJ ?_))
 simp only[*,go_sem]
 revert h;refine jC hJ (by simp only[*,go_sem]) (fun C h=>?_) fun C h=>?_
 ·refine aD hJ (aa hJ ?_)
  refine aM hJ (aa hJ ?_)
  refine cQ hJ mixed 9 0 (by simp only[*,go_sem]) (by kernel_rfl) ?_
  revert h;refine bS fun D E h=>?_
  obtain ⟨ab,ad,o⟩:=bX E
  obtain ⟨ae,F,G,H,p⟩:=g.el _ _ o
  obtain rfl:F=[.int .i64 D]:=H
  cases G
  have I:=p 0 _ rfl;simp only[go_sem] at I
  clear p o
  revert h;refine bS fun K L h=>?_
  obtain ⟨al,ao,q⟩:=bX L
  obtain ⟨ar,M,N,O,s⟩:=j.el _ _ q
  obtain rfl:M=[.int .i64 K]:=O
  cases N
  have P:=s 0 _ rfl;simp only[go_sem] at P
  clear s q
  try simp only[*,go_sem]
  revert h;refine jC hJ (by simp only[*,go_sem]) (fun Q h=>?_) fun Q h=>?_
  ·obtain rfl:=sI h
   refine aa hJ (af hJ ?_)
   simp only[*,go_sem]
   obtain rfl:=sI a;clear a
   have h:=k
   dsimp only[aF] at h
   obtain rfl:=sI h
   refine av ?_
   simp only[*,go_sem]
  obtain rfl:=sI h
  refine aD hJ (af hJ ?_)
  simp only[*,go_sem]
  refine ⟨f,Nat.lt_succ_self _,_,Le.sub (List.Sublist.refl _),c,(IntKind.i64.wrap (d+1)),a,rfl,?_⟩
  simp only[*,go_sem]
 obtain rfl:=sI h
 refine bJ ?_
 simp only[go_sem]
 obtain rfl:=sI a;clear a
 have h:=k
 dsimp only[aF] at h
 obtain rfl:=sI h
 refine aa hJ (af hJ ?_)
 simp only[*,go_sem]
 refine av ?_
 simp only[*,go_sem]
def lP (u0:(List Int))(a:(List Int)):Option Bool:=
 ah (m8 u0 a) fun b=>some b
theorem pG {ro:Addr->Option Value}(u0:(List Int)){s1:Value}(b:ax rI ro s1 u0)(a:(List Int)){c:Value}(d:ax rI ro c a){r:Bool}(h:lP u0 a=some r):aA Tryz.prog 43 #[s1,c] ⟨ro,[]⟩ (fun v _=>v= .bool r):=by
 obtain ⟨d3,c4,rfl,f,g,-⟩:=id b
 obtain ⟨d10,i,rfl,j,k,-⟩:=id d
 unfold lP at h
 refine aA.go Tryz.func43 rfl Tryz.ntmps43 Tryz.results43 (by simp) fun main J hJ A l hd hs=>?_
 have m:=hs 0
 have k1:=hs 1
 clear hs
 refine aa hJ (af hJ ?_)
 simp only[*,go_sem]
 refine aa hJ (af hJ ?_)
 revert h;refine bS fun n e h=>?_
 obtain rfl:=sI h
 simp only[*,go_sem]
 refine aO hJ _ (zy u0 (b.mono aN) a (d.mono aN) e) (aE ?_)
 try simp only[*,go_sem]
 refine av ?_
 simp only[*,go_sem]
def uP (a:bf)(i10:Nat)(b:bf)(st:Int):Option (Fl Int Int):=
 cond (((a.back==b.back)&&(a.high==b.high))) (some (.rt (i10:Int))) (some (.nx st))
def uQ (u0:(List bf))(a:bf):Option Int:=
 ah (bE (uP a) 0 u0 0) fun o=>aF o (fun b=>some (-1)) (fun _ _=>none) (fun r=>some r)
theorem Eu {ro:Addr->Option Value}(u0:(List bf)){s1:Value}(g:ax iD ro s1 u0)(b:bf){r:Int}(h:uQ u0 b=some r):aA Tryz.prog 150 #[s1,.agg #[.int .i64 b.back,.int .i64 b.high]] ⟨ro,[]⟩ (fun v _=>v= .int .i64 r):=by
 obtain ⟨d3,c4,rfl,K,o,-⟩:=id g
 unfold uQ at h
 refine aA.go Tryz.func150 rfl Tryz.ntmps150 Tryz.results150 (by simp) fun main J hJ A p hd hs=>?_
 have q:=hs 0
 have k1:=hs 1
 clear hs
 refine aa hJ (af hJ ?_)
 simp only[*,go_sem]
 refine an fun s L t=>?_;try simp only[ak] at t
 try simp only[*,go_sem]
 refine aa hJ (aa hJ (af hJ ?_))
 simp only[*,go_sem]
 refine aM hJ ?_
 revert h;refine bS fun u a i=>?_
 refine bM hJ [4,5,8,9,10,11,12,13,14,15,16,17,18] (fun m j F'=>∃(i10:Nat) (c:Int),m=u0.length - i10/\i10<=u0.length/\bE (uP b) i10 (u0.drop i10) c=some u/\F'=⟨ro,(s,.cells #[.int .i64 b.back,.int .i64 b.high] 90)::[]⟩/\slot j 8= .int .i64 (i10:Int)/\slot j 4= .int .i64 c) u0.length ?_ ?_
 ·refine ⟨0,0,(Nat.sub_zero _).symm,Nat.zero_le _,a,rfl,?_⟩
  simp only[*,go_sem]
 rintro M N F' k ⟨i10,c,rfl,O,a,rfl,P,Q⟩
 obtain ⟨w,y,z⟩:=k.pick [0,3,7] (by decide)
 simp only[*,go_sem] at w y z
 clear k p hd q k1
 refine aa hJ (af hJ ?_)
 simp only[*,go_sem]
 refine aa hJ ?_
 rcases Nat.lt_or_ge i10 u0.length with B|l
 ·refine bD hJ (by simp only[*,go_sem]) ?_
  refine aD hJ ?_
  obtain ⟨C,d⟩:∃x,u0[i10]?=some x:=⟨_,List.getElem?_eq_getElem B⟩
  rw[cX d] at a
  revert a;refine bS fun R h e=>?_
  unfold uP at h
  try dsimp only at h
  obtain ⟨S,D,E,F,f⟩:=g.el _ _ d
  obtain rfl:D=C.cells:=F
  cases E
  have G:=f 0 _ rfl;simp only[go_sem] at G
  have H:=f 1 _ rfl;simp only[go_sem] at H
  clear f d
  refine aa hJ (aM hJ (aa hJ ?_))
  refine af hJ ?_
  simp only[*,go_sem]
  refine aa hJ ?_
  refine cQ hJ mixed 6 1 (by simp only[*,go_sem]) (by kernel_rfl) ?_
  simp only[*,go_sem]
  revert h;refine jC hJ (by simp only[*,go_sem]) (fun I h=>?_) fun I h=>?_
  ·obtain rfl:=sI h
   refine aa hJ (af hJ ?_)
   simp only[*,go_sem]
   obtain rfl:=sI e;clear e
   have h:=i
   dsimp only[aF] at h
   obtain rfl:=sI h
   refine av ?_
   simp only[*,go_sem]
  obtain rfl:=sI h
  refine aD hJ ?_
  have T:=cj (n:=i10) (by have:=o;omega)
  refine af hJ ?_
  simp only[*,go_sem]
  refine ⟨u0.length - (i10+1),by omega,_,Le.sub (List.Sublist.refl _),i10+1,c,rfl,by omega,e,rfl,?_⟩
  simp only[*,go_sem]
 have U:=Nat.not_lt.2 l
 refine bI hJ (by simp only[*,go_sem]) ?_
 rw[List.drop_eq_nil_of_le l] at a
 obtain rfl:=sI a;clear a
 have h:=i
 dsimp only[aF] at h
 obtain rfl:=sI h
 refine bJ ?_
 simp only[go_sem]
 refine aa hJ (af hJ ?_)
 simp only[*,go_sem]
 refine av ?_
 simp only[*,go_sem]
def uR (u0:(List bf))(a:bf):Option Bool:=
 ah (uQ u0 a) fun b=>some (decide (0<=b))
theorem Ev {ro:Addr->Option Value}(u0:(List bf)){s1:Value}(b:ax iD ro s1 u0)(a:bf){r:Bool}(h:uR u0 a=some r):aA Tryz.prog 127 #[s1,.agg #[.int .i64 a.back,.int .i64 a.high]] ⟨ro,[]⟩ (fun v _=>v= .bool r):=by
 obtain ⟨d3,c4,rfl,e,f,-⟩:=id b
 unfold uR at h
 refine aA.go Tryz.func127 rfl Tryz.ntmps127 Tryz.results127 (by simp) fun main J hJ A g hd hs=>?_
 have i:=hs 0
 have k1:=hs 1
 clear hs
 refine aa hJ (af hJ ?_)
 simp only[*,go_sem]
 refine an fun j k c=>?_;try simp only[ak] at c
 try simp only[*,go_sem]
 refine aa hJ (af hJ ?_)
 revert h;refine bS fun l d h=>?_
 obtain rfl:=sI h
 simp only[*,go_sem]
 refine aO hJ _ (Eu u0 (b.mono aN) a d) (aE ?_)
 try simp only[*,go_sem]
 refine av ?_
 simp only[*,go_sem]
def rF (a:(bx->Option Bool))(i9:Nat)(b:bx)(st:Int):Option (Fl Int Int):=
 ah (a b) fun c=>cond (c) (some (.rt (i9:Int))) (some (.nx st))
def rG (u0:(List bx))(a:(bx->Option Bool)):Option Int:=
 ah (bE (rF a) 0 u0 0) fun o=>aF o (fun b=>some (-1)) (fun _ _=>none) (fun r=>some r)
theorem Ew {ro:Addr->Option Value}(u0:(List bx)){s1:Value}(i:ax cU ro s1 u0)(d:(bx->Option Bool)){dc:FuncId}{dN dO:Array Value}(s:aG Tryz.prog dc=true/\∀(aI:Addr->Option Value),Ext ro aI->∀(j:bx) (z:Bool),d j=some z->aA Tryz.prog dc (dN++#[j.v]++dO) ⟨aI,[]⟩ (fun v _=>v= .bool z)){r:Int}(h:rG u0 d=some r):aA Tryz.prog 187 #[s1,.func (.func dc) dN dO] ⟨ro,[]⟩ (fun v _=>v= .int .i64 r):=by
 obtain ⟨d3,c4,rfl,N,t,-⟩:=id i
 unfold rG at h
 refine aA.go Tryz.func187 rfl Tryz.ntmps187 Tryz.results187 (by simp) fun main J hJ A u hd hs=>?_
 have w:=hs 0
 have k1:=hs 1
 clear hs
 refine aa hJ (af hJ ?_)
 simp only[*,go_sem]
 refine aa hJ (aa hJ (af hJ ?_))
 simp only[*,go_sem]
 refine aM hJ ?_
 revert h;refine bS fun y b k=>?_
 refine bM hJ [4,5,8,9,10,11,12,13,14,15,16,17,18] (fun m l F'=>∃(i9:Nat) (c:Int),m=u0.length - i9/\i9<=u0.length/\bE (rF d) i9 (u0.drop i9) c=some y/\F'=⟨ro,[]⟩/\slot l 8= .int .i64 (i9:Int)/\slot l 4= .int .i64 c) u0.length ?_ ?_
 ·refine ⟨0,0,(Nat.sub_zero _).symm,Nat.zero_le _,b,rfl,?_⟩
  simp only[*,go_sem]
 rintro O P F' o ⟨i9,c,rfl,Q,b,rfl,R,S⟩
 obtain ⟨B,C,D⟩:=o.pick [0,1,7] (by decide)
 simp only[*,go_sem] at B C D
 clear o u hd w k1
 refine aa hJ (af hJ ?_)
 simp only[*,go_sem]
 refine aa hJ ?_
 rcases Nat.lt_or_ge i9 u0.length with E|p
 ·refine bD hJ (by simp only[*,go_sem]) ?_
  refine aD hJ ?_
  obtain ⟨q,e⟩:∃x,u0[i9]?=some x:=⟨_,List.getElem?_eq_getElem E⟩
  rw[cX e] at b
  revert b;refine bS fun T h f=>?_
  unfold rF at h
  try dsimp only at h
  obtain ⟨U,F,G,H,g⟩:=i.el _ _ e
  obtain rfl:F=q.cells:=H
  cases G
  have I:=g 0 _ rfl;simp only[go_sem] at I
  have K:=g 1 _ rfl;simp only[go_sem] at K
  clear g e
  refine aa hJ (aM hJ (aa hJ ?_))
  refine af hJ ?_
  simp only[*,go_sem]
  refine aa hJ (af hJ ?_)
  revert h;refine bS fun V L h=>?_
  simp only[*,go_sem]
  refine aO hJ _ (s.2 _ (fun a v h=>aN a v h) q _ L) ?_
  try simp only[*,go_sem]
  revert h;refine jC hJ (by simp only[*,go_sem]) (fun M h=>?_) fun M h=>?_
  ·obtain rfl:=sI h
   refine aa hJ (af hJ ?_)
   simp only[*,go_sem]
   obtain rfl:=sI f;clear f
   have h:=k
   dsimp only[aF] at h
   obtain rfl:=sI h
   refine av ?_
   simp only[*,go_sem]
  obtain rfl:=sI h
  refine aD hJ ?_
  have W:=cj (n:=i9) (by have:=t;omega)
  refine af hJ ?_
  simp only[*,go_sem]
  refine ⟨u0.length - (i9+1),by omega,_,Le.sub (List.Sublist.refl _),i9+1,c,rfl,by omega,f,rfl,?_⟩
  simp only[*,go_sem]
 have X:=Nat.not_lt.2 p
 refine bI hJ (by simp only[*,go_sem]) ?_
 rw[List.drop_eq_nil_of_le p] at b
 obtain rfl:=sI b;clear b
 have h:=k
 dsimp only[aF] at h
 obtain rfl:=sI h
 refine bJ ?_
 simp only[go_sem]
 refine aa hJ (af hJ ?_)
 simp only[*,go_sem]
 refine av ?_
 simp only[*,go_sem]
def pH (u0:(List bx))(a:(bx->Option Bool)):Option Bool:=
 ah (rG u0 a) fun b=>some (decide (0<=b))
theorem Ey {ro:Addr->Option Value}(u0:(List bx)){s1:Value}(b:ax cU ro s1 u0)(a:(bx->Option Bool)){dc:FuncId}{dN dO:Array Value}(c:aG Tryz.prog dc=true/\∀(aI:Addr->Option Value),Ext ro aI->∀(d:bx) (z:Bool),a d=some z->aA Tryz.prog dc (dN++#[d.v]++dO) ⟨aI,[]⟩ (fun v _=>v= .bool z)){r:Bool}(h:pH u0 a=some r):aA Tryz.prog 173 #[s1,.func (.func dc) dN dO] ⟨ro,[]⟩ (fun v _=>v= .bool r):=by
 obtain ⟨d3,c4,rfl,g,i,-⟩:=id b
 unfold pH at h
 refine aA.go Tryz.func173 rfl Tryz.ntmps173 Tryz.results173 (by simp) fun main J hJ A j hd hs=>?_
 have k:=hs 0
 have k1:=hs 1
 clear hs
 refine aa hJ (af hJ ?_)
 simp only[*,go_sem]
 refine aa hJ (af hJ ?_)
 revert h;refine bS fun l e h=>?_
 obtain rfl:=sI h
 simp only[*,go_sem]
 refine aO hJ _ (Ew (dc:=dc) (dN:=dN) (dO:=dO) u0 (b.mono aN) a ⟨c.1,fun _ f=>c.2 _ (Ext.trans aN f)⟩ e) (aE ?_)
 try simp only[*,go_sem]
 refine av ?_
 simp only[*,go_sem]
def uS (a:(bf->Option Bool))(i9:Nat)(b:bf)(st:Int):Option (Fl Int Int):=
 ah (a b) fun c=>cond (c) (some (.rt (i9:Int))) (some (.nx st))
def uT (u0:(List bf))(a:(bf->Option Bool)):Option Int:=
 ah (bE (uS a) 0 u0 0) fun o=>aF o (fun b=>some (-1)) (fun _ _=>none) (fun r=>some r)
theorem Ez {ro:Addr->Option Value}(u0:(List bf)){s1:Value}(i:ax iD ro s1 u0)(d:(bf->Option Bool)){dc:FuncId}{dN dO:Array Value}(s:aG Tryz.prog dc=true/\∀(aI:Addr->Option Value),Ext ro aI->∀(j:bf) (z:Bool),d j=some z->aA Tryz.prog dc (dN++#[j.v]++dO) ⟨aI,[]⟩ (fun v _=>v= .bool z)){r:Int}(h:uT u0 d=some r):aA Tryz.prog 181 #[s1,.func (.func dc) dN dO] ⟨ro,[]⟩ (fun v _=>v= .int .i64 r):=by
 obtain ⟨d3,c4,rfl,N,t,-⟩:=id i
 unfold uT at h
 refine aA.go Tryz.func181 rfl Tryz.ntmps181 Tryz.results181 (by simp) fun main J hJ A u hd hs=>?_
 have w:=hs 0
 have k1:=hs 1
 clear hs
 refine aa hJ (af hJ ?_)
 simp only[*,go_sem]
 refine aa hJ (aa hJ (af hJ ?_))
 simp only[*,go_sem]
 refine aM hJ ?_
 revert h;refine bS fun y b k=>?_
 refine bM hJ [4,5,8,9,10,11,12,13,14,15,16,17,18] (fun m l F'=>∃(i9:Nat) (c:Int),m=u0.length - i9/\i9<=u0.length/\bE (uS d) i9 (u0.drop i9) c=some y/\F'=⟨ro,[]⟩/\slot l 8= .int .i64 (i9:Int)/\slot l 4= .int .i64 c) u0.length ?_ ?_
 ·refine ⟨0,0,(Nat.sub_zero _).symm,Nat.zero_le _,b,rfl,?_⟩
  simp only[*,go_sem]
 rintro O P F' o ⟨i9,c,rfl,Q,b,rfl,R,S⟩
 obtain ⟨B,C,D⟩:=o.pick [0,1,7] (by decide)
 simp only[*,go_sem] at B C D
 clear o u hd w k1
 refine aa hJ (af hJ ?_)
 simp only[*,go_sem]
 refine aa hJ ?_
 rcases Nat.lt_or_ge i9 u0.length with E|p
 ·refine bD hJ (by simp only[*,go_sem]) ?_
  refine aD hJ ?_
  obtain ⟨q,e⟩:∃x,u0[i9]?=some x:=⟨_,List.getElem?_eq_getElem E⟩
  rw[cX e] at b
  revert b;refine bS fun T h f=>?_
  unfold uS at h
  try dsimp only at h
  obtain ⟨U,F,G,H,g⟩:=i.el _ _ e
  obtain rfl:F=q.cells:=H
  cases G
  have I:=g 0 _ rfl;simp only[go_sem] at I
  have K:=g 1 _ rfl;simp only[go_sem] at K
  clear g e
  refine aa hJ (aM hJ (aa hJ ?_))
  refine af hJ ?_
  simp only[*,go_sem]
  refine aa hJ (af hJ ?_)
  revert h;refine bS fun V L h=>?_
  simp only[*,go_sem]
  refine aO hJ _ (s.2 _ (fun a v h=>aN a v h) q _ L) ?_
  try simp only[*,go_sem]
  revert h;refine jC hJ (by simp only[*,go_sem]) (fun M h=>?_) fun M h=>?_
  ·obtain rfl:=sI h
   refine aa hJ (af hJ ?_)
   simp only[*,go_sem]
   obtain rfl:=sI f;clear f
   have h:=k
   dsimp only[aF] at h
   obtain rfl:=sI h
   refine av ?_
   simp only[*,go_sem]
  obtain rfl:=sI h
  refine aD hJ ?_
  have W:=cj (n:=i9) (by have:=t;omega)
  refine af hJ ?_
  simp only[*,go_sem]
  refine ⟨u0.length - (i9+1),by omega,_,Le.sub (List.Sublist.refl _),i9+1,c,rfl,by omega,f,rfl,?_⟩
  simp only[*,go_sem]
 have X:=Nat.not_lt.2 p
 refine bI hJ (by simp only[*,go_sem]) ?_
 rw[List.drop_eq_nil_of_le p] at b
 obtain rfl:=sI b;clear b
 have h:=k
 dsimp only[aF] at h
 obtain rfl:=sI h
 refine bJ ?_
 simp only[go_sem]
 refine aa hJ (af hJ ?_)
 simp only[*,go_sem]
 refine av ?_
 simp only[*,go_sem]
def uU (u0:(List bf))(a:(bf->Option Bool)):Option Bool:=
 ah (uT u0 a) fun b=>some (decide (0<=b))
theorem EA {ro:Addr->Option Value}(u0:(List bf)){s1:Value}(b:ax iD ro s1 u0)(a:(bf->Option Bool)){dc:FuncId}{dN dO:Array Value}(c:aG Tryz.prog dc=true/\∀(aI:Addr->Option Value),Ext ro aI->∀(d:bf) (z:Bool),a d=some z->aA Tryz.prog dc (dN++#[d.v]++dO) ⟨aI,[]⟩ (fun v _=>v= .bool z)){r:Bool}(h:uU u0 a=some r):aA Tryz.prog 164 #[s1,.func (.func dc) dN dO] ⟨ro,[]⟩ (fun v _=>v= .bool r):=by
 obtain ⟨d3,c4,rfl,g,i,-⟩:=id b
 unfold uU at h
 refine aA.go Tryz.func164 rfl Tryz.ntmps164 Tryz.results164 (by simp) fun main J hJ A j hd hs=>?_
 have k:=hs 0
 have k1:=hs 1
 clear hs
 refine aa hJ (af hJ ?_)
 simp only[*,go_sem]
 refine aa hJ (af hJ ?_)
 revert h;refine bS fun l e h=>?_
 obtain rfl:=sI h
 simp only[*,go_sem]
 refine aO hJ _ (Ez (dc:=dc) (dN:=dN) (dO:=dO) u0 (b.mono aN) a ⟨c.1,fun _ f=>c.2 _ (Ext.trans aN f)⟩ e) (aE ?_)
 try simp only[*,go_sem]
 refine av ?_
 simp only[*,go_sem]
def uV (a:(aX->Option Bool))(i38:Nat)(b:aX)(st:Int):Option (Fl Int Int):=
 ah (a b) fun c=>cond (c) (some (.nx (IntKind.i64.wrap (st+1)))) (some (.nx st))
def rH (u0:cL)(b:(aX->Option Bool)):Option Int:=
 ah (bE (uV b) 0 u0.all 0) fun o=>aF o (fun a=>cond ((a==(u0.all.length:Int))) (some 1) (cond ((a==0)) (some 2) (some 0))) (fun _ _=>none) (fun r=>some r)
theorem zz {ro:Addr->Option Value}(u0:cL){s1 e f g:Value}(Z:bt ro u0.book s1 e f g){k:Value}(l:ax gy ro k u0.all)(i:(aX->Option Bool)){dc:FuncId}{dN dO:Array Value}(y:aG Tryz.prog dc=true/\∀(aI:Addr->Option Value),Ext ro aI->∀(o:aX) (z:Bool),i o=some z->aA Tryz.prog dc (dN++#[o.v]++dO) ⟨aI,[]⟩ (fun v _=>v= .bool z)){r:Int}(h:rH u0 i=some r):aA Tryz.prog 116 #[.agg #[.int .i64 u0.book.bF,.int .i64 u0.book.bL,.int .i64 u0.book.aV.num,.int .i64 u0.book.aV.den,s1,e,f,g,k],.func (.func dc) dN dO] ⟨ro,[]⟩ (fun v _=>v= .int .i64 r):=by
 obtain ⟨d31,B,rfl,ab,p,-⟩:=id l
 unfold rH at h
 refine aA.go Tryz.func116 rfl Tryz.ntmps116 Tryz.results116 (by simp) fun main J hJ A C hd hs=>?_
 have D:=hs 0
 have k1:=hs 1
 clear hs
 refine aa hJ (af hJ ?_)
 simp only[*,go_sem]
 refine an fun E ad F=>?_;try simp only[ak] at F
 try simp only[*,go_sem]
 refine aa hJ (af hJ ?_)
 simp only[*,go_sem]
 refine aa hJ (aa hJ (af hJ ?_))
 simp only[*,go_sem]
 refine aM hJ ?_
 revert h;refine bS fun G b H=>?_
 refine bM hJ [5,7,11,12,13,14,15,16,17,18,19,20] (fun m q F'=>∃(i38:Nat) (c:Int),m=u0.all.length - i38/\i38<=u0.all.length/\bE (uV i) i38 (u0.all.drop i38) c=some G/\F'=⟨ro,(E,kn u0 s1 e f g (sl d31 u0.all B))::[]⟩/\slot q 11= .int .i64 (i38:Int)/\slot q 5= .int .i64 c) u0.all.length ?_ ?_
 ·refine ⟨0,0,(Nat.sub_zero _).symm,Nat.zero_le _,b,rfl,?_⟩
  simp only[*,go_sem]
 rintro ae al F' s ⟨i38,c,rfl,ao,b,rfl,ar,a0⟩
 obtain ⟨I,K,L⟩:=s.pick [1,2,4,9,10] (by decide)
 simp only[*,go_sem] at I K L
 clear s C hd D k1
 refine aa hJ (af hJ ?_)
 simp only[*,go_sem]
 refine aa hJ ?_
 rcases Nat.lt_or_ge i38 u0.all.length with M|t
 ·refine bD hJ (by simp only[*,go_sem]) ?_
  refine aD hJ ?_
  obtain ⟨u,j⟩:∃x,u0.all[i38]?=some x:=⟨_,List.getElem?_eq_getElem M⟩
  rw[cX j] at b
  revert b;refine bS fun a2 h w=>?_
  unfold uV at h
  try dsimp only at h
  obtain ⟨a3,N,O,P,d⟩:=l.el _ _ j
  obtain rfl:N=u.cells:=P
  cases O
  have Q:=d 0 _ rfl;simp only[go_sem] at Q
  have R:=d 1 _ rfl;simp only[go_sem] at R
  have S:=d 2 _ rfl;simp only[go_sem] at S
  clear d j
  refine aa hJ (aM hJ (aa hJ ?_))
  refine af hJ ?_
  simp only[*,go_sem]
  refine an fun a4 a5 T=>?_;try simp only[ak] at T
  try simp only[*,go_sem]
  refine aa hJ (af hJ ?_)
  revert h;refine bS fun a6 U h=>?_
  simp only[*,go_sem]
  refine aO hJ _ (y.2 _ (fun a v h=>aN a v h) u _ U) ?_
  try simp only[*,go_sem]
  revert h;refine jC hJ (by simp only[*,go_sem]) (fun V h=>?_) fun V h=>?_
  ·obtain rfl:=sI h
   refine af hJ ?_
   simp only[*,go_sem]
   have W:=cj (n:=i38) (by have:=p;omega)
   refine af hJ ?_
   simp only[*,go_sem]
   refine ⟨u0.all.length - (i38+1),by omega,_,Le.sub (List.Sublist.cons _ (List.Sublist.refl _)),i38+1,(IntKind.i64.wrap (c+1)),rfl,by omega,w,rfl,?_⟩
   simp only[*,go_sem]
  obtain rfl:=sI h
  refine aD hJ ?_
  have W:=cj (n:=i38) (by have:=p;omega)
  refine af hJ ?_
  simp only[*,go_sem]
  refine ⟨u0.all.length - (i38+1),by omega,_,Le.sub (List.Sublist.cons _ (List.Sublist.refl _)),i38+1,c,rfl,by omega,w,rfl,?_⟩
  simp only[*,go_sem]
 have a7:=Nat.not_lt.2 t
 refine bI hJ (by simp only[*,go_sem]) ?_
 rw[List.drop_eq_nil_of_le t] at b
 obtain rfl:=sI b;clear b
 have h:=H
 dsimp only[aF] at h
 refine bJ ?_
 simp only[go_sem]
 refine aa hJ (aa hJ (af hJ ?_))
 simp only[*,go_sem]
 refine aM hJ (aa hJ ?_)
 refine af hJ ?_
 simp only[*,go_sem]
 revert h;refine jC hJ (by simp only[*,go_sem]) (fun X h=>?_) fun X h=>?_
 ·obtain rfl:=sI h
  refine aa hJ (af hJ ?_)
  simp only[*,go_sem]
  refine av ?_
  simp only[*,go_sem]
 refine aa hJ (af hJ ?_)
 simp only[*,go_sem]
 revert h;refine jC hJ (by simp only[*,go_sem]) (fun Y h=>?_) fun Y h=>?_
 ·obtain rfl:=sI h
  refine aa hJ (af hJ ?_)
  simp only[*,go_sem]
  refine av ?_
  simp only[*,go_sem]
 obtain rfl:=sI h
 refine aD hJ (aa hJ ?_)
 refine af hJ ?_
 simp only[*,go_sem]
 refine av ?_
 simp only[*,go_sem]
def pI (u0:bx)(a:aj)(w1:aX):Option Bool:=
 ah (aX.get w1 u0.aT) fun b=>ah (iG a u0.aT b) fun c=>ah (fY a c) fun d=>some (!(d==u0.bg))
theorem EB {ro:Addr->Option Value}(u0:bx)(a:aj){b:Nat}(y:ro ⟨b,0,none⟩=some (.int .i64 a.bF))(z:ro ⟨b,1,none⟩=some (.int .i64 a.bL))(B:ro ⟨b,2,none⟩=some (.int .i64 a.aV.num))(C:ro ⟨b,3,none⟩=some (.int .i64 a.aV.den)){s1:Value}(e:ax eN ro s1 a.aB)(D:ro ⟨b,4,none⟩=some (s1)){j:Value}(f:ax ej ro j a.props)(E:ro ⟨b,5,none⟩=some (j)){k:Value}(g:ax ek ro k a.aC)(G:ro ⟨b,6,none⟩=some (k)){l:Value}(i:ax cU ro l a.told)(H:ro ⟨b,7,none⟩=some (l))(w1:aX){d:Nat}(o:ro ⟨d,0,none⟩=some (.int .i64 w1.e0))(p:ro ⟨d,1,none⟩=some (.int .i64 w1.e1))(q:ro ⟨d,2,none⟩=some (.int .i64 w1.e2)){r:Bool}(h:pI u0 a w1=some r):aA Tryz.prog 174 #[.agg #[.int .i64 u0.aT,.bool u0.bg],.pointer (some ⟨b,0,none⟩),.pointer (some ⟨d,0,none⟩)] ⟨ro,[]⟩ (fun v _=>v= .bool r):=by
 obtain ⟨d3,c4,rfl,I,K,-⟩:=id e
 obtain ⟨d10,L,rfl,M,N,-⟩:=id f
 obtain ⟨d17,O,rfl,P,Q,-⟩:=id g
 obtain ⟨d24,R,rfl,S,T,-⟩:=id i
 unfold pI at h
 refine aA.go Tryz.func174 rfl Tryz.ntmps174 Tryz.results174 (by simp) fun main J hJ A U hd hs=>?_
 have V:=hs 0
 have k1:=hs 1
 have W:=hs 2
 clear hs
 refine aa hJ (af hJ ?_)
 simp only[*,go_sem]
 refine an fun X Y s=>?_;try simp only[ak] at s
 try simp only[*,go_sem]
 refine aa hJ ?_
 refine cQ hJ mixed 14 1 (by simp only[*,go_sem]) (by kernel_rfl) ?_
 revert h;refine bS fun t m h=>?_
 obtain ⟨Z,ab,n⟩:=aX.get_some m;clear n
 have n:=aX.Ee m o p q
 revert h;refine bS fun u w h=>?_
 try simp only[*,go_sem]
 refine ⟨_,bB hJ fun F c=>lF a ⟨(e.mono (bQ c)),(f.mono (bQ c)),(g.mono (bQ c)),(i.mono (bQ c))⟩ u0.aT t w,cc ?_⟩
 revert h;refine bS fun ad x h=>?_
 obtain rfl:=sI h
 try simp only[*,go_sem]
 refine ⟨_,bB hJ fun F c=>lO a ⟨(e.mono (bQ c)),(f.mono (bQ c)),(g.mono (bQ c)),(i.mono (bQ c))⟩ u x,cc ?_⟩
 try simp only[*,go_sem]
 refine av ?_
 simp only[*,go_sem]
def m9 (u0:aj)(a:aX):Option Bool:=
 ah (pH u0.told (fun b=>pI b u0 a)) fun c=>some (!c)
theorem EC {ro:Addr->Option Value}(u0:aj){s1 f g i:Value}(b:bt ro u0 s1 f g i)(c:aX){r:Bool}(h:m9 u0 c=some r):aA Tryz.prog 146 #[bv u0 s1 f g i,.agg #[.int .i64 c.e0,.int .i64 c.e1,.int .i64 c.e2]] ⟨ro,[]⟩ (fun v _=>v= .bool r):=by
 obtain ⟨d3,c4,rfl,q,s,-⟩:=id b.e
 obtain ⟨d10,u,rfl,w,x,-⟩:=id b.p
 obtain ⟨d17,z,rfl,B,C,-⟩:=id b.y
 obtain ⟨d24,D,rfl,E,F,-⟩:=id b.t
 unfold m9 at h
 refine aA.go Tryz.func146 rfl Tryz.ntmps146 Tryz.results146 (by simp) fun main J hJ A G hd hs=>?_
 have H:=hs 0
 have k1:=hs 1
 clear hs
 refine aa hJ (af hJ ?_)
 simp only[*,go_sem]
 refine an fun j I k=>?_;try simp only[ak] at k
 refine an fun l K m=>?_;try simp only[ak] at m
 try simp only[*,go_sem]
 refine aa hJ (af hJ ?_)
 revert h;refine bS fun L n h=>?_
 obtain rfl:=sI h
 simp only[*,go_sem]
 refine aO hJ _ (Ey (dc:=174) (dN:=#[]) (dO:=#[.pointer (some ⟨j,0,none⟩),.pointer (some ⟨l,0,none⟩)]) u0.told (b.t.mono aN) (fun d=>pI d u0 c) ⟨by simp only[go_sem],fun M a d N o=>by simp only[go_sem];exact EB d u0 (a _ _ (by simp only[ag.ck,go_sem, *])) (a _ _ (by simp only[ag.ck,go_sem, *])) (a _ _ (by simp only[ag.ck,go_sem, *])) (a _ _ (by simp only[ag.ck,go_sem, *])) ((b.e.mono aN).mono a) (a _ _ (by simp only[ag.ck,go_sem, *])) ((b.p.mono aN).mono a) (a _ _ (by simp only[ag.ck,go_sem, *])) ((b.y.mono aN).mono a) (a _ _ (by simp only[ag.ck,go_sem, *])) ((b.t.mono aN).mono a) (a _ _ (by simp only[ag.ck,go_sem, *])) c (a _ _ (by simp only[ag.ck,go_sem, *])) (a _ _ (by simp only[ag.ck,go_sem, *])) (a _ _ (by simp only[ag.ck,go_sem, *])) o⟩ n) (aE ?_)
 try simp only[*,go_sem]
 refine av ?_
 simp only[*,go_sem]
def rJ (u0:aj)(a:(List bf)):Option Bool:=
 ah (uU a (fY u0)) fun b=>some (!b)
theorem ED {ro:Addr->Option Value}(u0:aj){s1 c d f:Value}(a:bt ro u0 s1 c d f)(g:(List bf)){i:Value}(j:ax iD ro i g){r:Bool}(h:rJ u0 g=some r):aA Tryz.prog 133 #[bv u0 s1 c d f,i] ⟨ro,[]⟩ (fun v _=>v= .bool r):=by
 obtain ⟨d31,n,rfl,o,q,-⟩:=id j
 unfold rJ at h
 refine aA.go Tryz.func133 rfl Tryz.ntmps133 Tryz.results133 (by simp) fun main J hJ A s hd hs=>?_
 have u:=hs 0
 have k1:=hs 1
 clear hs
 refine aa hJ (af hJ ?_)
 simp only[*,go_sem]
 refine an fun w x k=>?_;try simp only[ak] at k
 try simp only[*,go_sem]
 refine aa hJ (af hJ ?_)
 revert h;refine bS fun z l h=>?_
 obtain rfl:=sI h
 simp only[*,go_sem]
 refine aO hJ _ (EA (dc:=70) (dN:=#[bv u0 s1 c d f]) (dO:=#[]) g (j.mono aN) (fY u0) ⟨by simp only[go_sem],fun B b m _ h=>by simp only[go_sem];exact lO u0 ⟨((a.e.mono aN).mono b),((a.p.mono aN).mono b),((a.y.mono aN).mono b),((a.t.mono aN).mono b)⟩ m h⟩ l) (aE ?_)
 try simp only[*,go_sem]
 refine av ?_
 simp only[*,go_sem]
def rK (u0:aX)(a:cL)(w1:Int):Option Bool:=
 ah (aX.get u0 w1) fun b=>ah (iG a.book w1 b) fun c=>ah (fY a.book c) fun d=>some d
theorem EE {ro:Addr->Option Value}(u0:aX)(a:cL){b:Nat}(x:ro ⟨b,0,none⟩=some (.int .i64 a.book.bF))(y:ro ⟨b,1,none⟩=some (.int .i64 a.book.bL))(z:ro ⟨b,2,none⟩=some (.int .i64 a.book.aV.num))(B:ro ⟨b,3,none⟩=some (.int .i64 a.book.aV.den)){s1:Value}(d:ax eN ro s1 a.book.aB)(C:ro ⟨b,4,none⟩=some (s1)){i:Value}(e:ax ej ro i a.book.props)(D:ro ⟨b,5,none⟩=some (i)){j:Value}(f:ax ek ro j a.book.aC)(E:ro ⟨b,6,none⟩=some (j)){k:Value}(g:ax cU ro k a.book.told)(G:ro ⟨b,7,none⟩=some (k)){l:Value}(n:ax gy ro l a.all)(H:ro ⟨b,8,none⟩=some (l))(w1:Int){m:Nat}(I:ro ⟨m,0,none⟩=some (.int .i64 w1)){r:Bool}(h:rK u0 a w1=some r):aA Tryz.prog 117 #[.agg #[.int .i64 u0.e0,.int .i64 u0.e1,.int .i64 u0.e2],.pointer (some ⟨b,0,none⟩),.pointer (some ⟨m,0,none⟩)] ⟨ro,[]⟩ (fun v _=>v= .bool r):=by
 obtain ⟨d3,c4,rfl,K,L,-⟩:=id d
 obtain ⟨d10,M,rfl,N,O,-⟩:=id e
 obtain ⟨d17,P,rfl,Q,R,-⟩:=id f
 obtain ⟨d24,S,rfl,T,U,-⟩:=id g
 obtain ⟨d31,V,rfl,W,X,-⟩:=id n
 unfold rK at h
 refine aA.go Tryz.func117 rfl Tryz.ntmps117 Tryz.results117 (by simp) fun main J hJ A Y hd hs=>?_
 have Z:=hs 0
 have k1:=hs 1
 have ab:=hs 2
 clear hs
 refine aa hJ (af hJ ?_)
 simp only[*,go_sem]
 refine an fun ad ae o=>?_;try simp only[ak] at o
 try simp only[*,go_sem]
 refine aa hJ ?_
 refine cQ hJ mixed 11 1 (by simp only[*,go_sem]) (by kernel_rfl) ?_
 revert h;refine bS fun p q h=>?_
 obtain ⟨al,ao,s⟩:=aX.get_some q
 try simp only[go_sem] at s
 revert h;refine bS fun t u h=>?_
 try simp only[*,go_sem]
 refine ⟨_,bB hJ fun F c=>lF a.book ⟨(d.mono (bQ c)),(e.mono (bQ c)),(f.mono (bQ c)),(g.mono (bQ c))⟩ w1 p u,cc ?_⟩
 revert h;refine bS fun ar w h=>?_
 obtain rfl:=sI h
 try simp only[*,go_sem]
 refine ⟨_,bB hJ fun F c=>lO a.book ⟨(d.mono (bQ c)),(e.mono (bQ c)),(f.mono (bQ c)),(g.mono (bQ c))⟩ t w,cc ?_⟩
 try simp only[*,go_sem]
 refine av ?_
 simp only[*,go_sem]
def uW (u0:aX)(a:cL)(i38:Nat)(e:bV)(st:Bool):Option (Fl Bool Bool):=
 ah (aX.get u0 (i38:Int)) fun b=>ah (iG a.book (i38:Int) b) fun c=>ah (fY a.book c) fun d=>cond (d) (some (.rt false)) (some (.nx st))
def rM (u0:aX)(a:cL):Option Bool:=
 ah (bE (uW u0 a) 0 a.book.aC false) fun o=>aF o (fun b=>some true) (fun _ _=>none) (fun r=>some r)
theorem EF {ro:Addr->Option Value}(u0:aX)(a:cL){b:Nat}(ae:ro ⟨b,0,none⟩=some (.int .i64 a.book.bF))(al:ro ⟨b,1,none⟩=some (.int .i64 a.book.bL))(ao:ro ⟨b,2,none⟩=some (.int .i64 a.book.aV.num))(ar:ro ⟨b,3,none⟩=some (.int .i64 a.book.aV.den)){s1:Value}(i:ax eN ro s1 a.book.aB)(a0:ro ⟨b,4,none⟩=some (s1)){p:Value}(j:ax ej ro p a.book.props)(a2:ro ⟨b,5,none⟩=some (p)){q:Value}(e:ax ek ro q a.book.aC)(a3:ro ⟨b,6,none⟩=some (q)){s:Value}(k:ax cU ro s a.book.told)(a4:ro ⟨b,7,none⟩=some (s)){t:Value}(B:ax gy ro t a.all)(a5:ro ⟨b,8,none⟩=some (t)){r:Bool}(h:rM u0 a=some r):aA Tryz.prog 118 #[.agg #[.int .i64 u0.e0,.int .i64 u0.e1,.int .i64 u0.e2],.pointer (some ⟨b,0,none⟩)] ⟨ro,[]⟩ (fun v _=>v= .bool r):=by
 obtain ⟨d3,c4,rfl,a6,a7,-⟩:=id i
 obtain ⟨d10,a8,rfl,a9,ba,-⟩:=id j
 obtain ⟨d17,bb,rfl,bc,C,-⟩:=id e
 obtain ⟨d24,bd,rfl,bj,bk,-⟩:=id k
 obtain ⟨d31,bl,rfl,bm,bo,-⟩:=id B
 unfold rM at h
 refine aA.go Tryz.func118 rfl Tryz.ntmps118 Tryz.results118 (by simp) fun main J hJ A D hd hs=>?_
 have E:=hs 0
 have k1:=hs 1
 clear hs
 refine aa hJ (af hJ ?_)
 simp only[*,go_sem]
 refine an fun G br H=>?_;try simp only[ak] at H
 try simp only[*,go_sem]
 refine aa hJ (aa hJ (af hJ ?_))
 simp only[*,go_sem]
 refine aM hJ ?_
 revert h;refine bS fun I d u=>?_
 refine bM hJ [3,4,10,11,12,13,14,15,16,17,18,19,20,21,22,23] (fun m w F'=>∃(i38:Nat) (f:Bool),m=a.book.aC.length - i38/\i38<=a.book.aC.length/\bE (uW u0 a) i38 (a.book.aC.drop i38) f=some I/\F'=⟨ro,(G,.cells #[.int .i64 u0.e0,.int .i64 u0.e1,.int .i64 u0.e2] 141)::[]⟩/\slot w 10= .int .i64 (i38:Int)/\slot w 3= .bool f) a.book.aC.length ?_ ?_
 ·refine ⟨0,false,(Nat.sub_zero _).symm,Nat.zero_le _,d,rfl,?_⟩
  simp only[*,go_sem]
 rintro bs bz F' y ⟨i38,f,rfl,b0,d,rfl,b1,b2⟩
 obtain ⟨K,L,M⟩:=y.pick [1,2,9] (by decide)
 simp only[*,go_sem] at K L M
 clear y D hd E k1
 refine aa hJ (af hJ ?_)
 simp only[*,go_sem]
 refine aa hJ ?_
 rcases Nat.lt_or_ge i38 a.book.aC.length with N|z
 ·refine bD hJ (by simp only[*,go_sem]) ?_
  refine aD hJ ?_
  obtain ⟨O,l⟩:∃x,a.book.aC[i38]?=some x:=⟨_,List.getElem?_eq_getElem N⟩
  rw[cX l] at d
  revert d;refine bS fun b3 h o=>?_
  unfold uW at h
  try dsimp only at h
  obtain ⟨b4,P,Q,R,g⟩:=e.el _ _ l
  obtain rfl:P=O.cells:=R
  cases Q
  have S:=g 0 _ rfl;simp only[go_sem] at S
  have T:=g 1 _ rfl;simp only[go_sem] at T
  have U:=g 2 _ rfl;simp only[go_sem] at U
  clear g l
  refine aa hJ (aM hJ (aa hJ ?_))
  refine af hJ ?_
  simp only[*,go_sem]
  refine aa hJ ?_
  refine cQ hJ mixed 10 1 (by simp only[*,go_sem]) (by kernel_rfl) ?_
  revert h;refine bS fun V W h=>?_
  obtain ⟨b5,ca,X⟩:=aX.get_some W
  try simp only[go_sem] at X
  revert h;refine bS fun Y Z h=>?_
  try simp only[*,go_sem]
  refine ⟨_,bB hJ fun F c=>lF a.book ⟨(i.mono (bQ c)),(j.mono (bQ c)),(e.mono (bQ c)),(k.mono (bQ c))⟩ (i38:Int) V Z,cc ?_⟩
  revert h;refine bS fun cb ab h=>?_
  try simp only[*,go_sem]
  refine ⟨_,bB hJ fun F c=>lO a.book ⟨(i.mono (bQ c)),(j.mono (bQ c)),(e.mono (bQ c)),(k.mono (bQ c))⟩ Y ab,?_⟩
  try simp only[*,go_sem]
  revert h;refine jC hJ (by simp only[*,go_sem]) (fun ad h=>?_) fun ad h=>?_
  ·obtain rfl:=sI h
   refine aa hJ (af hJ ?_)
   simp only[*,go_sem]
   obtain rfl:=sI o;clear o
   have h:=u
   dsimp only[aF] at h
   obtain rfl:=sI h
   refine av ?_
   simp only[*,go_sem]
  obtain rfl:=sI h
  refine aD hJ ?_
  have cd:=cj (n:=i38) (by have:=C;omega)
  refine af hJ ?_
  simp only[*,go_sem]
  refine ⟨a.book.aC.length - (i38+1),by omega,_,Le.sub (List.Sublist.refl _),i38+1,f,rfl,by omega,o,rfl,?_⟩
  simp only[*,go_sem]
 have cf:=Nat.not_lt.2 z
 refine bI hJ (by simp only[*,go_sem]) ?_
 rw[List.drop_eq_nil_of_le z] at d
 obtain rfl:=sI d;clear d
 have h:=u
 dsimp only[aF] at h
 obtain rfl:=sI h
 refine bJ ?_
 simp only[go_sem]
 refine aa hJ (af hJ ?_)
 simp only[*,go_sem]
 refine av ?_
 simp only[*,go_sem]
def aX.setAt (h:aX)(i n:Int):Option aX:=if i=0 then some {h with e0:=n} else if i=1 then some {h with e1:=n} else if i=2 then some {h with e2:=n} else none
theorem aX.EG {h h1:aX}{i n:Int}(e:h.setAt i n=some h1):(i=0/\h1={h with e0:=n})\/(i=1/\h1={h with e1:=n})\/(i=2/\h1={h with e2:=n}):=by
 unfold aX.setAt at e
 split at e
 ·exact .inl ⟨‹_›,(Option.some.inj e).symm⟩
 ·split at e
  ·exact .inr (.inl ⟨‹_›,(Option.some.inj e).symm⟩)
  ·split at e
   ·exact .inr (.inr ⟨‹_›,(Option.some.inj e).symm⟩)
   ·cases e
def iI (f:aX->List (Option aX)×aX)(i hi:Int):Nat->Int->aX->List (Option aX)×aX
 |0,_,h=>([none],h)
 |k+1,n,h=>if n<=hi then match h.setAt i n with
   |none=>([none],h)
   |some h1=>((f h1).1++(iI f i hi k (IntKind.i64.wrap (n+1)) (f h1).2).1,(iI f i hi k (IntKind.i64.wrap (n+1)) (f h1).2).2)
  else ([],h)
def eA (b:aj):Nat->Int->aX->List (Option aX)×aX
 |0,_,h=>([none],h)
 |fuel+1,i,h=>if i=b.aC.length then ((match m9 b h with
   |some true=>[some h]
   |some false=>[]
   |none=>[none]),h)
  else match bq b.aC i with
   |none=>([none],h)
   |some e=>iI (eA b fuel (IntKind.i64.wrap (i+1))) i e.high.high 100 e.high.low h
def lQ (b:aj):List (Option aX):=(eA b 5 0 ⟨0,0,0⟩).1
theorem EH {H σ:Type}{step:σ->H->Option (Bool×σ)}{l l':List (Option H)}{s s':σ}{c:Bool}(h:eL step (l++l') s=some (c,s')):
  (∃s1,eL step l s=some (true,s1)/\eL step l' s1=some (c,s'))\/(eL step l s=some (false,s')/\c=false):=by
 rw[zg] at h
 split at h
 ·rename_i s1 h1;exact .inl ⟨s1,h1,h⟩
 ·rename_i s1 h1;simp only[Option.some.injEq,Prod.mk.injEq] at h;obtain ⟨rfl,rfl⟩:=h;exact .inr ⟨h1,rfl⟩
 ·cases h
theorem pJ {H σ:Type}{step:σ->H->Option (Bool×σ)}{s:σ}{r:Bool×σ}(h:eL step [none] s=some r):False:=by cases h
section
variable {ro : Addr → Option Value} {σ : Type} {step : σ → aX → Option (Bool × σ)} {I : σ → List (Nat × Obj) → Prop} {y : Value}
def nc (b:aj)(s1 s2 a c y:Value)(b2 b3 b4 b5:Nat)(h:aX):List (Nat×Obj):=
 [(b5,.cells #[.func (.func 145) #[] #[.pointer (some ⟨b2,0,none⟩),.pointer (some ⟨b4,0,none⟩),.pointer (some ⟨b3,0,none⟩),.pointer (some ⟨b5,0,none⟩)]] 161),
  (b4,.cells #[.int .i64 h.e0,.int .i64 h.e1,.int .i64 h.e2] 141),(b3,.cells #[y] 159),
  (b2,.cells #[.int .i64 b.bF,.int .i64 b.bL,.int .i64 b.aV.num,.int .i64 b.aV.den,s1,s2,a,c] 83)]
theorem EI (u0:aj){s1 s2 u w:Value}(D:ax eN ro s1 u0.aB)(E:ax ej ro s2 u0.props)(F:ax ek ro u u0.aC)(G:ax cU ro w u0.told)(T:uG Tryz.prog y aX.v step ro I)
  {b2 b3 b4 b5:Nat} (n1:¬b5=b4) (n2:¬b5=b3) (n3:¬b5=b2) (a9:¬b4=b3) (ba:¬b4=b2) (bb:¬b3=b2) (bc:∀off sp,ro ⟨b5,off,sp⟩=none) (bd:∀off sp,ro ⟨b4,off,sp⟩=none) (bj:∀off sp,ro ⟨b3,off,sp⟩=none) (bk:∀off sp,ro ⟨b2,off,sp⟩=none):
  ∀(fuel:Nat) (i:Int) (h0:aX) (s:σ) (c:Bool) (s':σ),eL step (eA u0 fuel i h0).1 s=some (c,s')->∀(main:Bool) (J:Goroutine->ag->Prop),Closed Tryz.prog main J->∀own,I s own->
   cK Tryz.prog J 145 #[.int .i64 i,.pointer (some ⟨b2,0,none⟩),.pointer (some ⟨b4,0,none⟩),.pointer (some ⟨b3,0,none⟩),.pointer (some ⟨b5,0,none⟩)] ⟨ro,nc u0 s1 s2 u w y b2 b3 b4 b5 h0++own⟩
    (fun v F'=>∃h1 o,Le ⟨ro,nc u0 s1 s2 u w y b2 b3 b4 b5 h1++o⟩ F'/\v= .bool c/\I s' o/\(c=true->h1=(eA u0 fuel i h0).2)):=by
 intro fuel
 induction fuel with
 |zero=>intro i h0 s c s' h;exact (pJ h).elim
 |succ fuel ih=>
  intro i h0 s c s' h main J hJ own g
  obtain ⟨H,K,rfl,bl,bm,e1⟩:=id D
  obtain ⟨L,M,rfl,bo,br,e2⟩:=id E
  obtain ⟨U,N,rfl,bs,bz,V⟩:=id F
  obtain ⟨O,P,rfl,bS,b0,b1⟩:=id G
  refine cK.go hJ Tryz.func145 rfl Tryz.ntmps145 Tryz.results145 (by simp) fun A W hd hs=>?_
  have X:=hs 0
  have k1:=hs 1
  have Y:=hs 2
  have Z:=hs 3
  have ab:=hs 4
  clear hs
  unfold eA at h
  have ca:(0:Int)<((3:Nat):Int):=by decide
  have cb:(1:Int)<((3:Nat):Int):=by decide
  have cd:(2:Int)<((3:Nat):Int):=by decide
  repeat refine aa hJ ?_
  refine af hJ ?_
  simp only[*,go_sem,-h]
  repeat refine aa hJ ?_
  refine af hJ ?_
  simp only[nc,go_sem, *,-h]
  repeat refine aa hJ ?_
  by_cases hi:i=(u0.aC.length:Int)
  ·rw[if_pos hi] at h
   repeat refine aa hJ ?_
   refine bD hJ (by simp only[*,go_sem,-h]) ?_
   repeat refine aa hJ ?_
   refine aH hJ fun nd=>?_
   repeat refine aa hJ ?_
   refine af hJ ?_
   simp only[*,go_sem,-h]
   cases d:m9 u0 h0 with
   |none=>rw[d] at h;exact (pJ h).elim
   |some r=>
    rw[d] at h
    refine aO hJ _ (EC u0 ⟨(D.mono aN),(E.mono aN),(F.mono aN),(G.mono aN)⟩ h0 d) (aE ?_)
    cases r with
    |false=>
     cases h
     simp only[*,go_sem]
     repeat refine aa hJ ?_
     refine av ?_
     simp only[*,go_sem]
     refine ⟨h0,own,Le.refl _,?_⟩
     first|exact ⟨rfl,g,fun _=>by unfold eA;rw[if_pos rfl]⟩|exact ⟨g,fun _=>by unfold eA;rw[if_pos rfl]⟩|exact ⟨g,by unfold eA;rw[if_pos rfl]⟩|exact g
    |true=>
     have ad:step s h0=some (c,s'):=by
      simp only[eL] at h
      split at h<;>first|(cases h;assumption)|cases h
     simp only[*,go_sem,-h]
     refine DO hJ (nc u0 (.slice H u0.aB.length K) (.slice L u0.props.length M) (.slice U u0.aC.length N) (.slice O u0.told.length P) y b2 b3 b4 b5 h0) (fun m ae al=>T s h0 c s' ad m ae al own g) nd ?_
     rintro v o ⟨rfl,Q⟩ cf
     refine aE ?_
     simp only[*,go_sem,-h]
     repeat refine aa hJ ?_
     refine av ?_
     simp only[*,go_sem,-h]
     refine ⟨h0,o,Le.refl _,?_⟩
     first|exact ⟨rfl,Q,fun _=>by unfold eA;rw[if_pos rfl]⟩|exact ⟨Q,fun _=>by unfold eA;rw[if_pos rfl]⟩
  ·rw[if_neg hi] at h
   have cl:(i==(u0.aC.length:Int))=false:=by simpa using hi
   repeat refine aa hJ ?_
   refine bI hJ (by simp only[*,go_sem,-h]) ?_
   refine aD hJ ?_
   cases d:bq u0.aC i with
   |none=>rw[d] at h;exact (pJ h).elim
   |some e=>
    rw[d] at h
    simp only at h
    have ao:=d
    obtain ⟨cy,cS,R⟩:=bX d
    obtain ⟨ar,cse,a0,a2,p⟩:=V _ _ R
    obtain rfl:cse=e.cells:=a2
    cases a0
    have a3:=p 0 _ rfl;simp only[go_sem] at a3
    have a4:=p 1 _ rfl;simp only[go_sem] at a4
    have a5:=p 2 _ rfl;simp only[go_sem] at a5
    clear p R
    repeat refine aa hJ ?_
    refine af hJ ?_
    simp only[*,go_sem,-h]
    repeat refine aa hJ ?_
    refine aM hJ ?_
    refine bM hJ [6,7,31,32,33,34,35,36,37,38,39,40,41,42,43,44,45,46,47,48,49,50] (fun m a6 F'=>∃(n:Int) (h:aX) (s:σ) (own:List (Nat×Obj)),eL step (iI (eA u0 fuel (IntKind.i64.wrap (i+1))) i e.high.high m n h).1 s=some (c,s')/\
     (c=true->(iI (eA u0 fuel (IntKind.i64.wrap (i+1))) i e.high.high m n h).2=(eA u0 (fuel+1) i h0).2)/\F'=⟨ro,nc u0 (.slice H u0.aB.length K) (.slice L u0.props.length M) (.slice (some ar) u0.aC.length N) (.slice O u0.told.length P) y b2 b3 b4 b5 h++own⟩/\I s own/\slot a6 7= .int .i64 n) 100 ?_ ?_
    ·have a7:(eA u0 (fuel+1) i h0).2=(iI (eA u0 fuel (IntKind.i64.wrap (i+1))) i e.high.high 100 e.high.low h0).2:=by
      rw[eA,if_neg hi,ao]
     exact ⟨e.high.low,h0,s,own,h,fun _=>a7.symm,rfl,g,by simp only[*,go_sem,-h]⟩
    ·rintro m j F' f ⟨n,h1,s1,x,a,b,rfl,l,c0⟩
     clear h g
     have da:sz j=51:=by rw[f.size];simp only[*,go_sem]
     have kd:j.defers=[]:=by rw[f.defers];simp only[*,go_sem]
     have db:slot j 0= .int .i64 i:=by rw[f.dJ 0 (by decide)];simp only[*,go_sem]
     have dd:slot j 1= .pointer (some ⟨b2,0,none⟩):=by rw[f.dJ 1 (by decide)];simp only[*,go_sem]
     have df:slot j 2= .pointer (some ⟨b4,0,none⟩):=by rw[f.dJ 2 (by decide)];simp only[*,go_sem]
     have dk:slot j 3= .pointer (some ⟨b3,0,none⟩):=by rw[f.dJ 3 (by decide)];simp only[*,go_sem]
     have dp:slot j 4= .pointer (some ⟨b5,0,none⟩):=by rw[f.dJ 4 (by decide)];simp only[*,go_sem]
     clear f X k1 Y Z ab W hd
     obtain _|m:=m
     ·exact (pJ a).elim
     unfold iI at a b
     repeat refine aa hJ ?_
     refine af hJ ?_
     simp only[nc,go_sem, *,-a]
     repeat refine aa hJ ?_
     by_cases q:n<=e.high.high
     ·rw[if_pos q] at a
      rw[if_pos q] at b
      repeat refine aa hJ ?_
      refine bD hJ (by simp only[*,go_sem,-a]) ?_
      refine aD hJ ?_
      cases z:h1.setAt i n with
      |none=>rw[z] at a;exact (pJ a).elim
      |some h2=>
       rw[z] at a b
       simp only at a b
       repeat refine aa hJ ?_
       refine aM hJ ?_
       repeat refine aa hJ ?_
       refine aH hJ fun nd=>?_
       repeat refine aa hJ ?_
       refine af hJ ?_
       rcases aX.EG z with ⟨B,rfl⟩|⟨B,rfl⟩|⟨B,rfl⟩<;>subst B<;>
       (simp only[*,go_sem,-a]
        repeat refine aa hJ ?_
        refine af hJ ?_
        simp only[*,go_sem,-a]
        have a8:=EH a
        clear a
        rcases a8 with ⟨s2,C,a⟩|⟨C,rfl⟩
        ·refine cK.less hJ ((ih _ _ _ _ _ C _ J hJ x l).mono ?_)
         rintro v F' ⟨h3,S,hle,rfl,k,t⟩
         have t:=t rfl
         subst t
         refine ⟨_,hle,aE ?_⟩
         simp only[*,go_sem,-a]
         repeat refine aa hJ ?_
         refine bI hJ (by simp only[*,go_sem,-a]) ?_
         refine aD hJ ?_
         repeat refine aa hJ ?_
         refine af hJ ?_
         simp only[*,go_sem,-a]
         exact ⟨m,Nat.lt_succ_self m,_,Le.refl _,_,_,_,_,a,b,rfl,k,by simp only[*,go_sem,-a]⟩
        ·refine cK.less hJ ((ih _ _ _ _ _ C _ J hJ x l).mono ?_)
         rintro v F' ⟨h3,S,hle,rfl,k,t⟩
         refine ⟨_,hle,aE ?_⟩
         simp only[*,go_sem]
         repeat refine aa hJ ?_
         refine bD hJ (by simp only[*,go_sem]) ?_
         repeat refine aa hJ ?_
         refine af hJ ?_
         simp only[*,go_sem]
         repeat refine aa hJ ?_
         refine av ?_
         simp only[*,go_sem]
         refine ⟨h3,S,Le.refl _,?_⟩
         first|exact ⟨rfl,k,fun h=>by cases h⟩|exact ⟨k,fun h=>by cases h⟩|exact k|exact ⟨k,trivial⟩)
     ·rw[if_neg q] at a
      rw[if_neg q] at b
      simp only[eL,Option.some.injEq,Prod.mk.injEq] at a
      obtain ⟨rfl,rfl⟩:=a
      repeat refine aa hJ ?_
      refine bI hJ (by simp only[*,go_sem]) ?_
      refine bJ ?_
      simp only[go_sem]
      repeat refine aa hJ ?_
      refine af hJ ?_
      simp only[*,go_sem]
      repeat refine aa hJ ?_
      refine av ?_
      simp only[*,go_sem]
      refine ⟨h1,x,Le.refl _,?_⟩
      first|exact ⟨rfl,l,fun h=>b h⟩|exact ⟨l,fun h=>b h⟩|exact ⟨l,b rfl⟩
theorem rN (u0:aj){s1 s2 j k:Value}(e:ax eN ro s1 u0.aB)(f:ax ej ro s2 u0.props)(g:ax ek ro j u0.aC)(h:ax cU ro k u0.told):
  lB Tryz.prog 112 #[.agg #[.int .i64 u0.bF,.int .i64 u0.bL,.int .i64 u0.aV.num,.int .i64 u0.aV.den,s1,s2,j,k]] #[] aX.v (lQ u0) ro:=by
 refine ⟨by simp only[go_sem],fun aI b σ step I r t u l s c s' a main J hJ own m=>?_⟩
 replace e:=e.mono b
 replace f:=f.mono b
 replace g:=g.mono b
 replace h:=h.mono b
 refine cK.go hJ Tryz.func112 rfl Tryz.ntmps112 Tryz.results112 (by simp) fun A w hd hs=>?_
 have x:=hs 0
 have k1:=hs 1
 clear hs
 repeat refine aa hJ ?_
 refine af hJ ?_
 try simp only[*,go_sem,-a]
 intro b2 f2;have r2:=ep f2;have n2:=e8 f2
 intro b3 f3;have r3:=ep f3;have n3:=e8 f3
 simp only[ak] at n3
 try simp only[*,go_sem,-a]
 repeat refine aa hJ ?_
 refine af hJ ?_
 try simp only[*,go_sem,-a]
 intro b4 f4;have n:=ep f4;have i:=e8 f4
 simp only[ak] at i
 try simp only[*,go_sem,-a]
 repeat refine aa hJ ?_
 refine af hJ ?_
 try simp only[*,go_sem,-a]
 intro b5 f5;have o:=ep f5;have d:=e8 f5
 simp only[ak] at d
 try simp only[*,go_sem,-a]
 repeat refine aa hJ ?_
 refine af hJ ?_
 try simp only[*,go_sem,-a]
 repeat refine aa hJ ?_
 refine af hJ ?_
 try simp only[*,go_sem,-a]
 refine cK.less hJ ((EI u0 e f g h l (b2:=b2) (b3:=b3) (b4:=b4) (b5:=b5) d.1 d.2.1 d.2.2.1 i.1 i.2.1 n3.1 o n r3 r2 5 0 ⟨0,0,0⟩ s c s' a main J hJ own m).mono ?_)
 rintro v F' ⟨h1,p,hle,rfl,q,_⟩
 exact ⟨_,hle,p,Le.sub (List.sublist_append_right _ _),q⟩
end
def ng (u0:List bx):Option (List bx):=if u0.length<=1000000 then some u0 else none
theorem uX {ro:Addr->Option Value}(u0:List bx){s1:Value}(b:ax cU ro s1 u0){x:List bx}(h:ng u0=some x):aA Tryz.prog 102 #[s1] ⟨ro,[]⟩ (fun v G=>∃a,aP cU ro 54 v x a/\Le ⟨ro,a⟩ G):=by
 obtain ⟨ad,cap,rfl,le,d,e⟩:=id b
 unfold ng at h
 split at h
 case isFalse=>cases h
 rename_i hlen
 obtain rfl:=Option.some.inj h
 clear h
 refine aA.go Tryz.func102 rfl Tryz.ntmps102 Tryz.results102 (by simp) fun main J hJ A f hd hs=>?_
 have g:=hs 0
 clear hs
 refine aa hJ (af hJ ?_)
 simp only[*,go_sem]
 cases ad with
 |none=>
  have hu:u0=[]:=by
   cases u0 with
   |nil=>rfl
   |cons x l=>obtain ⟨p,cs,c,_⟩:=e 0 x rfl;cases c
  subst hu
  first|refine aa hJ (af hJ ?_)|refine aa hJ (aa hJ (af hJ ?_))
  simp only[*,go_sem]
  refine bD hJ (by simp only[*,go_sem]) ?_
  refine aa hJ (af hJ ?_)
  simp only[*,go_sem]
  refine av ?_
  simp only[*,go_sem]
  exact ⟨[],aP.nil _ _ _,Le.refl _⟩
 |some p=>
  first|refine aa hJ (af hJ ?_)|refine aa hJ (aa hJ (af hJ ?_))
  simp only[*,go_sem]
  refine bI hJ (by simp only[*,go_sem]) ?_
  refine aD hJ ?_
  refine aa hJ (af hJ ?_)
  simp only[*,go_sem]
  intro i f1;have r1:=ep f1
  try simp only[*,go_sem]
  refine oV r1 trivial rfl hlen b rfl rfl dK dK gu gw rfl gv (by decide) (by decide) (fun v a hg j=>aE ?_)
  simp only[*,go_sem]
  refine av ?_
  simp only[*,go_sem]
  exact ⟨a,hg,Le.refl _⟩
def nh (u0:List bV):Option (List bV):=if u0.length<=1000000 then some u0 else none
theorem zA {ro:Addr->Option Value}(u0:List bV){s1:Value}(b:ax ek ro s1 u0){x:List bV}(h:nh u0=some x):aA Tryz.prog 107 #[s1] ⟨ro,[]⟩ (fun v G=>∃a,aP ek ro 148 v x a/\Le ⟨ro,a⟩ G):=by
 obtain ⟨ad,cap,rfl,le,d,e⟩:=id b
 unfold nh at h
 split at h
 case isFalse=>cases h
 rename_i hlen
 obtain rfl:=Option.some.inj h
 clear h
 refine aA.go Tryz.func107 rfl Tryz.ntmps107 Tryz.results107 (by simp) fun main J hJ A f hd hs=>?_
 have g:=hs 0
 clear hs
 refine aa hJ (af hJ ?_)
 simp only[*,go_sem]
 cases ad with
 |none=>
  have hu:u0=[]:=by
   cases u0 with
   |nil=>rfl
   |cons x l=>obtain ⟨p,cs,c,_⟩:=e 0 x rfl;cases c
  subst hu
  first|refine aa hJ (af hJ ?_)|refine aa hJ (aa hJ (af hJ ?_))
  simp only[*,go_sem]
  refine bD hJ (by simp only[*,go_sem]) ?_
  refine aa hJ (af hJ ?_)
  simp only[*,go_sem]
  refine av ?_
  simp only[*,go_sem]
  exact ⟨[],aP.nil _ _ _,Le.refl _⟩
 |some p=>
  first|refine aa hJ (af hJ ?_)|refine aa hJ (aa hJ (af hJ ?_))
  simp only[*,go_sem]
  refine bI hJ (by simp only[*,go_sem]) ?_
  refine aD hJ ?_
  refine aa hJ (af hJ ?_)
  simp only[*,go_sem]
  intro i f1;have r1:=ep f1
  try simp only[*,go_sem]
  refine oV r1 trivial rfl hlen b rfl rfl qQ qQ yK yM rfl yL (by decide) (by decide) (fun v a hg j=>aE ?_)
  simp only[*,go_sem]
  refine av ?_
  simp only[*,go_sem]
  exact ⟨a,hg,Le.refl _⟩
def rO (u0:List bZ):Option (List bZ):=if u0.length<=1000000 then some u0 else none
theorem EJ {ro:Addr->Option Value}(u0:List bZ){s1:Value}(b:ax eN ro s1 u0){x:List bZ}(h:rO u0=some x):aA Tryz.prog 142 #[s1] ⟨ro,[]⟩ (fun v G=>∃a,aP eN ro 132 v x a/\Le ⟨ro,a⟩ G):=by
 obtain ⟨ad,cap,rfl,le,d,e⟩:=id b
 unfold rO at h
 split at h
 case isFalse=>cases h
 rename_i hlen
 obtain rfl:=Option.some.inj h
 clear h
 refine aA.go Tryz.func142 rfl Tryz.ntmps142 Tryz.results142 (by simp) fun main J hJ A f hd hs=>?_
 have g:=hs 0
 clear hs
 refine aa hJ (af hJ ?_)
 simp only[*,go_sem]
 cases ad with
 |none=>
  have hu:u0=[]:=by
   cases u0 with
   |nil=>rfl
   |cons x l=>obtain ⟨p,cs,c,_⟩:=e 0 x rfl;cases c
  subst hu
  first|refine aa hJ (af hJ ?_)|refine aa hJ (aa hJ (af hJ ?_))
  simp only[*,go_sem]
  refine bD hJ (by simp only[*,go_sem]) ?_
  refine aa hJ (af hJ ?_)
  simp only[*,go_sem]
  refine av ?_
  simp only[*,go_sem]
  exact ⟨[],aP.nil _ _ _,Le.refl _⟩
 |some p=>
  first|refine aa hJ (af hJ ?_)|refine aa hJ (aa hJ (af hJ ?_))
  simp only[*,go_sem]
  refine bI hJ (by simp only[*,go_sem]) ?_
  refine aD hJ ?_
  refine aa hJ (af hJ ?_)
  simp only[*,go_sem]
  intro i f1;have r1:=ep f1
  try simp only[*,go_sem]
  refine oV r1 trivial rfl hlen b rfl rfl yH yH Db uo rfl Dc (by decide) (by decide) (fun v a hg j=>aE ?_)
  simp only[*,go_sem]
  refine av ?_
  simp only[*,go_sem]
  exact ⟨a,hg,Le.refl _⟩
def pK (u0:List b6):Option (List b6):=if u0.length<=1000000 then some u0 else none
theorem zB {ro:Addr->Option Value}(u0:List b6){s1:Value}(b:ax ej ro s1 u0){x:List b6}(h:pK u0=some x):aA Tryz.prog 143 #[s1] ⟨ro,[]⟩ (fun v G=>∃a,aP ej ro 146 v x a/\Le ⟨ro,a⟩ G):=by
 obtain ⟨ad,cap,rfl,le,d,e⟩:=id b
 unfold pK at h
 split at h
 case isFalse=>cases h
 rename_i hlen
 obtain rfl:=Option.some.inj h
 clear h
 refine aA.go Tryz.func143 rfl Tryz.ntmps143 Tryz.results143 (by simp) fun main J hJ A f hd hs=>?_
 have g:=hs 0
 clear hs
 refine aa hJ (af hJ ?_)
 simp only[*,go_sem]
 cases ad with
 |none=>
  have hu:u0=[]:=by
   cases u0 with
   |nil=>rfl
   |cons x l=>obtain ⟨p,cs,c,_⟩:=e 0 x rfl;cases c
  subst hu
  first|refine aa hJ (af hJ ?_)|refine aa hJ (aa hJ (af hJ ?_))
  simp only[*,go_sem]
  refine bD hJ (by simp only[*,go_sem]) ?_
  refine aa hJ (af hJ ?_)
  simp only[*,go_sem]
  refine av ?_
  simp only[*,go_sem]
  exact ⟨[],aP.nil _ _ _,Le.refl _⟩
 |some p=>
  first|refine aa hJ (af hJ ?_)|refine aa hJ (aa hJ (af hJ ?_))
  simp only[*,go_sem]
  refine bI hJ (by simp only[*,go_sem]) ?_
  refine aD hJ ?_
  refine aa hJ (af hJ ?_)
  simp only[*,go_sem]
  intro i f1;have r1:=ep f1
  try simp only[*,go_sem]
  refine oV r1 trivial rfl hlen b rfl rfl j9 j9 qR qT rfl qS (by decide) (by decide) (fun v a hg j=>aE ?_)
  simp only[*,go_sem]
  refine av ?_
  simp only[*,go_sem]
  exact ⟨a,hg,Le.refl _⟩
def rP (u0:List Int):Option (List Int):=if u0.length<=1000000 then some u0 else none
theorem zC {ro:Addr->Option Value}(u0:List Int){s1:Value}(b:ax rI ro s1 u0){x:List Int}(h:rP u0=some x):aA Tryz.prog 137 #[s1] ⟨ro,[]⟩ (fun v G=>∃a,aP rI ro 3 v x a/\Le ⟨ro,a⟩ G):=by
 obtain ⟨ad,cap,rfl,le,d,e⟩:=id b
 unfold rP at h
 split at h
 case isFalse=>cases h
 rename_i hlen
 obtain rfl:=Option.some.inj h
 clear h
 refine aA.go Tryz.func137 rfl Tryz.ntmps137 Tryz.results137 (by simp) fun main J hJ A f hd hs=>?_
 have g:=hs 0
 clear hs
 refine aa hJ (af hJ ?_)
 simp only[*,go_sem]
 cases ad with
 |none=>
  have hu:u0=[]:=by
   cases u0 with
   |nil=>rfl
   |cons x l=>obtain ⟨p,cs,c,_⟩:=e 0 x rfl;cases c
  subst hu
  first|refine aa hJ (af hJ ?_)|refine aa hJ (aa hJ (af hJ ?_))
  simp only[*,go_sem]
  refine bD hJ (by simp only[*,go_sem]) ?_
  refine aa hJ (af hJ ?_)
  simp only[*,go_sem]
  refine av ?_
  simp only[*,go_sem]
  exact ⟨[],aP.nil _ _ _,Le.refl _⟩
 |some p=>
  first|refine aa hJ (af hJ ?_)|refine aa hJ (aa hJ (af hJ ?_))
  simp only[*,go_sem]
  refine bI hJ (by simp only[*,go_sem]) ?_
  refine aD hJ ?_
  refine aa hJ (af hJ ?_)
  simp only[*,go_sem]
  intro i f1;have r1:=ep f1
  try simp only[*,go_sem]
  refine oV r1 trivial rfl hlen b rfl rfl dL dL gm gr rfl gq (by decide) (by decide) (fun v a hg j=>aE ?_)
  simp only[*,go_sem]
  refine av ?_
  simp only[*,go_sem]
  exact ⟨a,hg,Le.refl _⟩
def rQ (u0:aj)(i43:Nat)(b:(aj->Option Int))(st:Int):Option (Fl Int (aj×Int)):=
 ah (b u0) fun a=>cond ((a != 0)) (some (.rt ((⟨0,0,(⟨0,0⟩:au),([]:(List bZ)),([]:(List b6)),([]:(List bV)),([]:(List bx))⟩:aj),a))) (some (.nx st))
def eO (u0:aj)(b:(List (aj->Option Int))):Option (aj×Int):=
 ah (iH u0) fun a=>cond ((a != 0)) (some ((⟨0,0,(⟨0,0⟩:au),([]:(List bZ)),([]:(List b6)),([]:(List bV)),([]:(List bx))⟩:aj),a)) (ah (bE (rQ u0) 0 b 0) fun o=>aF o (fun c=>some (u0,0)) (fun _ _=>none) (fun r=>some r))
theorem jJ {ro:Addr->Option Value}(D:cY ro)(u0:aj){s1 f g i:Value}(b:bt ro u0 s1 f g i)(c:(List (aj->Option Int))){o:Value}(q:ax (cR) ro o c){r:(aj×Int)}(h:eO u0 c=some r):c9 Tryz.prog 50 #[bv u0 s1 f g i,o] ro (fun v aI=>∃s w1 w2 w3,v= .tuple #[bv r.1 s w1 w2 w3,.int .i64 r.2]/\bt aI r.1 s w1 w2 w3):=by
 obtain ⟨d31,ae,rfl,al,E,-⟩:=id q
 unfold eO at h
 have F:=b.oc;simp only[bw] at F
 refine aA.go Tryz.func50 rfl Tryz.ntmps50 Tryz.results50 (by simp) fun main J hJ A G hd hs=>?_
 have H:=hs 0
 have k1:=hs 1
 clear hs
 refine aa hJ (af hJ ?_)
 simp only[*,go_sem]
 refine an fun I ao K=>?_;try simp only[ak] at K
 refine an fun L ar M=>?_;try simp only[ak] at M
 try simp only[*,go_sem]
 refine aa hJ (aa hJ (af hJ ?_))
 revert h;refine bS fun a0 N h=>?_
 simp only[*,go_sem]
 refine aO hJ _ (zv (D.mono aN) u0 (b.e.mono aN) (b.p.mono aN) (b.y.mono aN) (b.t.mono aN) N) (aE ?_)
 try simp only[*,go_sem]
 refine aa hJ (af hJ ?_)
 simp only[*,go_sem]
 revert h;refine jC hJ (by simp only[*,go_sem]) (fun O h=>?_) fun O h=>?_
 ·obtain rfl:=sI h
  refine aa hJ (af hJ ?_)
  simp only[*,go_sem]
  refine av ?_
  simp only[*,go_sem]
  exact ⟨_,Ext.refl _,Le.sub (List.nil_sublist _),_,_,_,_,rfl,⟨ax.nil _ _,ax.nil _ _,ax.nil _ _,ax.nil _ _⟩⟩
 refine aD hJ (aa hJ ?_)
 refine af hJ ?_
 simp only[*,go_sem]
 refine an fun P a2 Q=>?_;try simp only[ak] at Q
 try simp only[*,go_sem]
 refine aa hJ (aa hJ (af hJ ?_))
 simp only[*,go_sem]
 refine aM hJ ?_
 revert h;refine bS fun R d u=>?_
 refine bM hJ [5,9,10,21,22,23,24,25,26,27,28,29,30,31,32] (fun m w F'=>∃(i43:Nat) (j:Int),m=c.length - i43/\i43<=c.length/\bE (rQ u0) i43 (c.drop i43) j=some R/\F'=⟨ro,(P,bl u0 s1 f g i)::(L,bz 83)::(I,bk u0 s1 f g i)::[]⟩/\slot w 21= .int .i64 (i43:Int)/\slot w 5= .int .i64 j) c.length ?_ ?_
 ·refine ⟨0,0,(Nat.sub_zero _).symm,Nat.zero_le _,d,rfl,?_⟩
  simp only[*,go_sem]
 rintro a3 a4 F' z ⟨i43,j,rfl,a5,d,rfl,a6,a7⟩
 obtain ⟨S,T,U⟩:=z.pick [4,7,19,20] (by decide)
 simp only[*,go_sem] at S T U
 clear z G hd H k1
 refine aa hJ (af hJ ?_)
 simp only[*,go_sem]
 refine aa hJ ?_
 rcases Nat.lt_or_ge i43 c.length with V|B
 ·refine bD hJ (by simp only[*,go_sem]) ?_
  refine aD hJ ?_
  obtain ⟨a8,k⟩:∃x,c[i43]?=some x:=⟨_,List.getElem?_eq_getElem V⟩
  rw[cX k] at d
  revert d;refine bS fun a9 h l=>?_
  unfold rQ at h
  try dsimp only at h
  obtain ⟨ba,bb,W,X,C⟩:=q.el _ _ k
  obtain ⟨bc,bd,bj,rfl,Y⟩:=X
  cases W
  have Z:=C 0 _ rfl;simp only[go_sem] at Z
  clear C k
  refine aa hJ (aM hJ (aa hJ ?_))
  refine af hJ ?_
  simp only[*,go_sem]
  refine aa hJ (af hJ ?_)
  revert h;refine bS fun bm ab h=>?_
  simp only[*,go_sem]
  refine aO hJ _ (Y.2 _ (fun a v h=>aN a v h) u0 _ _ _ _ _ (b.e.mono aN) (b.p.mono aN) (b.y.mono aN) (b.t.mono aN) ab) (aE ?_)
  try simp only[*,go_sem]
  refine aa hJ (af hJ ?_)
  simp only[*,go_sem]
  revert h;refine jC hJ (by simp only[*,go_sem]) (fun ad h=>?_) fun ad h=>?_
  ·obtain rfl:=sI h
   refine aa hJ (af hJ ?_)
   simp only[*,go_sem]
   obtain rfl:=sI l;clear l
   have h:=u
   dsimp only[aF] at h
   obtain rfl:=sI h
   refine av ?_
   simp only[*,go_sem]
   exact ⟨_,Ext.refl _,Le.sub (List.nil_sublist _),_,_,_,_,rfl,⟨ax.nil _ _,ax.nil _ _,ax.nil _ _,ax.nil _ _⟩⟩
  obtain rfl:=sI h
  refine aD hJ ?_
  have bo:=cj (n:=i43) (by have:=E;omega)
  refine af hJ ?_
  simp only[*,go_sem]
  refine ⟨c.length - (i43+1),by omega,_,Le.sub (List.Sublist.refl _),i43+1,j,rfl,by omega,l,rfl,?_⟩
  simp only[*,go_sem]
 have br:=Nat.not_lt.2 B
 refine bI hJ (by simp only[*,go_sem]) ?_
 rw[List.drop_eq_nil_of_le B] at d
 obtain rfl:=sI d;clear d
 have h:=u
 dsimp only[aF] at h
 obtain rfl:=sI h
 refine bJ ?_
 simp only[go_sem]
 refine aa hJ (af hJ ?_)
 simp only[*,go_sem]
 refine av ?_
 simp only[*,go_sem]
 exact ⟨_,Ext.refl _,Le.sub (List.nil_sublist _),_,_,_,_,rfl,b⟩
def uY (u0:aj)(b:Int):Option (au×Int):=
 ah (eO u0 ([(mW b)])) fun a=>cond ((a.2 != 0)) (some ((⟨0,0⟩:au),a.2)) (ah (kz a.1 b) fun c=>some (c,0))
theorem EK {ro:Addr->Option Value}(f:cY ro)(u0:aj){s1 g i j:Value}(k:bt ro u0 s1 g i j)(a:Int){r:(au×Int)}(h:uY u0 a=some r):aA Tryz.prog 8 #[bv u0 s1 g i j,.int .i64 a] ⟨ro,[]⟩ (fun v _=>v= .tuple #[r.1.v,.int .i64 r.2]):=by
 unfold uY at h
 refine aA.go Tryz.func8 rfl Tryz.ntmps8 Tryz.results8 (by simp) fun main J hJ A V hd hs=>?_
 have W:=hs 0
 have k1:=hs 1
 clear hs
 refine aa hJ (af hJ ?_)
 simp only[*,go_sem]
 refine an fun B C D=>?_;try simp only[ak] at D
 refine an fun E F G=>?_;try simp only[ak] at G
 try simp only[*,go_sem]
 refine aa hJ ?_
 refine aH hJ fun H=>?_
 refine af hJ ?_
 revert h;refine bS fun I K h=>?_
 simp only[*,go_sem]
 refine an fun c m n=>?_;have q:=aL.cons n H;try simp only[ak] at n
 try simp only[*,go_sem]
 obtain ⟨l,s,u⟩:=fc (b:=c) (o:=(.cells #[.func (.func 51) #[.int .i64 a] #[]] 86)) [] ((E,rt 0 0)::(B,bk u0 s1 g i j)::[]) q m (az.cons F (az.cons C (az.nil _)))
 have w:ax (cR) (bO ro c (.cells #[.func (.func 51) #[.int .i64 a] #[]] 86)) (.slice (some ⟨c,0,none⟩) 1 1) [(mW a)]:=(ax.one (r:=(cR)) (e:=86) (cs:=#[.func (.func 51) #[.int .i64 a] #[]]) (x:=(mW a)) (own:=[(c,.cells #[.func (.func 51) #[.int .i64 a] #[]] 86)]) m (by simp[lk]) ⟨51,#[.int .i64 a],#[],rfl,⟨by simp only[go_sem],fun X Y L _ _ _ _ _ M N O P h=>by simp only[go_sem];exact Ek a L ⟨M,N,O,P⟩ h⟩⟩)
 generalize bO ro c (.cells #[.func (.func 51) #[.int .i64 a] #[]] 86)=Z at w s l u
 refine gk hJ u ?_
 replace k:=k.mono l
 replace f:=f.mono l
 simp only[aU] at s
 have Q:=aL.tl q
 refine bN hJ _ (jJ f u0 k ([(mW a)]) w K) fun v ab ad R S=>?_
 obtain ⟨ae,al,ao,ar,rfl,d⟩:=S
 simp only[aU] at R
 obtain ⟨d41,a0,rfl,a2,a3,-⟩:=id d.e
 obtain ⟨d48,a4,rfl,a5,a6,-⟩:=id d.p
 obtain ⟨d55,a7,rfl,a8,a9,-⟩:=id d.y
 obtain ⟨d62,ba,rfl,bb,bc,-⟩:=id d.t
 refine aE ?_
 try simp only[*,go_sem]
 refine an fun bd bj z=>?_;have bl:=aL.cons z Q;try simp only[ak] at z
 try simp only[*,go_sem]
 refine aa hJ (aa hJ (af hJ ?_))
 simp only[*,go_sem]
 revert h;refine jC hJ (by simp only[*,go_sem]) (fun T h=>?_) fun T h=>?_
 ·obtain rfl:=sI h
  refine aa hJ (af hJ ?_)
  simp only[*,go_sem]
  refine av ?_
  simp only[*,go_sem]
 refine aD hJ (aa hJ ?_)
 refine af hJ ?_
 revert h;refine bS fun bm U h=>?_
 obtain rfl:=sI h
 simp only[*,go_sem]
 refine aO hJ _ (zx I.1 (d.mono aN) a U) (aE ?_)
 try simp only[*,go_sem]
 refine av ?_
 simp only[*,go_sem]
def uZ (u0:aj)(b:bf):Option (Int×au×Int):=
 ah (eO u0 ([(eT b)])) fun a=>cond ((a.2 != 0)) (some (0,(⟨0,0⟩:au),a.2)) (ah (ku a.1 b) fun c=>some (c.at_,c.high,0))
theorem EL {ro:Addr->Option Value}(k:cY ro)(u0:aj){s1 f g i:Value}(j:bt ro u0 s1 f g i)(a:bf){r:(Int×au×Int)}(h:uZ u0 a=some r):aA Tryz.prog 10 #[bv u0 s1 f g i,.agg #[.int .i64 a.back,.int .i64 a.high]] ⟨ro,[]⟩ (fun v _=>v= .tuple #[.int .i64 r.1,r.2.1.v,.int .i64 r.2.2]):=by
 unfold uZ at h
 have D:=j.oc;simp only[bw] at D
 refine aA.go Tryz.func10 rfl Tryz.ntmps10 Tryz.results10 (by simp) fun main J hJ A a2 hd hs=>?_
 have a3:=hs 0
 have k1:=hs 1
 clear hs
 refine aa hJ (af hJ ?_)
 simp only[*,go_sem]
 refine an fun m E F=>?_;try simp only[ak] at F
 refine an fun n G H=>?_;try simp only[ak] at H
 refine an fun I K L=>?_;try simp only[ak] at L
 try simp only[*,go_sem]
 refine aa hJ ?_
 refine aH hJ fun M=>?_
 refine af hJ ?_
 revert h;refine bS fun p N h=>?_
 simp only[*,go_sem]
 refine an fun d q s=>?_;have t:=aL.cons s M;try simp only[ak] at s
 try simp only[*,go_sem]
 obtain ⟨l,u,w⟩:=fc (b:=d) (o:=(.cells #[.func (.func 55) #[.agg #[.int .i64 a.back,.int .i64 a.high]] #[]] 86)) [] ((I,rt 0 0)::(n,.cells #[.int .i64 a.back,.int .i64 a.high] 31)::(m,bk u0 s1 f g i)::[]) t q (az.cons K (az.cons G (az.cons E (az.nil _))))
 have y:ax (cR) (bO ro d (.cells #[.func (.func 55) #[.agg #[.int .i64 a.back,.int .i64 a.high]] #[]] 86)) (.slice (some ⟨d,0,none⟩) 1 1) [(eT a)]:=(ax.one (r:=(cR)) (e:=86) (cs:=#[.func (.func 55) #[.agg #[.int .i64 a.back,.int .i64 a.high]] #[]]) (x:=(eT a)) (own:=[(d,.cells #[.func (.func 55) #[.agg #[.int .i64 a.back,.int .i64 a.high]] #[]] 86)]) q (by simp[lk]) ⟨55,#[.agg #[.int .i64 a.back,.int .i64 a.high]],#[],rfl,⟨by simp only[go_sem],fun a4 a5 O _ _ _ _ _ P Q R S h=>by simp only[go_sem];exact q8 a O ⟨P,Q,R,S⟩ h⟩⟩)
 generalize bO ro d (.cells #[.func (.func 55) #[.agg #[.int .i64 a.back,.int .i64 a.high]] #[]] 86)=a6 at y u l w
 refine gk hJ w ?_
 replace j:=j.mono l
 replace k:=k.mono l
 simp only[aU] at u
 have T:=aL.tl t
 refine bN hJ _ (jJ k u0 j ([(eT a)]) y N) fun v U a7 V W=>?_
 obtain ⟨X,Y,Z,ab,rfl,z⟩:=W
 have ad:=z.oc;simp only[bw] at ad
 simp only[aU] at V
 refine aE ?_
 try simp only[*,go_sem]
 refine an fun ae a8 B=>?_;have al:=aL.cons B T;try simp only[ak] at B
 try simp only[*,go_sem]
 refine aa hJ (aa hJ (af hJ ?_))
 simp only[*,go_sem]
 revert h;refine jC hJ (by simp only[*,go_sem]) (fun ao h=>?_) fun ao h=>?_
 ·obtain rfl:=sI h
  refine aa hJ (af hJ ?_)
  simp only[*,go_sem]
  refine av ?_
  simp only[*,go_sem]
 refine aD hJ (aa hJ ?_)
 refine af hJ ?_
 revert h;refine bS fun c ar h=>?_
 obtain rfl:=sI h
 simp only[*,go_sem]
 refine aO hJ _ (rC p.1 (z.mono aN) a ar) (aE ?_)
 try simp only[*,go_sem]
 refine an fun a0 a9 C=>?_;have ba:=aL.cons C al;try simp only[ak] at C
 try simp only[*,go_sem]
 refine aa hJ ?_
 refine dY hJ mixed 5 ⟨U,[(a0,.cells #[.int .i64 c.spot.aK,.int .i64 c.spot.high.num,.int .i64 c.spot.high.den,.int .i64 c.at_,.int .i64 c.high.num,.int .i64 c.high.den] 94),(ae,bl p.1 X Y Z ab),(n,.cells #[.int .i64 a.back,.int .i64 a.high] 31),(m,bk u0 s1 f g i)]⟩ (by simp only[*,go_sem]) (by kernel_rfl) ?_
 simp only[*,go_sem]
 refine av ?_
 simp only[*,go_sem]
def u5 (u0:aj)(b:bf):Option (au×Int):=
 ah (eO u0 ([(eT b)])) fun a=>cond ((a.2 != 0)) (some ((⟨0,0⟩:au),a.2)) (ah (rD a.1 b) fun c=>some (c,0))
theorem EM {ro:Addr->Option Value}(f:cY ro)(u0:aj){s1 g i j:Value}(k:bt ro u0 s1 g i j)(a:bf){r:(au×Int)}(h:u5 u0 a=some r):aA Tryz.prog 14 #[bv u0 s1 g i j,.agg #[.int .i64 a.back,.int .i64 a.high]] ⟨ro,[]⟩ (fun v _=>v= .tuple #[r.1.v,.int .i64 r.2]):=by
 unfold u5 at h
 refine aA.go Tryz.func14 rfl Tryz.ntmps14 Tryz.results14 (by simp) fun main J hJ A Y hd hs=>?_
 have Z:=hs 0
 have k1:=hs 1
 clear hs
 refine aa hJ (af hJ ?_)
 simp only[*,go_sem]
 refine an fun B C D=>?_;try simp only[ak] at D
 refine an fun E F G=>?_;try simp only[ak] at G
 refine an fun H I K=>?_;try simp only[ak] at K
 try simp only[*,go_sem]
 refine aa hJ ?_
 refine aH hJ fun L=>?_
 refine af hJ ?_
 revert h;refine bS fun M N h=>?_
 simp only[*,go_sem]
 refine an fun c m n=>?_;have q:=aL.cons n L;try simp only[ak] at n
 try simp only[*,go_sem]
 obtain ⟨l,s,u⟩:=fc (b:=c) (o:=(.cells #[.func (.func 55) #[.agg #[.int .i64 a.back,.int .i64 a.high]] #[]] 86)) [] ((H,rt 0 0)::(E,.cells #[.int .i64 a.back,.int .i64 a.high] 31)::(B,bk u0 s1 g i j)::[]) q m (az.cons I (az.cons F (az.cons C (az.nil _))))
 have w:ax (cR) (bO ro c (.cells #[.func (.func 55) #[.agg #[.int .i64 a.back,.int .i64 a.high]] #[]] 86)) (.slice (some ⟨c,0,none⟩) 1 1) [(eT a)]:=(ax.one (r:=(cR)) (e:=86) (cs:=#[.func (.func 55) #[.agg #[.int .i64 a.back,.int .i64 a.high]] #[]]) (x:=(eT a)) (own:=[(c,.cells #[.func (.func 55) #[.agg #[.int .i64 a.back,.int .i64 a.high]] #[]] 86)]) m (by simp[lk]) ⟨55,#[.agg #[.int .i64 a.back,.int .i64 a.high]],#[],rfl,⟨by simp only[go_sem],fun ab ad O _ _ _ _ _ P Q R S h=>by simp only[go_sem];exact q8 a O ⟨P,Q,R,S⟩ h⟩⟩)
 generalize bO ro c (.cells #[.func (.func 55) #[.agg #[.int .i64 a.back,.int .i64 a.high]] #[]] 86)=ae at w s l u
 refine gk hJ u ?_
 replace k:=k.mono l
 replace f:=f.mono l
 simp only[aU] at s
 have T:=aL.tl q
 refine bN hJ _ (jJ f u0 k ([(eT a)]) w N) fun v al ao U V=>?_
 obtain ⟨ar,a0,a2,a3,rfl,d⟩:=V
 simp only[aU] at U
 obtain ⟨d42,a4,rfl,a5,a6,-⟩:=id d.e
 obtain ⟨d49,a7,rfl,a8,a9,-⟩:=id d.p
 obtain ⟨d56,ba,rfl,bb,bc,-⟩:=id d.y
 obtain ⟨d63,bd,rfl,bj,bl,-⟩:=id d.t
 refine aE ?_
 try simp only[*,go_sem]
 refine an fun bm bo z=>?_;have br:=aL.cons z T;try simp only[ak] at z
 try simp only[*,go_sem]
 refine aa hJ (aa hJ (af hJ ?_))
 simp only[*,go_sem]
 revert h;refine jC hJ (by simp only[*,go_sem]) (fun W h=>?_) fun W h=>?_
 ·obtain rfl:=sI h
  refine aa hJ (af hJ ?_)
  simp only[*,go_sem]
  refine av ?_
  simp only[*,go_sem]
 refine aD hJ (aa hJ ?_)
 refine af hJ ?_
 revert h;refine bS fun bs X h=>?_
 obtain rfl:=sI h
 simp only[*,go_sem]
 refine aO hJ _ (zw M.1 (d.mono aN) a X) (aE ?_)
 try simp only[*,go_sem]
 refine av ?_
 simp only[*,go_sem]
def u6 (u0:aj)(c:bf):Option (au×Bool×Int):=
 ah (eO u0 ([(eT c)])) fun b=>cond ((b.2 != 0)) (some ((⟨0,0⟩:au),false,b.2)) (ah (iZ b.1 c) fun a=>cond (((a.length:Int)==0)) (some ((⟨0,0⟩:au),false,0)) (ah (bq a 0) fun d=>ah (iA a 1 (a.length:Int)) fun e=>ah (lG iF d e) fun f=>some (f.high,true,0)))
theorem EN {ro:Addr->Option Value}(l:cY ro)(u0:aj){s1 f g i:Value}(j:bt ro u0 s1 f g i)(a:bf){r:(au×Bool×Int)}(h:u6 u0 a=some r):aA Tryz.prog 16 #[bv u0 s1 f g i,.agg #[.int .i64 a.back,.int .i64 a.high]] ⟨ro,[]⟩ (fun v _=>v= .tuple #[r.1.v,.bool r.2.1,.int .i64 r.2.2]):=by
 unfold u6 at h
 have N:=j.oc;simp only[bw] at N
 refine aA.go Tryz.func16 rfl Tryz.ntmps16 Tryz.results16 (by simp) fun main J hJ A cy hd hs=>?_
 have cS:=hs 0
 have k1:=hs 1
 clear hs
 refine aa hJ (af hJ ?_)
 simp only[*,go_sem]
 refine an fun s O P=>?_;try simp only[ak] at P
 refine an fun t Q R=>?_;try simp only[ak] at R
 refine an fun S T U=>?_;try simp only[ak] at U
 try simp only[*,go_sem]
 refine aa hJ ?_
 refine aH hJ fun V=>?_
 refine af hJ ?_
 revert h;refine bS fun u W h=>?_
 simp only[*,go_sem]
 refine an fun d w y=>?_;have z:=aL.cons y V;try simp only[ak] at y
 try simp only[*,go_sem]
 obtain ⟨m,B,C⟩:=fc (b:=d) (o:=(.cells #[.func (.func 55) #[.agg #[.int .i64 a.back,.int .i64 a.high]] #[]] 86)) [] ((S,rt 0 0)::(t,.cells #[.int .i64 a.back,.int .i64 a.high] 31)::(s,bk u0 s1 f g i)::[]) z w (az.cons T (az.cons Q (az.cons O (az.nil _))))
 have D:ax (cR) (bO ro d (.cells #[.func (.func 55) #[.agg #[.int .i64 a.back,.int .i64 a.high]] #[]] 86)) (.slice (some ⟨d,0,none⟩) 1 1) [(eT a)]:=(ax.one (r:=(cR)) (e:=86) (cs:=#[.func (.func 55) #[.agg #[.int .i64 a.back,.int .i64 a.high]] #[]]) (x:=(eT a)) (own:=[(d,.cells #[.func (.func 55) #[.agg #[.int .i64 a.back,.int .i64 a.high]] #[]] 86)]) w (by simp[lk]) ⟨55,#[.agg #[.int .i64 a.back,.int .i64 a.high]],#[],rfl,⟨by simp only[go_sem],fun X Y n _ _ _ _ _ Z ab ad ae h=>by simp only[go_sem];exact q8 a n ⟨Z,ab,ad,ae⟩ h⟩⟩)
 generalize bO ro d (.cells #[.func (.func 55) #[.agg #[.int .i64 a.back,.int .i64 a.high]] #[]] 86)=c0 at D B m C
 refine gk hJ C ?_
 replace j:=j.mono m
 replace l:=l.mono m
 simp only[aU] at B
 have al:=aL.tl z
 refine bN hJ _ (jJ l u0 j ([(eT a)]) D W) fun v da db ao p=>?_
 obtain ⟨ar,a0,a2,a3,rfl,E⟩:=p
 have a4:=E.oc;simp only[bw] at a4
 simp only[aU] at ao
 refine aE ?_
 try simp only[*,go_sem]
 refine an fun a5 dd G=>?_;have df:=aL.cons G al;try simp only[ak] at G
 try simp only[*,go_sem]
 refine aa hJ (aa hJ (af hJ ?_))
 simp only[*,go_sem]
 revert h;refine jC hJ (by simp only[*,go_sem]) (fun a6 h=>?_) fun a6 h=>?_
 ·obtain rfl:=sI h
  refine aa hJ (af hJ ?_)
  simp only[*,go_sem]
  refine av ?_
  simp only[*,go_sem]
 refine aD hJ (aa hJ ?_)
 refine af hJ ?_
 revert h;refine bS fun k a7 h=>?_
 simp only[*,go_sem]
 refine bN hJ _ (uO u.1 E a a7) fun v a8 dk a9 p=>?_
 obtain ⟨dp,rfl,q⟩:=p
 simp only[aU] at a9
 obtain ⟨d84,ba,rfl,dq,ds,-⟩:=id q
 refine aE ?_
 try simp only[*,go_sem]
 refine aa hJ (aa hJ (af hJ ?_))
 simp only[*,go_sem]
 revert h;refine jC hJ (by simp only[*,go_sem]) (fun bb h=>?_) fun bb h=>?_
 ·obtain rfl:=sI h
  refine aa hJ (af hJ ?_)
  simp only[*,go_sem]
  refine av ?_
  simp only[*,go_sem]
 refine aD hJ (aa hJ ?_)
 refine dY hJ mixed 7 ⟨a8,[(a5,bl u.1 ar a0 a2 a3),(t,.cells #[.int .i64 a.back,.int .i64 a.high] 31),(s,bk u0 s1 f g i)]⟩ (by simp only[*,go_sem]) (by kernel_rfl) ?_
 revert h;refine bS fun H bc h=>?_
 obtain ⟨dt,du,I⟩:=bX bc
 obtain ⟨dv,bd,bj,bm,c⟩:=q.el _ _ I
 obtain rfl:bd=H.cells:=bm
 cases bj
 have bo:=c 0 _ rfl;simp only[go_sem] at bo
 have br:=c 1 _ rfl;simp only[go_sem] at br
 have bs:=c 2 _ rfl;simp only[go_sem] at bs
 have bz:=c 3 _ rfl;simp only[go_sem] at bz
 have b0:=c 4 _ rfl;simp only[go_sem] at b0
 have b1:=c 5 _ rfl;simp only[go_sem] at b1
 clear c I
 revert h;refine bS fun b2 b3 h=>?_
 obtain ⟨dC,dE,dT,K⟩:=oN b3
 have L:(1:Int).toNat<=((k.length:Int)).toNat:=by omega
 have b4:((k.length:Int)).toNat<=ba:=by omega
 have ea:0<=((k.length:Int)):=by omega
 obtain ⟨d94,b5,ca,M⟩:=ax.oQ q (1:Int).toNat ((k.length:Int)).toNat L (by omega) K
 simp only[go_sem] at b5 ca L b4
 obtain ⟨_,_,cb,eb,ec,ed⟩:=id M;cases cb
 clear K
 revert h;refine bS fun eh cd h=>?_
 obtain rfl:=sI h
 try simp only[*,go_sem]
 refine ⟨_,bB hJ fun F cf=>ri (dA:=67) (dQ:=#[]) (dR:=#[]) iF ⟨by simp only[go_sem],fun X Y n cl _ h=>by simp only[go_sem];exact q7 n cl h⟩ H b2 (M.mono (bQ cf)) cd,cc ?_⟩
 try simp only[*,go_sem]
 refine av ?_
 simp only[*,go_sem]
def rR (u0:aj)(b:bf):Option (au×Bool×Int):=
 ah (eO u0 ([(eT b)])) fun a=>cond ((a.2 != 0)) (some ((⟨0,0⟩:au),false,a.2)) (ah (kA a.1 b) fun c=>ah (fY a.1 b) fun d=>some (c,d,0))
theorem zD {ro:Addr->Option Value}(j:cY ro)(u0:aj){s1 d f g:Value}(i:bt ro u0 s1 d f g)(a:bf){r:(au×Bool×Int)}(h:rR u0 a=some r):aA Tryz.prog 18 #[bv u0 s1 d f g,.agg #[.int .i64 a.back,.int .i64 a.high]] ⟨ro,[]⟩ (fun v _=>v= .tuple #[r.1.v,.bool r.2.1,.int .i64 r.2.2]):=by
 unfold rR at h
 have C:=i.oc;simp only[bw] at C
 refine aA.go Tryz.func18 rfl Tryz.ntmps18 Tryz.results18 (by simp) fun main J hJ A a0 hd hs=>?_
 have a2:=hs 0
 have k1:=hs 1
 clear hs
 refine aa hJ (af hJ ?_)
 simp only[*,go_sem]
 refine an fun p D E=>?_;try simp only[ak] at E
 refine an fun q G H=>?_;try simp only[ak] at H
 refine an fun I K L=>?_;try simp only[ak] at L
 try simp only[*,go_sem]
 refine aa hJ ?_
 refine aH hJ fun M=>?_
 refine af hJ ?_
 revert h;refine bS fun k N h=>?_
 simp only[*,go_sem]
 refine an fun c s t=>?_;have u:=aL.cons t M;try simp only[ak] at t
 try simp only[*,go_sem]
 obtain ⟨l,w,y⟩:=fc (b:=c) (o:=(.cells #[.func (.func 55) #[.agg #[.int .i64 a.back,.int .i64 a.high]] #[]] 86)) [] ((I,rt 0 0)::(q,.cells #[.int .i64 a.back,.int .i64 a.high] 31)::(p,bk u0 s1 d f g)::[]) u s (az.cons K (az.cons G (az.cons D (az.nil _))))
 have z:ax (cR) (bO ro c (.cells #[.func (.func 55) #[.agg #[.int .i64 a.back,.int .i64 a.high]] #[]] 86)) (.slice (some ⟨c,0,none⟩) 1 1) [(eT a)]:=(ax.one (r:=(cR)) (e:=86) (cs:=#[.func (.func 55) #[.agg #[.int .i64 a.back,.int .i64 a.high]] #[]]) (x:=(eT a)) (own:=[(c,.cells #[.func (.func 55) #[.agg #[.int .i64 a.back,.int .i64 a.high]] #[]] 86)]) s (by simp[lk]) ⟨55,#[.agg #[.int .i64 a.back,.int .i64 a.high]],#[],rfl,⟨by simp only[go_sem],fun a3 a4 O _ _ _ _ _ P Q R S h=>by simp only[go_sem];exact q8 a O ⟨P,Q,R,S⟩ h⟩⟩)
 generalize bO ro c (.cells #[.func (.func 55) #[.agg #[.int .i64 a.back,.int .i64 a.high]] #[]] 86)=a5 at z w l y
 refine gk hJ y ?_
 replace i:=i.mono l
 replace j:=j.mono l
 simp only[aU] at w
 have T:=aL.tl u
 refine bN hJ _ (jJ j u0 i ([(eT a)]) z N) fun v U a6 V W=>?_
 obtain ⟨X,Y,Z,ab,rfl,m⟩:=W
 have ad:=m.oc;simp only[bw] at ad
 simp only[aU] at V
 refine aE ?_
 try simp only[*,go_sem]
 refine an fun ae a7 B=>?_;have a8:=aL.cons B T;try simp only[ak] at B
 try simp only[*,go_sem]
 refine aa hJ (aa hJ (af hJ ?_))
 simp only[*,go_sem]
 revert h;refine jC hJ (by simp only[*,go_sem]) (fun al h=>?_) fun al h=>?_
 ·obtain rfl:=sI h
  refine aa hJ (af hJ ?_)
  simp only[*,go_sem]
  refine av ?_
  simp only[*,go_sem]
 refine aD hJ (aa hJ ?_)
 refine dY hJ mixed 6 ⟨U,[(ae,bl k.1 X Y Z ab),(q,.cells #[.int .i64 a.back,.int .i64 a.high] 31),(p,bk u0 s1 d f g)]⟩ (by simp only[*,go_sem]) (by kernel_rfl) ?_
 revert h;refine bS fun a9 ao h=>?_
 simp only[*,go_sem]
 refine ⟨_,bB hJ fun F n=>rE k.1 (m.mono (bQ n)) a ao,cc ?_⟩
 revert h;refine bS fun ba ar h=>?_
 obtain rfl:=sI h
 try simp only[*,go_sem]
 refine ⟨_,bB hJ fun F n=>lO k.1 (m.mono (bQ n)) a ar,?_⟩
 try simp only[*,go_sem]
 refine av ?_
 simp only[*,go_sem]
def u7 (a:aX)(st:Bool):Option (Fl Bool Unit):=
 some (.br 1000000000 true)
def ni (u0:aj):Option Bool:=
 ah (iC (u7) (lQ u0) false) fun o=>aF o (fun b=>some false) (fun k a=>cond (k==1000000000) (some a) (none)) (fun _=>none)
theorem zE {ro:Addr->Option Value}(u0:aj){s1 c d g:Value}(k:bt ro u0 s1 c d g){r:Bool}(h:ni u0=some r):aA Tryz.prog 92 #[bv u0 s1 c d g] ⟨ro,[]⟩ (fun v _=>v= .bool r):=by
 unfold ni at h
 refine aA.uK Tryz.func92 rfl Tryz.ntmps92 Tryz.results92 (by simp) fun main J hJ A D hd hs=>?_
 have E:=hs 0
 clear hs
 refine aa hJ (af hJ ?_)
 simp only[*,go_sem]
 refine an fun n x F=>?_;try simp only[ak] at F
 refine an fun l z G=>?_;try simp only[ak] at G
 try simp only[*,go_sem]
 refine aa hJ (aa hJ (af hJ ?_))
 simp only[*,go_sem]
 revert h;refine bS fun Q H o=>?_
 refine uJ hJ aX.v (by simp only[*,go_sem]) (rN u0 k.e k.p k.y k.t) (by kernel_rfl) (by kernel_rfl) (ρ:=Unit) (fun (I:Bool) K=>K=(l,.cells #[.bool I] 4)::(n,bl u0 s1 c d g)::[]) (f:=u7) H ?_ ?_ (by decide) ?_ ?_
 ·exact rfl
 ·rintro d33 L q M s u R h main J hJ _ rfl
  unfold u7 at h
  try dsimp only at h
  obtain rfl:=sI h
  generalize i:lD _ _ _=m
  have S:sz m=6:=by rw[<-i,uI];simp only[*,go_sem]
  have T:m.defers=[]:=by rw[<-i];rfl
  have U:slot m 2= .pointer (some ⟨l,0,none⟩):=by rw[<-i,mU];simp only[*,go_sem]
  have V:slot m 5= .agg #[.int .i64 u.e0,.int .i64 u.e1,.int .i64 u.e2]:=by rw[<-i,mU];simp only[*,go_sem]
  clear i D hd E
  refine ez hJ fun b a=>?_
  replace a:az ro ((L,.loop q)::(d33,.deferred (some []))::(l,.cells #[.bool s] 4)::(n,bl u0 s1 c d g)::[]):=a
  have W:=a.hd
  have X:=a.tl.hd
  have z:=a.tl.tl.hd
  have x:=a.tl.tl.tl.hd
  clear a
  replace b:=b.nd
  simp only[keys,List.map_cons,List.map_nil,List.map_append,List.cons_append,List.nil_append,List.nodup_cons,List.mem_cons,List.mem_append,List.not_mem_nil,or_false,not_or] at b
  refine aD hJ ?_
  simp only[oX,go_sem]
  refine ⟨q,by simp only[*,go_sem],M,?_⟩
  try simp only[*,go_sem]
  refine aM hJ (aa hJ ?_)
  refine af hJ ?_
  simp only[*,go_sem]
  refine av ?_
  simp only[q2,lA,go_sem]
  refine ⟨{q with state:=.busy},by simp only[*,go_sem],?_⟩
  simp only[*,go_sem]
  refine ⟨_,Le.sub (List.Sublist.refl _),rfl,rfl⟩
 ·rintro N O P _ s rfl b a
  replace a:az ro ((O,.loop P)::(N,.deferred (some []))::(l,.cells #[.bool s] 4)::(n,bl u0 s1 c d g)::[]):=a
  have Y:=a.hd
  have Z:=a.tl.hd
  have z:=a.tl.tl.hd
  have x:=a.tl.tl.tl.hd
  clear a
  replace b:=b.nd
  simp only[keys,List.map_cons,List.map_nil,List.map_append,List.cons_append,List.nil_append,List.nodup_cons,List.mem_cons,List.mem_append,List.not_mem_nil,or_false,not_or] at b
  refine ⟨fun j=>?_,fun k1 j=>?_⟩
  ·subst j;have h:=o;dsimp only[aF] at h
   obtain rfl:=sI h
   refine aa hJ (af hJ ?_)
   simp only[*,go_sem]
   refine aH hJ fun w=>?_
   replace w:=w.nd
   try simp only[keys,List.map_cons,List.map_nil,List.map_append,List.cons_append,List.nil_append,List.nodup_cons,List.mem_cons,List.mem_append,List.not_mem_nil,or_false,not_or] at w
   refine av ?_
   simp only[*,go_sem]
  subst j;have h:=o;dsimp only[aF] at h
  revert h;refine cS (fun B h=>?_) fun B h=>?_
  ·obtain rfl:=sI h
   obtain rfl:k1=1000000000:=by simpa using B
   unfold uH;rw[if_pos (show (1000000000:Nat)=q4 from rfl)]
   simp only[*,go_sem]
  cases h
 intro k1 ab j;subst j;have h:=o;dsimp only[aF] at h
 revert h;refine cS (fun C h=>?_) fun C h=>?_
 ·obtain rfl:k1=1000000000:=by simpa using C
  decide
 cases h
def nj (a:aX)(st:(List aX)):Option (Fl (List aX) Unit):=
 ah (cI st ([a])) fun b=>some (.nx b)
def rS (a:(List (Option aX))):Option (List aX):=
 ah (iC (nj) a ([]:List aX)) fun o=>aF o (fun b=>some b) (fun k c=>none) (fun _=>none)
theorem EO {ro:Addr->Option Value}(u:(List (Option aX))){dc:FuncId}{dN dO:Array Value}(K:lB Tryz.prog dc dN dO aX.v u ro){r:(List aX)}(h:rS u=some r):c9 Tryz.prog 149 #[.slice none 0 0,.func (.func dc) dN dO] ro (fun v aI=>∃w,v=w/\ax gy aI w r):=by
 unfold rS at h
 refine aA.uK Tryz.func149 rfl Tryz.ntmps149 Tryz.results149 (by simp) fun main J hJ A L hd hs=>?_
 have M:=hs 0
 have k1:=hs 1
 clear hs
 refine aa hJ (af hJ ?_)
 simp only[*,go_sem,-h]
 refine an fun e r1 n1=>?_;try simp only[ak] at n1
 try simp only[*,go_sem,-h]
 refine aa hJ (aa hJ (af hJ ?_))
 simp only[*,go_sem,-h]
 revert h;refine bS fun ar N o=>?_;have h:=trivial
 refine uJ hJ aX.v (by simp only[*,go_sem]) K (by kernel_rfl) (by kernel_rfl) (ρ:=Unit) (fun (m:(List aX)) O=>∃(d7:Option Addr) (c:Nat) (d:List (Nat×Obj)),O=(e,.cells #[.slice d7 m.length c] 111)::d/\aP gy ro 141 (.slice d7 m.length c) m d/\m.length<=c) (f:=nj) N ?_ ?_ (by decide) ?_ ?_
 ·exact ⟨none,0,[],rfl,aP.nil _ _ _,Nat.le_refl _⟩
 ·rintro d4 p i P v6 a a0 h main J hJ _ ⟨d7,c,d,rfl,q,Q⟩
  unfold nj at h
  try dsimp only at h
  generalize j:lD _ _ _=n
  have a2:sz n=13:=by rw[<-j,uI];simp only[*,go_sem]
  have a3:n.defers=[]:=by rw[<-j];rfl
  have a4:slot n 2= .pointer (some ⟨e,0,none⟩):=by rw[<-j,mU];simp only[*,go_sem]
  have a5:slot n 7= .agg #[.int .i64 a.e0,.int .i64 a.e1,.int .i64 a.e2]:=by rw[<-j,mU];simp only[*,go_sem]
  clear j L hd M k1
  refine ez hJ fun g b=>?_
  replace b:az ro ((p,.loop i)::(d4,.deferred (some []))::(e,.cells #[.slice d7 v6.length c] 111)::d):=b
  have r3:=b.hd
  have a6:=b.tl.hd
  have r1:=b.tl.tl.hd
  clear b
  replace g:=g.nd
  simp only[keys,List.map_cons,List.map_nil,List.map_append,List.cons_append,List.nil_append,List.nodup_cons,List.mem_cons,List.mem_append,List.not_mem_nil,or_false,not_or] at g
  refine aH hJ fun R=>?_
  refine af hJ ?_
  simp only[*,go_sem,-h]
  refine an fun y a7 z=>?_;have a8:=aL.cons z R;try simp only[ak] at z
  try simp only[*,go_sem,-h]
  simp only[oX,go_sem]
  refine ⟨i,by simp only[*,go_sem],P,?_⟩
  try simp only[*,go_sem,-h]
  refine aM hJ ?_
  refine aH hJ fun S=>?_
  refine af hJ ?_
  revert h;refine bS fun a9 T h=>?_
  obtain ⟨U,B⟩:=cG T
  simp only[*,go_sem,-h]
  refine an fun C V D=>?_;have W:=aL.cons D S;try simp only[ak] at D
  try simp only[*,go_sem,-h]
  refine di (r:=gy) (l:=v6) (x:=a) (cs:=#[.int .i64 a.e0,.int .i64 a.e1,.int .i64 a.e2]) (e2:=141) [(C,.cells #[.int .i64 a.e0,.int .i64 a.e1,.int .i64 a.e2] 141),(y,.cells #[.int .i64 a.e0,.int .i64 a.e1,.int .i64 a.e2] 141),(p,.loop {i with state:=.busy}),(d4,.deferred (some [])),(e,.cells #[.slice d7 v6.length c] 111)] [] q W U rfl (by simp only[*,go_sem,-h]) V rfl rfl yI yI Dd Df rfl De (by decide) (by decide) (fun ba E s d X bb=>?_)
  simp only[List.append_nil,List.cons_append,List.nil_append,List.append_assoc] at X
  subst d
  rw[<-B] at s;clear B
  obtain ⟨d28,Y,rfl,Z⟩:=s.len
  refine ⟨⟨ro,(C,.cells #[.int .i64 a.e0,.int .i64 a.e1,.int .i64 a.e2] 141)::(y,.cells #[.int .i64 a.e0,.int .i64 a.e1,.int .i64 a.e2] 141)::(p,.loop {i with state:=.busy})::(d4,.deferred (some []))::(e,.cells #[.slice d7 v6.length c] 111)::E⟩,Le.refl _,?_⟩
  refine aE ?_
  try simp only[*,go_sem,-h]
  obtain rfl:=sI h
  simp only[q2,lA,go_sem]
  refine ⟨{i with state:=.busy},by simp only[*,go_sem],?_⟩
  simp only[*,go_sem]
  refine ⟨_,Le.sub (List.Sublist.cons _ (List.Sublist.cons _ (List.Sublist.refl _))),rfl,d28,Y,E,rfl,s,Z⟩
 ·rintro d49 F G _ v6 ⟨d7,c,d,rfl,q,Q⟩ g b
  replace b:az ro ((F,.loop G)::(d49,.deferred (some []))::(e,.cells #[.slice d7 v6.length c] 111)::d):=b
  have ab:=b.hd
  have ad:=b.tl.hd
  have r1:=b.tl.tl.hd
  clear b
  replace g:=g.nd
  simp only[keys,List.map_cons,List.map_nil,List.map_append,List.cons_append,List.nil_append,List.nodup_cons,List.mem_cons,List.mem_append,List.not_mem_nil,or_false,not_or] at g
  refine ⟨fun k=>?_,fun k1 k=>?_⟩
  ·subst k;have h:=o;dsimp only[aF] at h
   refine aa hJ ?_
   refine aH hJ fun bc=>?_
   refine af hJ ?_
   simp only[*,go_sem,-h]
   obtain rfl:=sI h
   refine aH hJ fun H=>?_
   obtain ⟨bd,ae,al,I,ao⟩:=q.dF [(F,.loop G),(d49,.deferred (some [])),(e,.cells #[.slice d7 v6.length c] 111)] [] H (az.cons ab (az.cons ad (az.cons r1 (az.nil _))))
   clear H
   refine cA hJ ao ?_
   obtain ⟨bj,bk,-⟩:=I.op
   simp only[aU] at al
   refine aH hJ fun t=>?_
   replace t:=t.nd
   try simp only[keys,List.map_cons,List.map_nil,List.map_append,List.cons_append,List.nil_append,List.nodup_cons,List.mem_cons,List.mem_append,List.not_mem_nil,or_false,not_or] at t
   refine av ?_
   simp only[*,go_sem]
   exact ⟨_,ae,Le.sub (List.nil_sublist _),_,rfl,I⟩
  subst k;have h:=o;dsimp only[aF] at h
  cases h
 intro k1 bl k;subst k;have h:=o;dsimp only[aF] at h
 cases h
def pL (u0:(List (Option aX))):Option (List aX):=
 ah (rS u0) fun a=>some a
theorem zF {ro:Addr->Option Value}(u0:(List (Option aX))){dA:FuncId}{dQ dR:Array Value}(c:lB Tryz.prog dA dQ dR aX.v u0 ro){r:(List aX)}(h:pL u0=some r):c9 Tryz.prog 126 #[.func (.func dA) dQ dR] ro (fun v aI=>∃a,v=a/\ax gy aI a r):=by
 unfold pL at h
 refine aA.go Tryz.func126 rfl Tryz.ntmps126 Tryz.results126 (by simp) fun main J hJ A g hd hs=>?_
 have i:=hs 0
 clear hs
 refine aa hJ (af hJ ?_)
 simp only[*,go_sem]
 refine aa hJ (af hJ ?_)
 revert h;refine bS fun j d h=>?_
 obtain rfl:=sI h
 simp only[*,go_sem]
 refine bN hJ _ (EO (dc:=dA) (dN:=dQ) (dO:=dR) u0 c d) fun v k e l f=>?_
 obtain ⟨m,rfl,b⟩:=f
 obtain ⟨d8,n,rfl,o,p,-⟩:=id b
 refine aE ?_
 try simp only[*,go_sem]
 refine av ?_
 simp only[*,go_sem]
 exact ⟨_,e,Le.sub (List.nil_sublist _),_,rfl,b⟩
def fo (u0:aj)(c:(List (aj->Option Int))):Option (cL×Int):=
 ah (eO u0 c) fun a=>cond ((a.2 != 0)) (some ((⟨(⟨0,0,(⟨0,0⟩:au),([]:(List bZ)),([]:(List b6)),([]:(List bV)),([]:(List bx))⟩:aj),([]:(List aX))⟩:cL),a.2)) (ah (pL (lQ a.1)) fun b=>cond (((b.length:Int)==0)) (some ((⟨(⟨0,0,(⟨0,0⟩:au),([]:(List bZ)),([]:(List b6)),([]:(List bV)),([]:(List bx))⟩:aj),([]:(List aX))⟩:cL),9)) (some ((⟨a.1,b⟩:cL),0)))
theorem ja {ro:Addr->Option Value}(N:cY ro)(u0:aj){s1 c d f:Value}(G:bt ro u0 s1 c d f)(B:(List (aj->Option Int))){H:Value}(I:ax (cR) ro H B){r:(cL×Int)}(h:fo u0 B=some r):c9 Tryz.prog 73 #[bv u0 s1 c d f,H] ro (fun v aI=>∃K w1 w2 w3 w4,v= .tuple #[.agg #[.int .i64 r.1.book.bF,.int .i64 r.1.book.bL,.int .i64 r.1.book.aV.num,.int .i64 r.1.book.aV.den,K,w1,w2,w3,w4],.int .i64 r.2]/\bt aI r.1.book K w1 w2 w3/\ax gy aI w4 r.1.all):=by
 obtain ⟨d31,ae,rfl,al,ao,-⟩:=id I
 unfold fo at h
 have O:=G.oc;simp only[bw] at O
 refine aA.go Tryz.func73 rfl Tryz.ntmps73 Tryz.results73 (by simp) fun main J hJ A ar hd hs=>?_
 have a0:=hs 0
 have k1:=hs 1
 clear hs
 refine aa hJ (af hJ ?_)
 simp only[*,go_sem]
 refine an fun C g P=>?_;try simp only[ak] at P
 refine an fun D i Q=>?_;try simp only[ak] at Q
 try simp only[*,go_sem]
 refine aa hJ (af hJ ?_)
 revert h;refine bS fun b R h=>?_
 simp only[*,go_sem]
 refine bN hJ _ (jJ N u0 G B I R) fun v S j E k=>?_
 obtain ⟨m,n,o,q,rfl,a⟩:=k
 have T:=a.oc;simp only[bw] at T
 replace i:=E.hd
 replace g:=E.tl.hd
 simp only[aU] at E
 refine aE ?_
 try simp only[*,go_sem]
 refine an fun F s U=>?_;try simp only[ak] at U
 try simp only[*,go_sem]
 refine aa hJ (aa hJ (af hJ ?_))
 simp only[*,go_sem]
 revert h;refine jC hJ (by simp only[*,go_sem]) (fun V h=>?_) fun V h=>?_
 ·obtain rfl:=sI h
  refine aa hJ (af hJ ?_)
  simp only[*,go_sem]
  refine av ?_
  simp only[*,go_sem]
  exact ⟨_,j,Le.sub (List.nil_sublist _),_,_,_,_,_,rfl,⟨ax.nil _ _,ax.nil _ _,ax.nil _ _,ax.nil _ _⟩,ax.nil _ _⟩
 refine aD hJ (aa hJ ?_)
 refine iB hJ mixed [] (.rd 0 (.rd 1 (.pure 2 (.two 3 (.pure 4 (.one 5 (.one 6 .done))) 5 (.one 3 (.pure 4 (.one 6 .done))))))) ⟨S,[(F,bl b.1 m n o q),(D,.cells #[.int .i64 0,.int .i64 0,.int .i64 0,.int .i64 0,.slice none 0 0,.slice none 0 0,.slice none 0 0,.slice none 0 0,.slice none 0 0] 113),(C,bk u0 s1 c d f)]⟩ (by simp only[*,go_sem]) (by kernel_rfl) ?_
 simp only[*,go_sem]
 refine jE ?_ ?_
 ·revert h;refine bS fun a2 W h=>?_
  simp only[*,go_sem]
  refine bN hJ _ (zF (dA:=112) (dQ:=#[bv b.1 m n o q]) (dR:=#[]) (lQ b.1) (rN b.1 a.e a.p a.y a.t) W) fun v a3 u w k=>?_
  obtain ⟨a4,rfl,L⟩:=k
  replace a:=a.mono u
  replace s:=w.hd
  replace i:=w.tl.hd
  replace g:=w.tl.tl.hd
  simp only[aU] at w
  obtain ⟨d80,a5,rfl,a6,a7,-⟩:=id L
  have a8:=eu (l:=[(F,bl b.1 m n o q),(D,.cells #[.int .i64 0,.int .i64 0,.int .i64 0,.int .i64 0,.slice none 0 0,.slice none 0 0,.slice none 0 0,.slice none 0 0,.slice none 0 0] 113),(C,bk u0 s1 c d f)]) u (az.cons s (az.cons i (az.cons g (az.nil _))))
  refine ⟨by simp only[*,go_sem],?_⟩
  refine bU ?_
  try simp only[*,go_sem]
  refine an fun a9 ba X=>?_;try simp only[ak] at X
  try simp only[*,go_sem]
  refine aa hJ (aa hJ (af hJ ?_))
  simp only[*,go_sem]
  revert h;refine jC hJ (by simp only[*,go_sem]) (fun Y h=>?_) fun Y h=>?_
  ·obtain rfl:=sI h
   refine aa hJ (af hJ ?_)
   simp only[*,go_sem]
   refine av ?_
   simp only[*,go_sem]
   exact ⟨_,(j).trans u,Le.sub (List.nil_sublist _),_,_,_,_,_,rfl,⟨ax.nil _ _,ax.nil _ _,ax.nil _ _,ax.nil _ _⟩,ax.nil _ _⟩
  obtain rfl:=sI h
  refine aD hJ (aa hJ ?_)
  refine af hJ ?_
  simp only[*,go_sem]
  refine av ?_
  simp only[*,go_sem]
  exact ⟨_,(j).trans u,Le.sub (List.nil_sublist _),_,_,_,_,_,rfl,a,L⟩
 revert h;refine bS fun bb Z h=>?_
 simp only[*,go_sem]
 refine an fun bc bd ab=>?_;try simp only[ak] at ab
 try simp only[*,go_sem]
 refine bN hJ _ (zF (dA:=112) (dQ:=#[bv b.1 m n o q]) (dR:=#[]) (lQ b.1) (rN b.1 a.e a.p a.y a.t) Z) fun v bj x z k=>?_
 obtain ⟨bm,rfl,M⟩:=k
 replace a:=a.mono x
 replace s:=z.tl.hd
 replace i:=z.tl.tl.hd
 replace g:=z.tl.tl.tl.hd
 simp only[aU] at z
 obtain ⟨d96,bo,rfl,br,bs,-⟩:=id M
 have bz:=eu (l:=[(F,bl b.1 m n o q),(D,.cells #[.int .i64 0,.int .i64 0,.int .i64 0,.int .i64 0,.slice none 0 0,.slice none 0 0,.slice none 0 0,.slice none 0 0,.slice none 0 0] 113),(C,bk u0 s1 c d f)]) x (az.cons s (az.cons i (az.cons g (az.nil _))))
 refine ⟨by simp only[*,go_sem],?_⟩
 refine bU ?_
 try simp only[*,go_sem]
 refine aa hJ (aa hJ (af hJ ?_))
 simp only[*,go_sem]
 revert h;refine jC hJ (by simp only[*,go_sem]) (fun ad h=>?_) fun ad h=>?_
 ·obtain rfl:=sI h
  refine aa hJ (af hJ ?_)
  simp only[*,go_sem]
  refine av ?_
  simp only[*,go_sem]
  exact ⟨_,(j).trans x,Le.sub (List.nil_sublist _),_,_,_,_,_,rfl,⟨ax.nil _ _,ax.nil _ _,ax.nil _ _,ax.nil _ _⟩,ax.nil _ _⟩
 obtain rfl:=sI h
 refine aD hJ (aa hJ ?_)
 refine af hJ ?_
 simp only[*,go_sem]
 refine av ?_
 simp only[*,go_sem]
 exact ⟨_,(j).trans x,Le.sub (List.nil_sublist _),_,_,_,_,_,rfl,a,M⟩
def u9 (a:Int)(i56:Nat)(b:Int)(st:(List b6)):Option (Fl (List b6) aj):=
 ah (cI st ([(⟨b,a⟩:b6)])) fun c=>some (.nx c)
def rT (u0:aj)(a:Int)(b:(List Int)):Option aj:=
 ah (pK u0.props) fun c=>ah (bE (u9 a) 0 b c) fun o=>aF o (fun d=>some (⟨u0.bF,u0.bL,u0.aV,u0.aB,d,u0.aC,u0.told⟩:aj)) (fun _ _=>none) (fun r=>some r)
theorem EP {ro:Addr->Option Value}(u0:aj){s1 s b c:Value}(g:bt ro u0 s1 s b c)(i:Int)(d:(List Int)){D:Value}(E:ax rI ro D d){r:aj}(h:rT u0 i d=some r):c9 Tryz.prog 132 #[bv u0 s1 s b c,.int .i64 i,D] ro (fun v aI=>∃F w1 w2 w3,v=bv r F w1 w2 w3/\bt aI r F w1 w2 w3):=by
 obtain ⟨d31,b4,rfl,b5,U,-⟩:=id E
 unfold rT at h
 have V:=g.oc;simp only[bw] at V
 refine aA.go Tryz.func132 rfl Tryz.ntmps132 Tryz.results132 (by simp) fun main J hJ A W hd hs=>?_
 have X:=hs 0
 have k1:=hs 1
 have Y:=hs 2
 clear hs
 refine aa hJ (af hJ ?_)
 simp only[*,go_sem]
 refine an fun k Z ab=>?_;try simp only[ak] at ab
 refine an fun o ad ae=>?_;try simp only[ak] at ae
 try simp only[*,go_sem]
 refine aa hJ ?_
 refine aH hJ fun ca=>?_
 refine af hJ ?_
 revert h;refine bS fun al ao h=>?_
 simp only[*,go_sem]
 refine fW hJ (aQ:=[]) [(o,bz 83),(k,bl u0 s1 s b c)] [] _ (zB u0.props g.p ao) (fun cb G H u w cd=>?_)
 simp only[List.append_nil,List.cons_append,List.nil_append,List.append_assoc] at w
 subst u
 obtain ⟨d45,ar,rfl,a0⟩:=H.len
 refine ⟨⟨ro,(o,bz 83)::(k,bl u0 s1 s b c)::G⟩,Le.refl _,?_⟩
 refine aE ?_
 try simp only[*,go_sem]
 refine aa hJ (aa hJ ?_)
 refine aH hJ fun cf=>?_
 refine af hJ ?_
 simp only[*,go_sem]
 refine aM hJ ?_
 revert h;refine bS fun a2 j a3=>?_
 refine bM hJ [8,17,18,19,20,21,22,23,24,25,26,27,28,29,30,31] (fun m a4 F'=>∃(i56:Nat) (d51:Option Addr) (f:Nat) (z:List (Nat×Obj)) (a:(List b6)),m=d.length - i56/\i56<=d.length/\bE (u9 i) i56 (d.drop i56) a=some a2/\F'=⟨ro,(o,bz 83)::(k,bl u0 s1 (sl d51 a f) b c)::z⟩/\aP ej ro 146 (.slice d51 a.length f) a z/\a.length<=f/\slot a4 17= .int .i64 (i56:Int)) d.length ?_ ?_
 ·refine ⟨0,d45,ar,G,al,(Nat.sub_zero _).symm,Nat.zero_le _,j,rfl,H,a0,?_⟩
  simp only[*,go_sem]
 rintro cl cy F' I ⟨i56,d51,f,z,a,rfl,cS,j,rfl,K,c0,da⟩
 obtain ⟨a5,a6,a7⟩:=I.pick [1,3,6,15,16] (by decide)
 simp only[*,go_sem] at a5 a6 a7
 clear I W hd X k1 Y
 refine aa hJ (af hJ ?_)
 simp only[*,go_sem]
 refine aa hJ ?_
 rcases Nat.lt_or_ge i56 d.length with a8|L
 ·refine bD hJ (by simp only[*,go_sem]) ?_
  refine aD hJ ?_
  obtain ⟨q,B⟩:∃x,d[i56]?=some x:=⟨_,List.getElem?_eq_getElem a8⟩
  rw[cX B] at j
  revert j;refine bS fun db h a9=>?_
  unfold u9 at h
  try dsimp only at h
  obtain ⟨dd,ba,bb,bc,M⟩:=E.el _ _ B
  obtain rfl:ba=[.int .i64 q]:=bc
  cases bb
  have bd:=M 0 _ rfl;simp only[go_sem] at bd
  clear M B
  refine aa hJ (aM hJ (aa hJ ?_))
  refine aH hJ fun df=>?_
  refine af hJ ?_
  simp only[*,go_sem]
  refine aH hJ fun bj=>?_
  refine af hJ ?_
  revert h;refine bS fun bk bm h=>?_
  obtain rfl:=sI h
  obtain ⟨bo,N⟩:=cG bm
  simp only[*,go_sem]
  refine an fun O br P=>?_;have bs:=aL.cons P bj;try simp only[ak] at P
  try simp only[*,go_sem]
  refine di (r:=ej) (l:=a) (x:=(⟨q,i⟩:b6)) (cs:=#[.int .i64 q,.int .i64 i]) (e2:=146) [(O,.cells #[.int .i64 q,.int .i64 i] 146),(o,bz 83),(k,bl u0 s1 (sl d51 a f) b c)] [] K bs bo rfl (by simp only[*,go_sem]) br rfl rfl j9 j9 qR qT rfl qS (by decide) (by decide) (fun dk Q C u w dp=>?_)
  simp only[List.append_nil,List.cons_append,List.nil_append,List.append_assoc] at w
  subst u
  rw[<-N] at C;clear N
  obtain ⟨d74,b0,rfl,b1⟩:=C.len
  refine ⟨⟨ro,(O,.cells #[.int .i64 q,.int .i64 i] 146)::(o,bz 83)::(k,bl u0 s1 (sl d51 a f) b c)::Q⟩,Le.refl _,?_⟩
  refine aE ?_
  try simp only[*,go_sem]
  have dq:=cj (n:=i56) (by have:=U;omega)
  refine af hJ ?_
  simp only[*,go_sem]
  refine ⟨d.length - (i56+1),by omega,_,Le.sub (List.Sublist.cons _ (List.Sublist.refl _)),i56+1,d74,b0,Q,bk,rfl,by omega,a9,rfl,C,b1,?_⟩
  simp only[*,go_sem]
 have ds:=Nat.not_lt.2 L
 refine bI hJ (by simp only[*,go_sem]) ?_
 rw[List.drop_eq_nil_of_le L] at j
 obtain rfl:=sI j;clear j
 have h:=a3
 dsimp only[aF] at h
 obtain rfl:=sI h
 refine bJ ?_
 simp only[go_sem]
 refine aa hJ ?_
 refine aH hJ fun dt=>?_
 refine af hJ ?_
 simp only[*,go_sem]
 refine aH hJ fun R=>?_
 obtain ⟨du,S,b2,T,b3⟩:=K.dF [(o,bl u0 s1 (sl d51 a f) b c),(k,bl u0 s1 (sl d51 a f) b c)] [] R (az.cons ad (az.cons Z (az.nil _)))
 clear R
 refine cA hJ b3 ?_
 obtain ⟨dv,dC,-⟩:=T.op
 replace g:=g.mono S
 simp only[aU] at b2
 refine av ?_
 simp only[*,go_sem]
 exact ⟨_,S,Le.sub (List.nil_sublist _),_,_,_,_,rfl,⟨g.e,T,g.y,g.t⟩⟩
def vb (u0:aj)(a:(List Int))(st:((List (List Int))×Int)):Option (Fl ((List (List Int))×Int) (List (List Int))):=
 ah (fG u0 st.2) fun b=>cond (b) (ah (rP a) fun c=>ah (cI c ([st.2])) fun d=>ah (cI st.1 ([d])) fun e=>some (.nx (e,(IntKind.i64.wrap (st.2+1))))) (some (.bk (st.1,st.2)))
def vc (u0:aj)(a:(List Int))(st:((List (List Int))×Int)):Option (Fl ((List (List Int))×Int) (List (List Int))):=
 ah (fG u0 st.2) fun b=>cond (b) (ah (rP a) fun c=>ah (cI c ([st.2])) fun d=>ah (cI st.1 ([d])) fun e=>some (.nx (e,(IntKind.i64.wrap (st.2+1))))) (some (.bk (st.1,st.2)))
def ve (u0:aj)(i47:Nat)(a:(List Int))(st:(List (List Int))):Option (Fl (List (List Int)) (List (List Int))):=
 ah (bq u0.aB 0) fun b=>cond (decide (0<(a.length:Int))) (ah (bq a (IntKind.i64.wrap ((a.length:Int) - 1))) fun c=>ah (aR (vb u0 a) fu (st,(IntKind.i64.wrap (c+1)))) fun o=>aF o (fun d=>some (.nx d.1)) (fun _ _=>none) (fun r=>some (.rt r))) (ah (aR (vc u0 a) fu (st,b.aK)) fun o=>aF o (fun e=>some (.nx e.1)) (fun _ _=>none) (fun r=>some (.rt r)))
def rU (u0:aj)(a:(List (List Int))):Option (List (List Int)):=
 ah (bE (ve u0) 0 a ([]:List (List Int))) fun o=>aF o (fun b=>some b) (fun _ _=>none) (fun r=>some r)
theorem zG {ro:Addr->Option Value}(u0:aj){s1 a b c:Value}(j:bt ro u0 s1 a b c)(s:(List (List Int))){bo:Value}(Q:ax (rL rI) ro bo s){r:(List (List Int))}(h:rU u0 s=some r):c9 Tryz.prog 88 #[bv u0 s1 a b c,bo] ro (fun v aI=>∃br,v=br/\ax (rL rI) aI br r):=by
 obtain ⟨d3,c4,rfl,ik,il,-⟩:=id j.e
 obtain ⟨d31,im,rfl,iv,bs,-⟩:=id Q
 unfold rU at h
 refine aA.go Tryz.func88 rfl Tryz.ntmps88 Tryz.results88 (by simp) fun main J hJ A fa hd hs=>?_
 have fb:=hs 0
 have k1:=hs 1
 clear hs
 refine aa hJ (af hJ ?_)
 simp only[*,go_sem]
 refine an fun d u fg=>?_;try simp only[ak] at fg
 try simp only[*,go_sem]
 refine aa hJ (af hJ ?_)
 simp only[*,go_sem]
 refine aa hJ (aa hJ (af hJ ?_))
 simp only[*,go_sem]
 refine aM hJ ?_
 revert h;refine bS fun fi F fp=>?_
 refine bM hJ [5,7,8,9,12,13,14,15,16,17,18,19,20,21,22,23,24,25,26,27,28,29,30,31,32,33,34,35,36,37,38,39,40,41,42,43,44,45,46] (fun m w F'=>∃(i47:Nat) (y:Addr->Option Value) (d38:Option Addr) (G:Nat) (K:List (Nat×Obj)) (z:(List (List Int))),m=s.length - i47/\i47<=s.length/\bE (ve u0) i47 (s.drop i47) z=some fi/\F'=⟨y,(d,bl u0 (sl d3 u0.aB c4) a b c)::K⟩/\Ext ro y/\aP (rL rI) y 46 (.slice d38 z.length G) z K/\z.length<=G/\slot w 12= .int .i64 (i47:Int)/\slot w 5= .slice d38 z.length G) s.length ?_ ?_
 ·refine ⟨0,ro,none,0,[],([]:List (List Int)),(Nat.sub_zero _).symm,Nat.zero_le _,F,rfl,Ext.refl _,aP.nil _ _ _,Nat.le_refl _,?_⟩
  simp only[*,go_sem]
 rintro ix bz F' b0 ⟨i47,y,d38,G,K,z,rfl,j1,F,rfl,L,Z,b1,b2,b3⟩
 refine ez hJ fun _ b4=>?_
 replace Q:=Q.mono L
 replace j:=j.mono L
 replace u:=b4.hd
 simp only[aU] at b4
 obtain ⟨ab,ad,ae⟩:=b0.pick [2,4,10,11] (by decide)
 simp only[*,go_sem] at ab ad ae
 clear b0 fa hd fb k1
 refine aa hJ (af hJ ?_)
 simp only[*,go_sem]
 refine aa hJ ?_
 rcases Nat.lt_or_ge i47 s.length with fr|b5
 ·refine bD hJ (by simp only[*,go_sem]) ?_
  refine aD hJ ?_
  obtain ⟨R,al⟩:∃x,s[i47]?=some x:=⟨_,List.getElem?_eq_getElem fr⟩
  rw[cX al] at F
  revert F;refine bS fun j2 h ca=>?_
  unfold ve at h
  try dsimp only at h
  obtain ⟨kh,kj,fs,ft,cb⟩:=Q.el _ _ al
  obtain ⟨kk,rfl,t⟩:=ft;obtain ⟨d56,kl,rfl,km,kn,kp⟩:=id t
  cases fs
  have fv:=cb 0 _ rfl;simp only[go_sem] at fv
  clear cb al
  refine aa hJ (aM hJ (aa hJ ?_))
  refine aH hJ fun ks=>?_
  refine af hJ ?_
  simp only[*,go_sem]
  refine aa hJ ?_
  refine aH hJ fun kt=>?_
  refine af hJ ?_
  revert h;refine bS fun cd fw h=>?_
  obtain ⟨kv,kx,cf⟩:=bX fw
  obtain ⟨f,fx,gg,gl,ao⟩:=j.e.el _ _ cf
  obtain rfl:fx=cd.cells:=gl
  cases gg
  have gn:=ao 0 _ rfl;simp only[go_sem] at gn
  have gp:=ao 1 _ rfl;simp only[go_sem] at gp
  clear ao cf
  try simp only[*,go_sem]
  refine aa hJ (aa hJ ?_)
  refine aH hJ fun ky=>?_
  refine af hJ ?_
  simp only[*,go_sem]
  revert h;refine jC hJ (by simp only[*,go_sem]) (fun gB h=>?_) fun gB h=>?_
  ·refine aH hJ fun k0=>?_
   refine af hJ ?_
   revert h;refine bS fun cl gC h=>?_
   obtain ⟨k2,lb,cy⟩:=bX gC
   obtain ⟨lh,gM,gT,gV,cS⟩:=t.el _ _ cy
   obtain rfl:gM=[.int .i64 cl]:=gV
   cases gT
   have g0:=cS 0 _ rfl;simp only[go_sem] at g0
   clear cS cy
   try simp only[*,go_sem]
   refine aa hJ ?_
   refine aH hJ fun lj=>?_
   refine af hJ ?_
   simp only[*,go_sem]
   refine aM hJ ?_
   revert h;refine bS fun g1 S g2=>?_
   refine bM hJ [5,9,33,34,35,36,37,38,39,40,41,42,43,44,45] (fun m w F'=>∃(H:Addr->Option Value) (d75:Option Addr) (M:Nat) (k:List (Nat×Obj)) (B:(List (List Int))) (g:Int),aR (vb u0 R) m (B,g)=some g1/\F'=⟨H,(d,bl u0 (sl (some f) u0.aB c4) a b c)::k⟩/\Ext y H/\aP (rL rI) H 46 (.slice d75 B.length M) B k/\B.length<=M/\slot w 5= .slice d75 B.length M/\slot w 9= .int .i64 g) fu ?_ ?_
   ·refine ⟨y,d38,G,K,z,(IntKind.i64.wrap (cl+1)),S,rfl,Ext.refl _,Z,b1,?_⟩
    simp only[*,go_sem]
   rintro ar g3 F' a0 ⟨H,d75,M,k,B,g,S,rfl,T,N,g4,lk,ll⟩
   refine ez hJ fun _ c0=>?_
   replace t:=t.mono T
   replace j:=j.mono T
   replace u:=c0.hd
   simp only[aU] at c0
   obtain ⟨ha,hc,hf⟩:=a0.pick [2,4,7,8,10,11,12,13,15,16,17,18,21,22,23,24,25,26,27,28,30,31,32] (by decide)
   simp only[*,go_sem] at ha hc hf
   have ln:cW [5,7,8,9,12,13,14,15,16,17,18,19,20,21,22,23,24,25,26,27,28,29,30,31,32,33,34,35,36,37,38,39,40,41,42,43,44,45,46] g3 bz:=(a0.fD (by decide)).trans (by simp only[*,go_sem])
   clear a0 ab ad ae b3 b2
   obtain _|ar:=ar
   ·exact absurd S (by simp only[aR,reduceCtorEq,not_false_eq_true])
   revert S;refine bS fun lo h a2=>?_
   unfold vb at h
   try dsimp only at h
   refine aa hJ (aa hJ ?_)
   refine aH hJ fun lr=>?_
   refine af hJ ?_
   revert h;refine bS fun lv hg h=>?_
   simp only[*,go_sem]
   refine aO hJ _ (q9 u0 (j.mono aN) g hg) ?_
   try simp only[*,go_sem]
   revert h;refine jC hJ (by simp only[*,go_sem]) (fun hh h=>?_) fun hh h=>?_
   ·refine aD hJ (aa hJ ?_)
    refine aM hJ ?_
    refine aH hJ fun lx=>?_
    refine af hJ ?_
    revert h;refine bS fun hi hj h=>?_
    simp only[*,go_sem]
    refine fW hJ (aQ:=[]) [(d,bl u0 (sl (some f) u0.aB c4) a b c)] k _ (zC R t hj) (fun ly hk da p q hl=>?_)
    simp only[List.append_nil,List.cons_append,List.nil_append,List.append_assoc] at q
    subst p
    obtain ⟨d133,lL,rfl,l1⟩:=da.len
    refine ⟨⟨H,(d,bl u0 (sl (some f) u0.aB c4) a b c)::(hk++k)⟩,Le.refl _,?_⟩
    refine aE ?_
    revert h;refine bS fun U hn h=>?_
    obtain ⟨ho,db⟩:=cG hn
    try simp only[*,go_sem]
    refine an fun C dd df=>?_;have hp:=aL.cons df hl;try simp only[ak] at df
    try simp only[*,go_sem]
    refine di (r:=rI) (l:=hi) (x:=g) (cs:=#[.int .i64 g]) (e2:=3) [(C,ic g),(d,bl u0 (sl (some f) u0.aB c4) a b c)] k da hp ho rfl (by simp only[*,go_sem]) dd rfl rfl dL dL gm gr rfl gq (by decide) (by decide) (fun l2 dk a3 p q dp=>?_)
    simp only[List.append_nil,List.cons_append,List.nil_append,List.append_assoc] at q
    subst p
    rw[<-db] at a3;clear db
    obtain ⟨d145,a4,rfl,l3⟩:=a3.len
    obtain ⟨a5,V,a6,dq,hq⟩:=a3.dF [(C,ic g),(d,bl u0 (sl (some f) u0.aB c4) a b c)] k dp (az.cons dd (az.cons u (N.gO)))
    have hr:=aL.sub (l:=(C,ic g)::(d,bl u0 (sl (some f) u0.aB c4) a b c)::k) (l':=(C,ic g)::(d,bl u0 (sl (some f) u0.aB c4) a b c)::(dk++k)) [(C,ic g),(d,bl u0 (sl (some f) u0.aB c4) a b c)] dk k (by first|rfl|simp only[List.append_nil,List.cons_append,List.nil_append,List.append_assoc]|(simp only[List.append_nil,List.cons_append,List.nil_append,List.append_assoc];rfl)) (by first|rfl|simp only[List.append_nil,List.cons_append,List.nil_append,List.append_assoc]|(simp only[List.append_nil,List.cons_append,List.nil_append,List.append_assoc];rfl)) dp
    refine ⟨⟨a5,(C,ic g)::(d,bl u0 (sl (some f) u0.aB c4) a b c)::k⟩,hq,?_⟩
    obtain ⟨l4,ma,-⟩:=dq.op
    replace t:=t.mono V
    replace j:=j.mono V
    replace u:=a6.tl.hd
    replace N:=N.mono V a6.tl.tl
    simp only[aU] at a6
    refine aE ?_
    revert h;refine bS fun ht hv h=>?_
    obtain rfl:=sI h
    obtain ⟨hx,ds⟩:=cG hv
    try simp only[*,go_sem]
    refine an fun dt hy du=>?_;have hz:=aL.cons du hr;try simp only[ak] at du
    try simp only[*,go_sem]
    refine di (r:=(rL rI)) (l:=B) (x:=U) (cs:=#[.slice d145 U.length a4]) (e2:=46) [(dt,.cells #[.slice d145 U.length a4] 46),(C,ic g),(d,bl u0 (sl (some f) u0.aB c4) a b c)] [] N hz hx ⟨_,rfl,dq⟩ (by simp only[*,go_sem]) hy rfl rfl fV fV lq lz rfl lu (by decide) (by decide) (fun mf dv a7 p q mi=>?_)
    simp only[List.append_nil,List.cons_append,List.nil_append,List.append_assoc] at q
    subst p
    rw[<-ds] at a7;clear ds
    obtain ⟨d165,hA,rfl,hB⟩:=a7.len
    refine ⟨⟨a5,(dt,.cells #[.slice d145 U.length a4] 46)::(C,ic g)::(d,bl u0 (sl (some f) u0.aB c4) a b c)::dv⟩,Le.refl _,?_⟩
    refine aE ?_
    try simp only[*,go_sem]
    refine aH hJ fun ml=>?_
    refine af hJ ?_
    simp only[*,go_sem]
    refine ⟨ar,Nat.lt_succ_self _,_,Le.sub (List.Sublist.cons _ (List.Sublist.cons _ (List.Sublist.refl _))),a5,d165,hA,dv,ht,(IntKind.i64.wrap (g+1)),a2,rfl,(T.trans V),a7,hB,?_⟩
    simp only[*,go_sem]
   obtain rfl:=sI h
   refine bJ ?_
   simp only[go_sem]
   obtain rfl:=sI a2;clear a2
   have h:=g2
   dsimp only[aF] at h
   obtain rfl:=sI h
   have hD:=cj (n:=i47) (by have:=bs;omega)
   refine af hJ ?_
   simp only[*,go_sem]
   refine ⟨s.length - (i47+1),by omega,_,Le.sub (List.Sublist.refl _),i47+1,H,d75,M,k,B,rfl,by omega,ca,rfl,(L.trans T),N,g4,?_⟩
   simp only[*,go_sem]
  refine aD hJ (aa hJ ?_)
  refine aH hJ fun mn=>?_
  refine af hJ ?_
  simp only[*,go_sem]
  refine aM hJ ?_
  revert h;refine bS fun hE W hF=>?_
  refine bM hJ [5,9,33,34,35,36,37,38,39,40,41,42,43,44,45] (fun m w F'=>∃(I:Addr->Option Value) (d172:Option Addr) (O:Nat) (o:List (Nat×Obj)) (D:(List (List Int))) (i:Int),aR (vc u0 R) m (D,i)=some hE/\F'=⟨I,(d,bl u0 (sl (some f) u0.aB c4) a b c)::o⟩/\Ext y I/\aP (rL rI) I 46 (.slice d172 D.length O) D o/\D.length<=O/\slot w 5= .slice d172 D.length O/\slot w 9= .int .i64 i) fu ?_ ?_
  ·refine ⟨y,d38,G,K,z,cd.aK,W,rfl,Ext.refl _,Z,b1,?_⟩
   simp only[*,go_sem]
  rintro a8 hG F' a9 ⟨I,d172,O,o,D,i,W,rfl,X,P,hI,mr,mx⟩
  refine ez hJ fun _ dC=>?_
  replace t:=t.mono X
  replace j:=j.mono X
  replace u:=dC.hd
  simp only[aU] at dC
  obtain ⟨hK,hL,hM⟩:=a9.pick [2,4,7,8,10,11,12,13,15,16,17,18,21,22,23,24,32] (by decide)
  simp only[*,go_sem] at hK hL hM
  have my:cW [5,7,8,9,12,13,14,15,16,17,18,19,20,21,22,23,24,25,26,27,28,29,30,31,32,33,34,35,36,37,38,39,40,41,42,43,44,45,46] hG bz:=(a9.fD (by decide)).trans (by simp only[*,go_sem])
  clear a9 ab ad ae b3 b2
  obtain _|a8:=a8
  ·exact absurd W (by simp only[aR,reduceCtorEq,not_false_eq_true])
  revert W;refine bS fun m1 h ba=>?_
  unfold vc at h
  try dsimp only at h
  refine aa hJ (aa hJ ?_)
  refine aH hJ fun m2=>?_
  refine af hJ ?_
  revert h;refine bS fun na hN h=>?_
  simp only[*,go_sem]
  refine aO hJ _ (q9 u0 (j.mono aN) i hN) ?_
  try simp only[*,go_sem]
  revert h;refine jC hJ (by simp only[*,go_sem]) (fun hP h=>?_) fun hP h=>?_
  ·refine aD hJ (aa hJ ?_)
   refine aM hJ ?_
   refine aH hJ fun nb=>?_
   refine af hJ ?_
   revert h;refine bS fun hQ hR h=>?_
   simp only[*,go_sem]
   refine fW hJ (aQ:=[]) [(d,bl u0 (sl (some f) u0.aB c4) a b c)] o _ (zC R t hR) (fun nd hS dE p q hT=>?_)
   simp only[List.append_nil,List.cons_append,List.nil_append,List.append_assoc] at q
   subst p
   obtain ⟨d230,nf,rfl,nm⟩:=dE.len
   refine ⟨⟨I,(d,bl u0 (sl (some f) u0.aB c4) a b c)::(hS++o)⟩,Le.refl _,?_⟩
   refine aE ?_
   revert h;refine bS fun Y hV h=>?_
   obtain ⟨hX,dT⟩:=cG hV
   try simp only[*,go_sem]
   refine an fun E ea eb=>?_;have hY:=aL.cons eb hT;try simp only[ak] at eb
   try simp only[*,go_sem]
   refine di (r:=rI) (l:=hQ) (x:=i) (cs:=#[.int .i64 i]) (e2:=3) [(E,ic i),(d,bl u0 (sl (some f) u0.aB c4) a b c)] o dE hY hX rfl (by simp only[*,go_sem]) ea rfl rfl dL dL gm gr rfl gq (by decide) (by decide) (fun nn ec bb p q ed=>?_)
   simp only[List.append_nil,List.cons_append,List.nil_append,List.append_assoc] at q
   subst p
   rw[<-dT] at bb;clear dT
   obtain ⟨bc,bd,rfl,np⟩:=bb.len
   obtain ⟨bj,eh,bk,et,hZ⟩:=bb.dF [(E,ic i),(d,bl u0 (sl (some f) u0.aB c4) a b c)] o ed (az.cons ea (az.cons u (P.gO)))
   have h0:=aL.sub (l:=(E,ic i)::(d,bl u0 (sl (some f) u0.aB c4) a b c)::o) (l':=(E,ic i)::(d,bl u0 (sl (some f) u0.aB c4) a b c)::(ec++o)) [(E,ic i),(d,bl u0 (sl (some f) u0.aB c4) a b c)] ec o (by first|rfl|simp only[List.append_nil,List.cons_append,List.nil_append,List.append_assoc]|(simp only[List.append_nil,List.cons_append,List.nil_append,List.append_assoc];rfl)) (by first|rfl|simp only[List.append_nil,List.cons_append,List.nil_append,List.append_assoc]|(simp only[List.append_nil,List.cons_append,List.nil_append,List.append_assoc];rfl)) ed
   refine ⟨⟨bj,(E,ic i)::(d,bl u0 (sl (some f) u0.aB c4) a b c)::o⟩,hZ,?_⟩
   obtain ⟨ns,nx,-⟩:=et.op
   replace u:=bk.tl.hd
   replace P:=P.mono eh bk.tl.tl
   simp only[aU] at bk
   refine aE ?_
   revert h;refine bS fun h1 h2 h=>?_
   obtain rfl:=sI h
   obtain ⟨h3,ev⟩:=cG h2
   try simp only[*,go_sem]
   refine an fun eQ h4 eS=>?_;have h5:=aL.cons eS h0;try simp only[ak] at eS
   try simp only[*,go_sem]
   refine di (r:=(rL rI)) (l:=D) (x:=Y) (cs:=#[.slice bc Y.length bd]) (e2:=46) [(eQ,.cells #[.slice bc Y.length bd] 46),(E,ic i),(d,bl u0 (sl (some f) u0.aB c4) a b c)] [] P h5 h3 ⟨_,rfl,et⟩ (by simp only[*,go_sem]) h4 rfl rfl fV fV lq lz rfl lu (by decide) (by decide) (fun nz e0 bm p q nA=>?_)
   simp only[List.append_nil,List.cons_append,List.nil_append,List.append_assoc] at q
   subst p
   rw[<-ev] at bm;clear ev
   obtain ⟨h6,h7,rfl,h8⟩:=bm.len
   refine ⟨⟨bj,(eQ,.cells #[.slice bc Y.length bd] 46)::(E,ic i)::(d,bl u0 (sl (some f) u0.aB c4) a b c)::e0⟩,Le.refl _,?_⟩
   refine aE ?_
   try simp only[*,go_sem]
   refine aH hJ fun nH=>?_
   refine af hJ ?_
   simp only[*,go_sem]
   refine ⟨a8,Nat.lt_succ_self _,_,Le.sub (List.Sublist.cons _ (List.Sublist.cons _ (List.Sublist.refl _))),bj,h6,h7,e0,h1,(IntKind.i64.wrap (i+1)),ba,rfl,(X.trans eh),bm,h8,?_⟩
   simp only[*,go_sem]
  obtain rfl:=sI h
  refine bJ ?_
  simp only[go_sem]
  obtain rfl:=sI ba;clear ba
  have h:=hF
  dsimp only[aF] at h
  obtain rfl:=sI h
  have hD:=cj (n:=i47) (by have:=bs;omega)
  refine af hJ ?_
  simp only[*,go_sem]
  refine ⟨s.length - (i47+1),by omega,_,Le.sub (List.Sublist.refl _),i47+1,I,d172,O,o,D,rfl,by omega,ca,rfl,(L.trans X),P,hI,?_⟩
  simp only[*,go_sem]
 have nI:=Nat.not_lt.2 b5
 refine bI hJ (by simp only[*,go_sem]) ?_
 rw[List.drop_eq_nil_of_le b5] at F
 obtain rfl:=sI F;clear F
 have h:=fp
 dsimp only[aF] at h
 obtain rfl:=sI h
 refine bJ ?_
 simp only[go_sem]
 refine aa hJ ?_
 refine aH hJ fun nK=>?_
 refine af hJ ?_
 simp only[*,go_sem]
 refine aH hJ fun e1=>?_
 obtain ⟨nQ,h9,ib,e3,ih⟩:=Z.dF [(d,bl u0 (sl d3 u0.aB c4) a b c)] [] e1 (az.cons u (az.nil _))
 clear e1
 refine cA hJ ih ?_
 obtain ⟨nR,nT,-⟩:=e3.op
 simp only[aU] at ib
 refine av ?_
 simp only[*,go_sem]
 exact ⟨_,(L).trans h9,Le.sub (List.nil_sublist _),_,rfl,e3⟩
def nk (u0:Int):Option Bool:=
 some (u0 != u0)
theorem rV {ro:Addr->Option Value}(u0:Int){r:Bool}(h:nk u0=some r):aA Tryz.prog 172 #[.int .i64 u0] ⟨ro,[]⟩ (fun v _=>v= .bool r):=by
 unfold nk at h
 obtain rfl:=sI h
 refine aA.go Tryz.func172 rfl Tryz.ntmps172 Tryz.results172 (by simp) fun main J hJ A a hd hs=>?_
 have b:=hs 0
 clear hs
 refine aa hJ (af hJ ?_)
 simp only[*,go_sem]
 refine aa hJ (af hJ ?_)
 simp only[*,go_sem]
 refine av ?_
 simp only[*,go_sem]
def vf (u0:Int)(a:Int):Option Bool:=
 ah (nk u0) fun b=>cond (b) (ah (nk a) fun c=>cond (!c) (some true) (some (decide (u0<a)))) (some (decide (u0<a)))
theorem ER {ro:Addr->Option Value}(u0:Int)(a:Int){r:Bool}(h:vf u0 a=some r):aA Tryz.prog 194 #[.int .i64 u0,.int .i64 a] ⟨ro,[]⟩ (fun v _=>v= .bool r):=by
 unfold vf at h
 refine aA.go Tryz.func194 rfl Tryz.ntmps194 Tryz.results194 (by simp) fun main J hJ A f hd hs=>?_
 have g:=hs 0
 have k1:=hs 1
 clear hs
 refine aa hJ (af hJ ?_)
 simp only[*,go_sem]
 refine aa hJ (af hJ ?_)
 revert h;refine bS fun i b h=>?_
 simp only[*,go_sem]
 refine aO hJ _ (rV u0 b) (aE ?_)
 revert h;refine cS (fun c h=>?_) fun c h=>?_
 ·revert h;refine bS fun j d h=>?_
  try simp only[*,go_sem]
  refine aO hJ _ (rV a d) (aE ?_)
  revert h;refine cS (fun e h=>?_) fun e h=>?_
  ·obtain rfl:=sI h
   try simp only[*,go_sem]
   refine av ?_
   simp only[*,go_sem]
  obtain rfl:=sI h
  try simp only[*,go_sem]
  refine av ?_
  simp only[*,go_sem]
 obtain rfl:=sI h
 try simp only[*,go_sem]
 refine av ?_
 simp only[*,go_sem]
def vg (c:Int)(st:(Int×(List Int))):Option (Fl (Int×(List Int)) (Unit×(List Int))):=
 cond (decide (c<st.1)) (ah (bq st.2 st.1) fun b=>ah (bq st.2 (IntKind.i64.wrap (st.1 - 1))) fun a=>ah (vf b a) fun d=>cond (d) (ah (bq (st.2.set (st.1).toNat a) (IntKind.i64.wrap (st.1 - 1))) fun e=>some (.nx ((IntKind.i64.wrap (st.1 - 1)),((st.2.set (st.1).toNat a).set (IntKind.i64.wrap (st.1 - 1)).toNat b)))) (some (.bk (st.1,st.2)))) (some (.bk (st.1,st.2)))
def vh (a:Int)(b:Int)(st:(Int×(List Int))):Option (Fl (Int×(List Int)) (Unit×(List Int))):=
 cond (decide (st.1<b)) (ah (aR (vg a) fu (st.1,st.2)) fun o=>aF o (fun c=>some (.nx ((IntKind.i64.wrap (st.1+1)),c.2))) (fun _ _=>none) (fun r=>some (.rt r))) (some (.bk (st.1,st.2)))
def vi (u0:(List Int))(a:Int)(b:Int):Option (Unit×(List Int)):=
 cond (List.isEmpty u0) none (ah (aR (vh a b) fu ((IntKind.i64.wrap (a+1)),u0)) fun o=>aF o (fun c=>some ((),c.2)) (fun _ _=>none) (fun r=>some r))
theorem ES {ro:Addr->Option Value}(u0:(List Int)){w:Value}{K:List (Nat×Obj)}(x:aP rI ro 3 w u0 K)(k:Int)(z:Int){r:(Unit×(List Int))}(h:vi u0 k z=some r):aA Tryz.prog 188 #[w,.int .i64 k,.int .i64 z] ⟨ro,K⟩ (fun v G=>∃L,(v= .tuple #[]/\aP rI ro 3 w r.2 L)/\Le ⟨ro,L⟩ G):=by
 obtain ⟨d1,c2,rfl,b4⟩:=x.len
 unfold vi at h
 revert h;refine cS (fun M h=>?_) fun M h=>?_
 ·cases h
 obtain ⟨b,ab,rfl,rfl,b5⟩:=x.uA M
 refine aA.go Tryz.func188 rfl Tryz.ntmps188 Tryz.results188 (by simp) fun main J hJ A ad hd hs=>?_
 have ae:=hs 0
 have k1:=hs 1
 have al:=hs 2
 clear hs
 refine aa hJ ?_
 refine aH hJ fun ca=>?_
 refine af hJ ?_
 simp only[*,go_sem]
 refine aM hJ ?_
 revert h;refine bS fun ao n ar=>?_
 refine bM hJ [6,7,10,11,12,13,14,15,16,17,18,19,20,21,22,23,24,25,26,27,28,29,30,31,32,33,34,35,36,37,38,39,40,41,42,43,44,45,46,47,48] (fun m B F'=>∃(p:Array Value) (j:Int) (q:(List Int)),aR (vh k z) m (j,q)=some ao/\F'=⟨ro,[(b,Obj.cells p 3)]⟩/\aP rI ro 3 (.slice (some ⟨b,0,none⟩) u0.length c2) q [(b,Obj.cells p 3)]/\slot B 6= .int .i64 j) fu ?_ ?_
 ·refine ⟨ab,(IntKind.i64.wrap (k+1)),u0,n,rfl,x,?_⟩
  simp only[*,go_sem]
 rintro s a0 F' N ⟨p,j,q,n,rfl,O,a2⟩
 obtain ⟨P,Q,R⟩:=N.pick [0,1,2] (by decide)
 simp only[*,go_sem] at P Q R
 clear N ad hd ae k1 al
 obtain _|s:=s
 ·exact absurd n (by simp only[aR,reduceCtorEq,not_false_eq_true])
 revert n;refine bS fun cb h t=>?_
 unfold vh at h
 try dsimp only at h
 refine aa hJ (aa hJ ?_)
 refine aH hJ fun cd=>?_
 refine af hJ ?_
 simp only[*,go_sem]
 revert h;refine jC hJ (by simp only[*,go_sem]) (fun a3 h=>?_) fun a3 h=>?_
 ·refine aD hJ (aa hJ ?_)
  refine aM hJ (aa hJ ?_)
  refine aH hJ fun cf=>?_
  refine af hJ ?_
  simp only[*,go_sem]
  refine aM hJ ?_
  revert h;refine bS fun a4 u S=>?_
  refine bM hJ [7,16,17,18,19,20,21,22,23,24,25,26,27,28,29,30,31,32,33,34,35,36,37,38,39,40,41,42,43,44,45,46,47,48] (fun m B F'=>∃(d:Array Value) (a:Int) (e:(List Int)),aR (vg k) m (a,e)=some a4/\F'=⟨ro,[(b,Obj.cells d 3)]⟩/\aP rI ro 3 (.slice (some ⟨b,0,none⟩) u0.length c2) e [(b,Obj.cells d 3)]/\slot B 7= .int .i64 a) fu ?_ ?_
  ·refine ⟨p,j,q,u,rfl,O,?_⟩
   simp only[*,go_sem]
  rintro C a5 F' D ⟨d,a,e,u,rfl,g,cl⟩
  obtain ⟨a6,a7,a8⟩:=D.pick [0,1,2,6,10,11,12,15] (by decide)
  simp only[*,go_sem] at a6 a7 a8
  have cy:cW [6,7,10,11,12,13,14,15,16,17,18,19,20,21,22,23,24,25,26,27,28,29,30,31,32,33,34,35,36,37,38,39,40,41,42,43,44,45,46,47,48] a5 a0:=(D.fD (by decide)).trans (by simp only[*,go_sem])
  clear D P Q R a2
  obtain _|C:=C
  ·exact absurd u (by simp only[aR,reduceCtorEq,not_false_eq_true])
  revert u;refine bS fun c0 h l=>?_
  unfold vg at h
  try dsimp only at h
  refine aa hJ (aa hJ ?_)
  refine aH hJ fun da=>?_
  refine cQ hJ mixed 15 1 (by simp only[*,go_sem]) (by kernel_rfl) ?_
  revert h;refine cS (fun a9 h=>?_) fun a9 h=>?_
  ·revert h;refine bS fun f ba h=>?_
   obtain ⟨db,dd,T⟩:=bX ba
   have df:a<((u0.length:Nat):Int):=by have:=g.count;omega
   obtain ⟨bb,bc,bd⟩:=g.ko T
   obtain rfl:bb=[.int .i64 f]:=bc
   have U:=bd 0 _ rfl;simp only[go_sem] at U;have dk:=(Array.getElem?_eq_some_iff.1 U).1
   revert h;refine bS fun c bj h=>?_
   obtain ⟨dp,dq,bk⟩:=bX bj
   have ds:IntKind.i64.wrap (a - 1)<((u0.length:Nat):Int):=by have:=g.count;omega
   obtain ⟨bl,bm,bo⟩:=g.ko bk
   obtain rfl:bl=[.int .i64 c]:=bm
   have V:=bo 0 _ rfl;simp only[go_sem] at V;have dt:=(Array.getElem?_eq_some_iff.1 V).1
   revert h;refine bS fun du br h=>?_
   try simp only[*,go_sem]
   refine ⟨_,bB hJ fun F dv=>ER f c br,cc ?_⟩
   try simp only[*,go_sem]
   revert h;refine jC hJ (by simp only[*,go_sem]) (fun bs h=>?_) fun bs h=>?_
   ·refine aD hJ (aa hJ ?_)
    refine aM hJ ?_
    refine aH hJ fun dC=>?_
    refine iB hJ mixed [15,16,17] (.pure 0 (.pure 1 (.pure 2 (.pure 3 (.pure 4 (.pure 5 (.pure 6 (.pure 7 (.pure 8 (.rd 9 (.pure 10 (.pure 11 (.pure 12 (.rd 13 (.pure 14 (.last 15 (.pure 16 (.last 17 .done)))))))))))))))))) ⟨ro,[(b,Obj.cells d 3)]⟩ (by simp only[*,go_sem]) (by kernel_rfl) ?_
    have E:aP rI ro 3 (.slice (some ⟨b,0,none⟩) u0.length c2) (e.set (a).toNat c) [(b,Obj.cells (dz d (a).toNat [.int .i64 c]) 3)]:=by have H:=g.uz (i:=(a).toNat) (y:=c) (by have:=T;have:=(List.getElem?_eq_some_iff.1 this).1;simpa only[List.length_set] using this) (cs:=[.int .i64 c]) rfl;simpa only[q6,uM,Nat.mul_one,Nat.add_zero] using H
    revert h;refine bS fun bz b0 h=>?_
    obtain rfl:=sI h
    obtain ⟨dE,dT,W⟩:=bX b0
    have ea:IntKind.i64.wrap (a - 1)<((u0.length:Nat):Int):=by have:=E.count;omega
    obtain ⟨b1,b2,b3⟩:=E.ko W
    obtain rfl:b1=[.int .i64 bz]:=b2
    have X:=b3 0 _ rfl;simp only[go_sem] at X;have eb:=(Array.getElem?_eq_some_iff.1 X).1
    have Y:aP rI ro 3 (.slice (some ⟨b,0,none⟩) u0.length c2) ((e.set (a).toNat c).set (IntKind.i64.wrap (a - 1)).toNat f) [(b,Obj.cells (dz (dz d (a).toNat [.int .i64 c]) (IntKind.i64.wrap (a - 1)).toNat [.int .i64 f]) 3)]:=by have H:=E.uz (i:=(IntKind.i64.wrap (a - 1)).toNat) (y:=f) (by have:=W;have:=(List.getElem?_eq_some_iff.1 this).1;simpa only[List.length_set] using this) (cs:=[.int .i64 f]) rfl;simpa only[q6,uM,Nat.mul_one,Nat.add_zero] using H
    try simp only[*,go_sem]
    obtain ⟨Z,I⟩:∃o,o=(dz (dz d (a).toNat [.int .i64 c]) (IntKind.i64.wrap (a - 1)).toNat [.int .i64 f]):=⟨_,rfl⟩
    refine cA (F:=⟨ro,[(b,Obj.cells Z 3)]⟩) hJ (by rw[I];exact Le.refl _) ?_
    rw[<-I] at Y
    clear I
    refine aH hJ fun ec=>?_
    refine af hJ ?_
    simp only[*,go_sem]
    refine ⟨C,Nat.lt_succ_self _,_,Le.sub (List.Sublist.refl _),Z,(IntKind.i64.wrap (a - 1)),((e.set (a).toNat c).set (IntKind.i64.wrap (a - 1)).toNat f),l,rfl,Y,?_⟩
    simp only[*,go_sem]
   obtain rfl:=sI h
   refine bJ ?_
   simp only[go_sem]
   obtain rfl:=sI l;clear l
   have h:=S
   dsimp only[aF] at h
   obtain rfl:=sI h
   refine aH hJ fun ed=>?_
   refine af hJ ?_
   simp only[*,go_sem]
   refine ⟨s,Nat.lt_succ_self _,_,Le.sub (List.Sublist.refl _),d,(IntKind.i64.wrap (j+1)),e,t,rfl,g,?_⟩
   simp only[*,go_sem]
  obtain rfl:=sI h
  try simp only[*,go_sem]
  refine bI hJ (by simp only[*,go_sem]) ?_
  refine bJ ?_
  simp only[go_sem]
  obtain rfl:=sI l;clear l
  have h:=S
  dsimp only[aF] at h
  obtain rfl:=sI h
  refine aH hJ fun eh=>?_
  refine af hJ ?_
  simp only[*,go_sem]
  refine ⟨s,Nat.lt_succ_self _,_,Le.sub (List.Sublist.refl _),d,(IntKind.i64.wrap (j+1)),e,t,rfl,g,?_⟩
  simp only[*,go_sem]
 obtain rfl:=sI h
 refine bJ ?_
 simp only[go_sem]
 obtain rfl:=sI t;clear t
 have h:=ar
 dsimp only[aF] at h
 obtain rfl:=sI h
 simp only[*,go_sem]
 exact ⟨_,O,Le.sub (List.Sublist.refl _)⟩
def vj (u0:(List Int))(st:(Int×Int×Int×Bool×Bool)):Option (Fl (Int×Int×Int×Bool×Bool) (Unit×(List Int))):=
 cond (decide ((IntKind.i64.wrap (st.2.1 - st.1))<=12)) (ah (vi u0 st.1 st.2.1) fun a=>some (.rt ((),a.2))) (none)
def vk (u0:(List Int))(a:Int)(b:Int)(c:Int):Option (Unit×(List Int)):=
 cond (List.isEmpty u0) none (ah (aR (vj u0) fu (a,b,c,true,true)) fun o=>aF o (fun d=>some ((),u0)) (fun _ _=>none) (fun r=>some r))
theorem ET {ro:Addr->Option Value}(u0:(List Int)){f:Value}{p:List (Nat×Obj)}(g:aP rI ro 3 f u0 p)(i:Int)(j:Int)(k:Int){r:(Unit×(List Int))}(h:vk u0 i j k=some r):aA Tryz.prog 175 #[f,.int .i64 i,.int .i64 j,.int .i64 k] ⟨ro,p⟩ (fun v G=>∃b,(v= .tuple #[]/\aP rI ro 3 f r.2 b)/\Le ⟨ro,b⟩ G):=by
 obtain ⟨d1,c2,rfl,Q⟩:=g.len
 unfold vk at h
 revert h;refine cS (fun q h=>?_) fun q h=>?_
 ·cases h
 obtain ⟨s,y,rfl,rfl,R⟩:=g.uA q
 refine aA.go Tryz.func175 rfl Tryz.ntmps175 Tryz.results175 (by simp) fun main J hJ A z hd hs=>?_
 have B:=hs 0
 have k1:=hs 1
 have C:=hs 2
 have D:=hs 3
 clear hs
 refine aa hJ ?_
 refine aH hJ fun S=>?_
 refine af hJ ?_
 simp only[*,go_sem]
 refine aa hJ ?_
 refine aH hJ fun T=>?_
 refine af hJ ?_
 simp only[*,go_sem]
 refine aM hJ ?_
 revert h;refine bS fun E c F=>?_
 refine bM hJ [1,2,3,8,9,10,11,12,13,14,15,16,17,18,19,20,21,22,23,24,25,26,27,28,29,30,31,32,33,34,35,36,37,38,39,40,41,42,43,44,45,46,47,48,49,50,51,52,53,54,55,56,57,58,59,60,61,62,63,64,65,66,67,68,69,70,71,72,73,74,75,76,77,78,79,80,81,82,83,84,85,86,87,88,89,90,91,92,93,94,95,96,97,98,99,100,101,102,103,104,105,106,107,108,109,110,111,112,113,114,115,116,117,118,119,120,121,122,123,124,125,126,127,128,129,130,131,132,133] (fun m a F'=>∃(d:Int) (e:Int) (l:Int) (n:Bool) (o:Bool),aR (vj u0) m (d,e,l,n,o)=some E/\F'=⟨ro,[(s,Obj.cells y 3)]⟩/\slot a 1= .int .i64 d/\slot a 2= .int .i64 e/\slot a 3= .int .i64 l/\slot a 8= .bool n/\slot a 9= .bool o) fu ?_ ?_
 ·refine ⟨i,j,k,true,true,c,rfl,?_⟩
  simp only[*,go_sem]
 rintro t U F' u ⟨d,e,l,n,o,c,rfl,V,W,X,Y,Z⟩
 obtain ⟨H,I,K⟩:=u.pick [0] (by decide)
 simp only[*,go_sem] at H I K
 clear u z hd B k1 C D
 obtain _|t:=t
 ·exact absurd c (by simp only[aR,reduceCtorEq,not_false_eq_true])
 revert c;refine bS fun ab h w=>?_
 unfold vj at h
 try dsimp only at h
 refine aM hJ (aa hJ ?_)
 refine aH hJ fun ad=>?_
 refine af hJ ?_
 simp only[*,go_sem]
 refine aa hJ (aa hJ ?_)
 refine aH hJ fun ae=>?_
 refine af hJ ?_
 simp only[*,go_sem]
 revert h;refine jC hJ (by simp only[*,go_sem]) (fun L h=>?_) fun L h=>?_
 ·refine aa hJ ?_
  refine aH hJ fun al=>?_
  refine af hJ ?_
  revert h;refine bS fun ao M h=>?_
  obtain rfl:=sI h
  simp only[*,go_sem]
  refine fW hJ [] [] _ (ES u0 g d e M) (fun ar a0 N b O a2=>?_)
  obtain ⟨rfl,x⟩:=N
  obtain ⟨P,rfl⟩:=x.Dw
  simp only[List.append_nil,List.cons_append,List.nil_append,List.append_assoc] at O
  subst b
  refine ⟨⟨ro,[(s,Obj.cells P 3)]⟩,Le.refl _,?_⟩
  try simp only[*,go_sem]
  obtain rfl:=sI w;clear w
  have h:=F
  dsimp only[aF] at h
  obtain rfl:=sI h
  refine av ?_
  simp only[*,go_sem]
  exact ⟨_,x,Le.sub (List.Sublist.refl _)⟩
 cases h
theorem EU {ro:Addr->Option Value}(n:Int)(h0:0<=n)(h1:n<256):aA Tryz.prog 198 #[.int .u64 n] ⟨ro,[]⟩ (fun v _=>∃k:Int,v= .int .i64 k):=by
 refine aA.go Tryz.func198 rfl Tryz.ntmps198 Tryz.results198 (by simp) fun main J hJ A c hd hs=>?_
 have d:=hs 0
 clear hs
 have a1:¬(4294967296:Int)<=n:=by omega
 have a2:¬(65536:Int)<=n:=by omega
 have a3:¬(256:Int)<=n:=by omega
 have e:Tryz.prog.underlying 178=some (.int .u64):=by kernel_rfl
 have f:Tryz.prog.underlying 5=some (.int .u8):=by kernel_rfl
 have g:Tryz.prog.underlying 3=some (.int .i64):=by kernel_rfl
 have h:Tryz.prog.underlying 9=some .string:=by kernel_rfl
 have a4:IntKind.u8.wrap n=n:=IntWalk.u8_in n ⟨h0,by omega⟩
 repeat refine aa hJ ?_
 refine af hJ ?_
 simp only[*,go_sem]
 repeat refine aa hJ ?_
 refine af hJ ?_
 simp only[*,go_sem]
 repeat refine aa hJ ?_
 refine bI hJ (by simp only[*,go_sem,ge_iff_le]) ?_
 refine aD hJ ?_
 repeat refine aa hJ ?_
 refine af hJ ?_
 simp only[*,go_sem]
 repeat refine aa hJ ?_
 refine bI hJ (by simp only[*,go_sem,ge_iff_le]) ?_
 refine aD hJ ?_
 repeat refine aa hJ ?_
 refine af hJ ?_
 simp only[*,go_sem]
 repeat refine aa hJ ?_
 refine bI hJ (by simp only[*,go_sem,ge_iff_le]) ?_
 refine aD hJ ?_
 repeat refine aa hJ ?_
 refine af hJ ?_
 simp only[*,go_sem]
 generalize a:ByteArray.mk _=S
 have i:S.size=256:=by rw[<-a];rfl
 have b:n.toNat<S.size:=by omega
 have hb:S[n.toNat]?=some S[n.toNat]:=by simp[b]
 simp only[hb,Option.map_some]
 refine av ?_
 simp only[*,go_sem]
 exact ⟨_,rfl⟩
theorem EV {ro:Addr->Option Value}(n:Int)(h0:0<=n)(h1:n<256):aA Tryz.prog 176 #[.int .u64 n] ⟨ro,[]⟩ (fun v _=>∃k:Int,v= .int .i64 k):=by
 refine aA.go Tryz.func176 rfl Tryz.ntmps176 Tryz.results176 (by simp) fun main J hJ A a hd hs=>?_
 have b:=hs 0
 clear hs
 repeat refine aa hJ ?_
 refine af hJ ?_
 simp only[*,go_sem]
 repeat refine aa hJ ?_
 refine bI hJ (by simp only[*,go_sem]) ?_
 refine aD hJ ?_
 repeat refine aa hJ ?_
 refine af hJ ?_
 simp only[*,go_sem]
 refine (ow (R:=fun v=>∃k:Int,v= .int .i64 k) (EU n h0 h1) main J hJ).mono ?_
 rintro v F' ⟨⟨k,rfl⟩,rfl⟩
 refine aE ?_
 simp only[*,go_sem]
 refine av ?_
 simp only[*,go_sem]
 exact ⟨_,rfl⟩
def vl (u0:List Int):Option (Unit×List Int):=if u0.length<256 then vk u0 0 (u0.length:Int) 1 else none
theorem EW {ro:Addr->Option Value}(u0:List Int){a:Value}{aQ:List (Nat×Obj)}(hg:aP rI ro 3 a u0 aQ){r:Unit×List Int}(h:vl u0=some r):
  aA Tryz.prog 147 #[a] ⟨ro,aQ⟩ (fun v G=>∃b,(v= .tuple #[]/\aP rI ro 3 a r.2 b)/\Le ⟨ro,b⟩ G):=by
 obtain ⟨ad,cap,rfl,le⟩:=hg.len
 unfold vl at h
 split at h
 case isFalse=>cases h
 rename_i hlen
 have f:Tryz.prog.underlying 202=some (.int .u64):=by kernel_rfl
 have g:Tryz.prog.underlying 3=some (.int .i64):=by kernel_rfl
 have a1:IntKind.u64.wrap (u0.length:Int)=(u0.length:Int):=IntWalk.u64_in _ ⟨by omega,by omega⟩
 refine aA.go Tryz.func147 rfl Tryz.ntmps147 Tryz.results147 (by simp) fun main J hJ A i hd hs=>?_
 have j:=hs 0
 clear hs
 repeat refine aa hJ ?_
 refine af hJ ?_
 simp only[*,go_sem,-h]
 repeat refine aa hJ ?_
 refine aH hJ fun nd=>?_
 refine af hJ ?_
 simp only[*,go_sem,-h]
 refine (ow (R:=fun v=>∃k:Int,v= .int .i64 k) (EV (u0.length:Int) (by omega) (by omega)) main J hJ).mono ?_
 rintro v F' ⟨⟨k,rfl⟩,rfl⟩
 refine aE ?_
 simp only[*,go_sem,-h]
 refine y8 hJ [] [] (by simp) _ (ET u0 hg 0 (u0.length:Int) k (r:=r) h) (fun v l d b c m=>?_)
 obtain ⟨rfl,e⟩:=d
 simp only[List.append_nil,List.nil_append] at c
 subst c
 refine ⟨_,Le.refl _,?_⟩
 exact ⟨_,e,Le.refl _⟩
def jb (x:List Int)(j:Nat):Bool:=j==0||x.getD j 0 != x.getD (j - 1) 0
def fH (x:List Int):Nat->List Int
 |0=>[]
 |n+1=>fH x n++cond (jb x n) [x.getD n 0] []
theorem rW (x:List Int):∀n,n<=x.length->(∀j,j<n->jb x j=true)->fH x n=x.take n
 |0,_,_=>by simp[fH]
 |n+1,b,h=>by
  unfold fH
  rw[rW x n (by omega) (fun j c=>h j (by omega)),h n (by omega),List.take_succ]
  congr 1
  have a:n<x.length:=by omega
  simp[a]
theorem zH (x:List Int){j:Nat}(h:j<1):jb x j=true:=by
 obtain rfl:j=0:=by omega
 rfl
def vm (u0:List Int):Option (List Int):=cond (List.isEmpty u0) none (some (fH u0 u0.length))
theorem EX {ro:Addr->Option Value}(u0:List Int){Q:Value}{aQ:List (Nat×Obj)}(hg:aP rI ro 3 Q u0 aQ){r:List Int}(h:vm u0=some r):
  aA Tryz.prog 148 #[Q] ⟨ro,aQ⟩ (fun v G=>∃R,aP rI ro 3 v r R/\Le ⟨ro,R⟩ G):=by
 obtain ⟨ad,cap,rfl,le⟩:=hg.len
 unfold vm at h
 have a8:=iz h;clear h;rcases a8 with ⟨S,h⟩|⟨S,h⟩
 ·cases h
 obtain ⟨b,F,rfl,rfl,cy⟩:=hg.uA S
 cases h
 have cS:u0.length<=1000000:=by obtain ⟨_,_,_,h,_⟩:=hg;exact h
 have c0:Tryz.prog.underlying 3=some (.int .i64):=by kernel_rfl
 refine aA.go Tryz.func148 rfl Tryz.ntmps148 Tryz.results148 (by simp) fun main J hJ A a9 hd hs=>?_
 have ba:=hs 0
 clear hs
 repeat refine aa hJ ?_
 refine af hJ ?_
 simp only[*,go_sem]
 repeat refine aa hJ ?_
 refine af hJ ?_
 simp only[*,go_sem]
 repeat refine aa hJ ?_
 by_cases h2:u0.length<2
 ·refine bD hJ (by simp only[*,go_sem];simp;omega) ?_
  repeat refine aa hJ ?_
  refine af hJ ?_
  simp only[*,go_sem]
  refine av ?_
  simp only[*,go_sem]
  have e:fH u0 u0.length=u0:=by
   rw[rW u0 _ (Nat.le_refl _) (fun j c=>zH u0 (by omega)),List.take_length]
  rw[e]
  exact ⟨_,hg,Le.refl _⟩
 refine bI hJ (by simp only[*,go_sem];simp;omega) ?_
 refine aD hJ ?_
 repeat refine aa hJ ?_
 refine af hJ ?_
 simp only[*,go_sem]
 repeat refine aa hJ ?_
 refine aM hJ ?_
 refine bM hJ [3,4,5,10,11,12,13,14,15,16,17,18,19,20,21,22,23,24,25,26,27,28,29,30,31,32,33,34,35,36,37,38,39,40,41,42,43,44,45,46,47,48,49,50,51,52,53,54,55,56,57,58,59] (fun m u F'=>∃k:Nat,1<=k/\k<=u0.length/\u0.length - k<=m/\F'=⟨ro,[(b,Obj.cells F 3)]⟩/\slot u 3= .int .i64 (k:Int)/\∀j,j<k->jb u0 j=true) u0.length ?_ ?_
 ·refine ⟨1,Nat.le_refl _,by omega,by omega,rfl,?_,fun j c=>zH u0 c⟩
  simp only[*,go_sem]
  rfl
 ·rintro bb g F' B ⟨k,da,T,db,rfl,bc,H⟩
  have bd:sz g=61:=by rw[B.size];simp only[*,go_sem]
  have bj:g.defers=[]:=by rw[B.defers];simp only[*,go_sem]
  have bk:slot g 0= .slice (some ⟨b,0,none⟩) u0.length cap:=by rw[B.dJ 0 (by decide)];simp only[*,go_sem]
  clear B a9 hd ba
  repeat refine aa hJ ?_
  repeat refine aa hJ ?_
  refine af hJ ?_
  simp only[*,go_sem]
  by_cases U:k<u0.length
  ·have hb:decide (((k:Nat):Int)<(u0.length:Int))=true:=decide_eq_true (by omega)
   refine bD hJ (by simp only[*,go_sem]) ?_
   refine aD hJ ?_
   repeat refine aa hJ ?_
   refine aM hJ ?_
   repeat refine aa hJ ?_
   obtain ⟨p,rfl⟩:∃p,k=p+1:=⟨k - 1,by omega⟩
   have hw:IntKind.i64.wrap (((p+1:Nat):Int) - 1)=(p:Int):=by rw[IntWalk.i64_in _ ⟨by omega,by omega⟩];omega
   refine dY hJ mixed 9 ⟨ro,[(b,Obj.cells F 3)]⟩ (by simp only[*,go_sem]) (by kernel_rfl) ?_
   obtain ⟨l,V⟩:∃x,u0[p+1]?=some x:=⟨u0[p+1],by simp[U]⟩
   obtain ⟨I,K,L⟩:=hg.ko V
   obtain rfl:I=[.int .i64 l]:=K
   have W:=L 0 _ rfl
   simp only[go_sem] at W
   have dd:=(Array.getElem?_eq_some_iff.1 W).1
   obtain ⟨o,X⟩:∃x,u0[p]?=some x:=⟨u0[p],by simp[Nat.lt_of_succ_lt U]⟩
   obtain ⟨M,N,O⟩:=hg.ko X
   obtain rfl:M=[.int .i64 o]:=N
   have Y:=O 0 _ rfl
   simp only[go_sem] at Y
   have df:=(Array.getElem?_eq_some_iff.1 Y).1
   have dk:¬((p+1:Nat):Int)<0:=by omega
   have b2:((p+1:Nat):Int)<(u0.length:Int):=by omega
   have b3:¬(p:Int)<0:=by omega
   have b4:(p:Int)<(u0.length:Int):=by omega
   have b5:(0:Int)<=((p+1:Nat):Int):=by omega
   have dp:(0:Int)<=(p:Int):=by omega
   simp only[*,go_sem]
   have bl:u0.getD (p+1) 0=l:=by rw[List.getD_eq_getElem?_getD,V];rfl
   have bm:u0.getD p 0=o:=by rw[List.getD_eq_getElem?_getD,X];rfl
   have Z:jb u0 (p+1)=(l != o):=by unfold jb;rw[bl,Nat.add_sub_cancel,bm];simp
   clear L O
   by_cases P:l=o
   ·subst P
    refine bD hJ (by simp only[*,go_sem,beq_self_eq_true]) ?_
    repeat refine aa hJ ?_
    refine af hJ ?_
    have dq:p+1<=u0.length:=T
    have ds:p+1<=cap:=by omega
    have dt:((p+1:Nat):Int)<=(u0.length:Int):=by omega
    have du:u0.length<=cap:=le
    have dv:¬cap=p+1:=by omega
    simp only[*,go_sem]
    have bo:slot g 4=slot g 4:=rfl
    repeat refine aa hJ ?_
    refine af hJ ?_
    simp only[*,go_sem]
    repeat refine aa hJ ?_
    refine aM hJ ?_
    have e0:fH u0 (p+2)=u0.take (p+1):=by
     show fH u0 (p+1)++cond (jb u0 (p+1)) _ _=_
     rw[Z,rW u0 _ T H];simp
    refine bM hJ [3,5,29,30,31,32,33,34,35,36,37,38,39,40,41,42,43,44,45,46,47,48,49,50,51,52,53] (fun br u F'=>∃(m w:Nat) (arr:Array Value) (x:List Int),1<=m/\m<=u0.length - (p+1)/\u0.length - (p+1) - m<=br/\F'=⟨ro,[(b,Obj.cells arr 3)]⟩/\slot u 5= .int .i64 (m:Int)/\slot u 3= .int .i64 (w:Int)/\
     aP rI ro 3 (.slice (some ⟨b,0,none⟩) u0.length cap) x [(b,.cells arr 3)]/\x.length=u0.length/\(fH u0 (p+(1+m))).length=w/\w<=p+m/\x.take w=fH u0 (p+(1+m))/\∀j,p+m<=j->x[j]?=u0[j]?) u0.length ?_ ?_
    ·refine ⟨1,p+1,F,u0,Nat.le_refl _,by omega,by omega,rfl,?_,?_,hg,rfl,?_,Nat.le_refl _,e0.symm,fun _ _=>rfl⟩
     ·simp only[*,go_sem];rfl
     ·simp only[*,go_sem]
     ·show (fH u0 (p+2)).length=p+1
      rw[e0,List.length_take];omega
    ·rintro ab C F' s ⟨m,w,arr,x,L,O,dC,rfl,dE,dT,d,ae,t,ea,D,E⟩
     have eb:sz C=61:=by rw[s.size];simp only[*,go_sem]
     have ec:C.defers=[]:=by rw[s.defers];simp only[*,go_sem]
     have ed:slot C 0= .slice (some ⟨b,0,none⟩) u0.length cap:=by rw[s.dJ 0 (by decide)];simp only[*,go_sem]
     have eh:slot C 4= .slice (some ⟨b,p+1,none⟩) (u0.length - (p+1)) (cap - (p+1)):=by rw[s.dJ 4 (by decide)];simp only[*,go_sem]
     clear s bd bj bk bc bo
     repeat refine aa hJ ?_
     refine af hJ ?_
     simp only[*,go_sem]
     by_cases et:m<u0.length - (p+1)
     ·have bs:decide (((m:Nat):Int)<((u0.length - (p+1):Nat):Int))=true:=decide_eq_true (by omega)
      refine bD hJ (by simp only[*,go_sem]) ?_
      refine aD hJ ?_
      repeat refine aa hJ ?_
      refine aM hJ ?_
      repeat refine aa hJ ?_
      obtain ⟨q,rfl⟩:∃q,m=q+1:=⟨m - 1,by omega⟩
      have ev:IntKind.i64.wrap (((q+1:Nat):Int) - 1)=(q:Int):=by rw[IntWalk.i64_in _ ⟨by omega,by omega⟩];omega
      refine dY hJ mixed 9 ⟨ro,[(b,Obj.cells arr 3)]⟩ (by simp only[*,go_sem]) (by kernel_rfl) ?_
      obtain ⟨a,al⟩:∃y,u0[p+(1+(q+1))]?=some y:=⟨u0[p+(1+(q+1))]'(by omega),List.getElem?_eq_getElem _⟩
      obtain ⟨I,K,ao⟩:=d.ko ((E _ (by omega)).trans al)
      obtain rfl:I=[.int .i64 a]:=K
      have ar:=ao 0 _ rfl
      simp only[go_sem] at ar
      have eQ:=(Array.getElem?_eq_some_iff.1 ar).1
      obtain ⟨f,a0⟩:∃y,u0[p+(1+q)]?=some y:=⟨u0[p+(1+q)]'(by omega),List.getElem?_eq_getElem _⟩
      obtain ⟨M,N,a2⟩:=d.ko ((E _ (by omega)).trans a0)
      obtain rfl:M=[.int .i64 f]:=N
      have a3:=a2 0 _ rfl
      simp only[go_sem] at a3
      have eS:=(Array.getElem?_eq_some_iff.1 a3).1
      have c1:¬((q+1:Nat):Int)<0:=by omega
      have c2:((q+1:Nat):Int)<((u0.length - (p+1):Nat):Int):=by omega
      have c3:¬(q:Int)<0:=by omega
      have c4:(q:Int)<((u0.length - (p+1):Nat):Int):=by omega
      have e2:(0:Int)<=((q+1:Nat):Int):=by omega
      have e3:(0:Int)<=(q:Int):=by omega
      simp only[*,go_sem]
      have a4:u0.getD (p+(1+(q+1))) 0=a:=by rw[List.getD_eq_getElem?_getD,al];rfl
      have bz:u0.getD (p+(1+q)) 0=f:=by rw[List.getD_eq_getElem?_getD,a0];rfl
      have bS:jb u0 (p+(1+(q+1)))=(a != f):=by
       unfold jb
       have b0:p+(1+(q+1)) - 1=p+(1+q):=by omega
       rw[b0,a4,bz]
       have:(p+(1+(q+1))==0)=false:=by simp
       rw[this,Bool.false_or]
      have e1:fH u0 (p+(1+(q+1+1)))=fH u0 (p+(1+(q+1)))++cond (a != f) [a] []:=by
       show fH u0 (p+(1+(q+1)))++cond (jb u0 (p+(1+(q+1)))) [u0.getD (p+(1+(q+1))) 0] []=_
       rw[bS,a4]
      have fa:IntKind.i64.wrap (((q+1:Nat):Int)+1)=((q+1+1:Nat):Int):=by rw[IntWalk.i64_in _ ⟨by omega,by omega⟩];omega
      clear ao a2 t
      have t:(fH u0 (p+(1+(q+1)))).length=w:=by rw[<-D,List.length_take];omega
      by_cases a5:a=f
      ·subst a5
       simp only[bne_self_eq_false,cond_false,List.append_nil] at e1
       refine bI hJ (by simp only[*,go_sem,bne_self_eq_false]) ?_
       refine aD hJ ?_
       refine af hJ ?_
       simp only[*,go_sem]
       refine ⟨ab - 1,by omega,_,Le.refl _,q+1+1,w,arr,x,by omega,by omega,by omega,rfl,?_,?_,d,ae,by rw[e1];exact t,by omega,by rw[e1];exact D,fun j c=>E j (by omega)⟩
       ·simp only[*,go_sem]
       ·simp only[*,go_sem]
      ·have b1:(a != f)=true:=by simpa using a5
       rw[b1] at e1
       simp only[cond_true] at e1
       refine bD hJ (by simp only[*,go_sem]) ?_
       repeat refine aa hJ ?_
       refine af hJ ?_
       have d1:(w:Int)<(u0.length:Int):=by omega
       have d2:¬(w:Int)<0:=by omega
       have d3:(0:Int)<=(w:Int):=by omega
       have fb:w<arr.size:=by omega
       simp only[*,go_sem]
       have ca:aP rI ro 3 (.slice (some ⟨b,0,none⟩) u0.length cap) (x.set w a) [(b,Obj.cells (dz arr w [.int .i64 a]) 3)]:=by
        have cb:=d.uz (i:=w) (y:=a) (by omega) (cs:=[.int .i64 a]) rfl
        simpa only[q6,Nat.mul_one,Nat.add_zero] using cb
       have fg:IntKind.i64.wrap ((w:Int)+1)=((w+1:Nat):Int):=by rw[IntWalk.i64_in _ ⟨by omega,by omega⟩];omega
       refine af hJ ?_
       simp only[*,go_sem]
       refine af hJ ?_
       simp only[*,go_sem]
       refine ⟨ab - 1,by omega,_,Le.refl _,q+1+1,w+1,_,x.set w a,by omega,by omega,by omega,rfl,?_,?_,ca,by rw[List.length_set];exact ae,?_,by omega,?_,fun j c=>?_⟩
       ·simp only[*,go_sem]
       ·simp only[*,go_sem]
       ·rw[e1,List.length_append,t];rfl
       ·rw[e1,<-D,List.take_succ,List.take_set_of_le (Nat.le_refl _),List.getElem?_set_self (by omega)];rfl
       ·rw[List.getElem?_set_ne (by omega)];exact E j (by omega)
     ·have bs:decide (((m:Nat):Int)<((u0.length - (p+1):Nat):Int))=false:=decide_eq_false (by omega)
      refine bI hJ (by simp only[*,go_sem]) ?_
      refine bJ ?_
      simp only[go_sem]
      have a6:p+(1+m)=u0.length:=by omega
      rw[a6] at t
      have d1:(w:Int)<=(u0.length:Int):=by omega
      have d2:¬(w:Int)<0:=by omega
      have d3:(0:Int)<=(w:Int):=by omega
      have d4:w<=u0.length:=by omega
      have d5:w<=cap:=by omega
      have d6:¬cap=w:=by omega
      have d7:(0:Int)<=(w:Int):=by omega
      have d8:(w:Int)<=(cap:Int):=by omega
      have cd:w+(u0.length - w)<=arr.size:=by
       obtain ⟨ls,cf,fi,-⟩:=id d
       rcases cf with ⟨a7,_,_⟩|⟨fp,fr,fs,a7,cl,hs,hle,_⟩
       ·cases a7
       ·cases cl
        have:rI.n=1:=rfl
        rw[this,Nat.mul_one] at hs
        omega
      repeat refine aa hJ ?_
      refine af hJ ?_
      simp only[*,go_sem,ite_false,if_false]
      refine DS (pre:=[]) (aZ:=[]) (z:=.int .i64 0) (zc:=.int .i64 0) rfl (by kernel_rfl:Tryz.prog.underlying 46=some (.slice 3)) (by kernel_rfl) rfl rfl (by omega) (by simp[ak]) cd ?_
      dsimp only[List.nil_append]
      repeat refine aa hJ ?_
      refine af hJ ?_
      simp only[*,go_sem]
      refine av ?_
      simp only[*,go_sem]
      refine ⟨_,?_,Le.refl _⟩
      have:=d.clear (k:=w) (by omega)
      rw[D,a6] at this
      simpa only[ite_self,Nat.sub_zero] using this
   ·have ft:(l==o)=false:=by simpa using P
    refine bI hJ (by simp only[*,go_sem]) ?_
    refine aD hJ ?_
    refine af hJ ?_
    have fu:IntKind.i64.wrap (((p+1:Nat):Int)+1)=((p+2:Nat):Int):=by rw[IntWalk.i64_in _ ⟨by omega,by omega⟩];omega
    simp only[*,go_sem]
    refine ⟨bb - 1,by omega,_,Le.refl _,p+2,by omega,by omega,by omega,rfl,by simp only[*,go_sem],fun j c=>?_⟩
    rcases Nat.lt_succ_iff_lt_or_eq.1 c with c|rfl
    ·exact H j c
    ·rw[Z];simpa using P
  ·have hb:decide (((k:Nat):Int)<(u0.length:Int))=false:=decide_eq_false (by omega)
   refine bI hJ (by simp only[*,go_sem]) ?_
   refine bJ ?_
   simp only[go_sem]
   repeat refine aa hJ ?_
   refine af hJ ?_
   simp only[*,go_sem]
   refine av ?_
   simp only[*,go_sem]
   obtain rfl:k=u0.length:=by omega
   rw[rW u0 _ (Nat.le_refl _) H,List.take_length]
   exact ⟨_,hg,Le.refl _⟩
def vn (n:Int):Option (List Int):=if 0<=n/\n<=1000 then some [] else none
theorem EY {ro:Addr->Option Value}{R:Value->ag->Prop}{n:Nat}(h0:0<n)(h1:n<=1000){own:List (Nat×Obj)}
  (h:∀(k b:Nat) (arr:Array Value),n<=k->arr.size=k->dD ⟨ro,own⟩ b->R (.slice (some ⟨b,0,none⟩) n k) ⟨ro,(b,.cells arr 3)::own⟩):
  k4 Tryz.prog #[46,3] (.slice none 0 0) (.int .i64 (n:Int)) R ⟨ro,own⟩:=by
 intro ty
 have c:Tryz.prog.underlying 46=some (.slice 3):=by kernel_rfl
 have d:Tryz.prog.underlying 3=some (.int .i64):=by kernel_rfl
 have e:bW Tryz.prog 3=some 1:=by kernel_rfl
 have f:zeroOf Tryz.prog 3=some (.int .i64 0):=by kernel_rfl
 obtain ⟨info,g,i⟩:∃info,Tryz.prog.info? 3=some info/\info.bytes=8:=⟨_,rfl,by kernel_rfl⟩
 have w1:IntKind.i64.wrap (n:Int)=(n:Int):=IntWalk.i64_in _ ⟨by omega,by omega⟩
 have c1:¬(n:Int)<0:=by omega
 have c2:¬(n:Int)*(8:Nat)>2 ^ 48:=by omega
 have c3:¬0+n<=0:=by omega
 simp only[Builtin.append_,List.getElem?_toArray,List.getElem?_cons_zero,List.getElem?_cons_succ,bn,c8,c,d,ey,e,bC,yb,if_true,c7,w1,if_neg c1,oA,g,i]
 rw[if_neg c2]
 simp only[Int.toNat_natCast,Nat.zero_add,Bool.not_true,Bool.false_eq_true,if_false]
 have c4:¬n<=0:=by omega
 have j:¬((n:Int)>IntKind.i64.max/\(True\/8=0)):=by
  have:IntKind.i64.max=9223372036854775807:=by decide
  rw[this];omega
 have l:¬Builtin.nextslicecap n 0*8>2 ^ 48:=by
  unfold Builtin.nextslicecap
  rw[if_pos (by omega)]
  omega
 have m:¬n*1=0:=by omega
 rw[if_neg c4,if_neg j,if_neg l]
 rw[tu]
 rw[if_neg (by simp[Question.forced])]
 intro t
 have a:n<=(Question.appendCap n 0 3).cut t:=Nat.le_add_right _ _
 generalize (Question.appendCap n 0 3).cut t=k at a ⊢
 refine tK _ ?_
 simp only[Builtin.firstCells,bC,if_neg m,kV,f,qB,bn]
 intro b hb
 refine ⟨_,Le.refl _,h k b _ a ?_ hb⟩
 simp only[Array.size_append,Builtin.zeroCells,Array.size_map,Array.size_range,Value.cells]
 simp
 omega
theorem EZ {ro:Addr->Option Value}(n:Int){x:List Int}(h:vn n=some x):aA Tryz.prog 128 #[.slice none 0 0,.int .i64 n] ⟨ro,[]⟩ (fun v G=>∃c,aP rI ro 3 v x c/\Le ⟨ro,c⟩ G):=by
 unfold vn at h
 split at h
 case isFalse=>cases h
 rename_i g
 obtain rfl:=Option.some.inj h
 obtain ⟨n,rfl⟩:∃m:Nat,n=m:=⟨n.toNat,by omega⟩
 refine aA.go Tryz.func128 rfl Tryz.ntmps128 Tryz.results128 (by simp) fun main J hJ A j hd hs=>?_
 have l:=hs 0
 have k1:=hs 1
 clear hs
 repeat refine aa hJ ?_
 refine af hJ ?_
 simp only[*,go_sem]
 repeat refine aa hJ ?_
 refine af hJ ?_
 simp only[*,go_sem]
 repeat refine aa hJ ?_
 have o:¬(n:Int)<0:=by omega
 refine bI hJ (by simp only[*,go_sem,decide_false]) ?_
 refine aD hJ ?_
 repeat refine aa hJ ?_
 refine af hJ ?_
 simp only[*,go_sem]
 refine zm rfl (by kernel_rfl:Tryz.prog.underlying 46=some (.slice 3)) (aE ?_)
 have e1:IntKind.i64.wrap (((0:Nat):Int) - ((0:Nat):Int))=0:=by decide
 have p:IntKind.i64.wrap ((0:Int) - (0:Int))=0:=by decide
 have e2:IntKind.i64.wrap ((n:Int) - 0)=(n:Int):=by rw[IntWalk.i64_in _ ⟨by omega,by omega⟩];omega
 simp only[*,go_sem]
 repeat refine aa hJ ?_
 refine af hJ ?_
 simp only[*,go_sem]
 repeat refine aa hJ ?_
 by_cases d:0<n
 ·have b2:(n:Int)>0:=by omega
  refine bD hJ (by simp only[*,go_sem,decide_true]) ?_
  repeat refine aa hJ ?_
  refine af hJ ?_
  simp only[*,go_sem]
  refine zm rfl (by kernel_rfl:Tryz.prog.underlying 46=some (.slice 3)) (aE ?_)
  simp only[*,go_sem]
  simp only[Nat.le_refl,Int.le_refl,and_self,if_true,true_and]
  refine EY d (by omega) fun k b arr q e hb=>aE ?_
  have f:∀off sp,ro ⟨b,off,sp⟩=none:=hb.ro
  have b3:(0:Int)<=(k:Int):=by omega
  simp only[*,go_sem,Int.le_refl,and_self,if_true,ite_self,Nat.sub_zero]
  repeat refine aa hJ ?_
  refine af hJ ?_
  simp only[*,go_sem]
  refine av ?_
  simp only[*,go_sem]
  refine ⟨[(b,.cells arr 3)],⟨[],.inr ⟨b,arr,k,rfl,rfl,?_,Nat.zero_le _,?_,fun x a=>(by cases a),f⟩,rfl,Nat.zero_le _,fun i x a=>by simp at a⟩,Le.refl _⟩
  ·show arr.size=k*1
   rw[e,Nat.mul_one]
  ·simp
 ·have b2:¬(0:Int)<(n:Int):=by omega
  refine bI hJ (by simp only[*,go_sem,decide_false]) ?_
  refine aD hJ ?_
  repeat refine aa hJ ?_
  refine af hJ ?_
  simp only[*,go_sem]
  refine av ?_
  simp only[*,go_sem]
  exact ⟨[],aP.nil _ _ _,Le.refl _⟩
end Go.Proofs.YtipgiooobncfbaaGreatDoor
end
